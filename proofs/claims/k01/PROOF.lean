import PyProof.Rows.All
import Wide.All
import OpenK.AllK
import Wide.FinOn
import HandS.ForMost
import HandS.Zip
import HandS.TupMul
import HandS.Text
import HandS.ForExc
import HandS.IsInst
import HandS.TupAny
import HandS.Wide
import HandS.Defaults
import HandS.Deep
import HandS.Flow
import HandS.SortInts
import HandS.Walk
import HandS.Lambda
import KE.KDflt
import KE.GoesEnum
import HandS.ExcInit
import HandS.ExcOwn
import HandS.Style
import KE.KLam
import HandS.HeadWalk
import HandS.ExcIs
import HandS.ExcField
import KE.DatumIndex
import HandS.Dict
import HandS.SetKeys
import PyProof.TupleOps
import HandS.Conv
import KE.KRevSl
import HandS.EndOwn
import KE.KNestM
import PySem.Challenge.RW_kilnhouse_k01_goods_and_kilns_refused
set_option Elab.async false
set_option linter.all false
set_option maxRecDepth 100000
set_option maxHeartbeats 40000000
set_option exponentiation.threshold 300
namespace KI
open PySem L2

/-! ## 1. data -/
inductive D where
  | non | bl (b : Bool) | int (i : Int) | str (s : Str) | tup (ds : List D) | lst (ds : List D) | sq (ds : List D) | loc (n : Nat) | fn (j : Nat)
  deriving Inhabited

mutual
def D.beq : D → D → Bool
  | .non, .non => true
  | .bl a, .bl b => a == b
  | .int a, .int b => a == b
  | .str a, .str b => a == b
  | .tup a, .tup b => D.beqs a b
  | .lst a, .lst b => D.beqs a b
  | .sq a, .sq b => D.beqs a b
  | .loc a, .loc b => a == b
  | .fn a, .fn b => a == b
  | _, _ => false
def D.beqs : List D → List D → Bool
  | [], [] => true
  | a :: as, b :: bs => D.beq a b && D.beqs as bs
  | _, _ => false
end
mutual
theorem D.eq_of_beq : ∀ (a b : D), D.beq a b = true → a = b
  | .non, b, h => by cases b <;> simp_all [D.beq]
  | .bl x, b, h => by cases b <;> simp_all [D.beq]
  | .int x, b, h => by cases b <;> simp_all [D.beq]
  | .str x, b, h => by cases b <;> simp_all [D.beq]
  | .loc x, b, h => by cases b <;> simp_all [D.beq]
  | .fn x, b, h => by cases b <;> simp_all [D.beq]
  | .tup x, b, h => by
    cases b with
    | tup y => rw [D.beq] at h; rw [D.eqs_of_beq x y h]
    | _ => simp [D.beq] at h
  | .lst x, b, h => by
    cases b with
    | lst y => rw [D.beq] at h; rw [D.eqs_of_beq x y h]
    | _ => simp [D.beq] at h
  | .sq x, b, h => by
    cases b with
    | sq y => rw [D.beq] at h; rw [D.eqs_of_beq x y h]
    | _ => simp [D.beq] at h
theorem D.eqs_of_beq : ∀ (a b : List D), D.beqs a b = true → a = b
  | [], b, h => by cases b <;> simp_all [D.beqs]
  | x :: xs, b, h => by
    cases b with
    | nil => simp [D.beqs] at h
    | cons y ys =>
      rw [D.beqs, Bool.and_eq_true] at h
      rw [D.eq_of_beq x y h.1, D.eqs_of_beq xs ys h.2]
end
mutual
@[simp] theorem D.beq_self : ∀ (a : D), D.beq a a = true
  | .non => rfl
  | .bl x => by simp [D.beq]
  | .int x => by simp [D.beq]
  | .str x => by simp [D.beq]
  | .loc x => by simp [D.beq]
  | .fn x => by simp [D.beq]
  | .tup x => by rw [D.beq]; exact D.beqs_self x
  | .lst x => by rw [D.beq]; exact D.beqs_self x
  | .sq x => by rw [D.beq]; exact D.beqs_self x
@[simp] theorem D.beqs_self : ∀ (a : List D), D.beqs a a = true
  | [] => rfl
  | x :: xs => by rw [D.beqs, D.beq_self x, D.beqs_self xs]; rfl
end

/-- what is said of the text's lambdas: their check, the cells that may be captured: CL, the tables of their code objects: T -/
class LX where
  ck : Nat → Arguments → Expr → Scope → Prop
  CL : List (Str × Addr)
  T : List (Addr × Str)
  CI : Nat → Addr
/-- an object of the evaluator's heap: a list, a dict by ints and texts, a dict by tuples of these, an instance -/
inductive O where
  | lst (ds : List D) | dk (kvs : List (Key × D)) | dt (kvs : List (List Key × D)) | ins (c : Nat) (fs : List (Str × D))
  deriving Inhabited
/-- what is in it -/
def O.ds : O → List D
  | .lst ds => ds
  | .dk kvs => kvs.map (·.2)
  | .dt kvs => kvs.map (·.2)
  | .ins _ fs => fs.map (·.2)
structure Exn where
  cls : Nat
  fs : List (Str × D)
abbrev HpI := List O
abbrev EnvI := List (Option D)
inductive Out (α : Type) where
  | ok (a : α) (hp : HpI) | exc (x : Exn) (hp : HpI) | bad
def Out.bind {α β : Type} (o : Out α) (k : α → HpI → Out β) : Out β :=
  match o with
  | .ok a hp => k a hp
  | .exc x hp => .exc x hp
  | .bad => .bad
@[simp] theorem Out.bind_ok {α β : Type} (a : α) (hp : HpI) (k : α → HpI → Out β) : (Out.ok a hp).bind k = k a hp := (rfl)
def ofOpt {α : Type} : Option (α × HpI) → Out α
  | some (a, hp) => .ok a hp
  | none => .bad
@[simp] theorem ofOpt_some {α : Type} (a : α) (hp : HpI) : ofOpt (some (a, hp)) = .ok a hp := (rfl)
inductive SOut where
  | nx (env : EnvI) (hp : HpI) | rt (d : D) (hp : HpI) | bk (env : EnvI) (hp : HpI) | ct (env : EnvI) (hp : HpI) | exc (x : Exn) (env : EnvI) (hp : HpI) | bad
/-- an expression's end, then a statement's -/
def Out.thenS {α : Type} (o : Out α) (env : EnvI) (k : α → HpI → SOut) : SOut :=
  match o with
  | .ok a hp => k a hp
  | .exc x hp => .exc x env hp
  | .bad => .bad
@[simp] theorem Out.thenS_ok {α : Type} (a : α) (hp : HpI) (env : EnvI) (k : α → HpI → SOut) : (Out.ok a hp).thenS env k = k a hp := (rfl)
/-- a store: it may not raise -/
def Out.thenG {α : Type} (o : Out α) (k : α → HpI → SOut) : SOut :=
  match o with
  | .ok a hp => k a hp
  | _ => .bad
@[simp] theorem Out.thenG_ok {α : Type} (a : α) (hp : HpI) (k : α → HpI → SOut) : (Out.ok a hp).thenG k = k a hp := (rfl)
def SOut.andThen (o : SOut) (k : EnvI → HpI → SOut) : SOut :=
  match o with
  | .nx env hp => k env hp
  | o => o
@[simp] theorem SOut.andThen_nx (env : EnvI) (hp : HpI) (k : EnvI → HpI → SOut) : (SOut.nx env hp).andThen k = k env hp := (rfl)

/-! ## 2. values' operations -/
/-- a new list: an object (m) or data -/
def mkL (m : Bool) (ds : List D) (hp : HpI) : D × HpI := if m then (.loc hp.length, hp ++ [.lst ds]) else (.lst ds, hp)
/-- the items of a list that may be joined, compared -/
def lst0 (hp : HpI) : D → Option (List D)
  | .lst ds => some ds
  | .loc n => match hp[n]? with | some (.lst ds) => some ds | _ => none
  | _ => none
def lstOf (hp : HpI) : D → Option (List D)
  | .sq ds => some ds
  | d => lst0 hp d
def seqOf (hp : HpI) : D → Option (List D)
  | .tup ds => some ds
  | d => lstOf hp d

mutual
def toPy : D → Option PyData
  | .non => some .none
  | .bl b => some (.bool b)
  | .int i => some (.int i)
  | .str s => some (.str s)
  | .tup ds => (toPys ds).map .tuple
  | .lst ds => (toPys ds).map .list
  | .sq ds => (toPys ds).map .list
  | .loc _ => none
  | .fn _ => none
def toPys : List D → Option (List PyData)
  | [] => some []
  | d :: ds => match toPy d, toPys ds with | some p, some ps => some (p :: ps) | _, _ => none
end
def pyD (hp : HpI) : D → Option PyData
  | .loc n => match hp[n]? with | some (.lst ds) => (toPys ds).map .list | _ => none
  | d => toPy d
/-- scalars that == tells apart -/
def scalD : D → D → Option Bool
  | .non, .non => some true
  | .non, .int _ => some false | .int _, .non => some false
  | .non, .bl _ => some false | .bl _, .non => some false
  | .non, .str _ => some false | .str _, .non => some false
  | .int i, .int j => some (decide (i = j))
  | .bl i, .bl j => some (decide (i = j))
  | .str i, .str j => some (decide (i = j))
  | .int _, .str _ => some false | .str _, .int _ => some false
  | .bl _, .str _ => some false | .str _, .bl _ => some false
  | _, _ => none
def eqD (hp : HpI) (a b : D) : Option Bool :=
  match scalD a b with
  | some r => some r
  | none => match pyD hp a, pyD hp b with
    | some x, some y => if SeqAt.shaped x = true ∧ SeqAt.shaped y = true then some (PyData.eqv x y) else none
    | _, _ => none

/-- great bounds, kept closed -/
@[irreducible] def BIG : Nat := 2 ^ 400000
@[irreducible] def BIGD : Nat := 2 ^ 8000
theorem BIG_eq : BIG = 2 ^ 400000 := by delta BIG; rfl
theorem BIGD_eq : BIGD = 2 ^ 8000 := by delta BIGD; rfl

inductive Op1 where | not | neg | isN | notN
inductive Op2 where | add (m : Bool) | sub | mul (m : Bool) | fdiv | mod | pow | eq | ne | lt | le | gt | ge | inn | nin | ix | inx | ninx | eqE | neE | inD | ninD

def sem1 : Op1 → D → HpI → Option (D × HpI)
  | .not, .bl b, hp => some (.bl (!b), hp)
  | .neg, .int i, hp => some (.int (-i), hp)
  | .isN, d, hp => some (.bl (match d with | .non => true | _ => false), hp)
  | .notN, d, hp => some (.bl (match d with | .non => false | _ => true), hp)
  | _, _, _ => none
/-- == of flat values -/
def eqF : D → D → Bool
  | .non, .non => true
  | .bl a, .bl b => a == b
  | .bl a, .int b => (if a then 1 else 0) == b
  | .int a, .bl b => a == (if b then 1 else 0)
  | .int a, .int b => a == b
  | .str a, .str b => a == b
  | _, _ => false
def inF (x : D) (xs : List D) : Bool := xs.any fun y => eqF y x
def flatD : D → Bool
  | .non => true | .bl _ => true | .int _ => true | .str _ => true | _ => false
/-- x in a list or tuple of data of any depth -/
def anyP (hp : HpI) (a b : D) : Option Bool :=
  match pyD hp a, pyD hp b with
  | some x, some (.list ys) => if SeqAt.shaped x = true ∧ x.depth ≤ 63 ∧ SeqAt.shaped (.list ys) = true then some (ys.any fun z => PyData.eqv z x) else none
  | some x, some (.tuple ys) => if SeqAt.shaped x = true ∧ x.depth ≤ 63 ∧ SeqAt.shaped (.tuple ys) = true then some (ys.any fun z => PyData.eqv z x) else none
  | _, _ => none
def sem2 : Op2 → D → D → HpI → Option (D × HpI)
  | .add m, a, b, hp => match a, b with
    | .int i, .int j => some (.int (i + j), hp)
    | .str s, .str t => if s.length + t.length ≤ sizeLine then some (.str (s ++ t), hp) else none
    | .tup xs, .tup ys => if xs.length + ys.length ≤ sizeLine then some (.tup (xs ++ ys), hp) else none
    | a, b => match lst0 hp a, lst0 hp b with
      | some xs, some ys => if xs.length + ys.length ≤ sizeLine then some (mkL m (xs ++ ys) hp) else none
      | _, _ => none
  | .sub, .int i, .int j, hp => some (.int (i - j), hp)
  | .mul m, a, b, hp => match a, b with
    | .int i, .int j => if i.natAbs < BIG ∧ j.natAbs < BIG then some (.int (i * j), hp) else none
    | .tup xs, .int k => if xs.isEmpty = false ∧ 0 ≤ k ∧ k ≤ 1000 ∧ xs.length ≤ 1000 ∧ xs.length * k.toNat ≤ sizeLine then some (.tup (List.replicate k.toNat xs).flatten, hp) else none
    | a, .int k => match lst0 hp a with
      | some xs => if -(2 ^ 63) ≤ k ∧ k < 2 ^ 63 ∧ xs.length * k.toNat ≤ sizeLine then some (mkL m (List.replicate k.toNat xs).flatten hp) else none
      | none => none
    | _, _ => none
  | .fdiv, .int i, .int j, hp => if 0 < j ∧ j.natAbs < BIGD then some (.int (i / j), hp) else none
  | .mod, .int i, .int j, hp => if 0 < j then some (.int (i % j), hp) else none
  | .pow, .int i, .int j, hp => if 0 ≤ j ∧ j ≤ 1000000 ∧ i.natAbs < 2 ^ 64 then some (.int (i ^ j.toNat), hp) else none
  | .eq, a, b, hp => (eqD hp a b).map fun r => (.bl r, hp)
  | .ne, a, b, hp => (eqD hp a b).map fun r => (.bl (!r), hp)
  | .lt, .int i, .int j, hp => some (.bl (decide (i < j)), hp)
  | .le, .int i, .int j, hp => some (.bl (decide (i ≤ j)), hp)
  | .gt, .int i, .int j, hp => some (.bl (decide (j < i)), hp)
  | .ge, .int i, .int j, hp => some (.bl (decide (j ≤ i)), hp)
  | .inn, a, b, hp => match seqOf hp b with
    | some xs => if flatD a = true ∧ xs.all flatD = true then some (.bl (inF a xs), hp) else none
    | none => none
  | .nin, a, b, hp => match seqOf hp b with
    | some xs => if flatD a = true ∧ xs.all flatD = true then some (.bl (!inF a xs), hp) else none
    | none => none
  | .ix, a, .int i, hp => match a with
    | .str z => if z.length ≤ sizeLine then (atI z.cps.toList i).map fun c => (.str ⟨#[c]⟩, hp) else none
    | a => match seqOf hp a with
      | some xs => (atI xs i).map fun d => (d, hp)
      | none => none
  | .inD, a, b, hp => (anyP hp a b).map fun r => (.bl r, hp)
  | .ninD, a, b, hp => (anyP hp a b).map fun r => (.bl (!r), hp)
  | .eqE, a, b, hp => match lst0 hp a, lst0 hp b with
    | some xs, some [] => some (.bl xs.isEmpty, hp)
    | _, _ => none
  | .neE, a, b, hp => match lst0 hp a, lst0 hp b with
    | some xs, some [] => some (.bl (!xs.isEmpty), hp)
    | _, _ => none
  | .inx, .str s, .str z, hp => match s.cps.toList with
    | [c] => some (.bl (decide (c ∈ z.cps.toList)), hp)
    | _ => none
  | .ninx, .str s, .str z, hp => match s.cps.toList with
    | [c] => some (.bl (!decide (c ∈ z.cps.toList)), hp)
    | _ => none
  | _, _, _, _ => none

/-- the classes that isinstance is asked of -/
def tyD (hp : HpI) : D → Option String
  | .non => some "NoneType" | .bl _ => some "bool" | .int _ => some "int" | .str _ => some "str"
  | .tup _ => some "tuple" | .lst _ => some "list" | .sq _ => some "list"
  | .loc n => match hp[n]? with | some (.lst _) => some "list" | _ => none
  | .fn _ => none
def isTy : String → String → Bool
  | "bool", "int" => true
  | a, b => a == b

inductive Bi where | len | abs | min2 | max2 | sum | all | any | int | tuple | list (m : Bool) | maxl | minl | str | sorted
def intsOf : List D → Option (List Int)
  | [] => some []
  | .int i :: ds => (intsOf ds).map (i :: ·)
  | _ => none
def blsOf : List D → Option (List Bool)
  | [] => some []
  | .bl i :: ds => (blsOf ds).map (i :: ·)
  | _ => none
def maxI : List Int → Int
  | [] => 0
  | [i] => i
  | i :: is => let r := maxI is; if r ≤ i then i else r
def minI : List Int → Int
  | [] => 0
  | [i] => i
  | i :: is => let r := minI is; if i ≤ r then i else r
/-- sorted whole numbers -/
def insI (i : Int) : List Int → List Int
  | [] => [i]
  | j :: js => if i ≤ j then i :: j :: js else j :: insI i js
def sortI : List Int → List Int
  | [] => []
  | i :: is => insI i (sortI is)
/-- how many different ones -/
def cntD (is : List Int) : Nat := (is.foldl PyProof.Rows.step_dedup []).length
def semLens (d : D) (hp : HpI) : Option (D × HpI) :=
  match lstOf hp d with
  | some xs => match intsOf xs with
    | some is => if is.length ≤ 4000 then some (.int (cntD is : Nat), hp) else none
    | none => none
  | none => none
def semB : Bi → List D → HpI → Option (D × HpI)
  | .len, [a], hp => match a with
    | .str s => if s.length ≤ sizeLine then some (.int s.length, hp) else none
    | a => (seqOf hp a).map fun xs => (.int xs.length, hp)
  | .abs, [.int i], hp => some (.int (if i < 0 then -i else i), hp)
  | .min2, [.int i, .int j], hp => some (.int (if j < i then j else i), hp)
  | .max2, [.int i, .int j], hp => some (.int (if j > i then j else i), hp)
  | .sum, [a], hp => match lstOf hp a with
    | some xs => (intsOf xs).map fun is => (.int is.sum, hp)
    | none => none
  | .all, [a], hp => match lstOf hp a with
    | some xs => (blsOf xs).map fun bs => (.bl (bs.all id), hp)
    | none => none
  | .any, [a], hp => match lstOf hp a with
    | some xs => (blsOf xs).map fun bs => (.bl (bs.any id), hp)
    | none => none
  | .maxl, [a], hp => match lstOf hp a with
    | some xs => match intsOf xs with
      | some is => if 0 < is.length then some (.int (maxI is), hp) else none
      | none => none
    | none => none
  | .minl, [a], hp => match lstOf hp a with
    | some xs => match intsOf xs with
      | some is => if 0 < is.length then some (.int (minI is), hp) else none
      | none => none
    | none => none
  | .int, [.int i], hp => some (.int i, hp)
  | .int, [.bl b], hp => some (.int (if b then 1 else 0), hp)
  | .int, [.str a], hp => match PySem.intText? a with
    | some n => if a.length ≤ 640 then some (.int n, hp) else none
    | none => none
  | .str, [.int i], hp => if i.natAbs.log2 < 1920 then some (.str (toString i), hp) else none
  | .tuple, [a], hp => (seqOf hp a).map fun xs => (.tup xs, hp)
  | .list m, [a], hp => (seqOf hp a).map fun xs => mkL m xs hp
  | .sorted, [a], hp => match lstOf hp a with
    | some xs => match intsOf xs with
      | some is => some (.lst ((sortI is).map .int), hp)
      | none => none
    | none => none
  | _, _, _ => none

inductive Me where | append | extend | split | join
/-- the receiver's class -/
def meT : Me → String
  | .append => "list" | .extend => "list" | .split => "str" | .join => "str"
def strsOf : List D → Option (List Str)
  | [] => some []
  | .str s :: ds => (strsOf ds).map (s :: ·)
  | _ => none
def semM : Me → D → List D → HpI → Option (D × HpI)
  | .append, .loc n, [d], hp => match hp[n]? with
    | some (.lst xs) => if xs.length < sizeLine then some (.non, hp.set n (.lst (xs ++ [d]))) else none
    | _ => none
  | .extend, .loc n, [d], hp => match hp[n]?, lst0 hp d with
    | some (.lst xs), some ys => if xs.length + ys.length ≤ sizeLine then some (.non, hp.set n (.lst (xs ++ ys))) else none
    | _, _ => none
  | .split, .str a, [.str b], hp => if (b.length == 0) = false ∧ a.length + 2 ≤ sizeLine then some (.lst ((Txt.split a b).map D.str), hp) else none
  | .join, .str a, [d], hp => match lst0 hp d with
    | some xs => match strsOf xs with
      | some ys => if (ys.map (·.length)).sum + ys.length * a.length ≤ 16777216 then some (.str (Txt.join a ys), hp) else none
      | none => none
    | none => none
  | _, _, _, _ => none

def cutD (xs : List D) (lo hi : Option Int) : List D := (xs.drop (HT.sIx xs.length 0 lo)).take (HT.sIx xs.length xs.length hi - HT.sIx xs.length 0 lo)
def semSl (m : Bool) (a : D) (lo hi : Option Int) (hp : HpI) : Option (D × HpI) :=
  match a with
  | .tup xs => some (.tup (cutD xs lo hi), hp)
  | .str z => if z.length ≤ sizeLine then some (.str (cutS z lo hi), hp) else none
  | a => match lst0 hp a with
    | some xs => some (mkL m (cutD xs lo hi) hp)
    | none => none
def rngD (lo : Int) : Nat → List D
  | 0 => []
  | n + 1 => .int lo :: rngD (lo + 1) n
/-- t[::-1] -/
def semRev (a s : D) (hp : HpI) : Option (D × HpI) := match a, s with
  | .tup xs, .int i => if i = -1 then some (.tup xs.reverse, hp) else none
  | _, _ => none
/-- list(range(n)) -/
def semLR (m : Bool) (a : D) (hp : HpI) : Option (D × HpI) := match a with
  | .int j => if (-(2 ^ 62) ≤ j ∧ j < 2 ^ 62) ∧ j.toNat ≤ sizeLine then some (mkL m (rngD 0 j.toNat) hp) else none
  | _ => none
def setIx (o i d : D) (hp : HpI) : Option HpI :=
  match o, i with
  | .loc n, .int k => match hp[n]? with
    | some (.lst xs) => (ixN xs.length k).map fun j => hp.set n (.lst (xs.set j d))
    | _ => none
  | _, _ => none

/-! dicts -/
def keyD : D → Option Key
  | .int i => some (.inl i)
  | .str s => some (.inr s)
  | _ => none
def keysD : List D → Option (List Key)
  | [] => some []
  | d :: ds => match keyD d, keysD ds with | some k, some ks => some (k :: ks) | _, _ => none
section
variable {κ : Type} [DecidableEq κ]
def valD (kvs : List (κ × D)) (k : κ) : Option D := (kvs.find? fun kv => decide (kv.1 = k)).map (·.2)
def putD (kvs : List (κ × D)) (k : κ) (v : D) : List (κ × D) := if kvs.any (fun kv => decide (kv.1 = k)) then kvs.map fun kv => if kv.1 = k then (kv.1, v) else kv else kvs ++ [(k, v)]
end
def mergeD (kvs more : List (Key × D)) : List (Key × D) := more.foldl (fun acc kv => putD acc kv.1 kv.2) kvs
/-- keys and values, in turn -/
def pairsD : List D → Option (List (Key × D))
  | [] => some []
  | k :: v :: r => match keyD k, pairsD r with | some k, some ps => some ((k, v) :: ps) | _, _ => none
  | [_] => none
def semDct (ds : List D) (hp : HpI) : Option (D × HpI) := match pairsD ds with
  | some ps => if ps.length ≤ 15 then some (.loc hp.length, hp ++ [.dk (mergeD [] ps)]) else none
  | none => none
/-- what stands in a dict at a key -/
def atDk (d y : D) (hp : HpI) : Option (Option D) := match d, keyD y with
  | .loc n, some k => match hp[n]? with | some (.dk kvs) => some (valD kvs k) | _ => none
  | _, _ => none
def atDt (d : D) (ys : List D) (hp : HpI) : Option (Option D) := match d, keysD ys with
  | .loc n, some k => match hp[n]? with | some (.dt kvs) => some (valD kvs k) | _ => none
  | _, _ => none
def toDk (d y v : D) (hp : HpI) : Option HpI := match d, keyD y with
  | .loc n, some k => match hp[n]? with | some (.dk kvs) => if kvs.length < sizeLine then some (hp.set n (.dk (putD kvs k v))) else none | _ => none
  | _, _ => none
def toDt (d : D) (ys : List D) (v : D) (hp : HpI) : Option HpI := match d, keysD ys with
  | .loc n, some k => match hp[n]? with | some (.dt kvs) => if kvs.length < sizeLine then some (hp.set n (.dt (putD kvs k v))) else none | _ => none
  | _, _ => none
def isDct (d : D) (hp : HpI) : Bool := match d with
  | .loc n => match hp[n]? with | some (.dk _) => true | some (.dt _) => true | _ => false
  | _ => false
def semSetd (d y v : D) (hp : HpI) : Option (D × HpI) := match d, keyD y with
  | .loc n, some k => match hp[n]? with
    | some (.dk kvs) => if kvs.length < sizeLine then (match valD kvs k with | some x => some (x, hp) | none => some (v, hp.set n (.dk (putD kvs k v)))) else none
    | _ => none
  | _, _ => none
/-! instances -/
def fldD (c : Nat) (f : Str) (d : D) (hp : HpI) : Option D := match d with
  | .loc n => match hp[n]? with | some (.ins c' fs) => if c' = c then fs.lookup f else none | _ => none
  | _ => none
def putFD (f : Str) (v : D) : List (Str × D) → List (Str × D)
  | [] => [(f, v)]
  | p :: r => if p.1 = f then (f, v) :: r else p :: putFD f v r
def setFD (c : Nat) (f : Str) (d v : D) (hp : HpI) : Option HpI := match d with
  | .loc n => match hp[n]? with | some (.ins c' fs) => if c' = c ∧ fs.length < 1000 then some (hp.set n (.ins c (putFD f v fs))) else none | _ => none
  | _ => none
/-- is it an instance of c whose method m is not hidden -/
def insD (c : Nat) (m : Str) (d : D) (hp : HpI) : Bool := match d with
  | .loc n => match hp[n]? with | some (.ins c' fs) => decide (c' = c) && (fs.lookup m).isNone | _ => false
  | _ => false
/-- x op= y -/
def semAug : Op2 → D → D → Option D
  | .add _, .int i, .int j => some (.int (i + j))
  | .sub, .int i, .int j => some (.int (i - j))
  | .mul _, .int i, .int j => if -(2 ^ 64) < j ∧ j < 2 ^ 64 then some (.int (i * j)) else none
  | _, _, _ => none
/-! ## 3. the tree -/
mutual
inductive E where
  | cst (d : D) | var (i : Nat) | glob (x : Str) (d : D)
  | op1 (o : Op1) (a : E) | op2 (o : Op2) (a b : E) | chain (o o' : Op2) (a b c : E)
  | andE (es : Es) | orE (es : Es) | ife (t : T) (a b : E)
  | tup (es : Es) | lst (m : Bool) (es : Es) | sl (m : Bool) (a : E) (lo hi : OE)
  | isi (a : E) (t : String) | isiT (a : E) (ts : List String)
  | bi (b : Bi) (es : Es) | me (m : Me) (o : E) (es : Es)
  | lam (j : Nat) | callv (k : Option Nat) (nd i : Nat) (es : Es)
  | call (k : Option Nat) (f : Nat) (es : Es) | callk (k : Option Nat) (f : Nat) (es ks : Es)
  | lens (a : E) | ras (a : E) | rev (a s : E) | lrng (m : Bool) (a : E)
  | dct (es : Es) | dnew (t : Bool) | dix (a b : E) | dixT (a : E) (es : Es) | dget (a b d : E) | dsetd (a b d : E)
  | fld (c : Nat) (a : E) (f : Str) | new (c f : Nat) (es : Es) | meth (c f : Nat) (m : Str) (o : E) (es : Es)
  | kind (nd : Nat) (e : E) | kinds (m : Bool) (nd : Nat) (it : It) (v : Nat)
  | comp (m : Bool) (elt : E) (g : G) (it : It) (c : OT) (own : List Nat)
  | comp2 (m : Bool) (elt : E) (g : G) (it : It) (c : OT) (own : List Nat) (g1 : G) (it1 : It) (c1 : OT) (own1 : List Nat)
inductive Es where | nil | cons (e : E) (es : Es)
inductive OE where | none | some (e : E)
inductive T where | din (neg : Bool) (k d : E) | dinT (neg : Bool) (ks : Es) (d : E) | val (e : E) | cmp (o : Op2) (a b : E) | chain (o o' : Op2) (a b c : E) | isN (neg : Bool) (a : E) | not (t : T) | and (ts : Ts) | or (ts : Ts)
inductive Ts where | one (t : T) | cons (t : T) (ts : Ts)
inductive OT where | none | some (t : T)
inductive G where | name (i : Nat) | tup (gs : Gs) | sub (o i : E)
inductive Gs where | nil | cons (g : G) (gs : Gs)
inductive It where | seq (e : E) | rng1 (a : E) | rng2 (a b : E) | enum (e : E) | zip (a b : E) | txt (e : E)
end
mutual
inductive S where
  | expr (e : E) | asg (g : G) (e : E) | par (i j : Nat) (a b : E) | par3 (i j l : Nat) (a b c : E) | aug (i : Nat) (o : Op2) (e : E)
  | ret (e : E) | retN | ife (t : T) (a b : Ss) | whl (t : T) (b : Ss) | for_ (g : G) (it : It) (b : Ss)
  | dput (o k e : E) | dputT (o : E) (ks : Es) (e : E) | fset (c : Nat) (o : E) (f : Str) (e : E) | faug (c : Nat) (o : E) (f : Str) (op : Op2) (e : E)
  | pass | brk | cont | nev | raise (c : Nat) (fs : List Str) (es : Es)
inductive Ss where | nil | cons (s : S) (ss : Ss)
end

/-! ## 4. the evaluator -/
/-- what is walked: the items, and what must stand while it is walked -/
structure IV where
  ds : List D
  ck : Option (Nat × List D)
def ckOk (c : Option (Nat × List D)) (hp : HpI) : Bool :=
  match c with
  | none => true
  | some (n, ds) => match hp[n]? with
    | some (.lst xs) => D.beqs xs ds
    | _ => false
def ivSeq (d : D) (hp : HpI) : Option (IV × HpI) :=
  match d with
  | .loc n => match hp[n]? with
    | some (.lst ds) => some (⟨ds, some (n, ds)⟩, hp)
    | _ => none
  | d => (seqOf hp d).map fun ds => (⟨ds, none⟩, hp)
def enumD : Nat → List D → List D
  | _, [] => []
  | n, d :: ds => .tup [.int n, d] :: enumD (n + 1) ds
def zipD : List D → List D → List D
  | a :: as, b :: bs => .tup [a, b] :: zipD as bs
  | _, _ => []
def ivRng (lo hi : Int) (hp : HpI) : Option (IV × HpI) :=
  if (-(2 ^ 62) ≤ lo ∧ lo < 2 ^ 62 ∧ -(2 ^ 62) ≤ hi ∧ hi < 2 ^ 62) ∧ (hi - lo).toNat ≤ sizeLine then some (⟨rngD lo (hi - lo).toNat, none⟩, hp) else none
def ivEnum (d : D) (hp : HpI) : Option (IV × HpI) :=
  match d with
  | .loc n => match hp[n]? with
    | some (.lst ds) => some (⟨enumD 0 ds, some (n, ds)⟩, hp)
    | _ => none
  | d => (seqOf hp d).map fun ds => (⟨enumD 0 ds, none⟩, hp)
def ivZip (a b : D) (hp : HpI) : Option (IV × HpI) :=
  match a, b with
  | .lst xs, .lst ys => some (⟨zipD xs ys, none⟩, hp)
  | _, _ => none

/-- a loop over items -/
def forL (ck : HpI → Bool) (f : D → EnvI → HpI → SOut) : List D → EnvI → HpI → SOut
  | [], env, hp => if ck hp then .nx env hp else .bad
  | d :: ds, env, hp => if ck hp then
      match f d env hp with
      | .nx env' hp' => forL ck f ds env' hp'
      | .ct env' hp' => forL ck f ds env' hp'
      | .bk env' hp' => .nx env' hp'
      | o => o
    else .bad
def whlL (t : EnvI → HpI → Out Bool) (f : EnvI → HpI → SOut) : Nat → EnvI → HpI → SOut
  | 0, _, _ => .bad
  | n + 1, env, hp => match t env hp with
    | .ok true hp1 => match f env hp1 with
      | .nx env' hp' => whlL t f n env' hp'
      | .ct env' hp' => whlL t f n env' hp'
      | .bk env' hp' => .nx env' hp'
      | o => o
    | .ok false hp1 => .nx env hp1
    | .exc x hp1 => .exc x env hp1
    | .bad => .bad
/-- a comprehension's loop: f tells the item's element, none where a test fails; nothing may be raised -/
def compL (ck : HpI → Bool) (f : D → HpI → Out (Option D)) : List D → HpI → List D → Out (List D)
  | [], hp, acc => if ck hp then .ok acc hp else .bad
  | d :: ds, hp, acc => if ck hp then
      match f d hp with
      | .ok (some x) hp' => compL ck f ds hp' (acc ++ [x])
      | .ok none hp' => compL ck f ds hp' acc
      | _ => .bad
    else .bad
/-- the outer loop of two clauses -/
def compO (ck : HpI → Bool) (f : D → HpI → List D → Out (List D)) : List D → HpI → List D → Out (List D)
  | [], hp, acc => if ck hp then .ok acc hp else .bad
  | d :: ds, hp, acc => if ck hp then
      match f d hp acc with
      | .ok acc' hp' => compO ck f ds hp' acc'
      | _ => .bad
    else .bad
/-- a text's signs -/
def signs (s : Str) : List D := s.cps.toList.map fun c => .str ⟨#[c]⟩
def ivTxt (d : D) (hp : HpI) : Option (IV × HpI) :=
  match d with
  | .str s => if s.cps.size ≤ sizeLine then some (⟨signs s, none⟩, hp) else none
  | _ => none
def wipeE (env : EnvI) : List Nat → EnvI
  | [] => env
  | v :: vs => (wipeE env vs).set v none

abbrev CF := Nat → List D → HpI → Out D
/-! the classes of errors, by their places -/
def exNames : List Str := ["BadGoods", "BadKiln", "BadFiring", "BadPots", "BadCount", "BadLoad", "NoPot", "NoClay", "NoGlaze", "BadDay", "BadDeed", "BadText"]
/-- what the laws' _law_kind tells of an error -/
def kindD (x : Exn) : Option D :=
  if x.cls = 0 then match x.fs.lookup ("part" : Str), x.fs.lookup ("number" : Str) with
    | some p, some n => some (.tup [.str "BadGoods", p, n])
    | _, _ => none
  else if x.cls = 2 ∨ x.cls = 3 ∨ x.cls = 10 then match x.fs.lookup ("number" : Str), exNames[x.cls]? with
    | some n, some s => some (.tup [.str s, n])
    | _, _ => none
  else if x.cls = 5 then match x.fs.lookup ("word" : Str) with
    | some n => some (.tup [.str "BadLoad", n])
    | _ => none
  else if x.cls = 11 then match x.fs.lookup ("row" : Str) with
    | some n => some (.tup [.str "BadText", n])
    | _ => none
  else (exNames[x.cls]?).map D.str
def kindO (o : Out D) : Out D :=
  match o with
  | .ok d hp => .ok d hp
  | .exc x hp => match kindD x with
    | some d => .ok d hp
    | none => .bad
  | .bad => .bad
/-- slots as arguments, for what captures them -/
def encD : Option D → D
  | none => .non
  | some d => .tup [d]
def decD : D → Option D
  | .tup [d] => some d
  | _ => none
theorem dec_enc (env : EnvI) : (env.map encD).map decD = env := by
  rw [List.map_map]
  exact (List.map_congr_left fun o _ => by cases o <;> rfl).trans (List.map_id _)
/-! frames: the callee sees the first k objects -/
mutual
def closed (k : Nat) : D → Bool
  | .loc n => decide (n < k)
  | .tup ds => closeds k ds
  | .lst ds => closeds k ds
  | .sq ds => closeds k ds
  | _ => true
def closeds (k : Nat) : List D → Bool
  | [] => true
  | d :: ds => closed k d && closeds k ds
end
def closedO (k : Nat) (o : O) : Bool := closeds k o.ds
/- lists behind the frame become data -/
mutual
def rb (k : Nat) (hp : HpI) : D → Option D
  | .loc n => if n < k then some (.loc n) else match hp[n]? with
    | some (.lst ds) => if closeds k ds then some (.lst ds) else none
    | _ => none
  | .tup ds => (rbs k hp ds).map .tup
  | .lst ds => if closeds k ds then some (.lst ds) else none
  | .sq ds => if closeds k ds then some (.sq ds) else none
  | d => some d
def rbs (k : Nat) (hp : HpI) : List D → Option (List D)
  | [] => some []
  | d :: ds => match rb k hp d, rbs k hp ds with | some x, some xs => some (x :: xs) | _, _ => none
end
def framed (cf : CF) : Option Nat → Nat → List D → HpI → Out D
  | none, f, ds, hp => cf f ds hp
  | some k, f, ds, hp =>
    if closeds k ds && (hp.take k).all (closedO k) then
      match cf f ds (hp.take k) with
      | .ok d hp' => match rb k hp' d with
        | some d' => if k ≤ hp.length && (hp'.take k).all (closedO k) then .ok d' (hp'.take k ++ hp.drop k) else .bad
        | none => .bad
      | .exc x hp' => if k ≤ hp.length && (hp'.take k).all (closedO k) && closeds 0 (x.fs.map (·.2)) then .exc x (hp'.take k ++ hp.drop k) else .bad
      | .bad => .bad
    else .bad

section
variable (cf : CF)
/-- _law_kind of the lambda at slot v -/
def kindAt (nd v : Nat) (env : EnvI) (hp : HpI) : Out D := match env[v]? with
  | some (some (.fn j)) => kindO (cf (nd + j) (env.map encD) hp)
  | _ => .bad
mutual
def ev : E → EnvI → HpI → Out D
  | .cst d, _, hp => .ok d hp
  | .var i, env, hp => match env[i]? with
    | some (some d) => .ok d hp
    | _ => .bad
  | .glob _ d, _, hp => .ok d hp
  | .op1 o a, env, hp => (ev a env hp).bind fun x hp => ofOpt (sem1 o x hp)
  | .op2 o a b, env, hp => (ev a env hp).bind fun x hp => (ev b env hp).bind fun y hp => ofOpt (sem2 o x y hp)
  | .chain o o' a b c, env, hp => (ev a env hp).bind fun x hp => (ev b env hp).bind fun y hp => (ofOpt (sem2 o x y hp)).bind fun z hp =>
      match z with
      | .bl true => (ev c env hp).bind fun u hp => ofOpt (sem2 o' y u hp)
      | .bl false => .ok (.bl false) hp
      | _ => .bad
  | .andE es, env, hp => evA es env hp
  | .orE es, env, hp => evO es env hp
  | .ife t a b, env, hp => (tv t env hp).bind fun c hp => if c = true then ev a env hp else ev b env hp
  | .tup es, env, hp => (evs es env hp).bind fun ds hp => if ds.length ≤ sizeLine then .ok (.tup ds) hp else .bad
  | .lst m es, env, hp => (evs es env hp).bind fun ds hp => if ds.length ≤ sizeLine then ofOpt (some (mkL m ds hp)) else .bad
  | .sl m a lo hi, env, hp => (ev a env hp).bind fun x hp => (evOE lo env hp).bind fun l hp => (evOE hi env hp).bind fun h hp => ofOpt (semSl m x l h hp)
  | .isi a t, env, hp => (ev a env hp).bind fun x hp => match tyD hp x with
    | some s => .ok (.bl (isTy s t)) hp
    | none => .bad
  | .isiT a ts, env, hp => (ev a env hp).bind fun x hp => match tyD hp x with
    | some s => .ok (.bl (ts.any (isTy s))) hp
    | none => .bad
  | .bi b es, env, hp => (evs es env hp).bind fun ds hp => ofOpt (semB b ds hp)
  | .me m o es, env, hp => (ev o env hp).bind fun x hp => if tyD hp x = some (meT m) then (evs es env hp).bind fun ds hp => ofOpt (semM m x ds hp) else .bad
  | .lam j, _, hp => .ok (.fn j) hp
  | .callv k nd i es, env, hp => match env[i]? with
    | some (some (.fn j)) => (evs es env hp).bind fun ds hp => framed cf k (nd + j) ds hp
    | _ => .bad
  | .call k f es, env, hp => (evs es env hp).bind fun ds hp => framed cf k f ds hp
  | .callk k f es ks, env, hp => (evs es env hp).bind fun ds hp => (evs ks env hp).bind fun zs hp => framed cf k f (ds ++ zs) hp
  | .comp m elt g it c own, env, hp => (iv it env hp).bind fun w hp =>
      (compL (ckOk w.ck) (fun d hp => (asg g d (wipeE env own) hp).bind fun env2 hp => (evOT c env2 hp).bind fun b hp =>
        if b = true then (ev elt env2 hp).bind fun x hp => .ok (some x) hp else .ok none hp) w.ds hp []).bind fun ds hp => ofOpt (some (mkL m ds hp))
  | .lens a, env, hp => (ev a env hp).bind fun x hp => ofOpt (semLens x hp)
  | .ras a, env, hp => (ev a env hp).bind fun _ _ => .bad
  | .lrng m a, env, hp => (ev a env hp).bind fun x hp => ofOpt (semLR m x hp)
  | .rev a s, env, hp => (ev a env hp).bind fun x hp => (ev s env hp).bind fun y hp => ofOpt (semRev x y hp)
  | .dct es, env, hp => (evs es env hp).bind fun ds hp => ofOpt (semDct ds hp)
  | .dnew t, _, hp => .ok (.loc hp.length) (hp ++ [if t then .dt [] else .dk []])
  | .dix a b, env, hp => (ev a env hp).bind fun x hp => (ev b env hp).bind fun y hp => match atDk x y hp with
    | some (some v) => .ok v hp
    | _ => .bad
  | .dixT a es, env, hp => (ev a env hp).bind fun x hp => (evs es env hp).bind fun ys hp => match atDt x ys hp with
    | some (some v) => .ok v hp
    | _ => .bad
  | .dget a b d, env, hp => (ev a env hp).bind fun x hp => if isDct x hp = true then (ev b env hp).bind fun y hp => (ev d env hp).bind fun z hp => match atDk x y hp with
    | some o => .ok (o.getD z) hp
    | none => .bad
    else .bad
  | .dsetd a b d, env, hp => (ev a env hp).bind fun x hp => if isDct x hp = true then (ev b env hp).bind fun y hp => (ev d env hp).bind fun z hp => ofOpt (semSetd x y z hp) else .bad
  | .fld c a f, env, hp => (ev a env hp).bind fun x hp => match fldD c f x hp with
    | some v => .ok v hp
    | none => .bad
  | .new c f es, env, hp => (evs es env hp).bind fun ds hp => (cf f (.loc hp.length :: ds) (hp ++ [.ins c []])).bind fun u hp' => match u with
    | .non => .ok (.loc hp.length) hp'
    | _ => .bad
  | .meth c f m o es, env, hp => (ev o env hp).bind fun x hp => if insD c m x hp = true then (evs es env hp).bind fun ds hp => cf f (x :: ds) hp else .bad
  | .kind nd e, env, hp => (ev e env hp).bind fun x hp => match x with
    | .fn j => kindO (cf (nd + j) (env.map encD) hp)
    | _ => .bad
  | .kinds m nd it v, env, hp => (iv it env hp).bind fun w hp =>
      (compL (ckOk w.ck) (fun d hp => (kindAt cf nd v ((wipeE env [v]).set v (some d)) hp).bind fun x hp => .ok (some x) hp) w.ds hp []).bind fun ds hp => ofOpt (some (mkL m ds hp))
  | .comp2 m elt g it c own g1 it1 c1 own1, env, hp => (iv it env hp).bind fun w hp =>
      (compO (ckOk w.ck) (fun d hp acc => (asg g d (wipeE env own) hp).bind fun env2 hp => (evOT c env2 hp).bind fun b hp =>
        if b = true then (iv it1 env2 hp).bind fun w1 hp => if acc.length + w1.ds.length ≤ sizeLine then
          compL (ckOk w1.ck) (fun d hp => (asg g1 d (wipeE env2 own1) hp).bind fun env3 hp => (evOT c1 env3 hp).bind fun b hp =>
            if b = true then (ev elt env3 hp).bind fun x hp => .ok (some x) hp else .ok none hp) w1.ds hp acc else .bad
        else .ok acc hp) w.ds hp []).bind fun ds hp => ofOpt (some (mkL m ds hp))
def evs : Es → EnvI → HpI → Out (List D)
  | .nil, _, hp => .ok [] hp
  | .cons e es, env, hp => (ev e env hp).bind fun x hp => (evs es env hp).bind fun xs hp => .ok (x :: xs) hp
def evA : Es → EnvI → HpI → Out D
  | .nil, _, _ => .bad
  | .cons e .nil, env, hp => ev e env hp
  | .cons e (.cons e' es), env, hp => (ev e env hp).bind fun x hp => match x with
    | .bl true => evA (.cons e' es) env hp
    | .bl false => .ok (.bl false) hp
    | _ => .bad
def evO : Es → EnvI → HpI → Out D
  | .nil, _, _ => .bad
  | .cons e .nil, env, hp => ev e env hp
  | .cons e (.cons e' es), env, hp => (ev e env hp).bind fun x hp => match x with
    | .bl true => .ok (.bl true) hp
    | .bl false => evO (.cons e' es) env hp
    | _ => .bad
def evOE : OE → EnvI → HpI → Out (Option Int)
  | .none, _, hp => .ok none hp
  | .some e, env, hp => (ev e env hp).bind fun x hp => match x with
    | .int i => .ok (some i) hp
    | _ => .bad
def evOT : OT → EnvI → HpI → Out Bool
  | .none, _, hp => .ok true hp
  | .some t, env, hp => tv t env hp
def tv : T → EnvI → HpI → Out Bool
  | .din neg k d, env, hp => (ev k env hp).bind fun y hp => (ev d env hp).bind fun x hp => match atDk x y hp with
    | some o => .ok (if neg then !o.isSome else o.isSome) hp
    | none => .bad
  | .dinT neg ks d, env, hp => (evs ks env hp).bind fun ys hp => (ev d env hp).bind fun x hp => match atDt x ys hp with
    | some o => .ok (if neg then !o.isSome else o.isSome) hp
    | none => .bad
  | .val e, env, hp => (ev e env hp).bind fun x hp => match x with
    | .bl b => .ok b hp
    | _ => .bad
  | .cmp o a b, env, hp => (ev a env hp).bind fun x hp => (ev b env hp).bind fun y hp => (ofOpt (sem2 o x y hp)).bind fun z hp => match z with
    | .bl b => .ok b hp
    | _ => .bad
  | .isN neg a, env, hp => (ev a env hp).bind fun x hp => .ok (match x with | .non => !neg | _ => neg) hp
  | .chain o o' a b c, env, hp => (ev a env hp).bind fun x hp => (ev b env hp).bind fun y hp => (ofOpt (sem2 o x y hp)).bind fun z hp =>
      match z with
      | .bl true => (ev c env hp).bind fun u hp => (ofOpt (sem2 o' y u hp)).bind fun z hp => match z with
        | .bl b => .ok b hp
        | _ => .bad
      | .bl false => .ok false hp
      | _ => .bad
  | .not t, env, hp => (tv t env hp).bind fun b hp => .ok (!b) hp
  | .and ts, env, hp => tvA ts env hp
  | .or ts, env, hp => tvO ts env hp
def tvA : Ts → EnvI → HpI → Out Bool
  | .one t, env, hp => tv t env hp
  | .cons t ts, env, hp => (tv t env hp).bind fun b hp => if b = true then tvA ts env hp else .ok false hp
def tvO : Ts → EnvI → HpI → Out Bool
  | .one t, env, hp => tv t env hp
  | .cons t ts, env, hp => (tv t env hp).bind fun b hp => if b = true then .ok true hp else tvO ts env hp
def asg : G → D → EnvI → HpI → Out EnvI
  | .name i, d, env, hp => .ok (env.set i (some d)) hp
  | .tup gs, d, env, hp => match seqOf hp d with
    | some ds => asgs gs ds env hp
    | none => .bad
  | .sub o i, d, env, hp => (ev o env hp).bind fun x hp => (ev i env hp).bind fun y hp => match setIx x y d hp with
    | some hp => .ok env hp
    | none => .bad
def asgs : Gs → List D → EnvI → HpI → Out EnvI
  | .nil, [], env, hp => .ok env hp
  | .cons g gs, d :: ds, env, hp => (asg g d env hp).bind fun env hp => asgs gs ds env hp
  | _, _, _, _ => .bad
def iv : It → EnvI → HpI → Out IV
  | .seq e, env, hp => (ev e env hp).bind fun x hp => ofOpt (ivSeq x hp)
  | .rng1 a, env, hp => (ev a env hp).bind fun x hp => match x with
    | .int j => ofOpt (ivRng 0 j hp)
    | _ => .bad
  | .rng2 a b, env, hp => (ev a env hp).bind fun x hp => (ev b env hp).bind fun y hp => match x, y with
    | .int i, .int j => ofOpt (ivRng i j hp)
    | _, _ => .bad
  | .enum e, env, hp => (ev e env hp).bind fun x hp => ofOpt (ivEnum x hp)
  | .zip a b, env, hp => (ev a env hp).bind fun x hp => (ev b env hp).bind fun y hp => ofOpt (ivZip x y hp)
  | .txt e, env, hp => (ev e env hp).bind fun x hp => ofOpt (ivTxt x hp)
end
mutual
def ex (wf : Nat) : S → EnvI → HpI → SOut
  | .expr e, env, hp => (ev cf e env hp).thenS env fun _ hp => .nx env hp
  | .asg g e, env, hp => (ev cf e env hp).thenS env fun x hp => (asg cf g x env hp).thenG fun env' hp => .nx env' hp
  | .par i j a b, env, hp => (ev cf a env hp).thenS env fun x hp => (ev cf b env hp).thenS env fun y hp => .nx ((env.set i (some x)).set j (some y)) hp
  | .par3 i j l a b c, env, hp => (ev cf a env hp).thenS env fun x hp => (ev cf b env hp).thenS env fun y hp => (ev cf c env hp).thenS env fun z hp => .nx (((env.set i (some x)).set j (some y)).set l (some z)) hp
  | .aug i o e, env, hp => match env[i]? with
    | some (some x) => (ev cf e env hp).thenS env fun y hp => match semAug o x y with
      | some z => .nx (env.set i (some z)) hp
      | none => .bad
    | _ => .bad
  | .ret e, env, hp => (ev cf e env hp).thenS env fun x hp => .rt x hp
  | .retN, _, hp => .rt .non hp
  | .ife t a b, env, hp => (tv cf t env hp).thenS env fun c hp => if c = true then exs wf a env hp else exs wf b env hp
  | .whl t b, env, hp => whlL (tv cf t) (exs wf b) wf env hp
  | .for_ g it b, env, hp => (iv cf it env hp).thenS env fun w hp => forL (ckOk w.ck) (fun d env hp => (asg cf g d env hp).thenG fun env' hp => exs wf b env' hp) w.ds env hp
  | .dput o k e, env, hp => (ev cf e env hp).thenS env fun v hp => (ev cf o env hp).thenS env fun x hp => (ev cf k env hp).thenS env fun y hp => match toDk x y v hp with
    | some hp => .nx env hp
    | none => .bad
  | .dputT o ks e, env, hp => (ev cf e env hp).thenS env fun v hp => (ev cf o env hp).thenS env fun x hp => (evs cf ks env hp).thenS env fun ys hp => match toDt x ys v hp with
    | some hp => .nx env hp
    | none => .bad
  | .fset c o f e, env, hp => (ev cf e env hp).thenS env fun v hp => (ev cf o env hp).thenS env fun x hp => match setFD c f x v hp with
    | some hp => .nx env hp
    | none => .bad
  | .faug c o f op e, env, hp => (ev cf o env hp).thenS env fun x hp => match fldD c f x hp with
    | some u => (ev cf e env hp).thenS env fun y hp => match semAug op u y with
      | some z => match setFD c f x z hp with
        | some hp => .nx env hp
        | none => .bad
      | none => .bad
    | none => .bad
  | .pass, env, hp => .nx env hp
  | .brk, env, hp => .bk env hp
  | .cont, env, hp => .ct env hp
  | .nev, _, _ => .bad
  | .raise c fs es, env, hp => (evs cf es env hp).thenS env fun ds hp => if ds.length = fs.length ∨ fs = [] then .exc ⟨c, (fs.zip ds).reverse⟩ env hp else .bad
def exs (wf : Nat) : Ss → EnvI → HpI → SOut
  | .nil, env, hp => .nx env hp
  | .cons s ss, env, hp => (ex wf s env hp).andThen fun env hp => exs wf ss env hp
end
end

/-! ## 5. the defs -/
structure DefI where
  name : Str
  ps : List Str
  N : List Str
  dfl : List (Str × D)
  body : Ss
  meth : Bool := false
/-- a lambda: its parameters, its body -/
structure LamI where
  ps : List Str
  N : List Str
  body : E
  cap : Option Scope := none
structure Pg where
  defs : List DefI
  consts : List (Str × D)
  lams : List LamI
  excs : List (Nat × List Str) := []
  clss : List (Str × Nat) := []
  meths : List (Nat × Str × Nat) := []
  flds : List (Nat × Str) := []
def outOf : SOut → Out D
  | .nx _ hp => .ok .non hp
  | .rt d hp => .ok d hp
  | .exc x _ hp => .exc x hp
  | _ => .bad
/-- all arguments, the lacking last ones by the defaults -/
def fillD (di : DefI) (ds : List D) : List D := if ds.length = di.ps.length then ds else ds ++ di.dfl.map (·.2)
def run (pg : Pg) (wf : Nat) : Nat → CF
  | 0 => fun _ _ _ => .bad
  | n + 1 => fun f ds hp => match pg.defs[f]? with
    | none => match pg.lams[f - pg.defs.length]? with
      | some li => match li.cap with
        | none => if ds.length = li.ps.length then ev (run pg wf n) li.body (ds.map some ++ List.replicate (li.N.length - ds.length) none) hp else .bad
        | some _ => .bad
      | none => match pg.lams[f - pg.defs.length - pg.lams.length]? with
        | none => .bad
        | some li => match li.cap with
          | none => .bad
          | some _ => ev (run pg wf n) li.body (ds.map decD) hp
    | some di =>
      let ds := fillD di ds
      if ds.length = di.ps.length then outOf (exs (run pg wf n) wf di.body (ds.map some ++ List.replicate (di.N.length - ds.length) none) hp) else .bad
end KI

namespace KI
open PySem L2

/-! ## 6. the evaluator's data in the layer's heap -/
/-- a list that nobody changes: locked, or one of the module's -/
def SqF (K : PySem.W.Frag) (H : Hp) (a : Addr) (xs : List V) : Prop :=
  (∃ o, H a = some (.frz o (.lst xs))) ∨ ∃ (o : Obj) (its : Array Value) (n : Nat), K.lookup a = some o ∧ o.cls = .type "list" ∧ o.dict = none ∧ o.data = .seq its n ∧ its.size ≤ sizeLine ∧ Vals xs its.toList
theorem SqF.seq {K : PySem.W.Frag} {H : Hp} {a : Addr} {xs : List V} (h : SqF K H a xs) : SqL K H a xs := by
  rcases h with ⟨o, h⟩ | h
  · exact .inl (.inr ⟨o, h⟩)
  · exact .inr h
variable [LX]
/-- the lambda j, made, at a; its code object at c, its name q -/
def LamO (j : Nat) (q : Str) (a c : Addr) (dv : Value) : HO := .ext fun h => ∃ (params : Arguments) (body : Expr) (scope : Scope) (pm ctv doc : Value), h.get? a = some (PySem.W.kdv_obj "<lambda>" q params (.expr body) scope (cloFrom LX.CL scope.names []) dv doc pm c ctv) ∧ LX.ck j params body scope ∧ (params.defaults = [] ↔ dv = .none)
/-- the defaults of a made lambda: none, or a nought -/
def DvOk (H : Hp) (dv : Value) : Prop := dv = .none ∨ ∃ t, dv = .ref t ∧ H t = some (.tup [.int 0])
/-- an object that may be written -/
def MutO : HO → Prop
  | .lst _ => True
  | .dK _ => True
  | .dT _ => True
  | .ins _ _ _ => True
  | _ => False
/-- the object o with vs in it -/
def HOf : O → List V → HO → Prop
  | .lst _, vs, o => o = .lst vs ∧ vs.length ≤ sizeLine
  | .dk kvs, vs, o => o = .dK ((kvs.map (·.1)).zip vs)
  | .dt kvs, vs, o => o = .dT ((kvs.map (·.1)).zip vs)
  | .ins c fs, vs, o => ∃ dx, o = .ins (LX.CI c) dx ((fs.map (·.1)).zip vs)
theorem HOf.mut {o : O} {vs : List V} {ho : HO} (h : HOf o vs ho) : MutO ho := by
  cases o with
  | lst ds => obtain ⟨rfl, _⟩ := h; trivial
  | dk kvs => cases h; trivial
  | dt kvs => cases h; trivial
  | ins c fs => obtain ⟨dx, rfl⟩ := h; trivial
section
variable (K : PySem.W.Frag) (H : Hp) (L X : List Addr)
mutual
def Rep : D → V → Prop
  | .non, v => v = .non
  | .bl b, v => v = .bl b
  | .int i, v => v = .int i
  | .str s, v => v = .str s
  | .tup ds, v => ∃ a vs, v = .ref a ∧ SqT K H a vs ∧ vs.length ≤ sizeLine ∧ Reps ds vs
  | .lst ds, v => ∃ a vs, v = .ref a ∧ H a = some (.lst vs) ∧ a ∉ X ∧ vs.length ≤ sizeLine ∧ Reps ds vs
  | .sq ds, v => ∃ a vs, v = .ref a ∧ (SqF K H a vs ∨ (H a = some (.lst vs) ∧ a ∉ X)) ∧ vs.length ≤ sizeLine ∧ Reps ds vs
  | .loc n, v => ∃ a, v = .ref a ∧ L[n]? = some a
  | .fn j, v => ∃ a c q dv, v = .ref a ∧ H a = some (LamO j q a c dv) ∧ H c = some (LamX.CodeO c q) ∧ DvOk H dv
def Reps : List D → List V → Prop
  | [], vs => vs = []
  | d :: ds, vs => ∃ v r, vs = v :: r ∧ Rep d v ∧ Reps ds r
end
def RepO (o : O) (a : Addr) : Prop := ∃ vs ho, H a = some ho ∧ HOf o vs ho ∧ Reps K H L X o.ds vs
structure HOK (hp : HpI) : Prop where
  nd : L.Nodup
  len : L.length = hp.length
  sub : ∀ a ∈ L, a ∈ X
  live : ∀ a ∈ X, H a ≠ none
  ob : ∀ (n : Nat) (o : O), hp[n]? = some o → ∃ a : Addr, L[n]? = some a ∧ RepO K H L X o a
  tabs : LamX.Tabs LX.T H
end
structure Post (H : Hp) (L X : List Addr) (H' : Hp) (L' X' : List Addr) : Prop where
  ext : ∃ n m, L' = L ++ n ∧ X' = X ++ m ∧ (∀ a ∈ n, a ∈ m) ∧ ∀ a ∈ m, H a = none
  keep : ∀ a o, H a = some o → a ∉ L → (∀ ps, o ≠ .tbl ps) → H' a = some o
  tups : ∀ a xs, H a = some (.tup xs) → H' a = some (.tup xs)
  frzs : ∀ a o u, H a = some (.frz o u) → H' a = some (.frz o u)
  live : ∀ a, H a ≠ none → H' a ≠ none
  exts : ∀ a φ, H a = some (.ext φ) → H' a = some (.ext φ)
section
variable {K : PySem.W.Frag} {H H' H1 H2 : Hp} {L L' L1 L2 X X' X1 X2 : List Addr} {hp hp' : HpI}
theorem SqT.mono (ht : ∀ a xs, H a = some (.tup xs) → H' a = some (.tup xs)) (hf : ∀ a o u, H a = some (.frz o u) → H' a = some (.frz o u)) {a : Addr} {vs : List V} (h : SqT K H a vs) : SqT K H' a vs := by
  rcases h with (h | ⟨o, h⟩) | h
  · exact .inl (.inl (ht _ _ h))
  · exact .inl (.inr ⟨o, hf _ _ _ h⟩)
  · exact .inr h
theorem SqF.mono (hf : ∀ a o u, H a = some (.frz o u) → H' a = some (.frz o u)) {a : Addr} {vs : List V} (h : SqF K H a vs) : SqF K H' a vs := by
  rcases h with ⟨o, h⟩ | h
  · exact .inl ⟨o, hf _ _ _ h⟩
  · exact .inr h
mutual
theorem Rep.mono (hl : ∀ a vs, H a = some (.lst vs) → a ∉ X → H' a = some (.lst vs) ∧ a ∉ X') (ht : ∀ a xs, H a = some (.tup xs) → H' a = some (.tup xs)) (hf : ∀ a o u, H a = some (.frz o u) → H' a = some (.frz o u)) (hx : ∀ a φ, H a = some (.ext φ) → H' a = some (.ext φ))
    (hL : ∀ (n : Nat) a, L[n]? = some a → L'[n]? = some a) : ∀ (d : D) (v : V), Rep K H L X d v → Rep K H' L' X' d v
  | .non, v, h => h
  | .bl b, v, h => h
  | .int i, v, h => h
  | .str s, v, h => h
  | .loc n, v, ⟨a, e, h⟩ => ⟨a, e, hL _ _ h⟩
  | .tup ds, v, ⟨a, vs, e, h1, h2, h3⟩ => ⟨a, vs, e, SqT.mono ht hf h1, h2, Reps.mono hl ht hf hx hL ds vs h3⟩
  | .lst ds, v, ⟨a, vs, e, h1, h2, h3, h4⟩ => ⟨a, vs, e, (hl a vs h1 h2).1, (hl a vs h1 h2).2, h3, Reps.mono hl ht hf hx hL ds vs h4⟩
  | .sq ds, v, ⟨a, vs, e, h1, h2, h3⟩ => ⟨a, vs, e, h1.elim (fun h => .inl (SqF.mono hf h)) (fun h => .inr (hl a vs h.1 h.2)), h2, Reps.mono hl ht hf hx hL ds vs h3⟩
  | .fn j, v, ⟨a, c, q, dv, e, h1, h2, h3⟩ => ⟨a, c, q, dv, e, hx _ _ h1, hx _ _ h2, h3.elim .inl fun ⟨t, e, h⟩ => .inr ⟨t, e, ht _ _ h⟩⟩
theorem Reps.mono (hl : ∀ a vs, H a = some (.lst vs) → a ∉ X → H' a = some (.lst vs) ∧ a ∉ X') (ht : ∀ a xs, H a = some (.tup xs) → H' a = some (.tup xs)) (hf : ∀ a o u, H a = some (.frz o u) → H' a = some (.frz o u)) (hx : ∀ a φ, H a = some (.ext φ) → H' a = some (.ext φ))
    (hL : ∀ (n : Nat) a, L[n]? = some a → L'[n]? = some a) : ∀ (ds : List D) (vs : List V), Reps K H L X ds vs → Reps K H' L' X' ds vs
  | [], vs, h => h
  | d :: ds, vs, ⟨v, r, e, h1, h2⟩ => ⟨v, r, e, Rep.mono hl ht hf hx hL d v h1, Reps.mono hl ht hf hx hL ds r h2⟩
end
theorem Reps.nil : Reps K H L X [] [] := rfl
theorem Reps.cons {d : D} {v : V} {ds : List D} {vs : List V} (h1 : Rep K H L X d v) (h2 : Reps K H L X ds vs) : Reps K H L X (d :: ds) (v :: vs) := ⟨v, vs, rfl, h1, h2⟩
theorem Reps.len : ∀ {ds : List D} {vs : List V}, Reps K H L X ds vs → vs.length = ds.length
  | [], vs, h => by rw [show vs = [] from h]; rfl
  | d :: ds, vs, ⟨v, r, e, h1, h2⟩ => by rw [e, List.length_cons, List.length_cons, Reps.len h2]
theorem Reps.app : ∀ {ds es : List D} {vs ws : List V}, Reps K H L X ds vs → Reps K H L X es ws → Reps K H L X (ds ++ es) (vs ++ ws)
  | [], es, vs, ws, h, g => by rw [show vs = [] from h]; exact g
  | d :: ds, es, vs, ws, ⟨v, r, e, h1, h2⟩, g => by rw [e]; exact ⟨v, r ++ ws, rfl, h1, Reps.app h2 g⟩
theorem Reps.get : ∀ {ds : List D} {vs : List V} {i : Nat} {d : D}, Reps K H L X ds vs → ds[i]? = some d → ∃ v, vs[i]? = some v ∧ Rep K H L X d v
  | [], vs, i, d, h, e => by simp at e
  | c :: ds, vs, 0, d, ⟨v, r, e, h1, h2⟩, q => by simp at q; subst q; exact ⟨v, by rw [e]; rfl, h1⟩
  | c :: ds, vs, i + 1, d, ⟨v, r, e, h1, h2⟩, q => by
    obtain ⟨w, a, b⟩ := Reps.get (i := i) (d := d) h2 (by simpa using q)
    exact ⟨w, by rw [e]; simpa using a, b⟩
theorem Reps.get' : ∀ {ds : List D} {vs : List V} {i : Nat} {v : V}, Reps K H L X ds vs → vs[i]? = some v → ∃ d, ds[i]? = some d ∧ Rep K H L X d v
  | [], vs, i, v, h, e => by rw [show vs = [] from h] at e; simp at e
  | c :: ds, vs, 0, v, ⟨w, r, e, h1, h2⟩, q => by rw [e] at q; simp at q; subst q; exact ⟨c, rfl, h1⟩
  | c :: ds, vs, i + 1, v, ⟨w, r, e, h1, h2⟩, q => by
    rw [e] at q
    obtain ⟨d, a, b⟩ := Reps.get' (i := i) (v := v) h2 (by simpa using q)
    exact ⟨d, by simpa using a, b⟩
theorem Reps.take : ∀ {ds : List D} {vs : List V} (n : Nat), Reps K H L X ds vs → Reps K H L X (ds.take n) (vs.take n)
  | _, _, 0, _ => by simp [Reps]
  | [], vs, n + 1, h => by rw [show vs = [] from h]; simp [Reps]
  | d :: ds, vs, n + 1, ⟨v, r, e, h1, h2⟩ => by rw [e]; exact ⟨v, r.take n, rfl, h1, Reps.take n h2⟩
theorem Reps.drop : ∀ {ds : List D} {vs : List V} (n : Nat), Reps K H L X ds vs → Reps K H L X (ds.drop n) (vs.drop n)
  | _, _, 0, h => h
  | [], vs, n + 1, h => by rw [show vs = [] from h]; simp [Reps]
  | d :: ds, vs, n + 1, ⟨v, r, e, h1, h2⟩ => by rw [e]; exact Reps.drop n h2
theorem Reps.set {d : D} {v : V} (g : Rep K H L X d v) : ∀ {ds : List D} {vs : List V} (i : Nat), Reps K H L X ds vs → Reps K H L X (ds.set i d) (vs.set i v)
  | [], vs, i, h => by rw [show vs = [] from h]; simp [Reps]
  | c :: ds, vs, 0, ⟨w, r, e, h1, h2⟩ => by rw [e]; exact ⟨v, r, rfl, g, h2⟩
  | c :: ds, vs, i + 1, ⟨w, r, e, h1, h2⟩ => by rw [e]; exact ⟨w, r.set i v, rfl, h1, Reps.set g i h2⟩
theorem Reps.flat {ds : List D} {vs : List V} (g : Reps K H L X ds vs) : ∀ n : Nat, Reps K H L X (List.replicate n ds).flatten (List.replicate n vs).flatten
  | 0 => rfl
  | n + 1 => by
    rw [List.replicate_succ, List.replicate_succ, List.flatten_cons, List.flatten_cons]
    exact g.app (Reps.flat g n)

/-! ### Post -/
theorem Post.refl : Post H L X H L X := ⟨⟨[], [], by simp, by simp, fun a h => h, fun a h => by simp at h⟩, fun _ _ h _ _ => h, fun _ _ h => h, fun _ _ _ h => h, fun _ h => h, fun _ _ h => h⟩
theorem Post.trans (a : Post H L X H1 L1 X1) (b : Post H1 L1 X1 H2 L2 X2) : Post H L X H2 L2 X2 := by
  obtain ⟨n1, m1, e1, f1, s1, g1⟩ := a.ext
  obtain ⟨n2, m2, e2, f2, s2, g2⟩ := b.ext
  refine ⟨⟨n1 ++ n2, m1 ++ m2, by rw [e2, e1, List.append_assoc], by rw [f2, f1, List.append_assoc], fun c hc => (List.mem_append.mp hc).elim (fun z => List.mem_append_left _ (s1 c z)) (fun z => List.mem_append_right _ (s2 c z)), fun c hc => ?_⟩, fun c o h hl ht => ?_, fun c xs h => b.tups c xs (a.tups c xs h), fun c o u h => b.frzs c o u (a.frzs c o u h), fun c h => b.live c (a.live c h), fun c φ h => b.exts c φ (a.exts c φ h)⟩
  · rcases List.mem_append.mp hc with hc | hc
    · exact g1 c hc
    · have z := g2 c hc
      cases q : H c with
      | none => rfl
      | some o => exact absurd z (a.live c (by rw [q]; exact fun e => nomatch e))
  · refine b.keep c o (a.keep c o h hl ht) (fun hc => ?_) ht
    rw [e1] at hc
    rcases List.mem_append.mp hc with hc | hc
    · exact hl hc
    · have z := g1 c (s1 c hc)
      rw [z] at h; cases h
theorem Post.pre (a : Post H L X H' L' X') : ∀ (n : Nat) c, L[n]? = some c → L'[n]? = some c := by
  obtain ⟨n1, _, e1, _⟩ := a.ext
  intro n c h
  rw [e1, List.getElem?_append_left (by
    have := (List.getElem?_eq_some_iff.mp h).1
    exact this)]
  exact h
theorem Post.new {p : Addr} (h : H p = none) (o : HO) : Post H L X (upd H p o) L X := by
  refine ⟨⟨[], [], by simp, by simp, fun a h => h, fun a h => by simp at h⟩, fun a u q _ _ => ?_, fun a xs q => ?_, fun a u w q => ?_, fun a q => ?_, fun a φ q => by rw [upd_ne (ne_of_none q h)]; exact q⟩
  · rw [upd_ne (ne_of_none q h)]; exact q
  · rw [upd_ne (ne_of_none q h)]; exact q
  · rw [upd_ne (ne_of_none q h)]; exact q
  · by_cases e : a = p
    · rw [e, upd_same]; exact fun z => nomatch z
    · rw [upd_ne e]; exact q
theorem Post.newL {p : Addr} (h : H p = none) (o : HO) : Post H L X (upd H p o) (L ++ [p]) (X ++ [p]) := by
  have q : Post H L X (upd H p o) L X := Post.new h o
  exact ⟨⟨[p], [p], rfl, rfl, fun _ z => z, fun a ha => by rw [List.mem_singleton.mp ha]; exact h⟩, q.keep, q.tups, q.frzs, q.live, q.exts⟩
theorem Post.write {a : Addr} {ho o : HO} (ha : a ∈ L) (h : H a = some ho) (m : MutO ho) : Post H L X (upd H a o) L X := by
  refine ⟨⟨[], [], by simp, by simp, fun a h => h, fun a h => by simp at h⟩, fun b u q hb _ => ?_, fun b xs q => ?_, fun b u w q => ?_, fun b q => ?_, fun b φ q => by rw [upd_ne (ne_of q h (fun z => by subst z; exact m))]; exact q⟩
  · rw [upd_ne (fun e => hb (by rw [e]; exact ha))]; exact q
  · rw [upd_ne (ne_of q h (fun z => by subst z; exact m))]; exact q
  · rw [upd_ne (ne_of q h (fun z => by subst z; exact m))]; exact q
  · by_cases e : b = a
    · rw [e, upd_same]; exact fun z => nomatch z
    · rw [upd_ne e]; exact q
theorem HOK.notX {a : Addr} (k : HOK K H L X hp) (h : H a = none) : a ∉ X := fun z => k.live a z h
theorem Post.lsts (p : Post H L X H' L' X') (k : HOK K H L X hp) : ∀ a vs, H a = some (.lst vs) → a ∉ X → H' a = some (.lst vs) ∧ a ∉ X' := fun a vs h hx => by
  refine ⟨p.keep a _ h (fun z => hx (k.sub a z)) (fun ps => fun z => nomatch z), fun z => ?_⟩
  obtain ⟨_, n, _, f, _, g⟩ := p.ext
  rw [f] at z
  rcases List.mem_append.mp z with z | z
  · exact hx z
  · have := g a z; rw [this] at h; cases h
theorem Rep.post {d : D} {v : V} (r : Rep K H L X d v) (k : HOK K H L X hp) (p : Post H L X H' L' X') : Rep K H' L' X' d v := Rep.mono (p.lsts k) p.tups p.frzs p.exts p.pre d v r
theorem Reps.post {d : List D} {v : List V} (r : Reps K H L X d v) (k : HOK K H L X hp) (p : Post H L X H' L' X') : Reps K H' L' X' d v := Reps.mono (p.lsts k) p.tups p.frzs p.exts p.pre d v r

/-- as Post, but reserved lists may have been written -/
structure PostX (H : Hp) (L X : List Addr) (H' : Hp) (L' X' : List Addr) : Prop where
  ext : ∃ n m, L' = L ++ n ∧ X' = X ++ m ∧ (∀ a ∈ n, a ∈ m) ∧ ∀ a ∈ m, H a = none
  keep : ∀ a o, H a = some o → a ∉ X → (∀ ps, o ≠ .tbl ps) → H' a = some o
  tups : ∀ a xs, H a = some (.tup xs) → H' a = some (.tup xs)
  frzs : ∀ a o u, H a = some (.frz o u) → H' a = some (.frz o u)
  live : ∀ a, H a ≠ none → H' a ≠ none
  exts : ∀ a φ, H a = some (.ext φ) → H' a = some (.ext φ)
theorem Post.toX (p : Post H L X H' L' X') (k : HOK K H L X hp) : PostX H L X H' L' X' := ⟨p.ext, fun a o h hx ht => p.keep a o h (fun z => hx (k.sub a z)) ht, p.tups, p.frzs, p.live, p.exts⟩
theorem PostX.then (a : PostX H L X H1 L1 X1) (b : Post H1 L1 X1 H2 L2 X2) (k : HOK K H1 L1 X1 hp) : PostX H L X H2 L2 X2 := by
  obtain ⟨n1, m1, e1, f1, s1, g1⟩ := a.ext
  obtain ⟨n2, m2, e2, f2, s2, g2⟩ := b.ext
  refine ⟨⟨n1 ++ n2, m1 ++ m2, by rw [e2, e1, List.append_assoc], by rw [f2, f1, List.append_assoc], fun c hc => (List.mem_append.mp hc).elim (fun z => List.mem_append_left _ (s1 c z)) (fun z => List.mem_append_right _ (s2 c z)), fun c hc => ?_⟩, fun c o h hx ht => ?_, fun c xs h => b.tups c xs (a.tups c xs h), fun c o u h => b.frzs c o u (a.frzs c o u h), fun c h => b.live c (a.live c h), fun c φ h => b.exts c φ (a.exts c φ h)⟩
  · rcases List.mem_append.mp hc with hc | hc
    · exact g1 c hc
    · have z := g2 c hc
      cases q : H c with
      | none => rfl
      | some o => exact absurd z (a.live c (by rw [q]; exact fun e => nomatch e))
  · refine b.keep c o (a.keep c o h hx ht) (fun hc => ?_) ht
    have hc := k.sub c hc
    rw [f1] at hc
    rcases List.mem_append.mp hc with hc | hc
    · exact hx hc
    · have z := g1 c hc
      rw [z] at h; cases h
theorem PostX.pre (a : PostX H L X H' L' X') : ∀ (n : Nat) c, L[n]? = some c → L'[n]? = some c := by
  obtain ⟨n1, _, e1, _⟩ := a.ext
  intro n c h
  rw [e1, List.getElem?_append_left (by
    have := (List.getElem?_eq_some_iff.mp h).1
    exact this)]
  exact h
theorem PostX.lsts (p : PostX H L X H' L' X') : ∀ a vs, H a = some (.lst vs) → a ∉ X → H' a = some (.lst vs) ∧ a ∉ X' := fun a vs h hx => by
  refine ⟨p.keep a _ h hx (fun ps => fun z => nomatch z), fun z => ?_⟩
  obtain ⟨_, n, _, f, _, g⟩ := p.ext
  rw [f] at z
  rcases List.mem_append.mp z with z | z
  · exact hx z
  · have := g a z; rw [this] at h; cases h
theorem Rep.postX {d : D} {v : V} (r : Rep K H L X d v) (p : PostX H L X H' L' X') : Rep K H' L' X' d v := Rep.mono p.lsts p.tups p.frzs p.exts p.pre d v r
theorem Reps.postX {d : List D} {v : List V} (r : Reps K H L X d v) (p : PostX H L X H' L' X') : Reps K H' L' X' d v := Reps.mono p.lsts p.tups p.frzs p.exts p.pre d v r
theorem PostX.refl : PostX H L X H L X := ⟨⟨[], [], by simp, by simp, fun a h => h, fun a h => by simp at h⟩, fun _ _ h _ _ => h, fun _ _ h => h, fun _ _ _ h => h, fun _ h => h, fun _ _ h => h⟩
/-- a reserved list is written -/
theorem PostX.touch {a : Addr} {ho o : HO} (p : PostX H L X H' L' X') (h : H' a = some ho) (m : MutO ho) (hx : a ∈ X) : PostX H L X (upd H' a o) L' X' := by
  refine ⟨p.ext, fun b o q hb ht => ?_, fun b xs q => ?_, fun b o u q => ?_, fun b q => ?_, fun b φ q => ?_⟩
  · rw [upd_ne (fun e => hb (by rw [e]; exact hx))]; exact p.keep b o q hb ht
  · rw [upd_ne (ne_of (p.tups b xs q) h (fun z => by subst z; exact m))]; exact p.tups b xs q
  · rw [upd_ne (ne_of (p.frzs b o u q) h (fun z => by subst z; exact m))]; exact p.frzs b o u q
  · by_cases e : b = a
    · rw [e, upd_same]; exact fun z => nomatch z
    · rw [upd_ne e]; exact p.live b q
  · rw [upd_ne (ne_of (p.exts b φ q) h (fun z => by subst z; exact m))]; exact p.exts b φ q

/-! ### the heap -/
theorem tabs_new {T : List (Addr × Str)} {p : Addr} (t : LamX.Tabs T H) (h : H p = none) (o : HO) : LamX.Tabs T (upd H p o) := t.ext fun b u e => by rw [upd_ne (ne_of_none e h)]; exact e
theorem tabs_write {T : List (Addr × Str)} {a : Addr} {ho o : HO} (t : LamX.Tabs T H) (h : H a = some ho) (m : MutO ho) : LamX.Tabs T (upd H a o) := fun p hp => by
  obtain ⟨ps, h1, h2, h3⟩ := t p hp
  refine ⟨ps, by rw [upd_ne (ne_of h1 h (fun z => by subst z; exact m))]; exact h1, h2, fun pos cv e => ?_⟩
  obtain ⟨c, e1, e2⟩ := h3 pos cv e
  exact ⟨c, e1, by rw [upd_ne (ne_of e2 h (fun z => by unfold LamX.CodeO at z; subst z; exact m))]; exact e2⟩
theorem RepO.keep {o : O} {a : Addr} (r : RepO K H L X o a) (k : HOK K H L X hp) (p : Post H L X H' L' X') (e : H' a = H a) : RepO K H' L' X' o a := by
  obtain ⟨vs, ho, h1, h2, h3⟩ := r
  exact ⟨vs, ho, by rw [e]; exact h1, h2, h3.post k p⟩
theorem RepO.some_ {o : O} {a : Addr} (r : RepO K H L X o a) : ∃ ho, H a = some ho ∧ MutO ho := by
  obtain ⟨vs, ho, h1, h2, h3⟩ := r
  exact ⟨ho, h1, h2.mut⟩
theorem HOK.new (k : HOK K H L X hp) {p : Addr} (h : H p = none) (o : HO) : HOK K (upd H p o) L X hp := by
  have q : Post H L X (upd H p o) L X := Post.new h o
  refine ⟨k.nd, k.len, k.sub, fun a ha => q.live a (k.live a ha), fun n ob e => ?_, tabs_new k.tabs h o⟩
  obtain ⟨a, e1, r⟩ := k.ob n ob e
  obtain ⟨ho, h1, _⟩ := r.some_
  exact ⟨a, e1, r.keep k q (upd_ne (ne_of_none h1 h))⟩
/-- what a place may hold that is taken in -/
def Adp (H : Hp) (p : Addr) : Prop := ∀ u, H p = some u → MutO u ∧ ∀ w, u ≠ .lst w
theorem Adp.none {p : Addr} (h : H p = Option.none) : Adp H p := fun u e => by rw [h] at e; cases e
theorem Adp.ne {p a : Addr} (h : Adp H p) {o : HO} (e : H a = some o) (n : ¬ MutO o ∨ ∃ w, o = .lst w) : a ≠ p := fun z => by
  subst z
  obtain ⟨m, l⟩ := h o e
  rcases n with n | ⟨w, n⟩
  · exact n m
  · exact l w n
theorem Adp.reps {p : Addr} {ho : HO} {ds : List D} {vs : List V} (c : Adp H p) (r : Reps K H L X ds vs) : Reps K (upd H p ho) (L ++ [p]) (X ++ [p]) ds vs :=
  Reps.mono (fun a vs e hx => ⟨by rw [upd_ne (c.ne e (.inr ⟨_, rfl⟩))]; exact e, fun z => (List.mem_append.mp z).elim hx fun z => c.ne e (.inr ⟨_, rfl⟩) (List.mem_singleton.mp z)⟩)
    (fun a xs e => by rw [upd_ne (c.ne e (.inl fun z => z))]; exact e) (fun a o u e => by rw [upd_ne (c.ne e (.inl fun z => z))]; exact e) (fun a φ e => by rw [upd_ne (c.ne e (.inl fun z => z))]; exact e)
    (fun n a e => by rw [List.getElem?_append_left (List.getElem?_eq_some_iff.mp e).1]; exact e) ds vs r
theorem tabs_adp {T : List (Addr × Str)} {p : Addr} {o : HO} (t : LamX.Tabs T H) (c : Adp H p) : LamX.Tabs T (upd H p o) := fun q hq => by
  obtain ⟨ps, h1, h2, h3⟩ := t q hq
  refine ⟨ps, by rw [upd_ne (c.ne h1 (.inl fun z => z))]; exact h1, h2, fun pos cv e => ?_⟩
  obtain ⟨d, e1, e2⟩ := h3 pos cv e
  exact ⟨d, e1, by rw [upd_ne (c.ne e2 (.inl fun z => by unfold LamX.CodeO at z; exact z))]; exact e2⟩
/-- an object is taken in: at a free place, or where one stands that nobody tracks -/
theorem HOK.adopt (k : HOK K H L X hp) {p : Addr} {ho : HO} (hX : p ∉ X) (c : Adp H p) {o : O} {vs : List V} (ho' : HOf o vs ho) (r : Reps K H L X o.ds vs) : HOK K (upd H p ho) (L ++ [p]) (X ++ [p]) (hp ++ [o]) := by
  refine ⟨?_, by rw [List.length_append, List.length_append, k.len]; rfl, fun a ha => ?_, fun a ha => ?_, fun n ob e => ?_, tabs_adp k.tabs c⟩
  · refine List.nodup_append.mpr ⟨k.nd, by simp, fun a ha b hb e => ?_⟩
    rw [List.mem_singleton.mp hb] at e
    exact hX (k.sub p (e ▸ ha))
  · rcases List.mem_append.mp ha with z | z
    · exact List.mem_append_left _ (k.sub a z)
    · exact List.mem_append_right _ z
  · rcases List.mem_append.mp ha with z | z
    · by_cases e : a = p
      · rw [e, upd_same]; exact fun z => nomatch z
      · rw [upd_ne e]; exact k.live a z
    · rw [List.mem_singleton.mp z, upd_same]; exact fun z => nomatch z
  · by_cases hn : n < hp.length
    · rw [List.getElem?_append_left hn] at e
      obtain ⟨a, e1, ws, hw, h1, h2, h3⟩ := k.ob n ob e
      have hap : a ≠ p := fun z => hX (z ▸ k.sub a (List.mem_of_getElem? e1))
      exact ⟨a, by rw [List.getElem?_append_left (List.getElem?_eq_some_iff.mp e1).1]; exact e1, ws, hw, by rw [upd_ne hap]; exact h1, h2, c.reps h3⟩
    · rw [List.getElem?_append_right (by omega)] at e
      have hn' : n = hp.length := by
        by_cases z : n = hp.length
        · exact z
        · have : ([o] : List O)[n - hp.length]? = none := by
            rw [List.getElem?_eq_none_iff]
            simp only [List.length_cons, List.length_nil]
            omega
          rw [this] at e; cases e
      subst hn'
      rw [Nat.sub_self] at e
      cases e
      exact ⟨p, by rw [← k.len]; simp, vs, ho, upd_same, ho', c.reps r⟩
theorem HOK.newO (k : HOK K H L X hp) {p : Addr} (h : H p = none) {o : O} {vs : List V} {ho : HO} (ho' : HOf o vs ho) (r : Reps K H L X o.ds vs) : HOK K (upd H p ho) (L ++ [p]) (X ++ [p]) (hp ++ [o]) :=
  k.adopt (k.notX h) (.none h) ho' r
/-- an object made at a free place, things made behind it, then it is taken in -/
theorem Post.adopt {p : Addr} {ho0 ho : HO} (h : H p = none) (q : Post (upd H p ho0) L X H1 L1 X1) (c : Adp H1 p) : Post H L X (upd H1 p ho) (L1 ++ [p]) (X1 ++ [p]) := by
  have p0 : Post H L X (upd H p ho0) L X := Post.new h ho0
  have t := p0.trans q
  obtain ⟨n, m, e1, e2, sb, fr⟩ := t.ext
  refine ⟨⟨n ++ [p], m ++ [p], by rw [e1, List.append_assoc], by rw [e2, List.append_assoc], fun a ha => ?_, fun a ha => ?_⟩, fun a o e hl ht => ?_, fun a xs e => ?_, fun a o u e => ?_, fun a e => ?_, fun a φ e => ?_⟩
  · rcases List.mem_append.mp ha with z | z
    · exact List.mem_append_left _ (sb a z)
    · exact List.mem_append_right _ z
  · rcases List.mem_append.mp ha with z | z
    · exact fr a z
    · rw [List.mem_singleton.mp z]; exact h
  · rw [upd_ne (ne_of_none e h)]; exact t.keep a o e hl ht
  · rw [upd_ne (ne_of_none e h)]; exact t.tups a xs e
  · rw [upd_ne (ne_of_none e h)]; exact t.frzs a o u e
  · by_cases z : a = p
    · rw [z, upd_same]; exact fun z => nomatch z
    · rw [upd_ne z]; exact t.live a e
  · rw [upd_ne (ne_of_none e h)]; exact t.exts a φ e
theorem HOK.newL (k : HOK K H L X hp) {p : Addr} (h : H p = none) {vs : List V} {ds : List D} (r : Reps K H L X ds vs) (hz : vs.length ≤ sizeLine) : HOK K (upd H p (.lst vs)) (L ++ [p]) (X ++ [p]) (hp ++ [.lst ds]) := k.newO (o := .lst ds) h ⟨rfl, hz⟩ r
theorem HOK.atO {n : Nat} {o : O} (k : HOK K H L X hp) (e : hp[n]? = some o) : ∃ a vs ho, L[n]? = some a ∧ H a = some ho ∧ a ∈ L ∧ HOf o vs ho ∧ Reps K H L X o.ds vs := by
  obtain ⟨a, e1, vs, ho, h1, h2, h3⟩ := k.ob n _ e
  exact ⟨a, vs, ho, e1, h1, List.mem_of_getElem? e1, h2, h3⟩
theorem HOK.at {n : Nat} {ds : List D} (k : HOK K H L X hp) (e : hp[n]? = some (.lst ds)) : ∃ a vs, L[n]? = some a ∧ H a = some (.lst vs) ∧ a ∈ L ∧ vs.length ≤ sizeLine ∧ Reps K H L X ds vs := by
  obtain ⟨a, vs, ho, e1, h1, h2, ⟨rfl, h3⟩, h4⟩ := k.atO e
  exact ⟨a, vs, e1, h1, h2, h3, h4⟩
theorem HOK.writeO (k : HOK K H L X hp) {n : Nat} {o : O} {vs : List V} {a : Addr} (e : L[n]? = some a) {h0 ho : HO} (h : H a = some h0) (m : MutO h0) (ho' : HOf o vs ho) (r : Reps K H L X o.ds vs) : HOK K (upd H a ho) L X (hp.set n o) := by
  have q : Post H L X (upd H a ho) L X := Post.write (List.mem_of_getElem? e) h m
  refine ⟨k.nd, by rw [List.length_set]; exact k.len, k.sub, fun b hb => q.live b (k.live b hb), fun i ob e1 => ?_, tabs_write k.tabs h m⟩
  by_cases hm : n = i
  · subst hm
    have hlt : n < hp.length := by
      by_cases z : n < hp.length
      · exact z
      · rw [List.set_eq_of_length_le (by omega), List.getElem?_eq_none_iff.mpr (by omega)] at e1; cases e1
    rw [List.getElem?_set_self hlt] at e1
    cases e1
    exact ⟨a, e, vs, ho, upd_same, ho', r.post k q⟩
  · rw [List.getElem?_set_ne hm] at e1
    obtain ⟨b, e2, r1⟩ := k.ob i ob e1
    have hab : b ≠ a := fun z => by
      subst z
      have h1 := (List.getElem?_eq_some_iff.mp e)
      have h2 := (List.getElem?_eq_some_iff.mp e2)
      exact hm ((List.getElem_inj k.nd).mp (h1.2.trans h2.2.symm))
    exact ⟨b, e2, r1.keep k q (upd_ne hab)⟩
theorem HOK.write (k : HOK K H L X hp) {n : Nat} {es : List D} {vs : List V} {a : Addr} (e : L[n]? = some a) {ws : List V} (h : H a = some (.lst ws)) (r : Reps K H L X es vs) (hz : vs.length ≤ sizeLine) : HOK K (upd H a (.lst vs)) L X (hp.set n (.lst es)) :=
  k.writeO (o := .lst es) e h trivial ⟨rfl, hz⟩ r

/-! ### what lists, tuples are -/
theorem seq_lst0 {d : D} {v : V} {ds : List D} (k : HOK K H L X hp) (r : Rep K H L X d v) (e : lst0 hp d = some ds) : ∃ a vs, v = .ref a ∧ H a = some (.lst vs) ∧ vs.length ≤ sizeLine ∧ Reps K H L X ds vs := by
  cases d with
  | lst es =>
    cases e
    obtain ⟨a, vs, e1, h1, _, h2, h3⟩ := r
    exact ⟨a, vs, e1, h1, h2, h3⟩
  | loc n =>
    obtain ⟨a, e1, h1⟩ := r
    simp only [lst0] at e
    split at e
    · rename_i es q
      cases e
      obtain ⟨b, vs, h2, h3, _, h4, h5⟩ := k.at q
      rw [h1] at h2; cases h2
      exact ⟨a, vs, e1, h3, h4, h5⟩
    · cases e
  | _ => simp [lst0] at e
theorem seq_lst {d : D} {v : V} {ds : List D} (k : HOK K H L X hp) (r : Rep K H L X d v) (e : lstOf hp d = some ds) : ∃ a vs, v = .ref a ∧ SqL K H a vs ∧ vs.length ≤ sizeLine ∧ Reps K H L X ds vs := by
  cases d with
  | sq es =>
    cases e
    obtain ⟨a, vs, e1, h1, h2, h3⟩ := r
    exact ⟨a, vs, e1, h1.elim (fun h => h.seq) (fun h => SqL.of h.1), h2, h3⟩
  | lst es =>
    obtain ⟨a, vs, e1, h1, h2, h3⟩ := seq_lst0 k r (show lst0 hp _ = some ds from e)
    exact ⟨a, vs, e1, SqL.of h1, h2, h3⟩
  | loc n =>
    obtain ⟨a, vs, e1, h1, h2, h3⟩ := seq_lst0 k r (show lst0 hp _ = some ds from e)
    exact ⟨a, vs, e1, SqL.of h1, h2, h3⟩
  | _ => simp [lstOf, lst0] at e
theorem seq_any {d : D} {v : V} {ds : List D} (k : HOK K H L X hp) (r : Rep K H L X d v) (e : seqOf hp d = some ds) : ∃ a vs, v = .ref a ∧ (SqL K H a vs ∨ SqT K H a vs) ∧ vs.length ≤ sizeLine ∧ Reps K H L X ds vs := by
  cases d with
  | tup es =>
    cases e
    obtain ⟨a, vs, e1, h1, h2, h3⟩ := r
    exact ⟨a, vs, e1, .inr h1, h2, h3⟩
  | sq es =>
    obtain ⟨a, vs, e1, h1, h2, h3⟩ := seq_lst k r (show lstOf hp _ = some ds from e)
    exact ⟨a, vs, e1, .inl h1, h2, h3⟩
  | lst es =>
    obtain ⟨a, vs, e1, h1, h2, h3⟩ := seq_lst k r (show lstOf hp _ = some ds from e)
    exact ⟨a, vs, e1, .inl h1, h2, h3⟩
  | loc n =>
    obtain ⟨a, vs, e1, h1, h2, h3⟩ := seq_lst k r (show lstOf hp _ = some ds from e)
    exact ⟨a, vs, e1, .inl h1, h2, h3⟩
  | _ => simp [seqOf, lstOf, lst0] at e
mutual
theorem dp_of (K : PySem.W.Frag) (H : Hp) (L X : List Addr) : ∀ (d : D) (v : V) (p : PyData), Rep K H L X d v → toPy d = some p → Dp K H v p
  | .non, v, p, r, e => by cases e; rw [show v = .non from r]; exact .non
  | .bl b, v, p, r, e => by cases e; rw [show v = .bl b from r]; exact .bl b
  | .int b, v, p, r, e => by cases e; rw [show v = .int b from r]; exact .int b
  | .str b, v, p, r, e => by cases e; rw [show v = .str b from r]; exact .str b
  | .loc n, v, p, r, e => by simp [toPy] at e
  | .fn n, v, p, r, e => by simp [toPy] at e
  | .tup ds, v, p, ⟨a, vs, e1, h1, h2, h3⟩, e => by
    rw [toPy] at e
    cases q : toPys ds with
    | none => rw [q] at e; cases e
    | some ps => rw [q] at e; cases e; rw [e1]; exact .tup h1 (dps_of K H L X ds vs ps h3 q)
  | .lst ds, v, p, ⟨a, vs, e1, h1, h2, h3, h4⟩, e => by
    rw [toPy] at e
    cases q : toPys ds with
    | none => rw [q] at e; cases e
    | some ps => rw [q] at e; cases e; rw [e1]; exact .lst (SqL.of h1) (dps_of K H L X ds vs ps h4 q)
  | .sq ds, v, p, ⟨a, vs, e1, h1, h2, h3⟩, e => by
    rw [toPy] at e
    cases q : toPys ds with
    | none => rw [q] at e; cases e
    | some ps => rw [q] at e; cases e; rw [e1]; exact .lst (h1.elim (fun h => h.seq) (fun h => SqL.of h.1)) (dps_of K H L X ds vs ps h3 q)
theorem dps_of (K : PySem.W.Frag) (H : Hp) (L X : List Addr) : ∀ (ds : List D) (vs : List V) (ps : List PyData), Reps K H L X ds vs → toPys ds = some ps → DpAll K H vs ps
  | [], vs, ps, r, e => by cases e; rw [show vs = [] from r]; exact .nil
  | d :: ds, vs, ps, ⟨v, r, e1, h1, h2⟩, e => by
    rw [toPys] at e
    cases q1 : toPy d with
    | none => rw [q1] at e; cases e
    | some p =>
      cases q2 : toPys ds with
      | none => rw [q1, q2] at e; cases e
      | some ps' => rw [q1, q2] at e; cases e; rw [e1]; exact .cons (dp_of K H L X d v p h1 q1) (dps_of K H L X ds r ps' h2 q2)
end
theorem dp_py {d : D} {v : V} {p : PyData} (k : HOK K H L X hp) (r : Rep K H L X d v) (e : pyD hp d = some p) : Dp K H v p := by
  cases d with
  | loc n =>
    obtain ⟨a, e1, h1⟩ := r
    simp only [pyD] at e
    split at e
    · rename_i es q
      obtain ⟨b, vs, h2, h3, _, h4, h5⟩ := k.at q
      rw [h1] at h2; cases h2
      cases q2 : toPys es with
      | none => rw [q2] at e; cases e
      | some ps => rw [q2] at e; cases e; rw [e1]; exact .lst (SqL.of h3) (dps_of K H L X es vs ps h5 q2)
    · cases e
  | non => exact dp_of K H L X _ _ _ r e
  | bl _ => exact dp_of K H L X _ _ _ r e
  | int _ => exact dp_of K H L X _ _ _ r e
  | str _ => exact dp_of K H L X _ _ _ r e
  | tup _ => exact dp_of K H L X _ _ _ r e
  | lst _ => exact dp_of K H L X _ _ _ r e
  | sq _ => exact dp_of K H L X _ _ _ r e
  | fn _ => exact dp_of K H L X _ _ _ r e
end

/-! ## 7. operations by values -/
/-- what an operation of the evaluator gives is what is wanted -/
def Fin (K : PySem.W.Frag) (H : Hp) (L X : List Addr) (o : Option (D × HpI)) (Q : VK) : Prop :=
  ∃ d hp', o = some (d, hp') ∧ ∀ v H' L' X', Post H L X H' L' X' → HOK K H' L' X' hp' → Rep K H' L' X' d v → Q v H'
def RD1 (K : PySem.W.Frag) (f : D → HpI → Option (D × HpI)) : V → Hp → VK → Prop := fun x H Q => ∃ L X hp d, HOK K H L X hp ∧ Rep K H L X d x ∧ Fin K H L X (f d hp) Q
def RD2 (K : PySem.W.Frag) (f : D → D → HpI → Option (D × HpI)) : R2 := fun x y H Q => ∃ L X hp d e, HOK K H L X hp ∧ Rep K H L X d x ∧ Rep K H L X e y ∧ Fin K H L X (f d e hp) Q
def RDn (K : PySem.W.Frag) (f : List D → HpI → Option (D × HpI)) : List V → Hp → VK → Prop := fun xs H Q => ∃ L X hp ds, HOK K H L X hp ∧ Reps K H L X ds xs ∧ Fin K H L X (f ds hp) Q
theorem Fin.pure {K : PySem.W.Frag} {H : Hp} {L X : List Addr} {hp : HpI} {d : D} {v : V} {Q : VK} (f : Fin K H L X (some (d, hp)) Q) (k : HOK K H L X hp) (r : Rep K H L X d v) : Q v H := by
  obtain ⟨d', hp', e, h⟩ := f
  cases e
  exact h v H L X Post.refl k r
theorem Fin.tup {K : PySem.W.Frag} {H : Hp} {L X : List Addr} {hp : HpI} {ds : List D} {vs : List V} {Q : VK} (f : Fin K H L X (some (.tup ds, hp)) Q) (k : HOK K H L X hp) (r : Reps K H L X ds vs) (hz : vs.length ≤ sizeLine) :
    ∀ p, H p = none → Q (.ref p) (upd H p (.tup vs)) := fun p hn => by
  obtain ⟨d', hp', e, h⟩ := f
  cases e
  exact h _ _ L X (Post.new hn _) (k.new hn _) ⟨p, vs, rfl, SqT.of upd_same, hz, r.post k (Post.new hn _)⟩
theorem Fin.mkL {K : PySem.W.Frag} {H : Hp} {L X : List Addr} {hp : HpI} {m : Bool} {ds : List D} {vs : List V} {Q : VK} (f : Fin K H L X (some (mkL m ds hp)) Q) (k : HOK K H L X hp) (r : Reps K H L X ds vs) (hz : vs.length ≤ sizeLine) :
    ∀ p, H p = none → Q (.ref p) (upd H p (.lst vs)) := fun p hn => by
  obtain ⟨d', hp', e, h⟩ := f
  cases m with
  | true =>
    cases e
    refine h _ _ (L ++ [p]) (X ++ [p]) (Post.newL hn _) (k.newL hn r hz) ⟨p, rfl, ?_⟩
    rw [← k.len]; simp
  | false =>
    cases e
    exact h _ _ L X (Post.new hn _) (k.new hn _) ⟨p, vs, rfl, upd_same, k.notX hn, hz, r.post k (Post.new hn _)⟩
end KI

namespace L2
open PySem PySem.Spec PyProof.Rows
theorem tuple_mul1 (l : Addr) (items : Array Value) (n : Nat) (dd : Option Addr) (sl : Array (Option Value)) (u : Tok) :
    Meets (Builtin.«tuple.__mul__» ⟨[.ref l, .int 1 u], []⟩) (fun _ R s => s.heap.get? l = some { cls := .type "tuple", dict := dd, data := .seq items n, slots := sl } ∧ R (.ok (.ret (Value.ref l))) s) :=
  .of_wp fun prog w A R s h => by
    obtain ⟨hp, g, d, tk, os⟩ := s
    obtain ⟨hl, h⟩ := h
    have f1 := AutoSeq1.idx_int
    wp_walk using wpAny_loadPart' hl
    exact ⟨_, rfl, h⟩
theorem tuple_mul0 (l : Addr) (items : Array Value) (n : Nat) (dd : Option Addr) (sl : Array (Option Value)) (u : Tok) (hi : items.isEmpty = false) :
    Meets (Builtin.«tuple.__mul__» ⟨[.ref l, .int 0 u], []⟩) (fun _ R s => s.heap.get? l = some { cls := .type "tuple", dict := dd, data := .seq items n, slots := sl } ∧ R (.ok (.ret (Value.ref s.heap.objs.size))) { s with heap := s.heap.push { cls := Value.type "tuple", data := Data.seq #[] }, toks := s.toks }) :=
  .of_wp fun prog w A R s h => by
    obtain ⟨hp, g, d, tk, os⟩ := s
    obtain ⟨hl, h⟩ := h
    have f1 := AutoSeq1.idx_int
    wp_walk using wpAny_loadPart' hl
    exact ⟨_, rfl, h⟩
def rRep01 (K : PySem.W.Frag) : R2 := fun x y H Q => ∃ l k xs, x = .ref l ∧ y = .int k ∧ SqT K H l xs ∧ xs ≠ [] ∧ ((k = 1 ∧ Q (.ref l) H) ∨ (k = 0 ∧ ∀ p, H p = none → Q (.ref p) (upd H p (.tup []))))
theorem op_rep01 {X : Cx} : OpR X (binaryOp .Mult) (rRep01 X.K) := by
  intro pins s σ H x y v u Q I rx ry h
  obtain ⟨l, k, xs, rfl, rfl, hT, hne, hk⟩ := h
  cases rx
  obtain ⟨t, rfl⟩ := ry
  obtain ⟨its, r, ⟨⟨cls, dd, data, sl⟩, ho, hc, n, hd⟩, hs⟩ := I.tuple hT
  simp only at hc hd
  subst hc hd
  have hle : its.length = xs.length := r.length.symm
  have hn : its ≠ [] := fun e => hne (by
    rw [e] at hle
    exact List.eq_nil_of_length_eq_zero hle.symm)
  have hi : its.toArray.isEmpty = false := by
    cases its with
    | nil => exact absurd rfl hn
    | cons a b => rfl
  rcases hk with ⟨rfl, q⟩ | ⟨rfl, q⟩
  · refine wpAny_binaryOp_repeat_ref (T := "tuple") (U := "int") (by decide) ⟨_, ho, rfl⟩ (fun s' => typeIs_int s' 1 t) noFill_tuple_mul F.fills_int_mul F.slot_int_rmul repeat_tuple F.slot_int_index.lookup
      (call_meets F.slot_int_rmul (typeIs_int s 1 t) F.entry_int_rmul (F.args_int_rmul_2 _ _) (int_rmul_tuple 1 t l its.toArray n dd sl)
        ⟨ho, rfl, ⟨_, ho, rfl⟩, call_meets F.slot_tuple_mul ⟨_, ho, rfl⟩ F.entry_tuple_mul (F.args_tuple_mul_2 _ _) (tuple_mul1 l its.toArray n dd sl t) ⟨ho, ?_⟩⟩)
    exact ⟨.ref l, _, I, rfl, q⟩
  · refine wpAny_binaryOp_repeat_ref (T := "tuple") (U := "int") (by decide) ⟨_, ho, rfl⟩ (fun s' => typeIs_int s' 0 t) noFill_tuple_mul F.fills_int_mul F.slot_int_rmul repeat_tuple F.slot_int_index.lookup
      (call_meets F.slot_int_rmul (typeIs_int s 0 t) F.entry_int_rmul (F.args_int_rmul_2 _ _) (int_rmul_tuple 0 t l its.toArray n dd sl)
        ⟨ho, rfl, ⟨_, ho, rfl⟩, call_meets F.slot_tuple_mul ⟨_, ho, rfl⟩ F.entry_tuple_mul (F.args_tuple_mul_2 _ _) (tuple_mul0 l its.toArray n dd sl t hi) ⟨ho, ?_⟩⟩)
    refine ⟨.ref s.heap.objs.size, _, I.laid (t' := s.toks) (o := .tup []) (fun b ob q => Heap.get?_push_of_some _ q) (Nat.le_refl _) ?_, rfl, q _ (I.hok.fresh (Nat.le_refl _))⟩
    exact ⟨Nat.zero_le _, [], .nil, IsTup.new _ _⟩
end L2

namespace KI
open PySem L2
variable [LX]
def binOf : Op2 → Option Operator
  | .add _ => some .Add | .sub => some .Sub | .mul _ => some .Mult | .fdiv => some .FloorDiv | .mod => some .Mod | .pow => some .Pow
  | _ => none
def cmpOf : Op2 → Option CmpOp
  | .eq => some .Eq | .ne => some .NotEq | .lt => some .Lt | .le => some .LtE | .gt => some .Gt | .ge => some .GtE | .inn => some .In | .nin => some .NotIn | .inx => some .In | .ninx => some .NotIn | .eqE => some .Eq | .neE => some .NotEq | .inD => some .In | .ninD => some .NotIn
  | _ => none
theorem Fin.absurd {K : PySem.W.Frag} {H : Hp} {L X : List Addr} {Q : VK} {P : Prop} (f : Fin K H L X none Q) : P := by
  obtain ⟨_, _, e, _⟩ := f
  cases e
section
variable {X : Cx} {H : Hp} {L Xg : List Addr} {hp : HpI}
theorem cat_fin {m : Bool} {d e : D} {x y : V} {Q : VK} (k : HOK X.K H L Xg hp) (r1 : Rep X.K H L Xg d x) (r2 : Rep X.K H L Xg e y)
    (f : Fin X.K H L Xg (match lst0 hp d, lst0 hp e with | some xs, some ys => if xs.length + ys.length ≤ sizeLine then some (mkL m (xs ++ ys) hp) else none | _, _ => none) Q) : rCat x y H Q := by
  cases q1 : lst0 hp d with
  | none => rw [q1] at f; exact f.absurd
  | some xs =>
    cases q2 : lst0 hp e with
    | none => rw [q1, q2] at f; exact f.absurd
    | some ys =>
      rw [q1, q2] at f
      obtain ⟨a, vs, e1, h1, z1, g1⟩ := seq_lst0 k r1 q1
      obtain ⟨b, ws, e2, h2, z2, g2⟩ := seq_lst0 k r2 q2
      by_cases hz : xs.length + ys.length ≤ sizeLine
      · simp only [hz, if_true] at f
        have hz' : vs.length + ws.length ≤ sizeLine := by rw [g1.len, g2.len]; exact hz
        exact ⟨a, b, vs, ws, e1, e2, h1, h2, hz', f.mkL k (g1.app g2) (by rw [List.length_append]; exact hz')⟩
      · simp only [hz, if_false] at f
        exact f.absurd
theorem op_addD {m : Bool} : OpR X (binaryOp .Add) (RD2 X.K (sem2 (.add m))) := by
  intro pins s σ H x y v u Q I rx ry ⟨L, Xg, hp, d, e, k, r1, r2, f⟩
  by_cases hi : (∃ i, d = .int i) ∧ ∃ j, e = .int j
  · obtain ⟨⟨i, rfl⟩, j, rfl⟩ := hi
    exact op_add pins s σ H x y v u Q I rx ry ⟨i, j, r1, r2, Fin.pure f k rfl⟩
  by_cases hs : (∃ i, d = .str i) ∧ ∃ j, e = .str j
  · obtain ⟨⟨i, rfl⟩, j, rfl⟩ := hs
    by_cases hz : i.length + j.length ≤ sizeLine
    · have f' : Fin X.K H L Xg (some (.str (i ++ j), hp)) Q := by
        have e : sem2 (.add m) (.str i) (.str j) hp = some (.str (i ++ j), hp) := if_pos hz
        rw [e] at f; exact f
      exact op_add_str pins s σ H x y v u Q I rx ry ⟨i, j, r1, r2, hz, f'.pure k rfl⟩
    · have e : sem2 (.add m) (.str i) (.str j) hp = none := if_neg hz
      rw [e] at f; exact f.absurd
  by_cases ht : (∃ i, d = .tup i) ∧ ∃ j, e = .tup j
  · obtain ⟨⟨xs, rfl⟩, ys, rfl⟩ := ht
    obtain ⟨a, vs, e1, h1, z1, g1⟩ := id r1
    obtain ⟨b, ws, e2, h2, z2, g2⟩ := id r2
    by_cases hz : xs.length + ys.length ≤ sizeLine
    · have f' : Fin X.K H L Xg (some (.tup (xs ++ ys), hp)) Q := by
        have e : sem2 (.add m) (.tup xs) (.tup ys) hp = some (.tup (xs ++ ys), hp) := if_pos hz
        rw [e] at f; exact f
      have hz' : vs.length + ws.length ≤ sizeLine := by rw [g1.len, g2.len]; exact hz
      refine op_catA pins s σ H x y v u Q I rx ry ⟨a, b, vs, ws, e1, e2, h1, h2, hz', fun q => ?_, fun _ q => ?_, fun _ _ => f'.tup k (g1.app g2) (by rw [List.length_append]; exact hz')⟩
      · subst q
        refine f'.pure k ?_
        have : xs = [] := by have := g1.len; simpa using this.symm
        rw [this, List.nil_append, ← e2]
        exact r2
      · subst q
        refine f'.pure k ?_
        have : ys = [] := by have := g2.len; simpa using this.symm
        rw [this, List.append_nil, ← e1]
        exact r1
    · have e : sem2 (.add m) (.tup xs) (.tup ys) hp = none := if_neg hz
      rw [e] at f; exact f.absurd
  · have e' : sem2 (.add m) d e hp = (match lst0 hp d, lst0 hp e with | some xs, some ys => if xs.length + ys.length ≤ sizeLine then some (mkL m (xs ++ ys) hp) else none | _, _ => none) := by
      cases d <;> cases e <;> first | rfl | (exfalso; first | exact hi ⟨⟨_, rfl⟩, _, rfl⟩ | exact hs ⟨⟨_, rfl⟩, _, rfl⟩ | exact ht ⟨⟨_, rfl⟩, _, rfl⟩)
    rw [e'] at f
    exact op_cat pins s σ H x y v u Q I rx ry (cat_fin k r1 r2 f)
theorem op_subD : OpR X (binaryOp .Sub) (RD2 X.K (sem2 .sub)) := by
  intro pins s σ H x y v u Q I rx ry ⟨L, Xg, hp, d, e, k, r1, r2, f⟩
  by_cases hi : (∃ i, d = .int i) ∧ ∃ j, e = .int j
  · obtain ⟨⟨i, rfl⟩, j, rfl⟩ := hi
    exact op_sub pins s σ H x y v u Q I rx ry ⟨i, j, r1, r2, Fin.pure f k rfl⟩
  · have e' : sem2 .sub d e hp = none := by cases d <;> cases e <;> first | rfl | (exfalso; exact hi ⟨⟨_, rfl⟩, _, rfl⟩)
    rw [e'] at f; exact f.absurd
theorem big_mul {i j : Int} (h1 : i.natAbs < BIG) (h2 : j.natAbs < BIG) : CMulW i j := by
  have key : ∀ a : Nat, BIG = 2 ^ a → 0 < a → a + a ≤ 1000000 → CMulW i j := fun a e h0 h => wide_mul (by rw [← e]; exact h1) (by rw [← e]; exact h2) h0 h0 h
  exact key 400000 BIG_eq (by decide) (by decide)
theorem big_div {i j : Int} (h1 : 0 < j) (h2 : j.natAbs < BIGD) : CDivW i j := by
  have key : ∀ a : Nat, BIGD = 2 ^ a → 0 < a → a ≤ 9000 → CDivW i j := fun a e h0 h => wide_div h1 (by rw [← e]; exact h2) h0 h
  exact key 8000 BIGD_eq (by decide) (by decide)
theorem op_mulD {m : Bool} : OpR X (binaryOp .Mult) (RD2 X.K (sem2 (.mul m))) := by
  intro pins s σ H x y v u Q I rx ry ⟨L, Xg, hp, d, e, k, r1, r2, f⟩
  by_cases hi : (∃ i, d = .int i) ∧ ∃ j, e = .int j
  · obtain ⟨⟨i, rfl⟩, j, rfl⟩ := hi
    by_cases hz : i.natAbs < BIG ∧ j.natAbs < BIG
    · have e : sem2 (.mul m) (.int i) (.int j) hp = some (.int (i * j), hp) := if_pos hz
      rw [e] at f
      exact op_mulW pins s σ H x y v u Q I rx ry ⟨i, j, r1, r2, big_mul hz.1 hz.2, f.pure k rfl⟩
    · have e : sem2 (.mul m) (.int i) (.int j) hp = none := if_neg hz
      rw [e] at f; exact f.absurd
  by_cases ht : (∃ xs, d = .tup xs) ∧ ∃ j, e = .int j
  · obtain ⟨⟨xs, rfl⟩, j, rfl⟩ := ht
    have e' : sem2 (.mul m) (.tup xs) (.int j) hp = if xs.isEmpty = false ∧ 0 ≤ j ∧ j ≤ 1000 ∧ xs.length ≤ 1000 ∧ xs.length * j.toNat ≤ sizeLine then some (.tup (List.replicate j.toNat xs).flatten, hp) else none := rfl
    rw [e'] at f
    by_cases hz : xs.isEmpty = false ∧ 0 ≤ j ∧ j ≤ 1000 ∧ xs.length ≤ 1000 ∧ xs.length * j.toNat ≤ sizeLine
    · rw [if_pos hz] at f
      obtain ⟨a, vs, e1, h1, z1, g1⟩ := id r1
      have hvs : vs ≠ [] := fun z => by
        subst z
        have := g1.len
        cases xs with
        | nil => simp at hz
        | cons _ _ => simp at this
      by_cases j1 : j = 1
      · subst j1
        have e2 : (List.replicate (1 : Int).toNat xs).flatten = xs := by simp
        rw [e2] at f
        exact op_rep01 pins s σ H x y v u Q I rx ry ⟨a, 1, vs, e1, r2, h1, hvs, .inl ⟨rfl, by rw [← e1]; exact f.pure k r1⟩⟩
      by_cases j0 : j = 0
      · subst j0
        have e2 : (List.replicate (0 : Int).toNat xs).flatten = [] := by simp
        rw [e2] at f
        exact op_rep01 pins s σ H x y v u Q I rx ry ⟨a, 0, vs, e1, r2, h1, hvs, .inr ⟨rfl, fun p hn => f.tup k rfl (Nat.zero_le _) p hn⟩⟩
      refine op_repT pins s σ H x y v u Q I rx ry ⟨a, j, vs, e1, r2, h1, hvs, by omega, hz.2.2.1, by rw [g1.len]; exact hz.2.2.2.1, fun p hn => ?_⟩
      · have hl : (List.replicate j.toNat vs).flatten.length ≤ sizeLine := by
          rw [List.length_flatten, List.map_replicate, List.sum_replicate_nat, g1.len, Nat.mul_comm]
          exact hz.2.2.2.2
        exact f.tup k (g1.flat _) hl p hn
    · rw [if_neg hz] at f; exact f.absurd
  by_cases hj : ∃ j, e = .int j
  · obtain ⟨j, rfl⟩ := hj
    have e' : sem2 (.mul m) d (.int j) hp = (match lst0 hp d with
        | some xs => if -(2 ^ 63) ≤ j ∧ j < 2 ^ 63 ∧ xs.length * j.toNat ≤ sizeLine then some (mkL m (List.replicate j.toNat xs).flatten hp) else none
        | none => none) := by
      cases d <;> first | rfl | (exfalso; exact hi ⟨⟨_, rfl⟩, _, rfl⟩) | (exfalso; exact ht ⟨⟨_, rfl⟩, _, rfl⟩)
    rw [e'] at f
    cases q1 : lst0 hp d with
    | none => rw [q1] at f; exact f.absurd
    | some xs =>
      rw [q1] at f
      obtain ⟨a, vs, e1, h1, z1, g1⟩ := seq_lst0 k r1 q1
      by_cases hz : -(2 ^ 63) ≤ j ∧ j < 2 ^ 63 ∧ xs.length * j.toNat ≤ sizeLine
      · simp only [hz, and_self, if_true] at f
        refine op_rep pins s σ H x y v u Q I rx ry ⟨a, j, vs, e1, r2, h1, hz.1, hz.2.1, by rw [g1.len]; exact hz.2.2, f.mkL k (g1.flat _) ?_⟩
        rw [List.length_flatten, List.map_replicate, List.sum_replicate_nat, g1.len, Nat.mul_comm]
        exact hz.2.2
      · simp only [hz, if_false] at f
        exact f.absurd
  · have e' : sem2 (.mul m) d e hp = none := by cases d <;> cases e <;> first | rfl | (exfalso; exact hj ⟨_, rfl⟩)
    rw [e'] at f; exact f.absurd
theorem op_fdivD : OpR X (binaryOp .FloorDiv) (RD2 X.K (sem2 .fdiv)) := by
  intro pins s σ H x y v u Q I rx ry ⟨L, Xg, hp, d, e, k, r1, r2, f⟩
  by_cases hi : (∃ i, d = .int i) ∧ ∃ j, e = .int j
  · obtain ⟨⟨i, rfl⟩, j, rfl⟩ := hi
    by_cases hz : 0 < j ∧ j.natAbs < BIGD
    · have e : sem2 .fdiv (.int i) (.int j) hp = some (.int (i / j), hp) := if_pos hz
      rw [e] at f
      exact op_fdivW pins s σ H x y v u Q I rx ry ⟨i, j, r1, r2, big_div hz.1 hz.2, f.pure k rfl⟩
    · have e : sem2 .fdiv (.int i) (.int j) hp = none := if_neg hz
      rw [e] at f; exact f.absurd
  · have e' : sem2 .fdiv d e hp = none := by cases d <;> cases e <;> first | rfl | (exfalso; exact hi ⟨⟨_, rfl⟩, _, rfl⟩)
    rw [e'] at f; exact f.absurd
theorem op_modD : OpR X (binaryOp .Mod) (RD2 X.K (sem2 .mod)) := by
  intro pins s σ H x y v u Q I rx ry ⟨L, Xg, hp, d, e, k, r1, r2, f⟩
  by_cases hi : (∃ i, d = .int i) ∧ ∃ j, e = .int j
  · obtain ⟨⟨i, rfl⟩, j, rfl⟩ := hi
    by_cases hz : 0 < j
    · have e : sem2 .mod (.int i) (.int j) hp = some (.int (i % j), hp) := if_pos hz
      rw [e] at f
      exact op_mod pins s σ H x y v u Q I rx ry ⟨i, j, r1, r2, hz, f.pure k rfl⟩
    · have e : sem2 .mod (.int i) (.int j) hp = none := if_neg hz
      rw [e] at f; exact f.absurd
  · have e' : sem2 .mod d e hp = none := by cases d <;> cases e <;> first | rfl | (exfalso; exact hi ⟨⟨_, rfl⟩, _, rfl⟩)
    rw [e'] at f; exact f.absurd
theorem op_powD : OpR X (binaryOp .Pow) (RD2 X.K (sem2 .pow)) := by
  intro pins s σ H x y v u Q I rx ry ⟨L, Xg, hp, d, e, k, r1, r2, f⟩
  by_cases hi : (∃ i, d = .int i) ∧ ∃ j, e = .int j
  · obtain ⟨⟨i, rfl⟩, j, rfl⟩ := hi
    by_cases hz : 0 ≤ j ∧ j ≤ 1000000 ∧ i.natAbs < 2 ^ 64
    · have e : sem2 .pow (.int i) (.int j) hp = some (.int (i ^ j.toNat), hp) := if_pos hz
      rw [e] at f
      exact op_pow pins s σ H x y v u Q I rx ry ⟨i, j, r1, r2, hz, f.pure k rfl⟩
    · have e : sem2 .pow (.int i) (.int j) hp = none := if_neg hz
      rw [e] at f; exact f.absurd
  · have e' : sem2 .pow d e hp = none := by cases d <;> cases e <;> first | rfl | (exfalso; exact hi ⟨⟨_, rfl⟩, _, rfl⟩)
    rw [e'] at f; exact f.absurd
theorem op_bin {o : Op2} {op : Operator} (h : binOf o = some op) : OpR X (binaryOp op) (RD2 X.K (sem2 o)) := by
  cases o <;> first | cases h | skip
  · exact op_addD
  · exact op_subD
  · exact op_mulD
  · exact op_fdivD
  · exact op_modD
  · exact op_powD
/-! comparisons -/
theorem scal_of {d e : D} {x y : V} {r : Bool} (r1 : Rep X.K H L Xg d x) (r2 : Rep X.K H L Xg e y) (h : scalD d e = some r) : scal x y = true ∧ decide (x = y) = r := by
  cases d <;> cases e <;> first | (simp only [scalD] at h; cases h; done) | skip
  all_goals (simp only [scalD, Option.some.injEq] at h; subst h)
  all_goals (first | (rw [show x = _ from r1, show y = _ from r2]) | skip)
  all_goals simp [scal]
theorem eqD_cases {d e : D} {x y : V} {r : Bool} (k : HOK X.K H L Xg hp) (r1 : Rep X.K H L Xg d x) (r2 : Rep X.K H L Xg e y) (h : eqD hp d e = some r) :
    (scal x y = true ∧ decide (x = y) = r) ∨ ∃ p q, Dp X.K H x p ∧ Dp X.K H y q ∧ SeqAt.shaped p = true ∧ SeqAt.shaped q = true ∧ PyData.eqv p q = r := by
  unfold eqD at h
  cases q : scalD d e with
  | some b => rw [q] at h; cases h; exact .inl (scal_of r1 r2 q)
  | none =>
    rw [q] at h
    cases q1 : pyD hp d with
    | none => rw [q1] at h; cases h
    | some p1 =>
      cases q2 : pyD hp e with
      | none => rw [q1, q2] at h; cases h
      | some p2 =>
        rw [q1, q2] at h
        by_cases hz : SeqAt.shaped p1 = true ∧ SeqAt.shaped p2 = true
        · simp only [hz, and_self, if_true] at h
          cases h
          exact .inr ⟨p1, p2, dp_py k r1 q1, dp_py k r2 q2, hz.1, hz.2, rfl⟩
        · simp only [hz, if_false] at h
          cases h
theorem op_eqq (hu : X.A.units + 64 < cLine) : OpR X (compareOp .Eq) (RD2 X.K (sem2 .eq)) := by
  intro pins s σ H x y v u Q I rx ry ⟨L, Xg, hp, d, e, k, r1, r2, f⟩
  cases q : eqD hp d e with
  | none =>
    have e' : sem2 .eq d e hp = none := by show (eqD hp d e).map _ = none; rw [q]; rfl
    rw [e'] at f; exact f.absurd
  | some r =>
    have e' : sem2 .eq d e hp = some (.bl r, hp) := by show (eqD hp d e).map _ = _; rw [q]; rfl
    rw [e'] at f
    rcases eqD_cases k r1 r2 q with ⟨h1, h2⟩ | ⟨p, p', h1, h2, h3, h4, h5⟩
    · exact op_eq pins s σ H x y v u Q I rx ry ⟨h1, by rw [h2]; exact f.pure k rfl⟩
    · exact op_eqD hu pins s σ H x y v u Q I rx ry ⟨p, p', h1, h2, h3, h4, by rw [h5]; exact f.pure k rfl⟩
theorem op_neq (hu : X.A.units + 64 < cLine) : OpR X (compareOp .NotEq) (RD2 X.K (sem2 .ne)) := by
  intro pins s σ H x y v u Q I rx ry ⟨L, Xg, hp, d, e, k, r1, r2, f⟩
  cases q : eqD hp d e with
  | none =>
    have e' : sem2 .ne d e hp = none := by show (eqD hp d e).map _ = none; rw [q]; rfl
    rw [e'] at f; exact f.absurd
  | some r =>
    have e' : sem2 .ne d e hp = some (.bl (!r), hp) := by show (eqD hp d e).map _ = _; rw [q]; rfl
    rw [e'] at f
    rcases eqD_cases k r1 r2 q with ⟨h1, h2⟩ | ⟨p, p', h1, h2, h3, h4, h5⟩
    · exact op_ne pins s σ H x y v u Q I rx ry ⟨h1, by rw [h2]; exact f.pure k rfl⟩
    · exact op_neD hu pins s σ H x y v u Q I rx ry ⟨p, p', h1, h2, h3, h4, by rw [h5]; exact f.pure k rfl⟩
theorem flat_of {d : D} {x : V} (r : Rep X.K H L Xg d x) (h : flatD d = true) : flatV x = true := by
  cases d <;> first | (simp [flatD] at h; done) | (rw [show x = _ from r]; rfl)
theorem flats_of : ∀ {ds : List D} {xs : List V}, Reps X.K H L Xg ds xs → ds.all flatD = true → xs.all flatV = true
  | [], xs, r, _ => by rw [show xs = [] from r]; rfl
  | d :: ds, xs, ⟨v, vs, e, r1, r2⟩, h => by
    rw [e]
    simp only [List.all_cons, Bool.and_eq_true] at h ⊢
    exact ⟨flat_of r1 h.1, flats_of r2 h.2⟩
theorem eqF_of {d e : D} {x y : V} (r1 : Rep X.K H L Xg d x) (r2 : Rep X.K H L Xg e y) (h1 : flatD d = true) (h2 : flatD e = true) : eqV x y = eqF d e := by
  cases d <;> first | (simp [flatD] at h1; done) | skip
  all_goals (cases e <;> first | (simp [flatD] at h2; done) | skip)
  all_goals (rw [show x = _ from r1, show y = _ from r2]; rfl)
theorem inF_of {d : D} {x : V} (r : Rep X.K H L Xg d x) (h : flatD d = true) : ∀ {ds : List D} {xs : List V}, Reps X.K H L Xg ds xs → ds.all flatD = true → inV x xs = inF d ds
  | [], xs, r, _ => by rw [show xs = [] from r]; rfl
  | c :: ds, xs, ⟨v, vs, e, r1, r2⟩, g => by
    rw [e]
    simp only [List.all_cons, Bool.and_eq_true] at g
    have := inF_of r h r2 g.2
    unfold inV inF at *
    rw [List.any_cons, List.any_cons, this, eqF_of r1 r g.1 h]
theorem in_fin {neg : Bool} {d e : D} {x y : V} {Q : VK} (k : HOK X.K H L Xg hp) (r1 : Rep X.K H L Xg d x) (r2 : Rep X.K H L Xg e y)
    (f : Fin X.K H L Xg (match seqOf hp e with | some xs => if flatD d = true ∧ xs.all flatD = true then some (.bl (if neg then !inF d xs else inF d xs), hp) else none | none => none) Q) : rIn X.K neg x y H Q := by
  cases q : seqOf hp e with
  | none => rw [q] at f; exact f.absurd
  | some xs =>
    rw [q] at f
    obtain ⟨a, vs, e1, h1, z1, g1⟩ := seq_any k r2 q
    by_cases hz : flatD d = true ∧ xs.all flatD = true
    · simp only [hz, and_self, if_true] at f
      exact ⟨a, vs, e1, h1, flat_of r1 hz.1, flats_of g1 hz.2, by rw [inF_of r1 hz.1 g1 hz.2]; exact f.pure k rfl⟩
    · simp only [hz, if_false] at f
      exact f.absurd
theorem op_innD : OpR X (compareOp .In) (RD2 X.K (sem2 .inn)) := by
  intro pins s σ H x y v u Q I rx ry ⟨L, Xg, hp, d, e, k, r1, r2, f⟩
  refine op_in_seq pins s σ H x y v u Q I rx ry (in_fin (neg := false) k r1 r2 ?_)
  have e' : sem2 .inn d e hp = (match seqOf hp e with | some xs => if flatD d = true ∧ xs.all flatD = true then some (.bl (inF d xs), hp) else none | none => none) := by cases d <;> cases e <;> rfl
  rw [e'] at f
  exact f
theorem op_ninD : OpR X (compareOp .NotIn) (RD2 X.K (sem2 .nin)) := by
  intro pins s σ H x y v u Q I rx ry ⟨L, Xg, hp, d, e, k, r1, r2, f⟩
  refine op_notIn_seq pins s σ H x y v u Q I rx ry (in_fin (neg := true) k r1 r2 ?_)
  have e' : sem2 .nin d e hp = (match seqOf hp e with | some xs => if flatD d = true ∧ xs.all flatD = true then some (.bl (!inF d xs), hp) else none | none => none) := by cases d <;> cases e <;> rfl
  rw [e'] at f
  exact f
theorem op_cmpI {o : Op2} {op : CmpOp} {p : Int → Int → Bool} (h : OpR X (compareOp op) (rI0 fun i j => .bl (p i j))) (hs : ∀ d e hp, sem2 o d e hp = (match d, e with | .int i, .int j => some (.bl (p i j), hp) | _, _ => none)) : OpR X (compareOp op) (RD2 X.K (sem2 o)) := by
  intro pins s σ H x y v u Q I rx ry ⟨L, Xg, hp, d, e, k, r1, r2, f⟩
  rw [hs] at f
  by_cases hi : (∃ i, d = .int i) ∧ ∃ j, e = .int j
  · obtain ⟨⟨i, rfl⟩, j, rfl⟩ := hi
    exact h pins s σ H x y v u Q I rx ry ⟨i, j, r1, r2, Fin.pure f k rfl⟩
  · cases d <;> cases e <;> first | exact f.absurd | (exfalso; exact hi ⟨⟨_, rfl⟩, _, rfl⟩)
theorem sign_of {s : Str} {c : Nat} (h : s.cps.toList = [c]) : s = ⟨#[c]⟩ := by
  obtain ⟨a⟩ := s
  obtain ⟨l⟩ := a
  simp only at h
  subst h
  rfl
theorem op_inxD : OpR X (compareOp .In) (RD2 X.K (sem2 .inx)) := by
  intro pins s σ H x y v u Q I rx ry ⟨L, Xg, hp, d, e, k, r1, r2, f⟩
  cases d <;> cases e <;> first | exact f.absurd | skip
  rename_i s1 z
  simp only [sem2] at f
  cases q : s1.cps.toList with
  | nil => rw [q] at f; exact f.absurd
  | cons c cs =>
    cases cs with
    | cons _ _ => rw [q] at f; exact f.absurd
    | nil =>
      rw [q] at f
      have := sign_of q
      subst this
      exact op_in_sign pins s σ H x y v u Q I rx ry ⟨c, z, r1, r2, Fin.pure f k rfl⟩
theorem op_ninxD : OpR X (compareOp .NotIn) (RD2 X.K (sem2 .ninx)) := by
  intro pins s σ H x y v u Q I rx ry ⟨L, Xg, hp, d, e, k, r1, r2, f⟩
  cases d <;> cases e <;> first | exact f.absurd | skip
  rename_i s1 z
  simp only [sem2] at f
  cases q : s1.cps.toList with
  | nil => rw [q] at f; exact f.absurd
  | cons c cs =>
    cases cs with
    | cons _ _ => rw [q] at f; exact f.absurd
    | nil =>
      rw [q] at f
      have := sign_of q
      subst this
      exact op_notIn_sign pins s σ H x y v u Q I rx ry ⟨c, z, r1, r2, Fin.pure f k rfl⟩
theorem empE_cases {o : Op2} {g : Bool → Bool} (ho : ∀ a b hp, sem2 o a b hp = match lst0 hp a, lst0 hp b with | some xs, some [] => some (.bl (g xs.isEmpty), hp) | _, _ => none) {pins : List (Addr × Obj)} {σ : L2.St} {s : Shared} {H : Hp} {L Xg : List Addr} {hp : HpI} {d e : D} {x y : V} {v u : Value} {Q : VK}
    (I : L2.Inv X pins σ H s) (rx : RelV x v) (ry : RelV y u) (k : HOK X.K H L Xg hp) (r1 : Rep X.K H L Xg d x) (r2 : Rep X.K H L Xg e y) (f : Fin X.K H L Xg (sem2 o d e hp) Q) :
    ∃ a b its, v = .ref a ∧ u = .ref b ∧ s.heap.IsList a its ∧ s.heap.IsList b #[] ∧ Q (.bl (g (its.size == 0))) H := by
  rw [ho] at f
  cases q1 : lst0 hp d with
  | none => rw [q1] at f; exact f.absurd
  | some xs =>
    cases q2 : lst0 hp e with
    | none => rw [q1, q2] at f; exact f.absurd
    | some ys =>
      cases ys with
      | cons _ _ => rw [q1, q2] at f; exact f.absurd
      | nil =>
        rw [q1, q2] at f
        obtain ⟨a, vs, e1, h1, z1, g1⟩ := seq_lst0 k r1 q1
        obtain ⟨b, ws, e2, h2, z2, g2⟩ := seq_lst0 k r2 q2
        subst e1 e2
        cases rx
        cases ry
        obtain ⟨its, rv, pl, _⟩ := I.list (SqL.of h1)
        obtain ⟨its2, rv2, pl2, _⟩ := I.list (SqL.of h2)
        have hw : ws = [] := g2
        subst hw
        cases rv2
        refine ⟨a, b, its.toArray, rfl, rfl, pl.isList, pl2.isList, ?_⟩
        have e3 : (its.toArray.size == 0) = xs.isEmpty := by
          have := rv.length
          rw [List.size_toArray, ← this, g1.len]
          cases xs <;> rfl
        rw [e3]
        exact f.pure k rfl
theorem op_eqE (hu : X.A.units + 64 < cLine) : OpR X (compareOp .Eq) (RD2 X.K (sem2 .eqE)) := by
  intro pins s σ H x y v u Q I rx ry ⟨L, Xg, hp, d, e, k, r1, r2, f⟩
  obtain ⟨a, b, its, rfl, rfl, h1, h2, q⟩ := empE_cases (g := fun b => b) (fun a b hp => by cases a <;> cases b <;> rfl) I rx ry k r1 r2 f
  have key : PySem.SeqAt.RcAt X.A s (.ref a) (.ref b) (its.size == 0) := by
    by_cases z : its.size = 0
    · have e := PySem.SeqAt.RcAt.lists (A := X.A) (e := fun _ => true) h1 h2 (by rw [z]; rfl) (by omega) (fun j h _ => absurd h (by omega))
      rw [z] at e ⊢
      exact e
    · have e := PySem.SeqAt.RcAt.lists_lengths (A := X.A) h1 h2 (by simpa using z) (by omega)
      have e2 : (its.size == 0) = false := by simpa using z
      rw [e2]
      exact e
  exact key X.prog X.w _ _ ⟨.bl _, H, I, rfl, q⟩
theorem op_neE (hu : X.A.units + 64 < cLine) : OpR X (compareOp .NotEq) (RD2 X.K (sem2 .neE)) := by
  intro pins s σ H x y v u Q I rx ry ⟨L, Xg, hp, d, e, k, r1, r2, f⟩
  obtain ⟨a, b, its, rfl, rfl, h1, h2, q⟩ := empE_cases (g := fun b => !b) (fun a b hp => by cases a <;> cases b <;> rfl) I rx ry k r1 r2 f
  have key : PySem.SeqAt.RcNeAt X.A s (.ref a) (.ref b) (!(its.size == 0)) := by
    by_cases z : its.size = 0
    · have e := PySem.SeqAt.RcNeAt.lists (A := X.A) (e := fun _ => true) h1 h2 (by rw [z]; rfl) (by omega) (fun j h _ => absurd h (by omega))
      rw [z] at e ⊢
      exact e
    · have e := PySem.SeqAt.RcNeAt.lists_lengths (A := X.A) h1 h2 (by simpa using z) (by omega)
      have e2 : (its.size == 0) = false := by simpa using z
      rw [e2]
      exact e
  exact key X.prog X.w _ _ ⟨.bl _, H, I, rfl, q⟩
theorem anyP_cases {pins : List (Addr × Obj)} {σ : L2.St} {s : Shared} {H : Hp} {L Xg : List Addr} {hp : HpI} {d e : D} {x y : V} {v u : Value} {r : Bool} (hu : X.A.units + 64 < cLine)
    (I : L2.Inv X pins σ H s) (rx : RelV x v) (ry : RelV y u) (k : HOK X.K H L Xg hp) (r1 : Rep X.K H L Xg d x) (r2 : Rep X.K H L Xg e y) (h : anyP hp d e = some r) :
    (∀ Q : Value → Shared → Prop, Q (.bool r) s → wpAny (model X.prog X.w) X.A (compareOp .In v u) Q X.xe s) ∧ (∀ Q : Value → Shared → Prop, Q (.bool (!r)) s → wpAny (model X.prog X.w) X.A (compareOp .NotIn v u) Q X.xe s) := by
  unfold anyP at h
  cases q1 : pyD hp d with
  | none => rw [q1] at h; cases h
  | some p1 =>
    cases q2 : pyD hp e with
    | none => rw [q1, q2] at h; cases h
    | some p2 =>
      rw [q1, q2] at h
      obtain ⟨as, rd1⟩ := Dp.reads I p1 x v (dp_py k r1 q1) rx
      obtain ⟨bs, rd2⟩ := Dp.reads I p2 y u (dp_py k r2 q2) ry
      cases p2 with
      | list ys =>
        simp only at h
        by_cases hz : SeqAt.shaped p1 = true ∧ p1.depth ≤ 63 ∧ SeqAt.shaped (.list ys) = true
        · rw [if_pos hz] at h
          cases h
          have hroom : X.A.units + 1 + min (PyData.depthAll ys) p1.depth < cLine := by
            have := Nat.min_le_right (PyData.depthAll ys) p1.depth
            have := hz.2.1
            omega
          exact ⟨fun Q q => SeqAt.in_list_reads rd2 rd1 (SeqAt.canLay_of_shaped hz.2.2) (SeqAt.canLay_of_shaped hz.1) hroom q, fun Q q => SeqAt.notIn_list_reads rd2 rd1 (SeqAt.canLay_of_shaped hz.2.2) (SeqAt.canLay_of_shaped hz.1) hroom q⟩
        · rw [if_neg hz] at h; cases h
      | tuple ys =>
        simp only at h
        by_cases hz : SeqAt.shaped p1 = true ∧ p1.depth ≤ 63 ∧ SeqAt.shaped (.tuple ys) = true
        · rw [if_pos hz] at h
          cases h
          have hroom : X.A.units + 1 + min (PyData.depthAll ys) p1.depth < cLine := by
            have := Nat.min_le_right (PyData.depthAll ys) p1.depth
            have := hz.2.1
            omega
          exact ⟨fun Q q => SeqAt.in_tuple_reads rd2 rd1 (SeqAt.canLay_of_shaped hz.2.2) (SeqAt.canLay_of_shaped hz.1) hroom q, fun Q q => SeqAt.notIn_tuple_reads rd2 rd1 (SeqAt.canLay_of_shaped hz.2.2) (SeqAt.canLay_of_shaped hz.1) hroom q⟩
        · rw [if_neg hz] at h; cases h
      | _ => cases h
theorem op_inDD (hu : X.A.units + 64 < cLine) : OpR X (compareOp .In) (RD2 X.K (sem2 .inD)) := by
  intro pins s σ H x y v u Q I rx ry ⟨L, Xg, hp, d, e, k, r1, r2, f⟩
  have e' : sem2 .inD d e hp = (anyP hp d e).map fun r => (.bl r, hp) := by cases d <;> cases e <;> rfl
  rw [e'] at f
  cases q : anyP hp d e with
  | none => rw [q] at f; exact f.absurd
  | some r =>
    rw [q] at f
    exact (anyP_cases hu I rx ry k r1 r2 q).1 _ ⟨.bl _, H, I, rfl, f.pure k rfl⟩
theorem op_ninDD (hu : X.A.units + 64 < cLine) : OpR X (compareOp .NotIn) (RD2 X.K (sem2 .ninD)) := by
  intro pins s σ H x y v u Q I rx ry ⟨L, Xg, hp, d, e, k, r1, r2, f⟩
  have e' : sem2 .ninD d e hp = (anyP hp d e).map fun r => (.bl (!r), hp) := by cases d <;> cases e <;> rfl
  rw [e'] at f
  cases q : anyP hp d e with
  | none => rw [q] at f; exact f.absurd
  | some r =>
    rw [q] at f
    exact (anyP_cases hu I rx ry k r1 r2 q).2 _ ⟨.bl _, H, I, rfl, f.pure k rfl⟩
theorem op_cmpD (hu : X.A.units + 64 < cLine) {o : Op2} {op : CmpOp} (h : cmpOf o = some op) : OpR X (compareOp op) (RD2 X.K (sem2 o)) := by
  cases o <;> first | cases h | skip
  · exact op_eqq hu
  · exact op_neq hu
  · exact op_cmpI op_lt (fun d e hp => by cases d <;> cases e <;> rfl)
  · exact op_cmpI op_le (fun d e hp => by cases d <;> cases e <;> rfl)
  · exact op_cmpI op_gt (fun d e hp => by cases d <;> cases e <;> rfl)
  · exact op_cmpI op_ge (fun d e hp => by cases d <;> cases e <;> rfl)
  · exact op_innD
  · exact op_ninD
  · exact op_inxD
  · exact op_ninxD
  · exact op_eqE hu
  · exact op_neE hu
  · exact op_inDD hu
  · exact op_ninDD hu
/-! subscripts, slices -/
theorem atI_rep {ds : List D} {vs : List V} {i : Int} {d : D} (r : Reps X.K H L Xg ds vs) (e : atI ds i = some d) : ∃ v, atI vs i = some v ∧ Rep X.K H L Xg d v := by
  unfold atI at e ⊢
  rw [r.len]
  cases q : ixN ds.length i with
  | none => rw [q] at e; cases e
  | some j => rw [q] at e; exact r.get e
theorem ix_D : IxR X (RD2 X.K (sem2 .ix)) := by
  intro value slice pins s σ H x y v u Q I rx ry ⟨L, Xg, hp, d, e, k, r1, r2, f⟩ hs
  by_cases hj : ∃ j, e = .int j
  · obtain ⟨i, rfl⟩ := hj
    by_cases hz : ∃ z, d = .str z
    · obtain ⟨z, rfl⟩ := hz
      by_cases hz : z.length ≤ sizeLine
      · have e' : sem2 .ix (.str z) (.int i) hp = (atI z.cps.toList i).map fun c => (.str ⟨#[c]⟩, hp) := if_pos hz
        rw [e'] at f
        cases q : atI z.cps.toList i with
        | none => rw [q] at f; exact f.absurd
        | some c =>
          rw [q] at f
          exact ix_seq value slice pins s σ H x y v u Q I rx ry (.inr (.inr ⟨z, i, c, r1, r2, hz, q, f.pure k rfl⟩)) hs
      · have e' : sem2 .ix (.str z) (.int i) hp = none := if_neg hz
        rw [e'] at f; exact f.absurd
    have e' : sem2 .ix d (.int i) hp = (match seqOf hp d with | some xs => (atI xs i).map fun d => (d, hp) | none => none) := by cases d <;> first | rfl | exact absurd ⟨_, rfl⟩ hz
    rw [e'] at f
    cases q : seqOf hp d with
    | none => rw [q] at f; exact f.absurd
    | some xs =>
      rw [q] at f
      obtain ⟨a, vs, e1, h1, z1, g1⟩ := seq_any k r1 q
      cases q2 : atI xs i with
      | none => simp only [q2] at f; exact f.absurd
      | some c =>
        simp only [q2] at f
        obtain ⟨w, hw, rw'⟩ := atI_rep g1 q2
        refine ix_seq value slice pins s σ H x y v u Q I rx ry ?_ hs
        rcases h1 with h1 | h1
        · exact .inl ⟨a, vs, i, w, e1, r2, h1, hw, Fin.pure f k rw'⟩
        · exact .inr (.inl ⟨a, vs, i, w, e1, r2, h1, hw, Fin.pure f k rw'⟩)
  · have e' : sem2 .ix d e hp = none := by cases d <;> cases e <;> first | rfl | (exfalso; exact hj ⟨_, rfl⟩)
    rw [e'] at f; exact f.absurd
def RDs (K : PySem.W.Frag) (m : Bool) : V → Option Int → Option Int → Hp → VK → Prop := fun x lo hi H Q => ∃ L X hp d, HOK K H L X hp ∧ Rep K H L X d x ∧ Fin K H L X (semSl m d lo hi hp) Q
theorem cut_rep {ds : List D} {vs : List V} {lo hi : Option Int} (r : Reps X.K H L Xg ds vs) : Reps X.K H L Xg (cutD ds lo hi) (cutV vs lo hi) := by
  unfold cutD cutV
  rw [r.len]
  exact (r.drop _).take _
theorem sl_D {m : Bool} : SlR X (RDs X.K m) := by
  intro pins s σ H x v vl vu lo hi sl Q I rx hs pl pu ⟨L, Xg, hp, d, k, r1, f⟩
  by_cases ht : ∃ xs, d = .tup xs
  · obtain ⟨xs, rfl⟩ := ht
    obtain ⟨a, vs, e1, h1, z1, g1⟩ := id r1
    have f' : Fin X.K H L Xg (some (.tup (cutD xs lo hi), hp)) Q := f
    have hc := cut_rep (lo := lo) (hi := hi) g1
    refine sl_tupA pins s σ H x v vl vu lo hi sl Q I rx hs pl pu ⟨a, vs, e1, h1, fun hw => ?_, fun _ => f'.tup k hc (Nat.le_trans (cutV_length _ _ _) z1)⟩
    refine f'.pure k ?_
    have : cutD xs lo hi = xs := by
      unfold cutD
      rw [← g1.len, hw.1, hw.2, List.drop_zero, Nat.sub_zero, g1.len, List.take_length]
    rw [this, ← e1]
    exact r1
  · by_cases hz : ∃ z, d = .str z
    · obtain ⟨z, rfl⟩ := hz
      by_cases hz : z.length ≤ sizeLine
      · have e' : semSl m (.str z) lo hi hp = some (.str (cutS z lo hi), hp) := if_pos hz
        rw [e'] at f
        exact sl_str pins s σ H x v vl vu lo hi sl Q I rx hs pl pu ⟨z, r1, hz, f.pure k rfl⟩
      · have e' : semSl m (.str z) lo hi hp = none := if_neg hz
        rw [e'] at f; exact f.absurd
    have e' : semSl m d lo hi hp = (match lst0 hp d with | some xs => some (mkL m (cutD xs lo hi) hp) | none => none) := by cases d <;> first | rfl | (exfalso; exact ht ⟨_, rfl⟩) | (exfalso; exact hz ⟨_, rfl⟩)
    rw [e'] at f
    cases q : lst0 hp d with
    | none => rw [q] at f; exact f.absurd
    | some xs =>
      rw [q] at f
      obtain ⟨a, vs, e1, h1, z1, g1⟩ := seq_lst0 k r1 q
      exact sl_list pins s σ H x v vl vu lo hi sl Q I rx hs pl pu ⟨a, vs, e1, SqL.of h1, f.mkL k (cut_rep g1) (Nat.le_trans (cutV_length _ _ _) z1)⟩
end
end KI

/-! enumerate(tuple) -/
namespace PySem
open Sem (wp)
theorem ki_meets_enum {v : Value} {o : Obj} {H : Heap → Prop} (B : Begins v o H) :
    Meets (Builtin.«enumerate.__new__» ⟨[.type "enumerate", v], []⟩) (fun _ R s => H s.heap ∧
      R (.ok (.ret (.ref (s.heap.push o).objs.size))) { s with heap := (s.heap.push o).push { cls := .type "enumerate", data := .fields #[.none, .bool false, .ref s.heap.objs.size, rawInt 0, .none, .none] } }) :=
  .of_wp fun prog w A R s h => by
    obtain ⟨hp, g, d, tk, os⟩ := s; obtain ⟨h1, h⟩ := h
    have hsub := sub_enumerate
    have q1 : ∀ {A' : Around} {E : Value → Shared → Prop} {Q : Value → Shared → Prop}, Q (.ref hp.objs.size) ⟨hp.push o, g, d, tk, os⟩ → wpAny (model prog w) A' (pyIter v) Q E ⟨hp, g, d, tk, os⟩ :=
      fun q => B.iter prog w _ _ ⟨hp, g, d, tk, os⟩ _ h1 q
    wp_walk using q1
    refine wpAny_stack_any fun st => wpAny_pure ?_
    split
    · rename_i c _ _ _ _ _
      cases (c == Value.type "enumerate")
      · wp_walk using q1
        exact ⟨_, rfl, h⟩
      · wp_walk using q1
        exact ⟨_, rfl, h⟩
    · wp_walk using q1
      exact ⟨_, rfl, h⟩
theorem ki_enum_begins {prog : Program} {w : World} {A : Around} {E : Value → Shared → Prop} {s : Shared} {v : Value} {o : Obj} {H : Heap → Prop} {Q : Value → Shared → Prop} (B : Begins v o H) (h1 : H s.heap)
    (h : ∀ h', IsEnum h' (s.heap.objs.size + 1) s.heap.objs.size 0 .none → h'.get? s.heap.objs.size = some o → h'.objs.size = s.heap.objs.size + 2 →
      (∀ b o, s.heap.get? b = some o → h'.get? b = some o) → Q (.ref (s.heap.objs.size + 1)) { s with heap := h' }) :
    wpAny (model prog w) A (call (.type "enumerate") [v]) Q E s := by
  refine callType_new F.called_enumerate (by decide) (F.typeCall_enumerate_1 _) (F.newCall_enumerate_1 _) (fun obj => F.args_object_init_2 obj _) F.entry_enumerate_new
    (ki_meets_enum B) ⟨h1, ?_⟩
  have hz : (s.heap.push o).objs.size = s.heap.objs.size + 1 := Heap.size_push ..
  show _ ∧ _
  rw [hz]
  have he : IsEnum ((s.heap.push o).push { cls := .type "enumerate", data := .fields #[.none, .bool false, .ref s.heap.objs.size, rawInt 0, .none, .none] }) (s.heap.objs.size + 1) s.heap.objs.size 0 .none := by
    have := Heap.get?_push_size (s.heap.push o) (o := { cls := .type "enumerate", data := .fields #[.none, .bool false, .ref s.heap.objs.size, rawInt 0, .none, .none] }) rfl
    rw [hz] at this; exact this
  refine ⟨⟨_, he, rfl⟩, h _ he (Heap.get?_push_of_some _ (Heap.get?_push_size _ B.free)) (by rw [Heap.size_push, hz]) fun b o x => Heap.get?_push_of_some _ (Heap.get?_push_of_some _ x)⟩
theorem ki_enum_end {prog : Program} {w : World} {A : Around} {E : Value → Shared → Prop} {s : Shared} {e it l : Addr} {i : Nat} {j : Int} {items : Array Value} {old : Value} {Q : Option Value → Shared → Prop} (hh : A.handled = none)
    (he : IsEnum s.heap e it j old) (hit : s.heap.IsTupleIter it l i) (hl : s.heap.IsTuple l items) (hx : items[i]? = none)
    (hQ : ∀ h', Heap.ExtBut it s.heap h' → Q none { s with heap := h' }) : wpAny (model prog w) A (pyNext (.ref e)) Q E s := by
  have hT : s.TypeIs (.ref e) "enumerate" := ⟨_, he, rfl⟩
  unfold pyNext
  refine wpAny_bind (wpAny_attempt (wpAny_callSpecial?_slot (name := Str.ofString "__next__") hT F.slot_enumerate_next
    (wpAny_call_entry F.slot_enumerate_next hT F.entry_enumerate_next ?_ (F.args_enumerate_next_1 _))))
  show wpAny _ _ (field (.ref e) 2 >>= _) _ _ _
  refine wpAny_bind (wpAny_field he rfl (x := .ref it) rfl ?_)
  refine wpAny_bind (wpAny_nextOf_tuple_end hh hit hl hx fun h' x he' hx' => ?_)
  obtain ⟨o, ho, hc⟩ := hx'
  refine wpAny_bind (wpAny_isInstance (T := "StopIteration") (b := true) ⟨o, ho, hc⟩ isSubtype_stop ?_)
  exact wpAny_pure (hQ _ he')
end PySem
namespace KI
open PySem PySem.Spec PyProof.Rows L2
variable [LX]
/-- the tuple at a, each item in a new pair -/
def IteT (K : PySem.W.Frag) (a : Addr) : L2.It :=
  ⟨fun i H => ∃ (xs : List V) (x : V), SqT K H a xs ∧ xs[i]? = some x, fun i H v H' => ∃ T x, v = .ref T ∧ H T = none ∧ H' = upd H T (.tup [.int (i : Nat), x]) ∧ ∀ xs, SqT K H a xs → xs[i]? = some x, fun i H => ∃ xs : List V, SqT K H a xs ∧ xs.length ≤ i⟩
theorem turn_enumT {P : Program} {w : World} {K : PySem.W.Frag} {elts : List Expr} {kk : Nat} {tpos : Pos} (a e it : Addr) :
    Turn P w K (.Tuple elts kk tpos) (IteT K a) [e, it] e (fun i h => (∃ old, IsEnum h e it ((i : Nat) : Int) old) ∧ h.IsTupleIter it a i ∧ e ≠ it) where
  mem := by simp
  obj := fun i h st b hb => by
    obtain ⟨⟨old, he⟩, ⟨o, ho, hc, hd⟩, _⟩ := st
    have e' : b = e ∨ b = it := by simpa using hb
    rcases e' with z | z
    · rw [z]; exact ⟨_, he, fun v q => nomatch q⟩
    · rw [z]; exact ⟨o, ho, fun v q => by rw [hd] at q; cases q⟩
  keep := fun i h h' st k => let ⟨⟨old, he⟩, hi, hne⟩ := st; ⟨⟨old, k e (by simp) _ he⟩, hi.at fun o q => k it (by simp) o q, hne⟩
  item := by
    intro X hP hw hK hc i pins s σ H E I hf st hg
    subst hP hw hK
    obtain ⟨⟨old, he⟩, hit, hne⟩ := st
    obtain ⟨xs, x, hq, hx⟩ := hg
    obtain ⟨its, rv, p, hz⟩ := I.tuple hq
    obtain ⟨u, hu, ru⟩ := rv.get hx
    have p' : s.heap.IsTuple a its.toArray := p
    have hel : e < s.heap.objs.size := Heap.lt_size he
    have hil : it < s.heap.objs.size := by obtain ⟨_, q, _⟩ := hit; exact Heap.lt_size q
    have hae : e ≠ a := fun z => by
      obtain ⟨o, ho, hcl, _⟩ := p'
      rw [← z] at ho
      have he' : s.heap.get? e = some _ := he
      rw [ho] at he'; cases he'; exact absurd (show Value.type "enumerate" = Value.type "tuple" from hcl) (by decide)
    have hai : a ≠ it := fun z => by
      obtain ⟨o, ho, hcl, _⟩ := p'
      obtain ⟨o', ho', hc', _⟩ := hit
      rw [z, ho'] at ho; cases ho; rw [hcl] at hc'; exact absurd hc' (by decide)
    have hsz0 : i < its.toArray.size := by
      have := (List.getElem?_eq_some_iff.mp hu).1
      simpa using this
    refine wpAny_pyNext_enum_itemD (Draws.tuple (A := X.A.in1) (prog := X.prog) (w := X.w) (I.ok.hd hc) it a hai its.toArray) he ⟨hit, p'⟩ hsz0 hne (by simp only [List.mem_cons, List.not_mem_nil, or_false, not_or]; exact ⟨hne, hae⟩) fun u' h' tk hPx ho hst' hT hsz hk => ?_
    have eu : u' = u := by
      have h1 : its.toArray[i]? = some u := by simpa using hu
      rw [h1] at hPx; exact (Option.some.inj hPx).symm
    subst eu
    refine ⟨_, rfl, wpAny_letOwnedTupleGo_enum (s := { s with heap := h', toks := tk + 1 }) ho fun h'' he' sb => ?_⟩
    have hT2 : h''.get? s.heap.objs.size = some { cls := .type "tuple", data := .seq #[.int i tk, u'] } := (sb.2 _ (Nat.ne_of_gt hel)).trans hT
    have new : ObjOk X.prog X.w (upd H s.heap.objs.size (.tup [.int (i : Nat), x])) h'' s.heap.objs.size (.tup [.int (i : Nat), x]) :=
      ⟨by show 2 ≤ sizeLine; decide, [.int i tk, u'], .cons ⟨_, rfl⟩ (.cons ru .nil), ⟨_, hT2, rfl, _, rfl⟩⟩
    have I1 : Inv X pins σ (upd H s.heap.objs.size (.tup [.int (i : Nat), x])) { s with heap := h'', toks := tk + 1 } :=
      I.turnedNew (ch := [e, it]) (fun b ob hb q => (sb.2 b (fun z => hb (by simp [z]))).trans (hk b ob (fun z => hb (by simp [z])) (fun z => hb (by simp [z])) q)) hf (Nat.le_refl _) new
    refine ⟨.ref s.heap.objs.size, _, I1, rfl, ⟨_, x, rfl, I.hok.fresh (Nat.le_refl _), rfl, fun ys hy => by rw [I.tuple_inj hy hq]; exact hx⟩, ⟨⟨u', ?_⟩, hst'.1.at fun o q => (sb.2 it (Ne.symm hne)).trans q, hne⟩, fun b hb => ?_⟩
    · have e1 : ((i + 1 : Nat) : Int) = (i : Int) + 1 := by omega
      rw [e1]; exact he'
    · have hb' : b < s.heap.objs.size := by
        have e' : b = e ∨ b = it := by simpa using hb
        rcases e' with z | z
        · rw [z]; exact hel
        · rw [z]; exact hil
      rw [upd_ne (Nat.ne_of_lt hb')]
      exact (hf b hb).1
  done := by
    intro X hP hw hK hc i pins s σ H E I hf st hg
    subst hP hw hK
    obtain ⟨⟨old, he⟩, hit, hne⟩ := st
    obtain ⟨xs, hq, hx⟩ := hg
    obtain ⟨its, rv, p, hz⟩ := I.tuple hq
    have p' : s.heap.IsTuple a its.toArray := p
    obtain ⟨f0, f1, f2, f3, f4, f5⟩ := hf it (by simp)
    have hl := rv.length
    -- behind the end: the iterator as it stands, whatever its index
    exact ki_enum_end (I.ok.hd hc) he hit p' (by simp; omega) fun h' eb => ⟨rfl, I.turned (t' := s.toks) (fun b o hb q => eb b o hb q) f0 f1 f3 f4 f5⟩
  self := fun A i s Q E st h => let ⟨⟨_, he⟩, _⟩ := st; wpAny_pyIter_enum he h
def iEnumT (K : PySem.W.Frag) (ta : TA) : TI := fun σ H R => ta σ H fun vs H1 => ∃ a xs, vs = [.ref a] ∧ SqT K H1 a xs ∧ R (IteT K a) H1
theorem pi_enumT {X : Cx} {e : Expr} {ta : TA} {p pos tpos : Pos} {elts : List Expr} {kk : Nat} (hg : Gl X "enumerate") (hm : X.mg "enumerate" = none) (ha : PA X [e] ta) (hs : starEach [e] X.env = [(false, eval e X.env)]) :
    PI X (.Tuple elts kk tpos) (.Call (.Name "enumerate" p) [e] [] pos) (iEnumT X.K ta) := by
  refine ⟨fun pins s σ H R I h => ?_⟩
  refine Call_ (ld_blt I hg hm boot_enumerate (PyProof.Rows.callWith_type1 (thn (ha.run pos pins s σ H _ I h) fun us s1 ⟨vs, H1, I1, r1, q1⟩ => ?_) hs rfl))
  obtain ⟨a, xs, ex, hq, q⟩ := q1
  subst ex
  cases r1 with
  | cons r rr =>
    cases rr
    cases r
    obtain ⟨its, rv, p', hz⟩ := I1.tuple hq
    refine ki_enum_begins (begins_tuple a its.toArray) (show s1.heap.IsTuple a its.toArray from p') fun h' he hit hsz hk => wpAny_pyIter_enum he ?_
    have I2 : Inv X pins σ H1 { s1 with heap := h' } := I1.kept (t' := s1.toks) hk
    refine ⟨s1.heap.objs.size + 1, [s1.heap.objs.size + 1, s1.heap.objs.size], _, _, H1, rfl, I2, turn_enumT a (s1.heap.objs.size + 1) s1.heap.objs.size, ⟨⟨.none, he⟩, ⟨_, hit, rfl, rfl⟩, Nat.succ_ne_self _⟩, fun b hb => ?_, q⟩
    have e' : b = s1.heap.objs.size + 1 ∨ b = s1.heap.objs.size := by simpa using hb
    have hle : s1.heap.objs.size ≤ b := by
      rcases e' with z | z
      · rw [z]; exact Nat.le_add_right _ _
      · rw [z]; exact Nat.le_refl _
    exact I1.fpOk hle (I1.hok.fresh hle)
end KI

namespace KI
open PySem L2
variable [LX]
/-! ## 8. what an evaluation gives is what is wanted -/
/-- an exception as the layer has it: its class, the address of its dict -/
def RFs (K : PySem.W.Frag) (H : Hp) (L X : List Addr) (fs : List (Str × D)) (fv : List (Str × V)) : Prop :=
  ∀ f : Str, match fs.lookup f, fv.lookup f with | some d, some v => Rep K H L X d v | none, none => True | _, _ => False
def ExR (K : PySem.W.Frag) (CA : Nat → Addr) (H : Hp) (L X : List Addr) (x : Exn) (cls : Value) (dx : Option Addr) : Prop :=
  cls = .ref (CA x.cls) ∧ ((x.fs = [] ∧ dx = none) ∨ ∃ d fv, dx = some d ∧ H d = some (.xd fv) ∧ d ∉ X ∧ RFs K H L X x.fs fv)
def GD {α : Type} (K : PySem.W.Frag) (CA : Nat → Addr) (H : Hp) (L X : List Addr) (W : XK) (o : Out α) (R : α → HpI → Hp → List Addr → List Addr → Prop) : Prop :=
  match o with
  | .ok a hp' => ∀ H' L' X', Post H L X H' L' X' → HOK K H' L' X' hp' → R a hp' H' L' X'
  | .exc x hp' => ∀ cls dx H' L' X', Post H L X H' L' X' → HOK K H' L' X' hp' → ExR K CA H' L' X' x cls dx → W cls dx H'
  | .bad => False
section
variable {α β : Type} {K : PySem.W.Frag} {CA : Nat → Addr} {H H' H1 : Hp} {L L' L1 X X' X1 : List Addr} {W : XK} {hp hp' : HpI}
theorem GD.imp {o : Out α} {R R' : α → HpI → Hp → List Addr → List Addr → Prop} (g : GD K CA H L X W o R) (h : ∀ a hp' H' L' X', Post H L X H' L' X' → HOK K H' L' X' hp' → R a hp' H' L' X' → R' a hp' H' L' X') : GD K CA H L X W o R' := by
  cases o with
  | ok a hp' => exact fun H' L' X' p k => h a hp' H' L' X' p k (g H' L' X' p k)
  | exc x hp' => exact g
  | bad => exact g
theorem GD.impE {o : Out α} {R R' : α → HpI → Hp → List Addr → List Addr → Prop} (g : GD K CA H L X W o R) (h : ∀ a hp' H' L' X', o = .ok a hp' → Post H L X H' L' X' → HOK K H' L' X' hp' → R a hp' H' L' X' → R' a hp' H' L' X') : GD K CA H L X W o R' := by
  cases o with
  | ok a hp' => exact fun H' L' X' p k => h a hp' H' L' X' rfl p k (g H' L' X' p k)
  | exc x hp' => exact g
  | bad => exact g
theorem GD.bind {o : Out α} {f : α → HpI → Out β} {R : β → HpI → Hp → List Addr → List Addr → Prop} (g : GD K CA H L X W (o.bind f) R) : GD K CA H L X W o (fun a hp1 H1 L1 X1 => GD K CA H1 L1 X1 W (f a hp1) R) := by
  cases o with
  | ok a hp1 =>
    intro H1 L1 X1 p1 k1
    have g' : GD K CA H L X W (f a hp1) R := g
    cases q : f a hp1 with
    | ok b hp2 => rw [q] at g'; exact fun H2 L2 X2 p2 k2 => g' H2 L2 X2 (p1.trans p2) k2
    | exc x hp2 => rw [q] at g'; exact fun c dx H2 L2 X2 p2 k2 => g' c dx H2 L2 X2 (p1.trans p2) k2
    | bad => rw [q] at g'; exact g'
  | exc x hp1 => exact g
  | bad => exact g
/-- from the place where one stands -/
theorem GD.here {a : α} {R : α → HpI → Hp → List Addr → List Addr → Prop} (g : GD K CA H L X W (.ok a hp) R) (k : HOK K H L X hp) : R a hp H L X := g H L X Post.refl k
abbrev RQ (K : PySem.W.Frag) (Q : VK) : D → HpI → Hp → List Addr → List Addr → Prop := fun d _ H' L' X' => ∀ v, Rep K H' L' X' d v → Q v H'
abbrev RQs (K : PySem.W.Frag) (Q : List V → Hp → Prop) : List D → HpI → Hp → List Addr → List Addr → Prop := fun d _ H' L' X' => ∀ v, Reps K H' L' X' d v → Q v H'
abbrev RQb (Q : Bool → Hp → Prop) : Bool → HpI → Hp → List Addr → List Addr → Prop := fun b _ H' _ _ => Q b H'
theorem GD.fin {o : Option (D × HpI)} {Q : VK} (g : GD K CA H L X W (ofOpt o) (RQ K Q)) : Fin K H L X o Q := by
  cases o with
  | none => exact g.elim
  | some p => exact ⟨p.1, p.2, rfl, fun v H' L' X' p k r => g H' L' X' p k v r⟩
/-- slots -/
structure REnv (K : PySem.W.Frag) (H : Hp) (L X : List Addr) (env : EnvI) (σ : St) : Prop where
  len : σ.length = env.length
  get : ∀ (i : Nat) (d : D), env[i]? = some (some d) → ∃ v, σ[i]? = some (some v) ∧ Rep K H L X d v
theorem REnv.post {env : EnvI} {σ : St} (r : REnv K H L X env σ) (k : HOK K H L X hp) (p : Post H L X H' L' X') : REnv K H' L' X' env σ :=
  ⟨r.len, fun i d e => let ⟨v, e1, r1⟩ := r.get i d e; ⟨v, e1, r1.post k p⟩⟩
theorem REnv.postX {env : EnvI} {σ : St} (r : REnv K H L X env σ) (p : PostX H L X H' L' X') : REnv K H' L' X' env σ :=
  ⟨r.len, fun i d e => let ⟨v, e1, r1⟩ := r.get i d e; ⟨v, e1, r1.postX p⟩⟩
theorem REnv.set {env : EnvI} {σ : St} {d : D} {v : V} (r : REnv K H L X env σ) (rv : Rep K H L X d v) (i : Nat) : REnv K H L X (env.set i (some d)) (σ.set i (some v)) := by
  refine ⟨by rw [List.length_set, List.length_set]; exact r.len, fun j e q => ?_⟩
  by_cases hj : i = j
  · subst hj
    by_cases hl : i < env.length
    · rw [List.getElem?_set_self hl] at q
      cases q
      exact ⟨v, by rw [List.getElem?_set_self (by rw [r.len]; exact hl)], rv⟩
    · rw [List.getElem?_eq_none_iff.mpr (by rw [List.length_set]; omega)] at q
      cases q
  · rw [List.getElem?_set_ne hj] at q
    obtain ⟨u, e1, r1⟩ := r.get j e q
    exact ⟨u, by rw [List.getElem?_set_ne hj]; exact e1, r1⟩
theorem REnv.wipe {env : EnvI} {σ : St} (r : REnv K H L X env σ) : ∀ vs : List Nat, REnv K H L X (wipeE env vs) (L2.wipe σ vs)
  | [] => r
  | v :: vs => by
    have q := REnv.wipe r vs
    refine ⟨by unfold wipeE L2.wipe; rw [List.length_set, List.length_set]; exact q.len, fun j e h => ?_⟩
    unfold wipeE at h
    by_cases hj : v = j
    · subst hj
      by_cases hl : v < (wipeE env vs).length
      · rw [List.getElem?_set_self hl] at h; cases h
      · rw [List.getElem?_eq_none_iff.mpr (by rw [List.length_set]; omega)] at h; cases h
    · rw [List.getElem?_set_ne hj] at h
      obtain ⟨u, e1, r1⟩ := q.get j e h
      exact ⟨u, by unfold L2.wipe; rw [List.getElem?_set_ne hj]; exact e1, r1⟩
end
/-- readings made of evaluations -/
def tE (K : PySem.W.Frag) (CA : Nat → Addr) (W : WX) (f : EnvI → HpI → Out D) : TE := fun σ H Q => ∃ env L X hp, HOK K H L X hp ∧ REnv K H L X env σ ∧ GD K CA H L X (fun c dx H' => W c dx σ H') (f env hp) (RQ K Q)
def tA (K : PySem.W.Frag) (CA : Nat → Addr) (W : WX) (f : EnvI → HpI → Out (List D)) : TA := fun σ H Q => ∃ env L X hp, HOK K H L X hp ∧ REnv K H L X env σ ∧ GD K CA H L X (fun c dx H' => W c dx σ H') (f env hp) (RQs K Q)
def tT (K : PySem.W.Frag) (CA : Nat → Addr) (W : WX) (f : EnvI → HpI → Out Bool) : TT := fun σ H Q => ∃ env L X hp, HOK K H L X hp ∧ REnv K H L X env σ ∧ GD K CA H L X (fun c dx H' => W c dx σ H') (f env hp) (RQb Q)

/-! ## 9. frames -/
section
variable {K : PySem.W.Frag} {CA : Nat → Addr} {H H' : Hp} {L L' L1 X X' X1 n : List Addr} {W : XK} {hp hp' : HpI} {k : Nat}
mutual
theorem Rep.cut : ∀ (d : D) (v : V), closed k d = true → Rep K H L X d v → Rep K H (L.take k) X d v
  | .non, v, _, h => h
  | .bl b, v, _, h => h
  | .int i, v, _, h => h
  | .str s, v, _, h => h
  | .loc n, v, c, ⟨a, e, h⟩ => ⟨a, e, by rw [List.getElem?_take_of_lt (by simpa [closed] using c)]; exact h⟩
  | .fn j, v, _, h => h
  | .tup ds, v, c, ⟨a, vs, e, h1, h2, h3⟩ => ⟨a, vs, e, h1, h2, Reps.cut ds vs (by simpa [closed] using c) h3⟩
  | .lst ds, v, c, ⟨a, vs, e, h1, h2, h3, h4⟩ => ⟨a, vs, e, h1, h2, h3, Reps.cut ds vs (by simpa [closed] using c) h4⟩
  | .sq ds, v, c, ⟨a, vs, e, h1, h2, h3⟩ => ⟨a, vs, e, h1, h2, Reps.cut ds vs (by simpa [closed] using c) h3⟩
theorem Reps.cut : ∀ (ds : List D) (vs : List V), closeds k ds = true → Reps K H L X ds vs → Reps K H (L.take k) X ds vs
  | [], vs, _, h => h
  | d :: ds, vs, c, ⟨v, r, e, h1, h2⟩ => by
    have c' : closed k d = true ∧ closeds k ds = true := by simpa [closeds] using c
    exact ⟨v, r, e, Rep.cut d v c'.1 h1, Reps.cut ds r c'.2 h2⟩
end
/- closed data back in the caller's ghosts -/
mutual
theorem Rep.uncut (hL : ∀ i : Nat, i < k → L1[i]? = L[i]?) (hX : ∀ a, a ∈ X → a ∈ X1) : ∀ (d : D) (v : V), closed k d = true → Rep K H L1 X1 d v → Rep K H L X d v
  | .non, v, _, h => h
  | .bl b, v, _, h => h
  | .int i, v, _, h => h
  | .str s, v, _, h => h
  | .loc n, v, c, ⟨a, e, h⟩ => ⟨a, e, by rw [← hL n (by simpa [closed] using c)]; exact h⟩
  | .fn j, v, _, h => h
  | .tup ds, v, c, ⟨a, vs, e, h1, h2, h3⟩ => ⟨a, vs, e, h1, h2, Reps.uncut hL hX ds vs (by simpa [closed] using c) h3⟩
  | .lst ds, v, c, ⟨a, vs, e, h1, h2, h3, h4⟩ => ⟨a, vs, e, h1, fun z => h2 (hX a z), h3, Reps.uncut hL hX ds vs (by simpa [closed] using c) h4⟩
  | .sq ds, v, c, ⟨a, vs, e, h1, h2, h3⟩ => ⟨a, vs, e, h1.elim .inl (fun h => .inr ⟨h.1, fun z => h.2 (hX a z)⟩), h2, Reps.uncut hL hX ds vs (by simpa [closed] using c) h3⟩
theorem Reps.uncut (hL : ∀ i : Nat, i < k → L1[i]? = L[i]?) (hX : ∀ a, a ∈ X → a ∈ X1) : ∀ (ds : List D) (vs : List V), closeds k ds = true → Reps K H L1 X1 ds vs → Reps K H L X ds vs
  | [], vs, _, h => h
  | d :: ds, vs, c, ⟨v, r, e, h1, h2⟩ => by
    have c' : closed k d = true ∧ closeds k ds = true := by simpa [closeds] using c
    exact ⟨v, r, e, Rep.uncut hL hX d v c'.1 h1, Reps.uncut hL hX ds r c'.2 h2⟩
end
mutual
theorem Rep.rb (hL : ∀ i : Nat, i < k → L1[i]? = L[i]?) (hX : ∀ a, a ∈ X → a ∈ X1) (ko : HOK K H L1 X1 hp) (hn : ∀ (i : Nat) a, k ≤ i → L1[i]? = some a → a ∉ X) : ∀ (d d' : D) (v : V), rb k hp d = some d' → Rep K H L1 X1 d v → Rep K H L X d' v
  | .non, d', v, e, h => by cases e; exact h
  | .bl b, d', v, e, h => by cases e; exact h
  | .int i, d', v, e, h => by cases e; exact h
  | .str s, d', v, e, h => by cases e; exact h
  | .fn s, d', v, e, h => by cases e; exact h
  | .loc n, d', v, e, ⟨a, ea, h⟩ => by
    rw [KI.rb] at e
    by_cases hk : n < k
    · rw [if_pos hk] at e
      cases e
      exact ⟨a, ea, by rw [← hL n hk]; exact h⟩
    · rw [if_neg hk] at e
      cases q : hp[n]? with
      | none => rw [q] at e; cases e
      | some o =>
        cases o with
        | dk _ => rw [q] at e; cases e
        | dt _ => rw [q] at e; cases e
        | ins _ _ => rw [q] at e; cases e
        | lst ds =>
          rw [q] at e
          by_cases c : closeds k ds = true
          · simp only [c, if_true] at e
            cases e
            obtain ⟨b, vs, h1, h2, _, h4, h5⟩ := ko.at q
            rw [h] at h1; cases h1
            exact ⟨a, vs, ea, h2, hn n a (by omega) h, h4, Reps.uncut hL hX ds vs c h5⟩
          · simp only [c, if_false] at e
            cases e
  | .tup ds, d', v, e, ⟨a, vs, e1, h1, h2, h3⟩ => by
    rw [KI.rb] at e
    cases q : rbs k hp ds with
    | none => rw [q] at e; cases e
    | some es => rw [q] at e; cases e; exact ⟨a, vs, e1, h1, h2, Reps.rb hL hX ko hn ds es vs q h3⟩
  | .lst ds, d', v, e, h => by
    rw [KI.rb] at e
    by_cases c : closeds k ds = true
    · simp only [c, if_true] at e
      cases e
      exact Rep.uncut hL hX (.lst ds) v (by rw [closed]; exact c) h
    · simp only [c, if_false] at e
      cases e
  | .sq ds, d', v, e, h => by
    rw [KI.rb] at e
    by_cases c : closeds k ds = true
    · simp only [c, if_true] at e
      cases e
      exact Rep.uncut hL hX (.sq ds) v (by rw [closed]; exact c) h
    · simp only [c, if_false] at e
      cases e
theorem Reps.rb (hL : ∀ i : Nat, i < k → L1[i]? = L[i]?) (hX : ∀ a, a ∈ X → a ∈ X1) (ko : HOK K H L1 X1 hp) (hn : ∀ (i : Nat) a, k ≤ i → L1[i]? = some a → a ∉ X) : ∀ (ds es : List D) (vs : List V), rbs k hp ds = some es → Reps K H L1 X1 ds vs → Reps K H L X es vs
  | [], es, vs, e, h => by cases e; exact h
  | d :: ds, es, vs, e, ⟨v, r, e1, h1, h2⟩ => by
    rw [KI.rbs] at e
    cases q1 : KI.rb k hp d with
    | none => rw [q1] at e; cases e
    | some x =>
      cases q2 : rbs k hp ds with
      | none => rw [q1, q2] at e; cases e
      | some xs => rw [q1, q2] at e; cases e; exact ⟨v, r, e1, Rep.rb hL hX ko hn d x v q1 h1, Reps.rb hL hX ko hn ds xs r q2 h2⟩
end
theorem RepO.cut {o : O} {a : Addr} (c : closedO k o = true) (r : RepO K H L X o a) : RepO K H (L.take k) X o a := by
  obtain ⟨vs, ho, h1, h2, h3⟩ := r
  exact ⟨vs, ho, h1, h2, Reps.cut _ vs c h3⟩
theorem RepO.uncut (hL : ∀ i : Nat, i < k → L1[i]? = L[i]?) (hX : ∀ a, a ∈ X → a ∈ X1) {o : O} {a : Addr} (c : closedO k o = true) (r : RepO K H L1 X1 o a) : RepO K H L X o a := by
  obtain ⟨vs, ho, h1, h2, h3⟩ := r
  exact ⟨vs, ho, h1, h2, Reps.uncut hL hX _ vs c h3⟩
theorem HOK.take (ko : HOK K H L X hp) (c : (hp.take k).all (closedO k) = true) : HOK K H (L.take k) X (hp.take k) := by
  refine ⟨ko.nd.sublist (List.take_sublist _ _), by rw [List.length_take, List.length_take, ko.len], fun a ha => ko.sub a (List.mem_of_mem_take ha), ko.live, fun i o e => ?_, ko.tabs⟩
  have hi : i < k := by
    have := (List.getElem?_eq_some_iff.mp e).1
    rw [List.length_take] at this; omega
  have e' : hp[i]? = some o := by rw [List.getElem?_take_of_lt hi] at e; exact e
  obtain ⟨a, e1, r⟩ := ko.ob i o e'
  exact ⟨a, by rw [List.getElem?_take_of_lt hi]; exact e1, r.cut (List.all_eq_true.mp c o (List.mem_of_getElem? e))⟩
structure Back (K : PySem.W.Frag) (H : Hp) (L X : List Addr) (hp : HpI) (k : Nat) (H' : Hp) (L1 X1 : List Addr) (hp' : HpI) : Prop where
  hL : ∀ i : Nat, i < k → L1[i]? = L[i]?
  hX : ∀ a, a ∈ X → a ∈ X1
  hn : ∀ (i : Nat) a, k ≤ i → L1[i]? = some a → a ∉ X
  post : Post H L X H' L X
  hok : HOK K H' L X (hp'.take k ++ hp.drop k)
theorem back_of (ko : HOK K H L X hp) (hk : k ≤ hp.length) (p : Post H (L.take k) X H' L1 X1) (k1 : HOK K H' L1 X1 hp') (c : (hp'.take k).all (closedO k) = true) : Back K H L X hp k H' L1 X1 hp' := by
  obtain ⟨n, m, e1, e2, sb, fr⟩ := p.ext
  have hkl : k ≤ L.length := by rw [ko.len]; exact hk
  have tl : (L.take k).length = k := by rw [List.length_take]; omega
  have hL : ∀ i : Nat, i < k → L1[i]? = L[i]? := fun i hi => by
    rw [e1, List.getElem?_append_left (by omega), List.getElem?_take_of_lt hi]
  have hX : ∀ a, a ∈ X → a ∈ X1 := fun a ha => by rw [e2]; exact List.mem_append_left _ ha
  have hn : ∀ (i : Nat) a, k ≤ i → L1[i]? = some a → a ∉ X := fun i a hi h hx => by
    rw [e1, List.getElem?_append_right (by omega)] at h
    exact ko.live a hx (fr a (sb a (List.mem_of_getElem? h)))
  have inT : ∀ a, a ∈ L.take k → a ∈ L := fun a h => List.mem_of_mem_take h
  have post : Post H L X H' L X := ⟨⟨[], [], by simp, by simp, fun a h => h, fun a h => by simp at h⟩, fun a o h hl ht => p.keep a o h (fun z => hl (inT a z)) ht, p.tups, p.frzs, p.live, p.exts⟩
  refine ⟨hL, hX, hn, post, ?_⟩
  have hl' : k ≤ hp'.length := by rw [← k1.len, e1, List.length_append]; omega
  refine ⟨ko.nd, ?_, ko.sub, fun a ha => post.live a (ko.live a ha), fun i o e => ?_, k1.tabs⟩
  · rw [List.length_append, List.length_take, List.length_drop, ko.len]; omega
  · by_cases hi : i < k
    · rw [List.getElem?_append_left (by rw [List.length_take]; omega), List.getElem?_take_of_lt hi] at e
      obtain ⟨a, ea, r⟩ := k1.ob i o e
      refine ⟨a, by rw [← hL i hi]; exact ea, r.uncut hL hX (List.all_eq_true.mp c o ?_)⟩
      exact List.mem_of_getElem? (i := i) (by rw [List.getElem?_take_of_lt hi]; exact e)
    · rw [List.getElem?_append_right (by rw [List.length_take]; omega), List.getElem?_drop] at e
      have ei : k + (i - (hp'.take k).length) = i := by rw [List.length_take]; omega
      rw [ei] at e
      obtain ⟨a, ea, r⟩ := ko.ob i o e
      refine ⟨a, ea, ?_⟩
      have hnt : a ∉ L.take k := fun z => by
        obtain ⟨j, hj, ej⟩ := List.mem_iff_getElem.mp z
        have hjk : j < k := by rw [tl] at hj; exact hj
        have ej' : L[j]? = some a := by
          rw [← List.getElem?_take_of_lt hjk, List.getElem?_eq_some_iff]
          exact ⟨hj, ej⟩
        have h1 := List.getElem?_eq_some_iff.mp ej'
        have h2 := List.getElem?_eq_some_iff.mp ea
        have := (List.getElem_inj ko.nd).mp (h1.2.trans h2.2.symm)
        omega
      obtain ⟨vs, ho, h1, h2, h3⟩ := r
      exact ⟨vs, ho, p.keep a _ h1 hnt (fun ps => fun z => by subst z; exact h2.mut), h2, h3.post ko post⟩
theorem ExR.uncut (b : Back K H L X hp k H' L1 X1 hp') {x : Exn} {cls : Value} {dx : Option Addr} (c : closeds 0 (x.fs.map (·.2)) = true) (e : ExR K CA H' L1 X1 x cls dx) : ExR K CA H' L X x cls dx := by
  obtain ⟨h1, h2⟩ := e
  refine ⟨h1, ?_⟩
  rcases h2 with h2 | ⟨d, fv, h3, h4, h5, h6⟩
  · exact .inl h2
  · refine .inr ⟨d, fv, h3, h4, fun z => h5 (b.hX d z), fun f => ?_⟩
    have q := h6 f
    have cl : ∀ (fs : List (Str × D)) d, closeds 0 (fs.map (·.2)) = true → fs.lookup f = some d → closed 0 d = true := by
      intro fs
      induction fs with
      | nil => intro d _ e; simp at e
      | cons p fs ih =>
        intro d c e
        simp only [List.map_cons, closeds, Bool.and_eq_true] at c
        rw [List.lookup_cons] at e
        split at e
        · cases e; exact c.1
        · exact ih d c.2 e
    cases q1 : x.fs.lookup f with
    | none =>
      rw [q1] at q
      cases q2 : fv.lookup f with
      | none => trivial
      | some v => rw [q2] at q; exact q
    | some d =>
      rw [q1] at q
      cases q2 : fv.lookup f with
      | none => rw [q2] at q; exact q
      | some v =>
        rw [q2] at q
        exact Rep.uncut (k := 0) (fun i hi => absurd hi (Nat.not_lt_zero i)) b.hX d v (cl x.fs d c q1) q
end
/-- a def's promise -/
def spI (K : PySem.W.Frag) (CA : Nat → Addr) (cf : CF) (i m : Nat) : Sp := fun vs H Q E => vs.length = m ∧ ∃ L X hp ds, HOK K H L X hp ∧ Reps K H L X ds vs ∧ GD K CA H L X E (cf i ds hp) (RQ K Q)
theorem framed_sp {K : PySem.W.Frag} {CA : Nat → Addr} {H : Hp} {L X : List Addr} {W : XK} {hp : HpI} {cf : CF} {o : Option Nat} {i m : Nat} {ds : List D} {vs : List V} {Q : VK} (hm : vs.length = m) (ko : HOK K H L X hp) (r : Reps K H L X ds vs)
    (g : GD K CA H L X W (framed cf o i ds hp) (RQ K Q)) : spI K CA cf i m vs H Q W := by
  refine ⟨hm, ?_⟩
  cases o with
  | none => exact ⟨L, X, hp, ds, ko, r, g⟩
  | some k =>
    simp only [framed] at g
    by_cases c : (closeds k ds && (hp.take k).all (closedO k)) = true
    · rw [if_pos c] at g
      rw [Bool.and_eq_true] at c
      refine ⟨L.take k, X, hp.take k, ds, ko.take c.2, Reps.cut ds vs c.1 r, ?_⟩
      cases q : cf i ds (hp.take k) with
      | ok d hp' =>
        rw [q] at g
        simp only at g
        intro H' L1 X1 p k1 v rv
        cases q2 : rb k hp' d with
        | none => rw [q2] at g; exact g.elim
        | some d' =>
          rw [q2] at g
          simp only at g
          by_cases c2 : (decide (k ≤ hp.length) && (hp'.take k).all (closedO k)) = true
          · rw [if_pos c2] at g
            rw [Bool.and_eq_true, decide_eq_true_eq] at c2
            have b := back_of ko c2.1 p k1 c2.2
            exact g H' L X b.post b.hok v (Rep.rb b.hL b.hX k1 b.hn d d' v q2 rv)
          · rw [if_neg c2] at g; exact g.elim
      | exc x hp' =>
        rw [q] at g
        simp only at g
        intro cls dx H' L1 X1 p k1 ex
        by_cases c2 : (decide (k ≤ hp.length) && (hp'.take k).all (closedO k) && closeds 0 (x.fs.map (·.2))) = true
        · rw [if_pos c2] at g
          rw [Bool.and_eq_true, Bool.and_eq_true, decide_eq_true_eq] at c2
          have b := back_of ko c2.1.1 p k1 c2.1.2
          exact g cls dx H' L X b.post b.hok (ex.uncut b c2.2)
        · rw [if_neg c2] at g; exact g.elim
      | bad => rw [q] at g; exact g.elim
    · rw [if_neg c] at g; exact g.elim
end KI

namespace KI
open PySem L2
variable [LX]
/-! ## 10. the text and the tree -/
structure CC where
  pg : Pg
  N : List Str
  sc : Scope
  fn : Str → Bool
  lamC : Nat → Arguments → Expr → Scope → Bool
  kd : Bool
def visB (sc : Scope) (x : Str) : Bool := match sc.names.lookup x with | some .local => true | some .cell => true | some .free => true | _ => false
def glB (sc : Scope) (x : Str) : Bool := match sc.names.lookup x with | some .globalImplicit => true | _ => false
def okN (x : Str) : Bool := !(x == ("__debug__" : Str)) && !(x == ("__classdict__" : Str))
def stB (c : CC) (x : Str) : Bool := match c.sc.names.lookup x with | some .local => true | some .cell => c.fn x | _ => false
def plainE : Expr → Bool | .Starred .. => false | _ => true
def plainT : Expr → Bool | .UnaryOp .. => false | .BoolOp .. => false | .IfExp .. => false | .Compare .. => false | _ => true
def plainIx : Expr → Bool | .Slice .. => false | _ => true
def plainS : Expr → Bool | .Set .. => false | _ => true
def plainB : Expr → Bool | .Call _ (_ :: _) _ _ => true | .Call .. => false | _ => true
def cCst : D → Const → Bool
  | .non, .none => true
  | .bl b, .bool b' => b == b'
  | .int i, .int j => i == j
  | .str s, .str t => s == t
  | _, _ => false
/-- (name, id, is it a class) -/
def biK : Bi → Str × String × Bool
  | .len => ("len", "len", false) | .abs => ("abs", "abs", false) | .min2 => ("min", "min", false) | .minl => ("min", "min", false) | .max2 => ("max", "max", false) | .maxl => ("max", "max", false)
  | .sum => ("sum", "sum", false) | .all => ("all", "all", false) | .any => ("any", "any", false) | .int => ("int", "int", true) | .tuple => ("tuple", "tuple", true) | .list _ => ("list", "list", true) | .str => ("str", "str", true) | .sorted => ("sorted", "sorted", false)
def meK : Me → Str
  | .append => "append" | .extend => "extend" | .split => "split" | .join => "join"
def bltNames : List Str := ["isinstance", "int", "bool", "str", "tuple", "list", "len", "range", "enumerate", "zip", "abs", "min", "max", "sum", "all", "any", "set", "sorted"]
def tyNames : List String := ["int", "bool", "str", "tuple", "list"]
mutual
def gi : G → List Nat
  | .name i => [i]
  | .tup gs => gis gs
  | .sub _ _ => []
def gis : Gs → List Nat
  | .nil => []
  | .cons g gs => gi g ++ gis gs
end
mutual
def noSub : G → Bool
  | .name _ => true
  | .tup gs => noSubs gs
  | .sub _ _ => false
def noSubs : Gs → Bool
  | .nil => true
  | .cons g gs => noSub g && noSubs gs
end
def ownP (N : List Str) (own : List Nat) : List (Str × Nat) := own.map fun i => (N.getD i Str.empty, i)
def blkCC (c : CC) (scope : Scope) : CC := { c with sc := relS scope c.sc, fn := fun x => scope.names.lookup x == some .cell, lamC := fun _ _ _ _ => false, kd := false }
def isTupE : Expr → Bool | .Tuple .. => true | _ => false
def lenEs : Es → Nat
  | .nil => 0
  | .cons _ es => lenEs es + 1
def kwNames : List Keyword → List (Option Str)
  | [] => []
  | k :: ks => k.arg :: kwNames ks
def isIxO : Op2 → Bool | .ix => true | _ => false
mutual
def cE : E → CC → Expr → Bool
  | .cst d, _, X0 => match X0 with
    | .Constant k _ _ => cCst d k
    | _ => false
  | .var i, c, X0 => match X0 with
    | .Name x _ => decide (c.N[i]? = some x) && visB c.sc x && okN x
    | _ => false
  | .glob x d, c, X0 => match X0 with
    | .Name y _ => x == y && glB c.sc x && okN x && c.pg.consts.any fun p => p.1 == x && D.beq p.2 d
    | _ => false
  | .op1 .not a, c, X0 => match X0 with
    | .UnaryOp .Not e _ => cE a c e
    | _ => false
  | .op2 o a b, c, X0 => match X0 with
    | .Subscript x y _ => isIxO o && cE a c x && cE b c y && plainIx y
    | .BinOp x op y _ => decide (binOf o = some op) && cE a c x && cE b c y
    | .Compare x [op] [y] _ => decide (cmpOf o = some op) && plainS y && cE a c x && cE b c y
    | _ => false
  | .op1 .neg a, c, X0 => match X0 with
    | .UnaryOp .USub e _ => cE a c e
    | _ => false
  | .op1 .isN a, c, X0 => match X0 with
    | .Compare e [.Is] [.Constant .none _ _] _ => cE a c e
    | _ => false
  | .op1 .notN a, c, X0 => match X0 with
    | .Compare e [.IsNot] [.Constant .none _ _] _ => cE a c e
    | _ => false
  | .chain o o' a b d, c, X0 => match X0 with
    | .Compare x [op, op'] [y, z] _ => decide (cmpOf o = some op) && decide (cmpOf o' = some op') && plainS z && cE a c x && cE b c y && cE d c z
    | _ => false
  | .andE es, c, X0 => match X0 with
    | .BoolOp .And vs _ => cEs es c vs && !vs.isEmpty
    | _ => false
  | .orE es, c, X0 => match X0 with
    | .BoolOp .Or vs _ => cEs es c vs && !vs.isEmpty
    | _ => false
  | .ife t a b, c, X0 => match X0 with
    | .IfExp x y z _ => cT t c x && cE a c y && cE b c z
    | _ => false
  | .tup es, c, X0 => match X0 with
    | .Tuple xs _ _ => cEs es c xs
    | _ => false
  | .lst _ es, c, X0 => match X0 with
    | .List xs _ => cEs es c xs
    | _ => false
  | .sl _ a lo hi, c, X0 => match X0 with
    | .Subscript x (.Slice l h none _) _ => cE a c x && cOE lo c l && cOE hi c h
    | _ => false
  | .lrng _ a, c, X0 => match X0 with
    | .Call (.Name f _) [.Call (.Name f2 _) [x] [] _] [] _ => f == ("list" : Str) && f2 == ("range" : Str) && glB c.sc f && glB c.sc f2 && plainE x && cE a c x
    | _ => false
  | .rev a s, c, X0 => match X0 with
    | .Subscript x (.Slice none none (some y) _) _ => cE a c x && cE s c y
    | _ => false
  | .isi a t, c, X0 => match X0 with
    | .Call (.Name f _) [x, .Name y _] [] _ => f == ("isinstance" : Str) && glB c.sc f && glB c.sc y && y == Str.ofString t && tyNames.contains t && plainE x && cE a c x
    | _ => false
  | .isiT a ts, c, X0 => match X0 with
    | .Call (.Name f _) [x, .Tuple ys _ _] [] _ => f == ("isinstance" : Str) && glB c.sc f && cTys ts c ys && decide (ts.length ≤ 100) && plainE x && cE a c x
    | _ => false
  | .bi b es, c, X0 => match X0 with
    | .Call (.Name f _) xs [] _ => f == (biK b).1 && glB c.sc f && !xs.isEmpty && cEs es c xs
    | _ => false
  | .me m o es, c, X0 => match X0 with
    | .Call (.Attribute x f apos) ys [] pos => f == meK m && decide (apos.endLine = pos.line) && plainB x && !ys.isEmpty && decide (ys.length < 20) && cE o c x && cEs es c ys
    | _ => false
  | .lam j, c, X0 => match X0 with
    | .Lambda params body scope _ => c.lamC j params body scope
    | _ => false
  | .callv _ nd i es, c, X0 => match X0 with
    | .Call (.Name x _) xs [] _ => decide (c.N[i]? = some x) && visB c.sc x && okN x && decide (nd = c.pg.defs.length) && !xs.isEmpty && cEs es c xs
    | _ => false
  | .call _ f es, c, X0 => match X0 with
    | .Call (.Name x _) xs [] _ => (match c.pg.defs[f]? with | some di => x == di.name && !di.meth && decide (xs.length + di.dfl.length = di.ps.length) | none => false) && glB c.sc x && okN x && !xs.isEmpty && cEs es c xs
    | _ => false
  | .callk _ f es ks, c, X0 => match X0 with
    | .Call (.Name x _) xs kws _ => (match c.pg.defs[f]? with | some di => x == di.name && !di.meth && decide (xs.length + di.dfl.length = di.ps.length) && !di.dfl.isEmpty && decide (kwNames kws = di.dfl.map fun p => some p.1) | none => false) && glB c.sc x && okN x && !xs.isEmpty && cEs es c xs && cKs ks c kws
    | _ => false
  | .comp _ elt g it t own, c, X0 => match X0 with
    | .ListComp x [⟨tg, itx, ifs, 0⟩] scope _ => blkC c.N c.sc scope (ownP c.N own) && cIt it c tg itx && cG g (blkCC c scope) tg && noSub g && (gi g).all (fun i => own.contains i) && cOT t (blkCC c scope) ifs && cE elt (blkCC c scope) x
    | _ => false
  | .lens a, c, X0 => match X0 with
    | .Call (.Name f _) [.Call (.Name f2 _) [x] [] _] [] _ => f == ("len" : Str) && f2 == ("set" : Str) && glB c.sc f && glB c.sc f2 && plainE x && cE a c x
    | _ => false
  | .kind nd a, c, X0 => match X0 with
    | .Call (.Name f _) [x] [] _ => f == ("_law_kind" : Str) && glB c.sc f && c.kd && decide (nd = c.pg.defs.length + c.pg.lams.length) && plainE x && cE a c x
    | _ => false
  | .kinds _ nd it v, c, X0 => match X0 with
    | .ListComp (.Call (.Name f _) [.Name y p] [] _) [⟨tg, itx, [], 0⟩] scope _ => f == ("_law_kind" : Str) && c.kd && decide (nd = c.pg.defs.length + c.pg.lams.length) &&
    blkC c.N c.sc scope (ownP c.N [v]) && cIt it c tg itx && cG (.name v) (blkCC c scope) tg && cE (.var v) (blkCC c scope) (.Name y p) && glB (blkCC c scope).sc f && !visB c.sc y
    | _ => false
  | .comp2 _ elt g it t own g1 it1 t1 own1, c, X0 => match X0 with
    | .ListComp x [⟨tg, itx, ifs, 0⟩, ⟨tg1, itx1, ifs1, 0⟩] scope _ => blkC c.N c.sc scope (ownP c.N own) && cIt it c tg itx && cG g (blkCC c scope) tg && noSub g && (gi g).all (fun i => own.contains i) && cOT t (blkCC c scope) ifs && cE elt (blkCC c scope) x &&
      cIt it1 (blkCC c scope) tg1 itx1 && cG g1 (blkCC c scope) tg1 && noSub g1 && (gi g1).all (fun i => own1.contains i) && cOT t1 (blkCC c scope) ifs1 && own1.all (fun i => own.contains i)
    | _ => false
  | .dct es, c, X0 => match X0 with
    | .Dict ks vs _ => cDs es c ks vs && !ks.isEmpty && decide (ks.length ≤ 15)
    | _ => false
  | .dnew _, _, X0 => match X0 with
    | .Dict [] [] _ => true
    | _ => false
  | .dix a b, c, X0 => match X0 with
    | .Subscript x y _ => cE a c x && cE b c y && plainIx y
    | _ => false
  | .dixT a es, c, X0 => match X0 with
    | .Subscript x (.Tuple ys _ _) _ => decide (ys.length ≤ 1000) && cE a c x && cEs es c ys
    | _ => false
  | .dget a b d, c, X0 => match X0 with
    | .Call (.Attribute x f apos) [y, z] [] pos => f == ("get" : Str) && decide (apos.endLine = pos.line) && plainB x && plainE y && plainE z && cE a c x && cE b c y && cE d c z
    | _ => false
  | .dsetd a b d, c, X0 => match X0 with
    | .Call (.Attribute x f apos) [y, z] [] pos => f == ("setdefault" : Str) && decide (apos.endLine = pos.line) && plainB x && plainE y && plainE z && cE a c x && cE b c y && cE d c z
    | _ => false
  | .ras a, c, X0 => match X0 with
    | .Call (.Attribute x _ apos) [] [] pos => decide (apos.endLine = pos.line) && plainB x && cE a c x
    | _ => false
  | .fld cl a f, c, X0 => match X0 with
    | .Attribute x g _ => g == f && plainB x && c.pg.flds.contains (cl, f) && cE a c x
    | _ => false
  | .new cl f es, c, X0 => match X0 with
    | .Call (.Name x _) xs [] _ => (c.pg.clss[cl]? == some (x, f)) && (match c.pg.defs[f]? with | some di => decide (xs.length + 1 = di.ps.length) && di.dfl.isEmpty | none => false) && glB c.sc x && okN x && !xs.isEmpty && cEs es c xs
    | _ => false
  | .meth cl f m o es, c, X0 => match X0 with
    | .Call (.Attribute x g apos) ys [] pos => g == m && decide (apos.endLine = pos.line) && plainB x && decide (ys.length < 20) && c.pg.meths.contains (cl, m, f) && (match c.pg.defs[f]? with | some di => decide (ys.length + 1 = di.ps.length) && di.dfl.isEmpty | none => false) && cE o c x && cEs es c ys
    | _ => false
def cDs : Es → CC → List (Option Expr) → List Expr → Bool
  | .nil, _, [], [] => true
  | .cons k (.cons v es), c, some x :: xs, y :: ys => cE k c x && cE v c y && cDs es c xs ys
  | _, _, _, _ => false
def cEs : Es → CC → List Expr → Bool
  | .nil, _, [] => true
  | .cons e es, c, x :: xs => plainE x && cE e c x && cEs es c xs
  | _, _, _ => false
def cKs : Es → CC → List Keyword → Bool
  | .nil, _, [] => true
  | .cons e es, c, ⟨some _, x, _⟩ :: xs => cE e c x && cKs es c xs
  | _, _, _ => false
def cOE : OE → CC → Option Expr → Bool
  | .none, _, none => true
  | .some e, c, some x => cE e c x
  | _, _, _ => false
def cOT : OT → CC → List Expr → Bool
  | .none, _, [] => true
  | .some t, c, [x] => cT t c x
  | _, _, _ => false
def cT : T → CC → Expr → Bool
  | .din neg k d, c, X0 => match X0 with
    | .Compare x [op] [y] _ => (op == (if neg then .NotIn else .In)) && plainS y && cE k c x && cE d c y
    | _ => false
  | .dinT neg ks d, c, X0 => match X0 with
    | .Compare (.Tuple xs _ _) [op] [y] _ => decide (xs.length ≤ 1000) && (op == (if neg then .NotIn else .In)) && plainS y && cEs ks c xs && cE d c y
    | _ => false
  | .val e, c, x => plainT x && cE e c x
  | .cmp o a b, c, X0 => match X0 with
    | .Compare x [op] [y] _ => decide (cmpOf o = some op) && plainS y && cE a c x && cE b c y
    | _ => false
  | .isN neg a, c, X0 => match X0 with
    | .Compare x [op] [.Constant .none _ _] _ => (op == (if neg then .IsNot else .Is)) && cE a c x
    | _ => false
  | .chain o o' a b d, c, X0 => match X0 with
    | .Compare x [op, op'] [y, z] _ => decide (cmpOf o = some op) && decide (cmpOf o' = some op') && plainS z && cE a c x && cE b c y && cE d c z
    | _ => false
  | .not t, c, X0 => match X0 with
    | .UnaryOp .Not x _ => cT t c x
    | _ => false
  | .and ts, c, X0 => match X0 with
    | .BoolOp .And vs _ => cTs ts c vs
    | _ => false
  | .or ts, c, X0 => match X0 with
    | .BoolOp .Or vs _ => cTs ts c vs
    | _ => false
def cTs : Ts → CC → List Expr → Bool
  | .one t, c, [x] => cT t c x
  | .cons t ts, c, x :: xs => cT t c x && cTs ts c xs
  | _, _, _ => false
def cG : G → CC → Expr → Bool
  | .name i, c, .Name x _ => decide (c.N[i]? = some x) && stB c x
  | .tup gs, c, .Tuple xs _ _ => noSubs gs && cGs gs c xs
  | .sub o i, c, .Subscript x y _ => cE o c x && cE i c y && plainIx y
  | _, _, _ => false
def cGs : Gs → CC → List Expr → Bool
  | .nil, _, [] => true
  | .cons g gs, c, x :: xs => plainE x && cG g c x && cGs gs c xs
  | _, _, _ => false
def cIt : It → CC → Expr → Expr → Bool
  | .seq e, c, _, x => plainS x && cE e c x
  | .rng1 a, c, _, X0 => match X0 with
    | .Call (.Name f _) [x] [] _ => f == ("range" : Str) && glB c.sc f && plainE x && cE a c x
    | _ => false
  | .rng2 a b, c, _, X0 => match X0 with
    | .Call (.Name f _) [x, y] [] _ => f == ("range" : Str) && glB c.sc f && plainE x && plainE y && cE a c x && cE b c y
    | _ => false
  | .enum a, c, tg, X0 => match X0 with
    | .Call (.Name f _) [x] [] _ => f == ("enumerate" : Str) && glB c.sc f && isTupE tg && plainE x && cE a c x
    | _ => false
  | .zip a b, c, tg, X0 => match X0 with
    | .Call (.Name f _) [x, y] [] _ => f == ("zip" : Str) && glB c.sc f && isTupE tg && plainE x && plainE y && cE a c x && cE b c y
    | _ => false
  | .txt a, c, _, x => plainS x && cE a c x
def cTys : List String → CC → List Expr → Bool
  | [], _, [] => true
  | t :: ts, c, .Name y _ :: ys => glB c.sc y && y == Str.ofString t && tyNames.contains t && cTys ts c ys
  | _, _, _ => false
end
/-- the pair of stores that is made from the right -/
def nameAt (sc : Scope) (line : Nat) : Expr → Option Str
  | .Name id pos => if sc.names.lookup id == some .local && pos.line == line then some id else none
  | _ => none
def isStar : Expr → Bool | .Starred .. => true | _ => false
def swS (sc : Scope) (ts vs : List Expr) : Option (Option (List Str)) :=
  if (!(ts.length == 2 || ts.length == 3) || vs.length != ts.length) = true then some none
  else if (vs.any isStar) = true then some none
  else
    let line := (ts.head?.map (·.pos.line)).getD 0
    let names := ts.filterMap (nameAt sc line)
    if (names.length != ts.length || names.eraseDups.length != names.length) = true then some none
    else if vs.all (foldedForSure 8) = true then some none
    else if vs.all (constantsAlone 8) = true then none
    else some (some names)
/-- is the comprehension's store exchanged with its end -/
def swC (c : CC) (tg : Expr) : Expr → Bool
  | .ListComp _ _ s pos => match tg with
    | .Name t p => decide (c.sc.names.lookup t = some .local) && p.line == pos.line && !(s.names.any fun (n, k) => n == t && (k == .local || k == .cell))
    | _ => false
  | _ => false
def isComp : Expr → Bool | .ListComp .. => true | .SetComp .. => true | .DictComp .. => true | _ => false
def noSC : Expr → Bool | .SetComp .. => false | .DictComp .. => false | _ => true
def okAsg (c : CC) (tg x : Expr) : Bool := noSC x && !(swC c tg x) &&
  (match tg, x with
   | .Tuple ts _ _, .Tuple vs _ _ => decide (swS c.sc ts vs = some none)
   | .List _ _, _ => false
   | _, _ => true)
def isGName : G → Bool | .name _ => true | _ => false
def setOk (g : G) : E → Bool | .kinds .. => isGName g | .comp .. => isGName g | .comp2 .. => isGName g | _ => false
mutual
def cS : S → CC → Stmt → Bool
  | .expr e, c, X0 => match X0 with
    | .Expr x _ => !(isComp x) && cE e c x
    | _ => false
  | .asg g e, c, X0 => match X0 with
    | .Assign [tg] x _ => cG g c tg && plainE tg && cE e c x && (if swC c tg x then setOk g e else okAsg c tg x)
    | _ => false
  | .par i j a b, c, X0 => match X0 with
    | .Assign [.Tuple [.Name x px, .Name y py] _ _] (.Tuple [u, v] _ _) _ => decide (c.N[i]? = some x) && decide (c.N[j]? = some y) && decide (i ≠ j) &&
      decide (c.sc.names.lookup x = some .local) && decide (c.sc.names.lookup y = some .local) && plainE u && plainE v && cE a c u && cE b c v && decide (swS c.sc [.Name x px, .Name y py] [u, v] = some (some [x, y]))
    | _ => false
  | .par3 i j l a b d, c, X0 => match X0 with
    | .Assign [.Tuple [.Name x px, .Name y py, .Name z pz] _ _] (.Tuple [u, v, w] _ _) _ => decide (c.N[i]? = some x) && decide (c.N[j]? = some y) && decide (c.N[l]? = some z) && decide (i ≠ j) && decide (i ≠ l) && decide (j ≠ l) &&
      decide (c.sc.names.lookup x = some .local) && decide (c.sc.names.lookup y = some .local) && decide (c.sc.names.lookup z = some .local) && plainE u && plainE v && plainE w && cE a c u && cE b c v && cE d c w && decide (swS c.sc [.Name x px, .Name y py, .Name z pz] [u, v, w] = some (some [x, y, z]))
    | _ => false
  | .aug i o e, c, X0 => match X0 with
    | .AugAssign (.Name x _) op y _ => decide (c.N[i]? = some x) && stB c x && cE e c y && (match o, op with | .add _, .Add => true | .sub, .Sub => true | .mul _, .Mult => true | _, _ => false)
    | _ => false
  | .ret e, c, X0 => match X0 with
    | .Return (some x) _ => cE e c x
    | _ => false
  | .retN, _, X0 => match X0 with
    | .Return none _ => true
    | _ => false
  | .ife t a b, c, X0 => match X0 with
    | .If x ys zs _ => cT t c x && cSs a c ys && cSs b c zs
    | _ => false
  | .whl t b, c, X0 => match X0 with
    | .While x ys [] _ => cT t c x && cSs b c ys
    | _ => false
  | .for_ g it b, c, X0 => match X0 with
    | .For tg x ys [] _ => cG g c tg && cIt it c tg x && plainS x && cSs b c ys
    | _ => false
  | .dput o k e, c, X0 => match X0 with
    | .Assign [.Subscript x y _] v _ => cE o c x && cE k c y && plainIx y && cE e c v && noSC v && !(isComp v)
    | _ => false
  | .dputT o ks e, c, X0 => match X0 with
    | .Assign [.Subscript x (.Tuple ys _ _) _] v _ => decide (ys.length ≤ 1000) && cE o c x && cEs ks c ys && cE e c v && noSC v && !(isComp v)
    | _ => false
  | .fset cl o f e, c, X0 => match X0 with
    | .Assign [.Attribute x g _] v _ => g == f && plainB x && c.pg.flds.contains (cl, f) && cE o c x && cE e c v && noSC v && !(isComp v)
    | _ => false
  | .faug cl o f op e, c, X0 => match X0 with
    | .AugAssign (.Attribute x g _) bop y _ => g == f && plainB x && c.pg.flds.contains (cl, f) && cE o c x && cE e c y && (match op, bop with | .add _, .Add => true | .sub, .Sub => true | _, _ => false)
    | _ => false
  | .pass, _, X0 => match X0 with
    | .Pass _ => true
    | _ => false
  | .brk, _, X0 => match X0 with
    | .Break _ => true
    | _ => false
  | .cont, _, X0 => match X0 with
    | .Continue _ => true
    | _ => false
  | .nev, _, _ => true
  | .raise cl fs es, c, X0 => match X0 with
    | .Raise (some (.Call (.Name x _) args [] _)) none _ => decide (exNames[cl]? = some x) && glB c.sc x && okN x && (c.pg.excs.any fun p => p.1 == cl && p.2 == fs) && cEs es c args && !args.isEmpty &&
    (if fs.isEmpty then (match es, args with | .cons (.cst (.str _)) .nil, [.Constant (.str _) _ _] => true | _, _ => false) else decide (args.length = fs.length))
    | _ => false
def cSs : Ss → CC → List Stmt → Bool
  | .nil, _, [] => true
  | .cons s ss, c, x :: xs => cS s c x && cSs ss c xs
  | _, _, _ => false
end
end KI

namespace KI
open PySem PySem.Spec PyProof.Rows L2
variable [LX]
/-! ## 11. rules, one a construct -/
theorem _root_.L2.PE.imp {X : Cx} {e : Expr} {t t' : TE} (h : PE X e t) (i : ∀ σ H Q, t' σ H Q → t σ H Q) : PE X e t' := ⟨fun pins s σ H Q I q => h.run pins s σ H Q I (i σ H Q q)⟩
theorem _root_.L2.PT.imp {X : Cx} {e : Expr} {t t' : TT} (h : PT X e t) (i : ∀ σ H Q, t' σ H Q → t σ H Q) : PT X e t' := ⟨fun pins s σ H Q I q => h.run pins s σ H Q I (i σ H Q q)⟩
theorem _root_.L2.PW.imp {X : Cx} {e : Expr} {t t' : TT} (h : PW X e t) (i : ∀ σ H Q, t' σ H Q → t σ H Q) : PW X e t' := ⟨fun wh pins s σ H Q I q => h.run wh pins s σ H Q I (i σ H Q q)⟩
theorem _root_.L2.PA.imp {X : Cx} {e : List Expr} {t t' : TA} (h : PA X e t) (i : ∀ σ H Q, t' σ H Q → t σ H Q) : PA X e t' := ⟨fun pos pins s σ H Q I q => h.run pos pins s σ H Q I (i σ H Q q)⟩
theorem _root_.L2.PK.imp {X : Cx} {e : List Keyword} {t t' : TA} (h : PK X e t) (i : ∀ σ H Q, t' σ H Q → t σ H Q) : PK X e t' := ⟨fun pos pins s σ H Q I q => h.run pos pins s σ H Q I (i σ H Q q)⟩
theorem _root_.L2.PO.imp {X : Cx} {e : Option Expr} {t t' : TO} (h : PO X e t) (i : ∀ σ H Q, t' σ H Q → t σ H Q) : PO X e t' := ⟨fun pins s σ H Q I q => h.run pins s σ H Q I (i σ H Q q)⟩
section
variable {X : Cx} {CA : Nat → Addr} {W : WX}
theorem star_plain {e : Expr} {es : List Expr} {env : Env} (h : plainE e = true) : starEach (e :: es) env = (false, eval e env) :: starEach es env := by
  cases e <;> first | rfl | (simp [plainE] at h; done)
def plainEs : List Expr → Bool
  | [] => true
  | e :: es => plainE e && plainEs es
theorem any_plain {env : Env} {pos : Pos} : ∀ {es : List Expr}, plainEs es = true → (backTo pos (starEach es env)).any (·.1) = false
  | [], _ => rfl
  | e :: es, h => by
    simp only [plainEs, Bool.and_eq_true] at h
    rw [star_plain h.1]
    have := any_plain (env := env) (pos := pos) h.2
    simp only [backTo, List.map_cons, List.any_cons, Bool.false_or] at this ⊢
    exact this
theorem all_plain {env : Env} {pos : Pos} : ∀ {es : List Expr}, plainEs es = true → (backTo pos (starEach es env)).all (fun x => !x.1) = true
  | [], _ => rfl
  | e :: es, h => by
    simp only [plainEs, Bool.and_eq_true] at h
    rw [star_plain h.1]
    have := all_plain (env := env) (pos := pos) h.2
    simp only [backTo, List.map_cons, List.all_cons, Bool.not_false, Bool.true_and] at this ⊢
    exact this
theorem two_imp {fa fb : EnvI → HpI → Out D} {op : D → D → HpI → Option (D × HpI)} {σ : L2.St} {H : Hp} {Q : VK}
    (h : tE X.K CA W (fun env hp => (fa env hp).bind fun x hp => (fb env hp).bind fun y hp => ofOpt (op x y hp)) σ H Q) : tOp (RD2 X.K op) (tE X.K CA W fa) (tE X.K CA W fb) σ H Q := by
  obtain ⟨env, L, Xg, hp, k, r, g⟩ := h
  refine ⟨env, L, Xg, hp, k, r, (GD.bind g).imp fun d hp1 H1 L1 X1 p1 k1 g1 v rv => ?_⟩
  refine ⟨env, L1, X1, hp1, k1, r.post k p1, (GD.bind g1).imp fun e hp2 H2 L2 X2 p2 k2 g2 u ru => ?_⟩
  exact ⟨L2, X2, hp2, d, e, k2, rv.post k1 p2, ru, GD.fin g2⟩
variable {a b c : Expr} {pos : Pos} {fa fb fc : EnvI → HpI → Out D}
theorem snd_bin {o : Op2} {op : Operator} (h : binOf o = some op) (ha : PE X a (tE X.K CA W fa)) (hb : PE X b (tE X.K CA W fb)) :
    PE X (.BinOp a op b pos) (tE X.K CA W fun env hp => (fa env hp).bind fun x hp => (fb env hp).bind fun y hp => ofOpt (sem2 o x y hp)) :=
  (pe_op (op_bin h) ha hb).imp fun _ _ _ q => two_imp q
theorem mark_plain {op : CmpOp} (h : plainS b = true) : behindInMarks op b = false := by
  cases b <;> first | rfl | (simp [plainS] at h; done)
theorem snd_cmp (hu : X.A.units + 64 < cLine) {o : Op2} {op : CmpOp} (h : cmpOf o = some op) (hp : plainS b = true) (ha : PE X a (tE X.K CA W fa)) (hb : PE X b (tE X.K CA W fb)) :
    PE X (.Compare a [op] [b] pos) (tE X.K CA W fun env hp => (fa env hp).bind fun x hp => (fb env hp).bind fun y hp => ofOpt (sem2 o x y hp)) :=
  (pe_cmpR (op_cmpD hu h) ha hb (mark_plain hp)).imp fun _ _ _ q => two_imp q
theorem snd_ix (ha : PE X a (tE X.K CA W fa)) (hb : PE X b (tE X.K CA W fb)) (hp : plainIx b = true) :
    PE X (.Subscript a b pos) (tE X.K CA W fun env hp => (fa env hp).bind fun x hp => (fb env hp).bind fun y hp => ofOpt (sem2 .ix x y hp)) :=
  (pe_ix ix_D ha hb (by intro o i; cases b <;> first | rfl | (simp [plainIx] at hp; done))).imp fun _ _ _ q => two_imp q
theorem GD.isb {K : PySem.W.Frag} {H : Hp} {L Xg : List Addr} {Wk : XK} {hp : HpI} {z : D} {Q : Bool → Hp → Prop} {v : V} (g : GD K CA H L Xg Wk (match z with | .bl b => Out.ok b hp | _ => .bad) (RQb Q)) (k : HOK K H L Xg hp) (r : Rep K H L Xg z v) : ∃ c, v = .bl c ∧ z = .bl c ∧ Q c H := by
  cases z with
  | bl b => exact ⟨b, r, rfl, GD.here g k⟩
  | _ => exact g.elim
theorem sndT_cmp (hu : X.A.units + 64 < cLine) {o : Op2} {op : CmpOp} (h : cmpOf o = some op) (hp : plainS b = true) (ha : PE X a (tE X.K CA W fa)) (hb : PE X b (tE X.K CA W fb)) :
    PT X (.Compare a [op] [b] pos) (tT X.K CA W fun env hp => (fa env hp).bind fun x hp => (fb env hp).bind fun y hp => (ofOpt (sem2 o x y hp)).bind fun z hp => match z with | .bl b => .ok b hp | _ => .bad) := by
  refine (pt_cmpR (op_cmpD hu h) ha hb (mark_plain hp)).imp fun σ H Q ⟨env, L, Xg, hp, k, r, g⟩ => ?_
  refine ⟨env, L, Xg, hp, k, r, (GD.bind g).imp fun d hp1 H1 L1 X1 p1 k1 g1 v rv => ?_⟩
  refine ⟨env, L1, X1, hp1, k1, r.post k p1, (GD.bind g1).imp fun e hp2 H2 L2 X2 p2 k2 g2 u ru => ?_⟩
  refine ⟨L2, X2, hp2, d, e, k2, rv.post k1 p2, ru, GD.fin ((GD.bind g2).imp fun z hp3 H3 L3 X3 p3 k3 g3 w rw' => ?_)⟩
  obtain ⟨c, e1, _, q⟩ := g3.isb k3 rw'
  exact ⟨c, e1, q⟩
theorem snd_chain (hu : X.A.units + 64 < cLine) {o o' : Op2} {op op' : CmpOp} (h : cmpOf o = some op) (h' : cmpOf o' = some op') (hp : plainS c = true) (ha : PE X a (tE X.K CA W fa)) (hb : PE X b (tE X.K CA W fb)) (hc : PE X c (tE X.K CA W fc)) :
    PE X (.Compare a [op, op'] [b, c] pos) (tE X.K CA W fun env hp => (fa env hp).bind fun x hp => (fb env hp).bind fun y hp => (ofOpt (sem2 o x y hp)).bind fun z hp =>
      match z with
      | .bl true => (fc env hp).bind fun u hp => ofOpt (sem2 o' y u hp)
      | .bl false => .ok (.bl false) hp
      | _ => .bad) := by
  refine (pe_chain (op_cmpD hu h) (op_cmpD hu h') ha hb hc (by show lastMarks [op'] [c] = false; exact mark_plain hp)).imp fun σ H Q ⟨env, L, Xg, hp, k, r, g⟩ => ?_
  refine ⟨env, L, Xg, hp, k, r, (GD.bind g).imp fun d hp1 H1 L1 X1 p1 k1 g1 v rv => ?_⟩
  have r1 := r.post k p1
  refine ⟨env, L1, X1, hp1, k1, r1, (GD.bind g1).imp fun e hp2 H2 L2 X2 p2 k2 g2 u ru => ?_⟩
  have r2 := r1.post k1 p2
  refine ⟨L2, X2, hp2, d, e, k2, rv.post k1 p2, ru, GD.fin ((GD.bind g2).imp fun z hp3 H3 L3 X3 p3 k3 g3 w rw' => ?_)⟩
  cases z with
  | bl q =>
    refine ⟨q, rw', ?_⟩
    cases q with
    | true =>
      rw [if_pos rfl]
      refine ⟨env, L3, X3, hp3, k3, r2.post k2 p3, (GD.bind g3).imp fun e4 hp4 H4 L4 X4 p4 k4 g4 u4 ru4 => ?_⟩
      exact ⟨L4, X4, hp4, e, e4, k4, (ru.post k2 p3).post k3 p4, ru4, GD.fin g4⟩
    | false =>
      rw [if_neg Bool.false_ne_true]
      exact GD.here g3 k3 _ rfl
  | _ => exact g3.elim
theorem sndT_chain (hu : X.A.units + 64 < cLine) {o o' : Op2} {op op' : CmpOp} (h : cmpOf o = some op) (h' : cmpOf o' = some op') (hp : plainS c = true) (ha : PE X a (tE X.K CA W fa)) (hb : PE X b (tE X.K CA W fb)) (hc : PE X c (tE X.K CA W fc)) :
    PT X (.Compare a [op, op'] [b, c] pos) (tT X.K CA W fun env hp => (fa env hp).bind fun x hp => (fb env hp).bind fun y hp => (ofOpt (sem2 o x y hp)).bind fun z hp =>
      match z with
      | .bl true => (fc env hp).bind fun u hp => (ofOpt (sem2 o' y u hp)).bind fun z hp => match z with | .bl b => .ok b hp | _ => .bad
      | .bl false => .ok false hp
      | _ => .bad) := by
  refine (pt_chain (op_cmpD hu h) (op_cmpD hu h') ha hb hc (by show lastMarks [op'] [c] = false; exact mark_plain hp)).imp fun σ H Q ⟨env, L, Xg, hp, k, r, g⟩ => ?_
  refine ⟨env, L, Xg, hp, k, r, (GD.bind g).imp fun d hp1 H1 L1 X1 p1 k1 g1 v rv => ?_⟩
  have r1 := r.post k p1
  refine ⟨env, L1, X1, hp1, k1, r1, (GD.bind g1).imp fun e hp2 H2 L2 X2 p2 k2 g2 u ru => ?_⟩
  have r2 := r1.post k1 p2
  refine ⟨L2, X2, hp2, d, e, k2, rv.post k1 p2, ru, GD.fin ((GD.bind g2).imp fun z hp3 H3 L3 X3 p3 k3 g3 w rw' => ?_)⟩
  cases z with
  | bl q =>
    refine ⟨q, rw', ?_⟩
    cases q with
    | true =>
      rw [if_pos rfl]
      refine ⟨env, L3, X3, hp3, k3, r2.post k2 p3, (GD.bind g3).imp fun e4 hp4 H4 L4 X4 p4 k4 g4 u4 ru4 => ?_⟩
      refine ⟨L4, X4, hp4, e, e4, k4, (ru.post k2 p3).post k3 p4, ru4, GD.fin ((GD.bind g4).imp fun z hp5 H5 L5 X5 p5 k5 g5 w5 rw5 => ?_)⟩
      obtain ⟨c, e1, _, q⟩ := g5.isb k5 rw5
      exact ⟨c, e1, q⟩
    | false =>
      rw [if_neg Bool.false_ne_true]
      exact ⟨false, rfl, GD.here g3 k3⟩
  | _ => exact g3.elim
theorem snd_var {i : Nat} {x : Str} (hN : X.N[i]? = some x) (hv : visB X.env.scope x = true) (ho : okN x = true) : PE X (.Name x pos) (tE X.K CA W fun env hp => match env[i]? with | some (some d) => .ok d hp | _ => .bad) := by
  unfold okN at ho
  simp only [Bool.and_eq_true, Bool.not_eq_true'] at ho
  have hv' : Vis X.env.scope x := by
    unfold visB at hv
    split at hv
    · exact .inl (by assumption)
    · exact .inr (.inl (by assumption))
    · exact .inr (.inr (by assumption))
    · cases hv
  refine (pe_var hN hv' ho.1 ho.2).imp fun σ H Q ⟨env, L, Xg, hp, k, r, g⟩ => ?_
  cases q : env[i]? with
  | none => simp only [q] at g; exact g.elim
  | some o =>
    cases o with
    | none => simp only [q] at g; exact g.elim
    | some d =>
      simp only [q] at g
      obtain ⟨v, e1, r1⟩ := r.get i d q
      exact ⟨v, e1, GD.here g k v r1⟩
theorem gl_of {sc : Scope} {x : Str} (h : glB sc x = true) : sc.names.lookup x = some .globalImplicit := by
  unfold glB at h
  split at h
  · assumption
  · cases h
theorem snd_val {d : D} {v : V} {e : Expr} (h : PE X e (tC v)) (r : ∀ H L Xg, Rep X.K H L Xg d v) : PE X e (tE X.K CA W fun _ hp => .ok d hp) :=
  h.imp fun σ H Q ⟨env, L, Xg, hp, k, _, g⟩ => GD.here g k v (r _ _ _)
theorem snd_cst {d : D} {q : Const} {k : Nat} (h : cCst d q = true) : PE X (.Constant q k pos) (tE X.K CA W fun _ hp => .ok d hp) := by
  cases d <;> cases q <;> first | (simp [cCst] at h; done) | skip
  · exact snd_val pe_non (fun _ _ _ => rfl)
  · simp only [cCst, beq_iff_eq] at h; subst h; exact snd_val pe_bl (fun _ _ _ => rfl)
  · simp only [cCst, beq_iff_eq] at h; subst h; exact snd_val pe_int (fun _ _ _ => rfl)
  · simp only [cCst, beq_iff_eq] at h; subst h; exact snd_val pe_str (fun _ _ _ => rfl)
theorem snd_not (ha : PE X a (tE X.K CA W fa)) : PE X (.UnaryOp .Not a pos) (tE X.K CA W fun env hp => (fa env hp).bind fun x hp => ofOpt (sem1 .not x hp)) := by
  refine (pe_not ha).imp fun σ H Q ⟨env, L, Xg, hp, k, r, g⟩ => ?_
  refine ⟨env, L, Xg, hp, k, r, (GD.bind g).imp fun d hp1 H1 L1 X1 p1 k1 g1 v rv => ?_⟩
  cases d with
  | bl q => exact ⟨q, rv, GD.here g1 k1 _ rfl⟩
  | _ => exact g1.elim
theorem snd_neg (ha : PE X a (tE X.K CA W fa)) : PE X (.UnaryOp .USub a pos) (tE X.K CA W fun env hp => (fa env hp).bind fun x hp => ofOpt (sem1 .neg x hp)) := by
  refine (pe_un un_neg ha).imp fun σ H Q ⟨env, L, Xg, hp, k, r, g⟩ => ?_
  refine ⟨env, L, Xg, hp, k, r, (GD.bind g).imp fun d hp1 H1 L1 X1 p1 k1 g1 v rv => ?_⟩
  cases d with
  | int q => exact ⟨q, rv, GD.here g1 k1 _ rfl⟩
  | _ => exact g1.elim
def nonB : D → Bool | .non => true | _ => false
theorem non_of {K : PySem.W.Frag} {H : Hp} {L Xg : List Addr} {d : D} {v : V} (r : Rep K H L Xg d v) : decide (v = V.non) = nonB d := by
  cases d with
  | non => rw [show v = _ from r]; rfl
  | bl _ => rw [show v = _ from r]; rfl
  | int _ => rw [show v = _ from r]; rfl
  | str _ => rw [show v = _ from r]; rfl
  | tup _ => obtain ⟨_, _, e, _⟩ := r; rw [e]; rfl
  | lst _ => obtain ⟨_, _, e, _⟩ := r; rw [e]; rfl
  | sq _ => obtain ⟨_, _, e, _⟩ := r; rw [e]; rfl
  | loc _ => obtain ⟨_, e, _⟩ := r; rw [e]; rfl
  | fn _ => obtain ⟨_, _, _, _, e, _⟩ := r; rw [e]; rfl
theorem snd_isN {j : Nat} {p' : Pos} (ha : PE X a (tE X.K CA W fa)) : PE X (.Compare a [.Is] [.Constant .none j p'] pos) (tE X.K CA W fun env hp => (fa env hp).bind fun x hp => ofOpt (sem1 .isN x hp)) := by
  refine (pe_cmp (pc_isN ha) rfl).imp fun σ H Q ⟨env, L, Xg, hp, k, r, g⟩ => ?_
  refine ⟨env, L, Xg, hp, k, r, (GD.bind g).imp fun d hp1 H1 L1 X1 p1 k1 g1 v rv => ?_⟩
  show Q (.bl (decide (v = .non))) H1
  rw [non_of rv]
  exact GD.here g1 k1 _ rfl
theorem snd_notN {j : Nat} {p' : Pos} (ha : PE X a (tE X.K CA W fa)) : PE X (.Compare a [.IsNot] [.Constant .none j p'] pos) (tE X.K CA W fun env hp => (fa env hp).bind fun x hp => ofOpt (sem1 .notN x hp)) := by
  refine (pe_cmp (pc_notN ha) rfl).imp fun σ H Q ⟨env, L, Xg, hp, k, r, g⟩ => ?_
  refine ⟨env, L, Xg, hp, k, r, (GD.bind g).imp fun d hp1 H1 L1 X1 p1 k1 g1 v rv => ?_⟩
  show Q (.bl (!decide (v = .non))) H1
  rw [non_of rv]
  exact GD.here g1 k1 _ (by cases d <;> rfl)
theorem sndT_isN {j : Nat} {p' : Pos} {neg : Bool} (ha : PE X a (tE X.K CA W fa)) : PT X (.Compare a [if neg then .IsNot else .Is] [.Constant .none j p'] pos) (tT X.K CA W fun env hp => (fa env hp).bind fun x hp => .ok (match x with | .non => !neg | _ => neg) hp) := by
  cases neg with
  | false =>
    refine (pt_cmp (pc_isN ha) rfl).imp fun σ H Q ⟨env, L, Xg, hp, k, r, g⟩ => ?_
    refine ⟨env, L, Xg, hp, k, r, (GD.bind g).imp fun d hp1 H1 L1 X1 p1 k1 g1 v rv => ⟨_, rfl, ?_⟩⟩
    have q : Q _ H1 := GD.here g1 k1
    rw [non_of rv]
    cases d <;> exact q
  | true =>
    refine (pt_cmp (pc_notN ha) rfl).imp fun σ H Q ⟨env, L, Xg, hp, k, r, g⟩ => ?_
    refine ⟨env, L, Xg, hp, k, r, (GD.bind g).imp fun d hp1 H1 L1 X1 p1 k1 g1 v rv => ⟨_, rfl, ?_⟩⟩
    have q : Q _ H1 := GD.here g1 k1
    rw [non_of rv]
    cases d <;> exact q
theorem snd_and {rest : List Expr} (ha : PE X a (tE X.K CA W fa)) (hb : PE X (.BoolOp .And (b :: rest) pos) (tE X.K CA W fb)) :
    PE X (.BoolOp .And (a :: b :: rest) pos) (tE X.K CA W fun env hp => (fa env hp).bind fun x hp => match x with | .bl true => fb env hp | .bl false => .ok (.bl false) hp | _ => .bad) := by
  refine (pe_and ha hb).imp fun σ H Q ⟨env, L, Xg, hp, k, r, g⟩ => ?_
  refine ⟨env, L, Xg, hp, k, r, (GD.bind g).imp fun d hp1 H1 L1 X1 p1 k1 g1 v rv => ?_⟩
  cases d with
  | bl q =>
    refine ⟨q, rv, ?_⟩
    cases q with
    | true => rw [if_pos rfl]; exact ⟨env, L1, X1, hp1, k1, r.post k p1, g1⟩
    | false => rw [if_neg Bool.false_ne_true]; exact GD.here g1 k1 _ rfl
  | _ => exact g1.elim
theorem snd_or {rest : List Expr} (ha : PE X a (tE X.K CA W fa)) (hb : PE X (.BoolOp .Or (b :: rest) pos) (tE X.K CA W fb)) :
    PE X (.BoolOp .Or (a :: b :: rest) pos) (tE X.K CA W fun env hp => (fa env hp).bind fun x hp => match x with | .bl true => .ok (.bl true) hp | .bl false => fb env hp | _ => .bad) := by
  refine (pe_or ha hb).imp fun σ H Q ⟨env, L, Xg, hp, k, r, g⟩ => ?_
  refine ⟨env, L, Xg, hp, k, r, (GD.bind g).imp fun d hp1 H1 L1 X1 p1 k1 g1 v rv => ?_⟩
  cases d with
  | bl q =>
    refine ⟨q, rv, ?_⟩
    cases q with
    | true => rw [if_pos rfl]; exact GD.here g1 k1 _ rfl
    | false => rw [if_neg Bool.false_ne_true]; exact ⟨env, L1, X1, hp1, k1, r.post k p1, g1⟩
  | _ => exact g1.elim
theorem snd_ife {ft : EnvI → HpI → Out Bool} {t : Expr} (ht : PT X t (tT X.K CA W ft)) (ha : PE X a (tE X.K CA W fa)) (hb : PE X b (tE X.K CA W fb)) :
    PE X (.IfExp t a b pos) (tE X.K CA W fun env hp => (ft env hp).bind fun c hp => if c = true then fa env hp else fb env hp) := by
  refine (pe_ifExp ht ha hb).imp fun σ H Q ⟨env, L, Xg, hp, k, r, g⟩ => ?_
  refine ⟨env, L, Xg, hp, k, r, (GD.bind g).imp fun d hp1 H1 L1 X1 p1 k1 g1 => ?_⟩
  cases d with
  | true => exact ⟨env, L1, X1, hp1, k1, r.post k p1, g1⟩
  | false => exact ⟨env, L1, X1, hp1, k1, r.post k p1, g1⟩
/-! tests -/
theorem sndT_val (ha : PE X a (tE X.K CA W fa)) (hp : plainT a = true) : PT X a (tT X.K CA W fun env hp => (fa env hp).bind fun x hp => match x with | .bl b => .ok b hp | _ => .bad) := by
  refine (pt_val ha (by intro wh; cases a <;> first | rfl | (simp [plainT] at hp; done))).imp fun σ H Q ⟨env, L, Xg, hp, k, r, g⟩ => ?_
  refine ⟨env, L, Xg, hp, k, r, (GD.bind g).imp fun d hp1 H1 L1 X1 p1 k1 g1 v rv => ?_⟩
  obtain ⟨c, e1, _, q⟩ := g1.isb k1 rv
  exact ⟨c, e1, q⟩
variable {ft fu : EnvI → HpI → Out Bool} {rest : List Expr}
theorem sndT_not (ha : PT X a (tT X.K CA W ft)) : PT X (.UnaryOp .Not a pos) (tT X.K CA W fun env hp => (ft env hp).bind fun b hp => .ok (!b) hp) := by
  refine (pt_not ha).imp fun σ H Q ⟨env, L, Xg, hp, k, r, g⟩ => ?_
  exact ⟨env, L, Xg, hp, k, r, (GD.bind g).imp fun d hp1 H1 L1 X1 p1 k1 g1 => g1 _ _ _ Post.refl k1⟩
theorem sndW_and (ha : PT X a (tT X.K CA W ft)) (hb : PW X (.BoolOp .And (b :: rest) pos) (tT X.K CA W fu)) :
    PW X (.BoolOp .And (a :: b :: rest) pos) (tT X.K CA W fun env hp => (ft env hp).bind fun b hp => if b = true then fu env hp else .ok false hp) := by
  refine (pw_and ha hb).imp fun σ H Q ⟨env, L, Xg, hp, k, r, g⟩ => ?_
  refine ⟨env, L, Xg, hp, k, r, (GD.bind g).imp fun d hp1 H1 L1 X1 p1 k1 g1 => ?_⟩
  cases d with
  | true => exact ⟨env, L1, X1, hp1, k1, r.post k p1, g1⟩
  | false => exact g1 _ _ _ Post.refl k1
theorem sndW_or (ha : PT X a (tT X.K CA W ft)) (hb : PW X (.BoolOp .Or (b :: rest) pos) (tT X.K CA W fu)) :
    PW X (.BoolOp .Or (a :: b :: rest) pos) (tT X.K CA W fun env hp => (ft env hp).bind fun b hp => if b = true then .ok true hp else fu env hp) := by
  refine (pw_or ha hb).imp fun σ H Q ⟨env, L, Xg, hp, k, r, g⟩ => ?_
  refine ⟨env, L, Xg, hp, k, r, (GD.bind g).imp fun d hp1 H1 L1 X1 p1 k1 g1 => ?_⟩
  cases d with
  | true => exact g1 _ _ _ Post.refl k1
  | false => exact ⟨env, L1, X1, hp1, k1, r.post k p1, g1⟩
/-! arguments, displays -/
variable {es : List Expr} {fs : EnvI → HpI → Out (List D)}
theorem snd_anil : PA X [] (tA X.K CA W fun _ hp => .ok [] hp) := by
  refine (pa_nil).imp fun σ H Q ⟨env, L, Xg, hp, k, r, g⟩ => ?_
  exact GD.here g k _ rfl
theorem cons_imp {σ : L2.St} {H : Hp} {Q : List V → Hp → Prop} (h : tA X.K CA W (fun env hp => (fa env hp).bind fun x hp => (fs env hp).bind fun xs hp => .ok (x :: xs) hp) σ H Q) : tCons (tE X.K CA W fa) (tA X.K CA W fs) σ H Q := by
  obtain ⟨env, L, Xg, hp, k, r, g⟩ := h
  refine ⟨env, L, Xg, hp, k, r, (GD.bind g).imp fun d hp1 H1 L1 X1 p1 k1 g1 v rv => ?_⟩
  refine ⟨env, L1, X1, hp1, k1, r.post k p1, (GD.bind g1).imp fun ds hp2 H2 L2 X2 p2 k2 g2 vs rvs => ?_⟩
  exact GD.here g2 k2 _ (.cons (rv.post k1 p2) rvs)
theorem snd_acons (hp : plainE a = true) (ha : PE X a (tE X.K CA W fa)) (hs : PA X es (tA X.K CA W fs)) : PA X (a :: es) (tA X.K CA W fun env hp => (fa env hp).bind fun x hp => (fs env hp).bind fun xs hp => .ok (x :: xs) hp) :=
  (pa_cons ha hs (star_plain hp)).imp fun _ _ _ q => cons_imp q
theorem snd_knil : PK X [] (tA X.K CA W fun _ hp => .ok [] hp) := by
  refine (pk_nil).imp fun σ H Q ⟨env, L, Xg, hp, k, r, g⟩ => ?_
  exact GD.here g k _ rfl
theorem snd_kcons {kws : List Keyword} {nm : Option Str} {kp : Pos} (ha : PE X a (tE X.K CA W fa)) (hs : PK X kws (tA X.K CA W fs)) : PK X (⟨nm, a, kp⟩ :: kws) (tA X.K CA W fun env hp => (fa env hp).bind fun x hp => (fs env hp).bind fun xs hp => .ok (x :: xs) hp) :=
  (pk_cons ha hs).imp fun _ _ _ q => cons_imp q
theorem snd_tup {kk : Nat} (h : PA X es (tA X.K CA W fs)) : PE X (.Tuple es kk pos) (tE X.K CA W fun env hp => (fs env hp).bind fun ds hp => if ds.length ≤ sizeLine then .ok (.tup ds) hp else .bad) := by
  refine (pe_tup h).imp fun σ H Q ⟨env, L, Xg, hp, k, r, g⟩ => ?_
  refine ⟨env, L, Xg, hp, k, r, (GD.bind g).imp fun ds hp1 H1 L1 X1 p1 k1 g1 vs rvs => ?_⟩
  by_cases hz : ds.length ≤ sizeLine
  · simp only [hz, if_true] at g1
    have hz' : vs.length ≤ sizeLine := by rw [rvs.len]; exact hz
    exact ⟨hz', Fin.tup (L := L1) (X := X1) (hp := hp1) (ds := ds) (GD.fin (o := some (D.tup ds, hp1)) g1) k1 rvs hz'⟩
  · simp only [hz, if_false] at g1
    exact g1.elim
theorem snd_lst {m : Bool} (h : PA X es (tA X.K CA W fs)) : PE X (.List es pos) (tE X.K CA W fun env hp => (fs env hp).bind fun ds hp => if ds.length ≤ sizeLine then ofOpt (some (mkL m ds hp)) else .bad) := by
  refine (pe_lst h).imp fun σ H Q ⟨env, L, Xg, hp, k, r, g⟩ => ?_
  refine ⟨env, L, Xg, hp, k, r, (GD.bind g).imp fun ds hp1 H1 L1 X1 p1 k1 g1 vs rvs => ?_⟩
  by_cases hz : ds.length ≤ sizeLine
  · simp only [hz, if_true] at g1
    have hz' : vs.length ≤ sizeLine := by rw [rvs.len]; exact hz
    exact ⟨hz', Fin.mkL (GD.fin g1) k1 rvs hz'⟩
  · simp only [hz, if_false] at g1
    exact g1.elim
/-! slices -/
theorem snd_onone : PO X none (fun σ H Q => ∃ env L Xg hp, HOK X.K H L Xg hp ∧ REnv X.K H L Xg env σ ∧ GD X.K CA H L Xg (fun c dx H' => W c dx σ H') (Out.ok (none : Option Int) hp) (fun o _ H' _ _ => Q o H')) := by
  refine (po_none).imp fun σ H Q ⟨env, L, Xg, hp, k, r, g⟩ => ?_
  exact GD.here g k
theorem snd_osome (ha : PE X a (tE X.K CA W fa)) : PO X (some a) (fun σ H Q => ∃ env L Xg hp, HOK X.K H L Xg hp ∧ REnv X.K H L Xg env σ ∧ GD X.K CA H L Xg (fun c dx H' => W c dx σ H') ((fa env hp).bind fun x hp => match x with | .int i => .ok (some i) hp | _ => .bad) (fun o _ H' _ _ => Q o H')) := by
  refine (po_some ha).imp fun σ H Q ⟨env, L, Xg, hp, k, r, g⟩ => ?_
  refine ⟨env, L, Xg, hp, k, r, (GD.bind g).imp fun d hp1 H1 L1 X1 p1 k1 g1 v rv => ?_⟩
  cases d with
  | int i => exact ⟨i, rv, GD.here g1 k1⟩
  | _ => exact g1.elim
def tO (K : PySem.W.Frag) (CA : Nat → Addr) (W : WX) (f : EnvI → HpI → Out (Option Int)) : TO := fun σ H Q => ∃ env L Xg hp, HOK K H L Xg hp ∧ REnv K H L Xg env σ ∧ GD K CA H L Xg (fun c dx H' => W c dx σ H') (f env hp) (fun o _ H' _ _ => Q o H')
theorem snd_sl {m : Bool} {lo hi : Option Expr} {fl fh : EnvI → HpI → Out (Option Int)} {p2 : Pos} (ha : PE X a (tE X.K CA W fa)) (hl : PO X lo (tO X.K CA W fl)) (hh : PO X hi (tO X.K CA W fh)) :
    PE X (.Subscript a (.Slice lo hi none p2) pos) (tE X.K CA W fun env hp => (fa env hp).bind fun x hp => (fl env hp).bind fun l hp => (fh env hp).bind fun h hp => ofOpt (semSl m x l h hp)) := by
  refine (pe_slice (sl_D (m := m)) ha hl hh).imp fun σ H Q ⟨env, L, Xg, hp, k, r, g⟩ => ?_
  refine ⟨env, L, Xg, hp, k, r, (GD.bind g).imp fun d hp1 H1 L1 X1 p1 k1 g1 v rv => ?_⟩
  have r1 := r.post k p1
  refine ⟨env, L1, X1, hp1, k1, r1, (GD.bind g1).imp fun l hp2 H2 L2 X2 p2 k2 g2 => ?_⟩
  refine ⟨env, L2, X2, hp2, k2, r1.post k1 p2, (GD.bind g2).imp fun h hp3 H3 L3 X3 p3 k3 g3 => ?_⟩
  exact ⟨L3, X3, hp3, d, k3, (rv.post k1 p2).post k2 p3, GD.fin g3⟩
end
end KI

namespace KI
open PySem PySem.Spec PyProof.Rows L2
variable [LX]
/-! ## 12. built-ins -/
section
variable {X : Cx} {H : Hp} {L Xg : List Addr} {hp : HpI}
theorem ints_of : ∀ {ds : List D} {vs : List V} {is : List Int}, Reps X.K H L Xg ds vs → intsOf ds = some is → vs = is.map V.int
  | [], vs, is, r, e => by cases e; exact r
  | d :: ds, vs, is, ⟨v, t, e1, r1, r2⟩, e => by
    cases d with
    | int i =>
      simp only [intsOf] at e
      cases q : intsOf ds with
      | none => rw [q] at e; cases e
      | some js => rw [q] at e; cases e; rw [e1, ints_of r2 q, show v = V.int i from r1]; rfl
    | _ => simp [intsOf] at e
theorem bls_of : ∀ {ds : List D} {vs : List V} {is : List Bool}, Reps X.K H L Xg ds vs → blsOf ds = some is → vs = is.map V.bl
  | [], vs, is, r, e => by cases e; exact r
  | d :: ds, vs, is, ⟨v, t, e1, r1, r2⟩, e => by
    cases d with
    | bl i =>
      simp only [blsOf] at e
      cases q : blsOf ds with
      | none => rw [q] at e; cases e
      | some js => rw [q] at e; cases e; rw [e1, bls_of r2 q, show v = V.bl i from r1]; rfl
    | _ => simp [blsOf] at e
theorem maxI_spec : ∀ (is : List Int), 0 < is.length → maxI is ∈ is ∧ ∀ y ∈ is, y ≤ maxI is
  | [], h => absurd h (by simp)
  | [i], _ => ⟨by simp [maxI], fun y hy => by simp at hy; simp [maxI, hy]⟩
  | i :: j :: is, _ => by
    obtain ⟨h1, h2⟩ := maxI_spec (j :: is) (by simp)
    have e : maxI (i :: j :: is) = if maxI (j :: is) ≤ i then i else maxI (j :: is) := rfl
    rw [e]
    by_cases hc : maxI (j :: is) ≤ i
    · rw [if_pos hc]
      refine ⟨List.mem_cons_self .., fun y hy => ?_⟩
      rcases List.mem_cons.mp hy with z | z
      · rw [z]; exact Int.le_refl _
      · exact Int.le_trans (h2 y z) hc
    · rw [if_neg hc]
      refine ⟨List.mem_cons_of_mem _ h1, fun y hy => ?_⟩
      rcases List.mem_cons.mp hy with z | z
      · rw [z]; omega
      · exact h2 y z
theorem minI_spec : ∀ (is : List Int), 0 < is.length → minI is ∈ is ∧ ∀ y ∈ is, minI is ≤ y
  | [], h => absurd h (by simp)
  | [i], _ => ⟨by simp [minI], fun y hy => by simp at hy; simp [minI, hy]⟩
  | i :: j :: is, _ => by
    obtain ⟨h1, h2⟩ := minI_spec (j :: is) (by simp)
    have e : minI (i :: j :: is) = if i ≤ minI (j :: is) then i else minI (j :: is) := rfl
    rw [e]
    by_cases hc : i ≤ minI (j :: is)
    · rw [if_pos hc]
      refine ⟨List.mem_cons_self .., fun y hy => ?_⟩
      rcases List.mem_cons.mp hy with z | z
      · rw [z]; exact Int.le_refl _
      · exact Int.le_trans hc (h2 y z)
    · rw [if_neg hc]
      refine ⟨List.mem_cons_of_mem _ h1, fun y hy => ?_⟩
      rcases List.mem_cons.mp hy with z | z
      · rw [z]; omega
      · exact h2 y z
end
section
variable {X : Cx}
theorem rd1 {b : Bi} {P : List V → Hp → VK → Prop} (h1 : ∀ a H L Xg hp v Q, HOK X.K H L Xg hp → Rep X.K H L Xg a v → Fin X.K H L Xg (semB b [a] hp) Q → P [v] H Q) (h0 : ∀ ds hp, ds.length ≠ 1 → semB b ds hp = none) :
    ∀ vs H Q, RDn X.K (semB b) vs H Q → P vs H Q := fun vs H Q ⟨L, Xg, hp, ds, k, r, f⟩ => by
  by_cases hl : ds.length = 1
  · obtain ⟨a, rfl⟩ : ∃ a, ds = [a] := by
      match ds, hl with
      | [a], _ => exact ⟨a, rfl⟩
    obtain ⟨v, t, rfl, r1, r2⟩ := r
    rw [show t = [] from r2]
    exact h1 a H L Xg hp v Q k r1 f
  · rw [h0 ds hp hl] at f
    exact f.absurd
theorem CallR.imp {f : Value} {r r' : List V → Hp → VK → Prop} (h : CallR X f r) (i : ∀ vs H Q, r' vs H Q → r vs H Q) : CallR X f r' := fun pins s σ H xs us Q I rv q => h pins s σ H xs us Q I rv (i xs H Q q)
theorem bi_len : CallR X (.builtin "len") (RDn X.K (semB .len)) := by
  refine CallR.imp (call_len_seq.or call_len_str) (rd1 (fun a H L Xg hp v Q k r f => ?_) fun ds hp h => ?_)
  · by_cases hs : ∃ s, a = .str s
    · obtain ⟨s, rfl⟩ := hs
      by_cases hz : s.length ≤ sizeLine
      · have e : semB .len [.str s] hp = some (.int s.length, hp) := if_pos hz
        rw [e] at f
        exact .inr ⟨s, by rw [show v = _ from r], hz, f.pure k rfl⟩
      · have e : semB .len [.str s] hp = none := if_neg hz
        rw [e] at f; exact f.absurd
    · have e : semB .len [a] hp = (seqOf hp a).map fun xs => (.int xs.length, hp) := by cases a <;> first | rfl | (exfalso; exact hs ⟨_, rfl⟩)
      rw [e] at f
      cases q : seqOf hp a with
      | none => rw [q] at f; exact f.absurd
      | some xs =>
        rw [q] at f
        obtain ⟨p, vs, e1, h1, _, h3⟩ := seq_any k r q
        exact .inl ⟨p, vs, by rw [e1], h1, by rw [h3.len]; exact Fin.pure f k rfl⟩
  · match ds, h with
    | [], _ => rfl
    | _ :: _ :: _, _ => rfl
theorem bi_seq1 {b : Bi} {id : String} {r : List V → Hp → VK → Prop} {g : List D → Option D} (hr : CallR X (.builtin id) r) (hb : ∀ a hp, semB b [a] hp = match lstOf hp a with | some xs => (g xs).map fun d => (d, hp) | none => none)
    (hb0 : ∀ ds hp, ds.length ≠ 1 → semB b ds hp = none) (hg : ∀ p H L Xg hp xs vs d Q, HOK X.K H L Xg hp → SqL X.K H p vs → Reps X.K H L Xg xs vs → g xs = some d → (∀ v, Rep X.K H L Xg d v → Q v H) → r [.ref p] H Q) : CallR X (.builtin id) (RDn X.K (semB b)) := by
  refine CallR.imp hr (rd1 (fun a H L Xg hp v Q k rv f => ?_) hb0)
  rw [hb] at f
  cases q : lstOf hp a with
  | none => rw [q] at f; exact f.absurd
  | some xs =>
    rw [q] at f
    obtain ⟨p, vs, e1, h1, _, h3⟩ := seq_lst k rv q
    cases q2 : g xs with
    | none => simp only [q2] at f; exact f.absurd
    | some d =>
      simp only [q2] at f
      rw [e1]
      exact hg p H L Xg hp xs vs d Q k h1 h3 q2 fun v rv => Fin.pure f k rv
theorem none1 {b : Bi} (h : ∀ hp, semB b [] hp = none) (h2 : ∀ x y t hp, semB b (x :: y :: t) hp = none) : ∀ ds hp, ds.length ≠ 1 → semB b ds hp = none := fun ds hp hl => by
  match ds, hl with
  | [], _ => exact h hp
  | x :: y :: t, _ => exact h2 x y t hp
theorem bi_sum (hc : X.calm = true) : CallR X (.builtin "sum") (RDn X.K (semB .sum)) := by
  refine bi_seq1 (g := fun xs => (intsOf xs).map fun is => .int is.sum) (cr_sum hc) (fun a hp => ?_) (none1 (fun _ => rfl) fun _ _ _ _ => rfl) fun p H L Xg hp xs vs d Q k h1 h3 e q => ?_
  · show (match lstOf hp a with | some xs => _ | none => none) = _
    cases lstOf hp a with
    | none => rfl
    | some xs => cases h : intsOf xs <;> simp [h]
  · cases z : intsOf xs with
    | none => rw [z] at e; cases e
    | some is => rw [z] at e; cases e; exact ⟨p, is, rfl, by rw [← ints_of h3 z]; exact h1, q _ rfl⟩
theorem bi_all (hc : X.calm = true) : CallR X (.builtin "all") (RDn X.K (semB .all)) := by
  refine bi_seq1 (g := fun xs => (blsOf xs).map fun is => .bl (is.all id)) (cr_all hc) (fun a hp => ?_) (none1 (fun _ => rfl) fun _ _ _ _ => rfl) fun p H L Xg hp xs vs d Q k h1 h3 e q => ?_
  · show (match lstOf hp a with | some xs => _ | none => none) = _
    cases lstOf hp a with
    | none => rfl
    | some xs => cases h : blsOf xs <;> simp [h]
  · cases z : blsOf xs with
    | none => rw [z] at e; cases e
    | some is => rw [z] at e; cases e; exact ⟨p, is, rfl, by rw [← bls_of h3 z]; exact h1, q _ rfl⟩
theorem bi_any (hc : X.calm = true) : CallR X (.builtin "any") (RDn X.K (semB .any)) := by
  refine bi_seq1 (g := fun xs => (blsOf xs).map fun is => .bl (is.any id)) (cr_any hc) (fun a hp => ?_) (none1 (fun _ => rfl) fun _ _ _ _ => rfl) fun p H L Xg hp xs vs d Q k h1 h3 e q => ?_
  · show (match lstOf hp a with | some xs => _ | none => none) = _
    cases lstOf hp a with
    | none => rfl
    | some xs => cases h : blsOf xs <;> simp [h]
  · cases z : blsOf xs with
    | none => rw [z] at e; cases e
    | some is => rw [z] at e; cases e; exact ⟨p, is, rfl, by rw [← bls_of h3 z]; exact h1, q _ rfl⟩
def maxO (xs : List D) : Option D := match intsOf xs with | some is => if 0 < is.length then some (.int (maxI is)) else none | none => none
def minO (xs : List D) : Option D := match intsOf xs with | some is => if 0 < is.length then some (.int (minI is)) else none | none => none
theorem bi_maxl (hc : X.calm = true) : CallR X (.builtin "max") (RDn X.K (semB .maxl)) := by
  refine bi_seq1 (g := maxO) (cr_max hc) (fun a hp => ?_) (none1 (fun _ => rfl) fun _ _ _ _ => rfl) fun p H L Xg hp xs vs d Q k h1 h3 e q => ?_
  · show (match lstOf hp a with | some xs => _ | none => none) = _
    cases lstOf hp a with
    | none => rfl
    | some xs =>
      simp only [maxO]
      cases h : intsOf xs with
      | none => rfl
      | some is => simp only []; split <;> rfl
  · unfold maxO at e
    cases z : intsOf xs with
    | none => rw [z] at e; cases e
    | some is =>
      rw [z] at e
      simp only at e
      by_cases hz : 0 < is.length
      · rw [if_pos hz] at e
        cases e
        refine ⟨p, is, rfl, by rw [← ints_of h3 z]; exact h1, hz, fun m hm hy => ?_⟩
        obtain ⟨s1, s2⟩ := maxI_spec is hz
        have : m = maxI is := Int.le_antisymm (s2 m hm) (hy _ s1)
        rw [this]
        exact q _ rfl
      · rw [if_neg hz] at e; cases e
theorem bi_minl (hc : X.calm = true) : CallR X (.builtin "min") (RDn X.K (semB .minl)) := by
  refine bi_seq1 (g := minO) (cr_min hc) (fun a hp => ?_) (none1 (fun _ => rfl) fun _ _ _ _ => rfl) fun p H L Xg hp xs vs d Q k h1 h3 e q => ?_
  · show (match lstOf hp a with | some xs => _ | none => none) = _
    cases lstOf hp a with
    | none => rfl
    | some xs =>
      simp only [minO]
      cases h : intsOf xs with
      | none => rfl
      | some is => simp only []; split <;> rfl
  · unfold minO at e
    cases z : intsOf xs with
    | none => rw [z] at e; cases e
    | some is =>
      rw [z] at e
      simp only at e
      by_cases hz : 0 < is.length
      · rw [if_pos hz] at e
        cases e
        refine ⟨p, is, rfl, by rw [← ints_of h3 z]; exact h1, hz, fun m hm hy => ?_⟩
        obtain ⟨s1, s2⟩ := minI_spec is hz
        have : m = minI is := Int.le_antisymm (hy _ s1) (s2 m hm)
        rw [this]
        exact q _ rfl
      · rw [if_neg hz] at e; cases e
theorem bi_abs : CallR X (.builtin "abs") (RDn X.K (semB .abs)) := by
  refine CallR.imp call_abs (rd1 (fun a H L Xg hp v Q k r f => ?_) (none1 (fun _ => rfl) fun _ _ _ _ => by simp [semB]))
  cases a with
  | int i => exact ⟨i, by rw [show v = _ from r], Fin.pure f k rfl⟩
  | _ => exact f.absurd
theorem rd2 {b : Bi} {P : List V → Hp → VK → Prop} (h1 : ∀ i j H L Xg hp Q, HOK X.K H L Xg hp → Fin X.K H L Xg (semB b [.int i, .int j] hp) Q → P [.int i, .int j] H Q) (h0 : ∀ ds hp, (¬ ∃ i j, ds = [D.int i, D.int j]) → semB b ds hp = none) :
    ∀ vs H Q, RDn X.K (semB b) vs H Q → P vs H Q := fun vs H Q ⟨L, Xg, hp, ds, k, r, f⟩ => by
  by_cases hl : ∃ i j, ds = [D.int i, D.int j]
  · obtain ⟨i, j, rfl⟩ := hl
    obtain ⟨v, t, rfl, r1, w, u, rfl, r2, r3⟩ := r
    rw [show u = [] from r3, show v = _ from r1, show w = _ from r2]
    exact h1 i j H L Xg hp Q k f
  · rw [h0 ds hp hl] at f
    exact f.absurd
theorem bi_min2 (hc : X.calm = true) : CallR X (.builtin "min") (RDn X.K (semB .min2)) := by
  refine CallR.imp (call_min2 hc) (rd2 (fun i j H L Xg hp Q k f => ⟨i, j, rfl, Fin.pure f k rfl⟩) fun ds hp h => ?_)
  match ds, h with
  | [], _ => rfl
  | [a], _ => cases a <;> rfl
  | [a, b], h => cases a <;> cases b <;> first | rfl | exact absurd ⟨_, _, rfl⟩ h
  | a :: b :: c :: t, _ => cases a <;> cases b <;> rfl
theorem bi_max2 (hc : X.calm = true) : CallR X (.builtin "max") (RDn X.K (semB .max2)) := by
  refine CallR.imp (call_max2 hc) (rd2 (fun i j H L Xg hp Q k f => ⟨i, j, rfl, Fin.pure f k rfl⟩) fun ds hp h => ?_)
  match ds, h with
  | [], _ => rfl
  | [a], _ => cases a <;> rfl
  | [a, b], h => cases a <;> cases b <;> first | rfl | exact absurd ⟨_, _, rfl⟩ h
  | a :: b :: c :: t, _ => cases a <;> cases b <;> rfl
theorem CallR.orr {f : Value} {r r' : List V → Hp → VK → Prop} (h : CallR X f r) (h' : CallR X f r') : CallR X f (fun xs H Q => r xs H Q ∨ r' xs H Q) := fun pins s σ H xs us Q I rv q =>
  q.elim (h pins s σ H xs us Q I rv) (h' pins s σ H xs us Q I rv)
theorem bi_int : CallR X (.type "int") (RDn X.K (semB .int)) := by
  refine CallR.imp (CallR.orr call_int1 call_int_str) (rd1 (fun a H L Xg hp v Q k r f => ?_) (none1 (fun _ => rfl) fun _ _ _ _ => by simp [semB]))
  cases a with
  | int i => exact .inl (.inl ⟨i, by rw [show v = _ from r], Fin.pure f k rfl⟩)
  | bl i => exact .inl (.inr ⟨i, by rw [show v = _ from r], Fin.pure f k rfl⟩)
  | str a =>
    have e : semB .int [.str a] hp = (match PySem.intText? a with | some n => if a.length ≤ 640 then some (.int n, hp) else none | none => none) := rfl
    rw [e] at f
    cases q : PySem.intText? a with
    | none => rw [q] at f; exact f.absurd
    | some n =>
      rw [q] at f
      by_cases hz : a.length ≤ 640
      · simp only [hz, if_true] at f
        exact .inr ⟨a, n, by rw [show v = _ from r], q, hz, Fin.pure f k rfl⟩
      · simp only [hz, if_false] at f
        exact f.absurd
  | _ => exact f.absurd
theorem bi_str : CallR X (.type "str") (RDn X.K (semB .str)) := by
  refine CallR.imp call_str_int (rd1 (fun a H L Xg hp v Q k r f => ?_) (none1 (fun _ => rfl) fun _ _ _ _ => by simp [semB]))
  cases a with
  | int i =>
    by_cases hz : i.natAbs.log2 < 1920
    · have e : semB .str [.int i] hp = some (.str (toString i), hp) := if_pos hz
      rw [e] at f
      exact ⟨i, by rw [show v = _ from r], hz, Fin.pure f k rfl⟩
    · have e : semB .str [.int i] hp = none := if_neg hz
      rw [e] at f; exact f.absurd
  | _ => exact f.absurd
theorem insI_perm (i : Int) : ∀ l : List Int, (insI i l).Perm (i :: l)
  | [] => List.Perm.refl _
  | j :: js => by
    unfold insI
    split
    · exact List.Perm.refl _
    · exact ((insI_perm i js).cons j).trans (List.Perm.swap i j js)
theorem sortI_perm : ∀ l : List Int, (sortI l).Perm l
  | [] => List.Perm.refl _
  | i :: l => (insI_perm i _).trans ((sortI_perm l).cons i)
theorem insI_srt (i : Int) : ∀ {l : List Int}, l.Pairwise (· ≤ ·) → (insI i l).Pairwise (· ≤ ·)
  | [], _ => List.pairwise_singleton _ _
  | j :: js, h => by
    obtain ⟨h1, h2⟩ := List.pairwise_cons.mp h
    unfold insI
    split
    · rename_i c
      refine List.pairwise_cons.mpr ⟨fun x hx => ?_, h⟩
      rcases List.mem_cons.mp hx with rfl | hx
      · exact c
      · exact Int.le_trans c (h1 x hx)
    · rename_i c
      refine List.pairwise_cons.mpr ⟨fun x hx => ?_, insI_srt i h2⟩
      rcases List.mem_cons.mp ((insI_perm i js).mem_iff.mp hx) with rfl | hx
      · omega
      · exact h1 x hx
theorem sortI_srt : ∀ l : List Int, (sortI l).Pairwise (· ≤ ·)
  | [] => List.Pairwise.nil
  | i :: l => insI_srt i (sortI_srt l)
theorem sortI_uniq {l ns : List Int} (p : ns.Perm l) (h : ns.Pairwise (· ≤ ·)) : ns = sortI l :=
  List.Perm.eq_of_pairwise (fun a b _ _ h1 h2 => Int.le_antisymm h1 h2) h (sortI_srt l) (p.trans (sortI_perm l).symm)
theorem reps_int {K : PySem.W.Frag} {H : Hp} {L Xg : List Addr} : ∀ ns : List Int, Reps K H L Xg (ns.map D.int) (ns.map V.int)
  | [] => rfl
  | n :: ns => .cons rfl (reps_int ns)
theorem bi_sorted : CallR X (.builtin "sorted") (RDn X.K (semB .sorted)) := by
  refine CallR.imp cr_sortedI (rd1 (fun a H L Xg hp v Q k r f => ?_) (none1 (fun _ => rfl) fun _ _ _ _ => rfl))
  have e : semB .sorted [a] hp = (match lstOf hp a with | some xs => (match intsOf xs with | some is => some (D.lst ((sortI is).map .int), hp) | none => none) | none => none) := rfl
  rw [e] at f
  cases q : lstOf hp a with
  | none => rw [q] at f; exact f.absurd
  | some xs =>
    rw [q] at f
    cases z : intsOf xs with
    | none => simp only [z] at f; exact f.absurd
    | some is =>
      simp only [z] at f
      obtain ⟨p, vs, e1, h1, h2, h3⟩ := seq_lst k r q
      have hv := ints_of h3 z
      refine ⟨p, is, by rw [e1], by rw [← hv]; exact h1, fun ns' b pm srt hb => ?_⟩
      rw [sortI_uniq pm srt]
      have hz : ((sortI is).map V.int).length ≤ sizeLine := by
        rw [List.length_map, (sortI_perm is).length_eq]
        rw [hv, List.length_map] at h2
        exact h2
      exact Fin.mkL (m := false) f k (reps_int _) hz b hb
theorem bi_tuple : CallR X (.type "tuple") (RDn X.K (semB .tuple)) := by
  refine CallR.imp call_tuple_of (rd1 (fun a H L Xg hp v Q k r f => ?_) (none1 (fun _ => rfl) fun _ _ _ _ => rfl))
  have e : semB .tuple [a] hp = (seqOf hp a).map fun xs => (.tup xs, hp) := rfl
  rw [e] at f
  cases q : seqOf hp a with
  | none => rw [q] at f; exact f.absurd
  | some xs =>
    rw [q] at f
    by_cases ht : ∃ ys, a = .tup ys
    · obtain ⟨ys, rfl⟩ := ht
      cases q
      obtain ⟨p, vs, e1, h1, h2, h3⟩ := id r
      exact ⟨p, vs, by rw [e1], .inr ⟨h1, by rw [← e1]; exact Fin.pure f k r⟩⟩
    · have q' : lstOf hp a = some xs := by cases a <;> first | exact q | (exfalso; exact ht ⟨_, rfl⟩)
      obtain ⟨p, vs, e1, h1, h2, h3⟩ := seq_lst k r q'
      exact ⟨p, vs, by rw [e1], .inl ⟨h1, Fin.tup f k h3 h2⟩⟩
theorem bi_list {m : Bool} : CallR X (.type "list") (RDn X.K (semB (.list m))) := by
  refine CallR.imp call_list_of (rd1 (fun a H L Xg hp v Q k r f => ?_) (none1 (fun _ => rfl) fun _ _ _ _ => rfl))
  have e : semB (.list m) [a] hp = (seqOf hp a).map fun xs => mkL m xs hp := rfl
  rw [e] at f
  cases q : seqOf hp a with
  | none => rw [q] at f; exact f.absurd
  | some xs =>
    rw [q] at f
    obtain ⟨p, vs, e1, h1, h2, h3⟩ := seq_any k r q
    exact ⟨p, vs, by rw [e1], h1, Fin.mkL f k h3 h2⟩
theorem call_biD (hc : X.calm = true) (b : Bi) : CallR X (if (biK b).2.2 then .type (biK b).2.1 else .builtin (biK b).2.1) (RDn X.K (semB b)) := by
  cases b
  · exact bi_len
  · exact bi_abs
  · exact bi_min2 hc
  · exact bi_max2 hc
  · exact bi_sum hc
  · exact bi_all hc
  · exact bi_any hc
  · exact bi_int
  · exact bi_tuple
  · exact bi_list
  · exact bi_maxl hc
  · exact bi_minl hc
  · exact bi_str
  · exact bi_sorted
theorem biK_boot (b : Bi) : bootBuiltins (biK b).1 = some (if (biK b).2.2 then .type (biK b).2.1 else .builtin (biK b).2.1) ∧ (biK b).1 ∈ bltNames ∧ (biK b).1 ≠ "__name__" ∧ ((biK b).1 == ("__debug__" : Str)) = false := by
  cases b <;> (try (rename_i m; cases m)) <;> exact ⟨by decide +kernel, by decide +kernel, by decide +kernel, by decide +kernel⟩
variable {CA : Nat → Addr} {W : WX} {pos p : Pos} {es : List Expr} {fs : EnvI → HpI → Out (List D)}
theorem cb_imp {sem : List D → HpI → Option (D × HpI)} {σ : L2.St} {H : Hp} {Q : VK} (h : tE X.K CA W (fun env hp => (fs env hp).bind fun ds hp => ofOpt (sem ds hp)) σ H Q) : tCB (RDn X.K sem) (tA X.K CA W fs) σ H Q := by
  obtain ⟨env, L, Xg, hp, k, r, g⟩ := h
  refine ⟨env, L, Xg, hp, k, r, (GD.bind g).imp fun ds hp1 H1 L1 X1 p1 k1 g1 vs rv => ?_⟩
  exact ⟨L1, X1, hp1, ds, k1, rv, GD.fin g1⟩
theorem snd_bi (hc : X.calm = true) (b : Bi) {x : Str} (hx : x = (biK b).1) (hg : Gl X x) (hm : ∀ x ∈ bltNames, X.mg x = none) (hn : es.isEmpty = false) (hp : plainEs es = true) (ha : PA X es (tA X.K CA W fs)) :
    PE X (.Call (.Name x p) es [] pos) (tE X.K CA W fun env hp => (fs env hp).bind fun ds hp => ofOpt (semB b ds hp)) := by
  subst hx
  obtain ⟨h1, h2, h3, h4⟩ := biK_boot b
  have hcall := call_biD hc b
  cases es with
  | nil => simp at hn
  | cons e es =>
    simp only [plainEs, Bool.and_eq_true] at hp
    cases hk : (biK b).2.2 with
    | true =>
      rw [hk] at hcall h1
      exact (pe_callTy (T := (biK b).2.1) hcall hg (hm _ h2) h1 ha h3 h4 (star_plain hp.1) (any_plain hp.2)).imp fun _ _ _ q => cb_imp q
    | false =>
      rw [hk] at hcall h1
      exact (pe_callB (id := (biK b).2.1) hcall hg (hm _ h2) h1 ha h3 h4 (star_plain hp.1) (any_plain hp.2)).imp fun _ _ _ q => cb_imp q
/-! len(set(..)) -/
theorem foldl_get (is : List Int) : (List.range is.length).map (fun i => is.getD i 0) = is := by
  apply List.ext_getElem?
  intro i
  rw [List.getElem?_map]
  by_cases h : i < is.length
  · rw [List.getElem?_range h]
    simp [h]
  · rw [List.getElem?_eq_none (by simpa using h), List.getElem?_eq_none (by simpa using h)]
    rfl
theorem firstMet_cnt (is : List Int) : (PyProof.Rows.firstMet (fun i => is.getD i 0) is.length).length = cntD is := by
  unfold PyProof.Rows.firstMet cntD
  rw [foldl_get]
theorem cnt_le (is : List Int) : cntD is ≤ is.length := by
  rw [← firstMet_cnt]
  exact PyProof.Rows.firstMet_length_le _ _
theorem ints_vals : ∀ {ns : List Int} {us : List Value}, Vals (ns.map V.int) us → PyProof.Rows.IntsAre us ns
  | [], _, .nil => .nil
  | n :: ns, _, .cons r t => by
    obtain ⟨k, rfl⟩ := r
    exact .cons n k (ints_vals t)
def tLenSetN (K : PySem.W.Frag) (ta : TE) : TE := fun σ H Q => ta σ H fun x H1 => ∃ (l : Addr) (ns : List Int), x = .ref l ∧ SqL K H1 l (ns.map V.int) ∧ ns.length ≤ 4000 ∧ Q (.int (cntD ns : Nat)) H1
theorem pe_lenSetN {X : Cx} {a : Expr} {ta : TE} {p p2 q pos : Pos} (hg : Gl X "len") (hm : X.mg "len" = none) (hg2 : Gl X "set") (hm2 : X.mg "set" = none) (ha : PE X a ta) (hc : X.calm = true)
    (na : starEach [a] X.env = (false, eval a X.env) :: starEach [] X.env) : PE X (.Call (.Name "len" p) [.Call (.Name "set" p2) [a] [] q] [] pos) (tLenSetN X.K ta) := by
  refine ⟨fun pins s σ H Q I h => ?_⟩
  refine Call_ (ld_blt I hg hm boot_len ?_)
  refine PyProof.Rows.callWith_builtin1 (PyProof.Rows.args_cons ?_ rfl) rfl rfl
  refine Call_ (ld_blt I hg2 hm2 boot_set ?_)
  refine PyProof.Rows.callWith_type1 (PyProof.Rows.args_cons (thn (ha.run pins s σ H _ I h) fun v s1 ⟨x, H1, I1, r1, q1⟩ => PyProof.Rows.args_nil ?_) na) na rfl
  obtain ⟨l, ns, rfl, hq, hl, q1⟩ := q1
  cases r1
  obtain ⟨its, r, pl, hz⟩ := I1.list hq
  have hlen : its.toArray.size = ns.length := by rw [List.size_toArray, ← r.length, List.length_map]
  refine call_set_list (I1.ok.hd hc) pl.isList (by simpa using ints_vals r) (by rw [hlen]; unfold scanBound; omega) fun h' tk hS hk => ?_
  refine PyProof.Rows.args_nil ?_
  rw [hlen] at hS
  obtain ⟨o, es, ep, t, ho, hex, hd, _, _, _, hf, hn⟩ := hS
  rw [firstMet_cnt] at hn
  have hle := cnt_le ns
  have I2 : Inv X pins σ H1 { s1 with heap := h', toks := tk } := I1.kept fun b o e => hk b o (Heap.lt_size e) e
  exact call_len_set ho hex hd hf (by rw [hn]; omega) ⟨.int (cntD ns : Nat), H1, I2.tok _, ⟨_, by rw [hn]⟩, q1⟩
theorem snd_lens {e : Expr} {fe : EnvI → HpI → Out D} {p2 q : Pos} (hc : X.calm = true) (hg : Gl X ("len" : Str)) (hg2 : Gl X ("set" : Str)) (hm : ∀ x ∈ bltNames, X.mg x = none) (hp : plainE e = true) (ha : PE X e (tE X.K CA W fe)) :
    PE X (.Call (.Name "len" p) [.Call (.Name "set" p2) [e] [] q] [] pos) (tE X.K CA W fun env hp => (fe env hp).bind fun x hp => ofOpt (semLens x hp)) := by
  refine (pe_lenSetN hg (hm _ (by decide +kernel)) hg2 (hm _ (by decide +kernel)) ha hc (star_plain hp)).imp fun σ H Q ⟨env, L, Xg, hp, k, r, g⟩ => ?_
  refine ⟨env, L, Xg, hp, k, r, (GD.bind g).imp fun d hp1 H1 L1 X1 p1 k1 g1 v rv => ?_⟩
  unfold semLens at g1
  cases q1 : lstOf hp1 d with
  | none => rw [q1] at g1; exact g1.elim
  | some xs =>
    rw [q1] at g1
    simp only at g1
    cases q2 : intsOf xs with
    | none => rw [q2] at g1; exact g1.elim
    | some is =>
      rw [q2] at g1
      simp only at g1
      by_cases hz : is.length ≤ 4000
      · rw [if_pos hz] at g1
        obtain ⟨a, vs, e1, h1, h2, h3⟩ := seq_lst k1 rv q1
        exact ⟨a, is, e1, by rw [← ints_of h3 q2]; exact h1, hz, GD.here g1 k1 _ rfl⟩
      · rw [if_neg hz] at g1; exact g1.elim
/-! isinstance -/
theorem tyx_of {K : PySem.W.Frag} {H : Hp} {L Xg : List Addr} {hp : HpI} {d : D} {v : V} {s : String} (k : HOK K H L Xg hp) (r : Rep K H L Xg d v) (e : tyD hp d = some s) : TyX K H v (.type s) := by
  cases d with
  | non => cases e; rw [show v = _ from r]; exact .base .non
  | bl b => cases e; rw [show v = _ from r]; exact .base (.bl b)
  | int b => cases e; rw [show v = _ from r]; exact .base (.int b)
  | str b => cases e; rw [show v = _ from r]; exact .base (.str b)
  | tup ds =>
    cases e
    obtain ⟨a, vs, e1, h1, _, _⟩ := r
    rw [e1]
    rcases h1 with (h | ⟨o, h⟩) | ⟨o, its, n, h, hc, _⟩
    · exact .base (.tup h)
    · exact .fTuple h
    · exact .kTuple h hc
  | lst ds =>
    cases e
    obtain ⟨a, vs, e1, h1, _⟩ := r
    rw [e1]
    exact .base (.lst h1)
  | sq ds =>
    cases e
    obtain ⟨a, vs, e1, h1, _⟩ := r
    rw [e1]
    rcases h1 with (⟨o, h⟩ | ⟨o, its, n, h, hc, _⟩) | ⟨h, _⟩
    · exact .base (.frz h)
    · exact .kList h hc
    · exact .base (.lst h)
  | fn j => cases e
  | loc n =>
    obtain ⟨a, e1, h1⟩ := r
    simp only [tyD] at e
    split at e
    · rename_i ds q
      cases e
      obtain ⟨b, vs, h2, h3, _⟩ := k.at q
      rw [h1] at h2; cases h2
      rw [e1]
      exact .base (.lst h3)
    · cases e
def tyAll : List String := ["NoneType", "bool", "int", "str", "tuple", "list"]
theorem tyD_mem {hp : HpI} {d : D} {s : String} (e : tyD hp d = some s) : s ∈ tyAll := by
  cases d <;> simp only [tyD] at e
  all_goals first | (cases e; decide) | (cases e; done) | skip
  split at e
  · cases e; decide
  · cases e
theorem kit_all : ∀ s ∈ tyAll, ∀ t ∈ tyNames, kitB s t = some (isTy s t) := by decide +kernel
theorem ty_boot : ∀ t ∈ tyNames, bootBuiltins (Str.ofString t) = some (.type t) ∧ Str.ofString t ∈ bltNames ∧ Str.ofString t ≠ "__name__" ∧ (Str.ofString t == ("__debug__" : Str)) = false := by decide +kernel
theorem kit_any {K : PySem.W.Frag} {s : String} (hs : s ∈ tyAll) : ∀ {ts : List String}, (∀ t ∈ ts, t ∈ tyNames) → PySem.W.kitAny K (.type s) (ts.map Value.type) = some (ts.any (isTy s))
  | [], _ => kitAny_nil
  | t :: ts, h => by
    have h1 : PySem.W.kitOne K (.type s) (.type t) = some (isTy s t) := kit_ty (kit_all s hs t (h t (List.mem_cons_self ..)))
    have h2 := kit_any (K := K) hs (ts := ts) fun u hu => h u (List.mem_cons_of_mem _ hu)
    rw [List.map_cons, List.any_cons]
    refine kitAny_cons h1 (fun e => ?_) (fun e => ?_)
    · rw [e, Bool.false_or]; exact h2
    · rw [e, Bool.true_or]
theorem pe_ty {t : String} {q : Pos} (ht : t ∈ tyNames) (hg : Gl X (Str.ofString t)) (hm : ∀ x ∈ bltNames, X.mg x = none) : PE X (.Name (Str.ofString t) q) (tC (.ty t)) := by
  obtain ⟨h1, h2, h3, h4⟩ := ty_boot t ht
  exact pe_bltn hg (hm _ h2) h1 rfl h3 h4
variable {a : Expr} {fa : EnvI → HpI → Out D}
theorem snd_isi {t : String} {q : Pos} (hm : ∀ x ∈ bltNames, X.mg x = none) (hg : Gl X ("isinstance" : Str)) (hp : plainE a = true) (ht : t ∈ tyNames) (hgt : Gl X (Str.ofString t)) (ha : PE X a (tE X.K CA W fa)) :
    PE X (.Call (.Name "isinstance" p) [a, .Name (Str.ofString t) q] [] pos) (tE X.K CA W fun env hp => (fa env hp).bind fun x hp => match tyD hp x with | some s => .ok (.bl (isTy s t)) hp | none => .bad) := by
  refine (pe_callB call_isi hg (hm _ (by decide +kernel)) (by decide +kernel) (pa_cons ha (pa_cons (pe_ty ht hgt hm) pa_nil rfl) (star_plain hp)) (by decide +kernel) (by decide +kernel) (star_plain hp) rfl).imp fun σ H Q ⟨env, L, Xg, hp, k, r, g⟩ => ?_
  refine ⟨env, L, Xg, hp, k, r, (GD.bind g).imp fun d hp1 H1 L1 X1 p1 k1 g1 v rv => ?_⟩
  cases e : tyD hp1 d with
  | none => rw [e] at g1; exact g1.elim
  | some s =>
    rw [e] at g1
    exact ⟨v, .ty t, .type s, .type t, isTy s t, rfl, .ty t, tyx_of k1 rv e, kit_ty (kit_all s (tyD_mem e) t ht), GD.here g1 k1 _ rfl⟩
theorem tys_pa (hm : ∀ x ∈ bltNames, X.mg x = none) {c : CC} (hsc : X.env.scope = c.sc) : ∀ {ts : List String} {ys : List Expr}, cTys ts c ys = true → PA X ys (fun _ H Q => Q (ts.map V.ty) H) ∧ ∀ t ∈ ts, t ∈ tyNames
  | [], [], _ => ⟨pa_nil.imp fun _ _ _ q => q, fun _ h => by simp at h⟩
  | [], _ :: _, h => by simp [cTys] at h
  | t :: ts, [], h => by simp [cTys] at h
  | t :: ts, y :: ys, h => by
    cases y <;> first | (simp [cTys] at h; done) | skip
    rename_i id pos
    simp only [cTys, Bool.and_eq_true, beq_iff_eq, List.contains_iff_mem] at h
    obtain ⟨⟨⟨h1, h2⟩, h3⟩, h4⟩ := h
    subst h2
    obtain ⟨q1, q2⟩ := tys_pa hm hsc h4
    have hg : Gl X (Str.ofString t) := by show X.env.scope.names.lookup _ = _; rw [hsc]; exact gl_of h1
    refine ⟨(pa_cons (pe_ty h3 hg hm) q1 rfl).imp fun σ H Q q => q, fun u hu => ?_⟩
    rcases List.mem_cons.mp hu with z | z
    · rw [z]; exact h3
    · exact q2 u z
theorem cls_all : ∀ ts : List String, Paired ClsV (ts.map V.ty) (ts.map Value.type)
  | [] => .nil
  | t :: ts => .cons (.ty t) (cls_all ts)
theorem snd_isiT {ts : List String} {ys : List Expr} {kk : Nat} {q : Pos} (hm : ∀ x ∈ bltNames, X.mg x = none) (hg : Gl X ("isinstance" : Str)) (hp : plainE a = true) {c : CC} (hsc : X.env.scope = c.sc) (hc : cTys ts c ys = true) (hl : ts.length ≤ 100) (ha : PE X a (tE X.K CA W fa)) :
    PE X (.Call (.Name "isinstance" p) [a, .Tuple ys kk q] [] pos) (tE X.K CA W fun env hp => (fa env hp).bind fun x hp => match tyD hp x with | some s => .ok (.bl (ts.any (isTy s))) hp | none => .bad) := by
  obtain ⟨h1, h2⟩ := tys_pa hm hsc hc
  refine (pe_callB call_isiT hg (hm _ (by decide +kernel)) (by decide +kernel) (pa_cons ha (pa_cons (pe_tup h1) pa_nil rfl) (star_plain hp)) (by decide +kernel) (by decide +kernel) (star_plain hp) rfl).imp fun σ H Q ⟨env, L, Xg, hp, k, r, g⟩ => ?_
  refine ⟨env, L, Xg, hp, k, r, (GD.bind g).imp fun d hp1 H1 L1 X1 p1 k1 g1 v rv => ?_⟩
  cases e : tyD hp1 d with
  | none => rw [e] at g1; exact g1.elim
  | some s =>
    rw [e] at g1
    refine ⟨Nat.le_of_lt (small1000 (by rw [List.length_map]; omega)), fun p hn => ?_⟩
    have p2 : Post H1 L1 X1 (upd H1 p (.tup (ts.map V.ty))) L1 X1 := Post.new hn _
    have k2 := k1.new hn (.tup (ts.map V.ty))
    exact ⟨v, p, ts.map V.ty, .type s, ts.map Value.type, _, rfl, upd_same, cls_all ts, tyx_of k2 (rv.post k1 p2) e, kit_any (tyD_mem e) h2, g1 _ _ _ p2 k2 _ rfl⟩
/-! methods of built-in classes -/
def RDm (K : PySem.W.Frag) (m : Me) : V → List V → Hp → VK → Prop := fun x xs H Q => ∃ L X hp d ds, HOK K H L X hp ∧ Rep K H L X d x ∧ Reps K H L X ds xs ∧ Fin K H L X (semM m d ds hp) Q
theorem me_append : MtR X "list.append" (RDm X.K .append) := by
  intro pins s σ H x xs v us Q I rx rs ⟨L, Xg, hp, d, ds, k, r, r2, f⟩
  have key : ∀ n a, d = .loc n → ds = [a] → rAppend x xs H Q := fun n a e1 e2 => by
    subst e1 e2
    cases q : hp[n]? with
    | none => simp only [semM, q] at f; exact f.absurd
    | some o =>
      cases o with
      | dk _ => simp only [semM, q] at f; exact f.absurd
      | dt _ => simp only [semM, q] at f; exact f.absurd
      | ins _ _ => simp only [semM, q] at f; exact f.absurd
      | lst ys =>
        simp only [semM, q] at f
        by_cases hz : ys.length < sizeLine
        · simp only [hz, if_true] at f
          obtain ⟨b, vs, h1, h2, h3, h4, h5⟩ := k.at q
          obtain ⟨b', e3, h6⟩ := r
          rw [h1] at h6; cases h6
          obtain ⟨w, t, rfl, r3, r4⟩ := r2
          have ht : t = [] := r4
          subst ht
          have hz' : vs.length < sizeLine := by rw [h5.len]; exact hz
          refine ⟨b, vs, w, e3, rfl, h2, hz', ?_⟩
          obtain ⟨d', hp', e4, h7⟩ := f
          cases e4
          exact h7 _ _ L Xg (Post.write h3 h2 trivial) (k.write h1 h2 (h5.app (.cons r3 rfl)) (by rw [List.length_append]; exact hz')) rfl
        · simp only [hz, if_false] at f
          exact f.absurd
  by_cases hd : (∃ n, d = .loc n) ∧ ∃ a, ds = [a]
  · obtain ⟨⟨n, e1⟩, a, e2⟩ := hd
    exact mt_append pins s σ H x xs v us Q I rx rs (key n a e1 e2)
  · have e : semM .append d ds hp = none := by
      match d, ds, hd with
      | .loc n, [a], h => exact absurd ⟨⟨n, rfl⟩, a, rfl⟩ h
      | .loc n, [], _ => rfl
      | .loc n, _ :: _ :: _, _ => rfl
      | .non, _, _ => rfl
      | .bl _, _, _ => rfl
      | .int _, _, _ => rfl
      | .str _, _, _ => rfl
      | .tup _, _, _ => rfl
      | .lst _, _, _ => rfl
      | .sq _, _, _ => rfl
    rw [e] at f
    exact f.absurd
theorem me_extend : MtR X "list.extend" (RDm X.K .extend) := by
  intro pins s σ H x xs v us Q I rx rs ⟨L, Xg, hp, d, ds, k, r, r2, f⟩
  have key : ∀ n a, d = .loc n → ds = [a] → rExtend x xs H Q := fun n a e1 e2 => by
    subst e1 e2
    cases q : hp[n]? with
    | none => simp only [semM, q] at f; exact f.absurd
    | some o =>
      cases o with
      | dk _ => simp only [semM, q] at f; exact f.absurd
      | dt _ => simp only [semM, q] at f; exact f.absurd
      | ins _ _ => simp only [semM, q] at f; exact f.absurd
      | lst ys =>
        cases q2 : lst0 hp a with
        | none => simp only [semM, q, q2] at f; exact f.absurd
        | some zs =>
          simp only [semM, q, q2] at f
          by_cases hz : ys.length + zs.length ≤ sizeLine
          · simp only [hz, if_true] at f
            obtain ⟨b, vs, h1, h2, h3, h4, h5⟩ := k.at q
            obtain ⟨b', e3, h6⟩ := r
            rw [h1] at h6; cases h6
            obtain ⟨w, t, rfl, r3, r4⟩ := r2
            have ht : t = [] := r4
            subst ht
            obtain ⟨b2, ws, e5, h8, h9, h10⟩ := seq_lst0 k r3 q2
            have hz' : vs.length + ws.length ≤ sizeLine := by rw [h5.len, h10.len]; exact hz
            refine ⟨b, b2, vs, ws, e3, by rw [e5], h2, h8, hz', ?_⟩
            obtain ⟨d', hp', e4, h7⟩ := f
            cases e4
            exact h7 _ _ L Xg (Post.write h3 h2 trivial) (k.write h1 h2 (h5.app h10) (by rw [List.length_append]; exact hz')) rfl
          · simp only [hz, if_false] at f
            exact f.absurd
  by_cases hd : (∃ n, d = .loc n) ∧ ∃ a, ds = [a]
  · obtain ⟨⟨n, e1⟩, a, e2⟩ := hd
    exact mt_extend pins s σ H x xs v us Q I rx rs (key n a e1 e2)
  · have e : semM .extend d ds hp = none := by
      match d, ds, hd with
      | .loc n, [a], h => exact absurd ⟨⟨n, rfl⟩, a, rfl⟩ h
      | .loc n, [], _ => rfl
      | .loc n, _ :: _ :: _, _ => rfl
      | .non, _, _ => rfl
      | .bl _, _, _ => rfl
      | .int _, _, _ => rfl
      | .str _, _, _ => rfl
      | .tup _, _, _ => rfl
      | .lst _, _, _ => rfl
      | .sq _, _, _ => rfl
    rw [e] at f
    exact f.absurd
theorem reps_strs {H : Hp} {L Xg : List Addr} : ∀ (ys : List Str), Reps X.K H L Xg (ys.map D.str) (ys.map V.str)
  | [] => rfl
  | y :: ys => ⟨.str y, ys.map V.str, rfl, rfl, reps_strs ys⟩
theorem strs_reps {H : Hp} {L Xg : List Addr} : ∀ {ds : List D} {vs : List V} {ys : List Str}, strsOf ds = some ys → Reps X.K H L Xg ds vs → vs = ys.map V.str
  | [], vs, ys, h, r => by cases h; exact r
  | d :: ds, vs, ys, h, ⟨v, ws, e, r1, r2⟩ => by
    cases d <;> first | (simp [strsOf] at h; done) | skip
    rename_i s
    simp only [strsOf] at h
    cases q : strsOf ds with
    | none => rw [q] at h; cases h
    | some zs =>
      rw [q] at h
      cases h
      rw [e, show v = _ from r1, strs_reps q r2]
      rfl
theorem me_split : MtR X "str.split" (RDm X.K .split) := by
  intro pins s σ H x xs v us Q I rx rs ⟨L, Xg, hp, d, ds, k, r, r2, f⟩
  by_cases hd : (∃ a, d = .str a) ∧ ∃ b, ds = [.str b]
  · obtain ⟨⟨a, rfl⟩, b, rfl⟩ := hd
    have e : semM .split (.str a) [.str b] hp = if (b.length == 0) = false ∧ a.length + 2 ≤ sizeLine then some (.lst ((Txt.split a b).map D.str), hp) else none := rfl
    rw [e] at f
    by_cases hz : (b.length == 0) = false ∧ a.length + 2 ≤ sizeLine
    · rw [if_pos hz] at f
      obtain ⟨w, t, rfl, r3, r4⟩ := r2
      have ht : t = [] := r4
      subst ht
      refine mt_split pins s σ H x _ v us Q I rx rs ⟨a, b, r, by rw [show w = _ from r3], hz.1, hz.2, ?_⟩
      have hl : (Txt.split a b).length ≤ sizeLine := Nat.le_trans (PyProof.Rows.split_le a b) hz.2
      exact Fin.mkL (m := false) f k (reps_strs _) (by rw [List.length_map]; exact hl)
    · rw [if_neg hz] at f; exact f.absurd
  · have e : semM .split d ds hp = none := by
      match d, ds, hd with
      | .str a, [.str b], h => exact absurd ⟨⟨a, rfl⟩, b, rfl⟩ h
      | .str a, [], _ => rfl
      | .str a, [.non], _ => rfl
      | .str a, [.bl _], _ => rfl
      | .str a, [.int _], _ => rfl
      | .str a, [.tup _], _ => rfl
      | .str a, [.lst _], _ => rfl
      | .str a, [.sq _], _ => rfl
      | .str a, [.loc _], _ => rfl
      | .str a, [.fn _], _ => rfl
      | .str a, x :: _ :: _, _ => cases x <;> rfl
      | .non, _, _ => rfl
      | .bl _, _, _ => rfl
      | .int _, _, _ => rfl
      | .loc _, _, _ => rfl
      | .fn _, _, _ => rfl
      | .tup _, _, _ => rfl
      | .lst _, _, _ => rfl
      | .sq _, _, _ => rfl
    rw [e] at f
    exact f.absurd
theorem me_join : MtR X "str.join" (RDm X.K .join) := by
  intro pins s σ H x xs v us Q I rx rs ⟨L, Xg, hp, d, ds, k, r, r2, f⟩
  by_cases hd : (∃ a, d = .str a) ∧ ∃ b, ds = [b]
  · obtain ⟨⟨a, rfl⟩, b, rfl⟩ := hd
    have e : semM .join (.str a) [b] hp = (match lst0 hp b with | some xs => (match strsOf xs with | some ys => if (ys.map (·.length)).sum + ys.length * a.length ≤ 16777216 then some (.str (Txt.join a ys), hp) else none | none => none) | none => none) := rfl
    rw [e] at f
    cases q : lst0 hp b with
    | none => rw [q] at f; exact f.absurd
    | some zs =>
      rw [q] at f
      cases q2 : strsOf zs with
      | none => simp only [q2] at f; exact f.absurd
      | some ys =>
        simp only [q2] at f
        by_cases hz : (ys.map (·.length)).sum + ys.length * a.length ≤ 16777216
        · rw [if_pos hz] at f
          obtain ⟨w, t, rfl, r3, r4⟩ := r2
          have ht : t = [] := r4
          subst ht
          obtain ⟨p, vs, e1, h1, z1, g1⟩ := seq_lst0 k r3 q
          have e2 := strs_reps q2 g1
          rw [e2] at h1
          exact mt_join pins s σ H x _ v us Q I rx rs ⟨a, p, ys, r, by rw [e1], .inl (SqL.of h1), hz, f.pure k rfl⟩
        · rw [if_neg hz] at f; exact f.absurd
  · have e : semM .join d ds hp = none := by
      match d, ds, hd with
      | .str a, [b], h => exact absurd ⟨⟨a, rfl⟩, b, rfl⟩ h
      | .str a, [], _ => rfl
      | .str a, _ :: _ :: _, _ => rfl
      | .non, _, _ => rfl
      | .bl _, _, _ => rfl
      | .int _, _, _ => rfl
      | .loc _, _, _ => rfl
      | .fn _, _, _ => rfl
      | .tup _, _, _ => rfl
      | .lst _, _, _ => rfl
      | .sq _, _, _ => rfl
    rw [e] at f
    exact f.absurd
theorem meAll (m : Me) : ∃ id, PlainAttrs (meT m) ∧ Slot (meT m) (meK m) id ∧ typeOf (.builtin id) = pure (.type "method_descriptor") ∧ MtR X id (RDm X.K m) := by
  cases m
  · exact ⟨_, PySem.F.plainAttrs_list, PySem.F.slot_list_append, PySem.F.type_list_append, me_append⟩
  · exact ⟨_, PySem.F.plainAttrs_list, PySem.F.slot_list_extend, PySem.F.type_list_extend, me_extend⟩
  · exact ⟨_, PySem.F.plainAttrs_str, PySem.F.slot_str_split, PySem.F.type_str_split, me_split⟩
  · exact ⟨_, PySem.F.plainAttrs_str, PySem.F.slot_str_join, PySem.F.type_str_join, me_join⟩
theorem tyV_of {K : PySem.W.Frag} {H : Hp} {L Xg : List Addr} {hp : HpI} {d : D} {v : V} {m : Me} (k : HOK K H L Xg hp) (r : Rep K H L Xg d v) (e : tyD hp d = some (meT m)) : tyV K (meT m) v H := by
  have h : meT m = "list" ∨ meT m = "str" := by cases m <;> first | exact .inl rfl | exact .inr rfl
  rcases h with h | h
  · rw [h] at e ⊢
    cases d with
    | lst ds => obtain ⟨a, vs, e1, h1, _⟩ := r; rw [e1]; exact .inl ⟨rfl, vs, SqL.of h1⟩
    | sq ds => obtain ⟨a, vs, e1, h1, _⟩ := r; rw [e1]; exact .inl ⟨rfl, vs, h1.elim (fun h => h.seq) (fun h => SqL.of h.1)⟩
    | fn j => cases e
    | loc n =>
      obtain ⟨a, e1, h1⟩ := r
      simp only [tyD] at e
      split at e
      · rename_i ds q
        obtain ⟨b, vs, h2, h3, _⟩ := k.at q
        rw [h1] at h2; cases h2
        rw [e1]
        exact .inl ⟨rfl, vs, SqL.of h3⟩
      · cases e
    | non => exact absurd (Option.some.inj e) (by decide)
    | bl _ => exact absurd (Option.some.inj e) (by decide)
    | int _ => exact absurd (Option.some.inj e) (by decide)
    | str _ => exact absurd (Option.some.inj e) (by decide)
    | tup _ => exact absurd (Option.some.inj e) (by decide)
  · rw [h] at e ⊢
    cases d with
    | str z => rw [show v = _ from r]; rfl
    | loc n =>
      simp only [tyD] at e
      split at e
      · exact absurd (Option.some.inj e) (by decide)
      · cases e
    | fn j => cases e
    | _ => exact absurd (Option.some.inj e) (by decide)
theorem baseB {o : Expr} {f : Str} {env : Env} {w : Sem Value} (hb : plainB o = true) : attributeBase o f env w = w := by
  cases o with
  | Call g xs ks p => cases xs with
    | nil => simp [plainB] at hb
    | cons x xs => cases g <;> rfl
  | _ => rfl
theorem snd_me (m : Me) {apos : Pos} (hn : es.isEmpty = false) (hp : plainEs es = true) (hl : es.length < 20) (hq : apos.endLine = pos.line) (hb : plainB a = true) (ho : PE X a (tE X.K CA W fa)) (ha : PA X es (tA X.K CA W fs)) :
    PE X (.Call (.Attribute a (meK m) apos) es [] pos) (tE X.K CA W fun env hp => (fa env hp).bind fun x hp => if tyD hp x = some (meT m) then (fs env hp).bind fun ds hp => ofOpt (semM m x ds hp) else .bad) := by
  obtain ⟨id, h1, h2, h3, h4⟩ := meAll (X := X) m
  cases es with
  | nil => simp at hn
  | cons e es =>
    have hp' := hp
    simp only [plainEs, Bool.and_eq_true] at hp
    have hfew : ((backTo pos (starEach (e :: es) X.env)).all (fun x => !x.1) && (backToKw pos (keywordEach [] X.env)).all (fun x => x.1.isSome)
      && decide ((e :: es).length + ([] : List Keyword).length + (if ([] : List Keyword).isEmpty then 0 else 1) < 30)) = true := by
      rw [all_plain hp']
      have : (e :: es).length + ([] : List Keyword).length + (if ([] : List Keyword).isEmpty then 0 else 1) < 30 := by
        simp only [List.length_nil, List.isEmpty_nil, if_true]; omega
      rw [decide_eq_true this]
      rfl
    refine (pe_bm (o := a) (e := e) (es := es) h1 h2 h3 h4 ho ha (baseB hb) hfew (by simpa using hq) (star_plain hp.1) (any_plain hp.2)).imp fun σ H Q ⟨env, L, Xg, hp, k, r, g⟩ => ?_
    refine ⟨env, L, Xg, hp, k, r, (GD.bind g).imp fun d hp1 H1 L1 X1 p1 k1 g1 v rv => ?_⟩
    by_cases ht : tyD hp1 d = some (meT m)
    · rw [if_pos ht] at g1
      refine ⟨tyV_of k1 rv ht, env, L1, X1, hp1, k1, r.post k p1, (GD.bind g1).imp fun ds hp2 H2 L2 X2 p2 k2 g2 vs rvs => ?_⟩
      exact ⟨L2, X2, hp2, d, ds, k2, rv.post k1 p2, rvs, GD.fin g2⟩
    · rw [if_neg ht] at g1; exact g1.elim
end
end KI

namespace KI
open PySem PySem.Spec PyProof.Rows L2
variable [LX]
/-! ## 13. calls of the text's own defs -/
/-- what stands of the program: the defs at level n keep what the evaluator's cf yields -/
structure DefOk (P : Program) (w : World) (K : PySem.W.Frag) (mg : Str → Option Value) (base : Heap) (CA : Nat → Addr) (cf : CF) (n i : Nat) (di : DefI) (fa : Addr) (fd : FuncData) : Prop where
  hmg : di.meth = false → mg di.name = some (.ref fa)
  kp : PySem.W.keepIn K (.ref fa) = true
  fn : FnOk P w K mg base (L2.CX P w) (2 * n + 2) fa fd di.ps (spI K CA cf i di.ps.length)
  b0 : di.dfl = [] → Binds K fd di.ps []
  b1 : di.dfl ≠ [] → ∃ dvs ds, (∀ H L X, Reps K H L X (di.dfl.map (·.2)) dvs) ∧ Vals dvs ds ∧ Binds K fd di.ps ds
  b2 : di.dfl ≠ [] → KBn K fd di.ps (di.ps.length - di.dfl.length) (di.dfl.map (·.1)) (fun us ws => us ++ ws) (fun vs zs => vs ++ zs)
/-- what the __init__ of an error does: its fields are laid, in turn -/
def spInit (C : Addr) (fs : List Str) : Sp := fun vs H Q _ => vs.length = fs.length + 1 ∧ ∃ a ws, vs = .ref a :: ws ∧ H a = some (L2.exo a C none) ∧ ∀ dx H2, H2 a = some (L2.exo a C (some dx)) → H2 dx = some (L2.exd dx (fs.zip ws).reverse) → H dx = none → dx ≠ a → (∀ b, b ≠ a → b ≠ dx → H2 b = H b) → Q .non H2
/-- an error's class: without fields made with a text, with fields by its own __init__ -/
structure ExcOk (P : Program) (w : World) (K : PySem.W.Frag) (mg : Str → Option Value) (base : Heap) (C : Addr) (nm : Str) (fs : List Str) : Prop where
  hmg : mg nm = some (.ref C)
  kC : PySem.W.keepIn K (.ref C) = true
  ex : PySem.W.subIn K (.ref C) (.type "BaseException") = some true
  ty : PySem.W.typeIn K (.ref C) = some (.type "type")
  few : fs.length ≤ 900
  own : fs = [] → ∃ B newId initId bmB, PySem.ExcBaseFacts B newId initId bmB ∧ PySem.W.excIn K C bmB newId = true
  ini : fs ≠ [] → OexC K C ∧ ∃ fI fd ps, PySem.W.findIn K (.ref C) "__init__" = some (some (.ref fI)) ∧ PySem.W.typeIn K (.ref fI) = some (.type "function") ∧ Binds K fd ps [] ∧ FnOk P w K mg base (L2.CX P w) 1 fI fd ps (spInit C fs)
structure Fx (P : Program) (w : World) (K : PySem.W.Frag) (mg : Str → Option Value) (base : Heap) (CA : Nat → Addr) (pg : Pg) (cf : CF) (n : Nat) : Prop where
  fns : ∀ (i : Nat) (di : DefI), pg.defs[i]? = some di → ∃ fa fd, DefOk P w K mg base CA cf n i di fa fd
  fill : ∀ (i : Nat) (di : DefI) (ds : List D) (hp : HpI), pg.defs[i]? = some di → ds.length + di.dfl.length = di.ps.length → cf i ds hp = cf i (ds ++ di.dfl.map (·.2)) hp
  consts : ∀ (x : Str) (d : D), (pg.consts.any fun p => p.1 == x && D.beq p.2 d) = true → ∃ u v, mg x = some u ∧ RelV v u ∧ ∀ H L X, Rep K H L X d v
  blt : ∀ x ∈ bltNames, mg x = none
  excs : ∀ (cl : Nat) (fs : List Str), (pg.excs.any fun p => p.1 == cl && p.2 == fs) = true → ∀ nm, exNames[cl]? = some nm → ExcOk P w K mg base (CA cl) nm fs
  clss : ∀ (c : Nat) (nm : Str) (f : Nat), pg.clss[c]? = some (nm, f) → ∃ di fa fd, pg.defs[f]? = some di ∧ DefOk P w K mg base CA cf n f di fa fd ∧ mg nm = some (.ref (LX.CI c)) ∧ Mk K (LX.CI c) fa
  meths : ∀ (c : Nat) (m : Str) (f : Nat), (c, m, f) ∈ pg.meths → ∃ di fa fd, pg.defs[f]? = some di ∧ DefOk P w K mg base CA cf n f di fa fd ∧ Cls K (LX.CI c) ∧ Meth K (LX.CI c) m fa
  flds : ∀ (c : Nat) (f : Str), (c, f) ∈ pg.flds → Cls K (LX.CI c) ∧ NoAttr K (LX.CI c) f
section
variable {X : Cx} {CA : Nat → Addr} {W : WX} {cf : CF} {n i : Nat} {pos p : Pos} {es : List Expr} {fs fz : EnvI → HpI → Out (List D)}
theorem run_fnD {CX : CXT} {k : Nat} {f : Addr} {fd : FuncData} {ps : List Str} {sp : Sp} {dvs : List V} {ds : List Value} {E : L2.St → XK} {pins : List (Addr × Obj)} {σ : L2.St} {H : Hp} {s : Shared} {Q : VK} {us : List Value} {vs : List V} (F : FnOk X.prog X.w X.K X.mg X.base CX k f fd ps sp) (hr : Room k X.A) (hb : Binds X.K fd ps ds) (hd : Vals dvs ds) (hx : PassesAt CX X σ (E σ))
    (I : L2.Inv X pins σ H s) (r : Vals vs us) (h : sp (vs ++ dvs) H Q (E σ)) : wpAny (model X.prog X.w) X.A (call (.ref f) us) (EP X pins σ Q) X.xe s := by
  have r2 : Vals (vs ++ dvs) (us ++ ds) := r.append hd
  have hl : (us ++ ds).length = ps.length := by rw [← r2.length]; exact F.len _ _ _ _ h
  refine wpAny_call (codeAny_mono (F.run X.A X.stack s H ⟨us, []⟩ (us ++ ds) (vs ++ dvs) Q (E σ) hr I.env0 (hb s us I.kIn hl) r2 h) fun r s' hq => ?_)
  cases r with
  | error e => exact hx pins H s e s' I hq
  | ok fl =>
    cases fl with
    | ret u => exact I.after hq
    | next => exact False.elim hq
    | brk => exact False.elim hq
    | cont => exact False.elim hq
theorem framed_fill {k : Option Nat} {ds es : List D} {hp : HpI} (h : ∀ hp, cf i ds hp = cf i (ds ++ es) hp) (hc : ∀ k, closeds k es = true) : framed cf k i ds hp = framed cf k i (ds ++ es) hp := by
  have capp : ∀ (k : Nat) (a : List D), closeds k (a ++ es) = closeds k a := by
    intro k a
    induction a with
    | nil => rw [List.nil_append, hc k]; rfl
    | cons x xs ih => rw [List.cons_append, closeds, closeds, ih]
  cases k with
  | none => exact h hp
  | some k =>
    simp only [framed]
    rw [capp, h]
theorem snd_call {di : DefI} {fa : Addr} {fd : FuncData} {k : Option Nat} {mg : Str → Option Value} (hmg : mg = X.mg) (F : DefOk X.prog X.w X.K mg X.base CA cf n i di fa fd) (hfill : ∀ ds hp, ds.length + di.dfl.length = di.ps.length → cf i ds hp = cf i (ds ++ di.dfl.map (·.2)) hp)
    (hcl : ∀ k, closeds k (di.dfl.map (·.2)) = true) (hr : Room (2 * n + 2) X.A) (tk : Takes X W) (hm : di.meth = false) (hg : Gl X di.name) (hdb : (di.name == ("__debug__" : Str)) = false) (hl : es.length + di.dfl.length = di.ps.length) (hn : es.isEmpty = false) (hp : plainEs es = true)
    (ha : PA X es (tA X.K CA W fs)) (hlen : ∀ env hp ds hp', fs env hp = .ok ds hp' → ds.length = es.length) :
    PE X (.Call (.Name di.name p) es [] pos) (tE X.K CA W fun env hp => (fs env hp).bind fun ds hp => framed cf k i ds hp) := by
  subst hmg
  cases es with
  | nil => simp at hn
  | cons e es =>
    simp only [plainEs, Bool.and_eq_true] at hp
    have hb : ∃ dvs ds, (∀ H L Xg, Reps X.K H L Xg (di.dfl.map (·.2)) dvs) ∧ Vals dvs ds ∧ Binds X.K fd di.ps ds := by
      by_cases hd : di.dfl = []
      · exact ⟨[], [], fun _ _ _ => by rw [hd]; exact rfl, .nil, F.b0 hd⟩
      · exact F.b1 hd
    obtain ⟨dvs, dds, rd, rdv, hB⟩ := hb
    refine ⟨fun pins s σ H Q I ⟨env, L, Xg, hpp, ko, r, g⟩ => ?_⟩
    have g2 : GD X.K CA H L Xg (fun c dx H' => W c dx σ H') (fs env hpp) (RQs X.K fun vs H1 => spI X.K CA cf i di.ps.length (vs ++ dvs) H1 Q (WE W σ)) := by
      refine (GD.bind g).impE fun ds hp1 H1 L1 X1 eo p1 k1 g1 vs rv => ?_
      have hds := hlen env hpp ds hp1 eo
      have e1 : ds.length + di.dfl.length = di.ps.length := by rw [hds]; exact hl
      have e2 : framed cf k i ds hp1 = framed cf k i (ds ++ di.dfl.map (·.2)) hp1 := framed_fill (fun hp => hfill ds hp e1) hcl
      rw [e2] at g1
      refine framed_sp (o := k) (ds := ds ++ di.dfl.map (·.2)) ?_ k1 (rv.app (rd _ _ _)) g1
      rw [List.length_append, rv.len, (rd H1 L1 X1).len, List.length_map, hds]
      exact hl
    refine wpAny_Call_Name_kw (ld_glob I hg (F.hmg hm) ?_ hdb)
    refine PySem.W.callWith_K (h₀ := X.base) I.ok.mod.kin F.kp (thn (ha.run pos pins s σ H _ I ⟨env, L, Xg, hpp, ko, r, g2⟩) fun us s1 ⟨vs, H1, I1, r, q⟩ => ⟨I1.kIn, ?_⟩) (star_plain hp.1) (any_plain hp.2)
    exact run_fnD (E := WE W) F.fn hr hB rdv (passAt tk σ) I1 r q
theorem kw_names {kws : List Keyword} {env : Env} : ∀ {nms : List Str}, kwNames kws = nms.map some → (backToKw pos (keywordEach kws env)).all (·.1.isSome) = true ∧ (backToKw pos (keywordEach kws env)).filterMap (·.1) = nms ∧ (backToKw pos (keywordEach kws env)).any (·.1.isNone) = false := by
  induction kws with
  | nil => intro nms h; cases nms with
    | nil => exact ⟨rfl, rfl, rfl⟩
    | cons a b => simp [kwNames] at h
  | cons k ks ih =>
    intro nms h
    obtain ⟨a, e, q⟩ := k
    cases nms with
    | nil => simp [kwNames] at h
    | cons m ms =>
      simp only [kwNames, List.map_cons, List.cons.injEq] at h
      obtain ⟨rfl, h2⟩ := h
      obtain ⟨h3, h4, h5⟩ := ih h2
      simp only [keywordEach, backToKw, List.map_cons, List.all_cons, List.filterMap_cons, List.any_cons] at h3 h4 h5 ⊢
      refine ⟨by rw [h3]; rfl, congrArg (List.cons m) h4, by rw [h5]; rfl⟩
theorem kw_len : ∀ {kws : List Keyword}, (kwNames kws).length = kws.length
  | [] => rfl
  | _ :: ks => by simp [kwNames, kw_len (kws := ks)]
theorem snd_callk {di : DefI} {fa : Addr} {fd : FuncData} {k : Option Nat} {kws : List Keyword} {mg : Str → Option Value} (hmg : mg = X.mg) (F : DefOk X.prog X.w X.K mg X.base CA cf n i di fa fd)
    (hr : Room (2 * n + 2) X.A) (tk : Takes X W) (hm : di.meth = false) (hg : Gl X di.name) (hdb : (di.name == ("__debug__" : Str)) = false) (hl : es.length + di.dfl.length = di.ps.length) (hd : di.dfl ≠ []) (hk : kwNames kws = di.dfl.map fun p => some p.1) (hn : es.isEmpty = false) (hp : plainEs es = true)
    (ha : PA X es (tA X.K CA W fs)) (hkw : PK X kws (tA X.K CA W fz)) (hlen : ∀ env hp ds hp', fs env hp = .ok ds hp' → ds.length = es.length) (hlez : ∀ env hp ds hp', fz env hp = .ok ds hp' → ds.length = kws.length) :
    PE X (.Call (.Name di.name p) es kws pos) (tE X.K CA W fun env hp => (fs env hp).bind fun ds hp => (fz env hp).bind fun zs hp => framed cf k i (ds ++ zs) hp) := by
  subst hmg
  cases es with
  | nil => simp at hn
  | cons e es =>
    simp only [plainEs, Bool.and_eq_true] at hp
    obtain ⟨k1, k2, k3⟩ := kw_names (kws := kws) (env := X.env) (pos := pos) (nms := di.dfl.map (·.1)) (by rw [hk, List.map_map]; rfl)
    have hkl : kws.length = di.dfl.length := by rw [← kw_len, hk, List.length_map]
    have hB := F.b2 hd
    have hps : di.ps.length - di.dfl.length = (e :: es).length := by omega
    refine ⟨fun pins s σ H Q I ⟨env, L, Xg, hpp, ko, r, g⟩ => ?_⟩
    have g2 : GD X.K CA H L Xg (fun c dx H' => W c dx σ H') (fs env hpp) (RQs X.K fun vs H1 => tA X.K CA W fz σ H1 fun zs H2 => vs.length = di.ps.length - di.dfl.length ∧ zs.length = (di.dfl.map (·.1)).length ∧ spI X.K CA cf i di.ps.length (vs ++ zs) H2 Q (WE W σ)) := by
      refine (GD.bind g).impE fun ds hp1 H1 L1 X1 eo p1 kk1 g1 vs rv => ?_
      have hds := hlen env hpp ds hp1 eo
      refine ⟨env, L1, X1, hp1, kk1, r.post ko p1, (GD.bind g1).impE fun zs hp2 H2 L2 X2 eo2 p2 kk2 g2 ws rw' => ?_⟩
      have hzs := hlez env hp1 zs hp2 eo2
      refine ⟨by rw [rv.len, hds, hps], by rw [rw'.len, hzs, hkl, List.length_map], framed_sp (o := k) (ds := ds ++ zs) ?_ kk2 ((rv.post kk1 p2).app rw') g2⟩
      rw [List.length_append, rv.len, rw'.len, hds, hzs, hkl]
      exact hl
    refine wpAny_Call_Name_kw (ld_glob I hg (F.hmg hm) ?_ hdb)
    have hany : (backTo pos (starEach (e :: es) X.env)).any (·.1) = false := any_plain (by simp [plainEs, hp])
    refine PySem.W.callWith_KW (h₀ := X.base) I.ok.mod.kin F.kp k1 (thn (ha.run pos pins s σ H _ I ⟨env, L, Xg, hpp, ko, r, g2⟩) fun us s1 ⟨vs, H1, I1, r, q⟩ => ?_) (by rw [hany, k3]; rfl) (star_plain hp.1)
    refine thn (hkw.run pos pins s1 σ H1 _ I1 q) fun ws s2 ⟨zs, H2, I2, rz, l1, l2, q2⟩ => ⟨I2.kIn, ?_⟩
    rw [k2]
    have r2 := hB.rel r rz
    refine wpAny_call (codeAny_mono (F.fn.run X.A X.stack s2 H2 ⟨us, (di.dfl.map (·.1)).zip ws⟩ (us ++ ws) (vs ++ zs) Q (WE W σ) hr I2.env0 (hB.to s2 us ws I2.kIn (r.length.symm.trans l1) (rz.length.symm.trans l2)) r2 q2) fun r s' hq => ?_)
    cases r with
    | error e => exact passAt tk σ pins H2 s2 e s' I2 hq
    | ok fl =>
      cases fl with
      | ret u => exact I2.after hq
      | next => exact False.elim hq
      | brk => exact False.elim hq
      | cont => exact False.elim hq
end
end KI

namespace KI
open PySem PySem.Spec PyProof.Rows L2
variable [LX]
/-! ## 14. targets -/
def Agree (is : List Nat) (σ σ' : L2.St) : Prop := σ'.length = σ.length ∧ ∀ i, i ∉ is → σ'[i]? = σ[i]?
theorem Agree.refl {is : List Nat} {σ : L2.St} : Agree is σ σ := ⟨rfl, fun _ _ => rfl⟩
theorem Agree.trans {is js : List Nat} {σ σ1 σ2 : L2.St} (a : Agree is σ σ1) (b : Agree js σ1 σ2) : Agree (is ++ js) σ σ2 :=
  ⟨b.1.trans a.1, fun i h => by
    simp only [List.mem_append, not_or] at h
    exact (b.2 i h.2).trans (a.2 i h.1)⟩
theorem wipe_agree {σ σ' : L2.St} {is vs : List Nat} (h : Agree is (L2.wipe σ vs) σ') (hs : ∀ i ∈ is, i ∈ vs) : L2.wipe σ' vs = L2.wipe σ vs := by
  apply List.ext_getElem?
  intro i
  have wl : ∀ (τ : L2.St) (ws : List Nat), (L2.wipe τ ws).length = τ.length := fun τ ws => L2.wipe_length τ ws
  have win : ∀ (τ : L2.St) (ws : List Nat), i ∈ ws → i < τ.length → (L2.wipe τ ws)[i]? = some none := by
    intro τ ws
    induction ws with
    | nil => intro h; simp at h
    | cons w ws ih =>
      intro hi hl
      unfold L2.wipe
      by_cases e : w = i
      · subst e; rw [List.getElem?_set_self (by rw [wl]; exact hl)]
      · rw [List.getElem?_set_ne e]
        exact ih ((List.mem_cons.mp hi).resolve_left (fun z => e z.symm)) hl
  have wout : ∀ (τ : L2.St) (ws : List Nat), i ∉ ws → (L2.wipe τ ws)[i]? = τ[i]? := by
    intro τ ws
    induction ws with
    | nil => intro _; rfl
    | cons w ws ih =>
      intro hi
      simp only [List.mem_cons, not_or] at hi
      unfold L2.wipe
      rw [List.getElem?_set_ne (Ne.symm hi.1)]
      exact ih hi.2
  have hlen : σ'.length = σ.length := by rw [h.1, wl]
  by_cases hi : i ∈ vs
  · by_cases hl : i < σ.length
    · rw [win σ' vs hi (by omega), win σ vs hi hl]
    · rw [List.getElem?_eq_none_iff.mpr (by rw [wl]; omega), List.getElem?_eq_none_iff.mpr (by rw [wl]; omega)]
  · rw [wout σ' vs hi, h.2 i (fun z => hi (hs i z))]
def tG (K : PySem.W.Frag) (CA : Nat → Addr) (is : List Nat) (f : D → EnvI → HpI → Out EnvI) : TG := fun v σ H Q => ∃ env L X hp d, HOK K H L X hp ∧ REnv K H L X env σ ∧ Rep K H L X d v ∧
  GD K CA H L X (fun _ _ _ => False) (f d env hp) (fun env' _ H' L' X' => ∀ σ', REnv K H' L' X' env' σ' → Agree is σ σ' → Q σ' H')
def tGs (K : PySem.W.Frag) (CA : Nat → Addr) (is : List Nat) (f : List D → EnvI → HpI → Out EnvI) : TGs := fun vs σ H Q => ∃ env L X hp ds, HOK K H L X hp ∧ REnv K H L X env σ ∧ Reps K H L X ds vs ∧
  GD K CA H L X (fun _ _ _ => False) (f ds env hp) (fun env' _ H' L' X' => ∀ σ', REnv K H' L' X' env' σ' → Agree is σ σ' → Q σ' H')
theorem _root_.L2.PG.imp {X : Cx} {e : Expr} {t t' : TG} (h : PG X e t) (i : ∀ v σ H Q, t' v σ H Q → t v σ H Q) : PG X e t' := ⟨fun pins s σ H v u Q I r q => h.run pins s σ H v u Q I r (i v σ H Q q)⟩
theorem _root_.L2.PGs.imp {X : Cx} {e : List Expr} {t t' : TGs} (h : PGs X e t) (i : ∀ v σ H Q, t' v σ H Q → t v σ H Q) : PGs X e t' := ⟨fun pins s σ H v u Q I r q => h.run pins s σ H v u Q I r (i v σ H Q q)⟩
theorem _root_.L2.PI.imp {X : Cx} {tg e : Expr} {t t' : TI} (h : PI X tg e t) (i : ∀ σ H R, t' σ H R → t σ H R) : PI X tg e t' := ⟨fun pins s σ H R I q => h.run pins s σ H R I (i σ H R q)⟩
theorem _root_.L2.PI.or {X : Cx} {tg e : Expr} {t t' : TI} (h : PI X tg e t) (h' : PI X tg e t') : PI X tg e (fun σ H R => t σ H R ∨ t' σ H R) :=
  ⟨fun pins s σ H R I q => q.elim (h.run pins s σ H R I) (h'.run pins s σ H R I)⟩
section
variable {X : Cx} {CA : Nat → Addr} {W : WX} {pos : Pos}
theorem snd_gname {i : Nat} {x : Str} (hN : X.N.Nodup) (hi : X.N[i]? = some x) (hs : (match X.env.scope.names.lookup x with | some .local => true | some .cell => X.fn x | _ => false) = true) :
    PG X (.Name x pos) (tG X.K CA [i] fun d env hp => .ok (env.set i (some d)) hp) := by
  have h2 : Loc X.env.scope x ∧ (X.fn x = true ∨ X.env.scope.names.lookup x = some .local) := by
    split at hs
    · rename_i q; exact ⟨.inl q, .inr q⟩
    · rename_i q; exact ⟨.inr q, .inl hs⟩
    · cases hs
  refine (pg_name hN hi h2.1 h2.2).imp fun v σ H Q ⟨env, L, Xg, hp, d, k, r, rd, g⟩ => ?_
  refine GD.here g k _ (r.set rd i) ⟨List.length_set, fun j hj => ?_⟩
  rw [List.getElem?_set_ne (fun e => hj (by simp [e]))]
theorem assign_plain {e : Expr} {es : List Expr} {env : Env} (h : plainE e = true) : assignEach (e :: es) env = (false, assign e env) :: assignEach es env := by
  cases e <;> first | rfl | (simp [plainE] at h; done)
theorem assign_len {env : Env} : ∀ {es : List Expr}, plainEs es = true → (assignEach es env).length = es.length ∧ (assignEach es env).findIdx? (·.1) = none
  | [], _ => ⟨rfl, rfl⟩
  | e :: es, h => by
    simp only [plainEs, Bool.and_eq_true] at h
    obtain ⟨h1, h2⟩ := assign_len (env := env) h.2
    rw [assign_plain h.1]
    refine ⟨by simp [h1], ?_⟩
    rw [List.findIdx?_cons]
    simp [h2]
variable {es : List Expr} {is js : List Nat} {fg : D → EnvI → HpI → Out EnvI} {fgs : List D → EnvI → HpI → Out EnvI} {e : Expr}
theorem snd_gnil : PGs X [] (tGs X.K CA [] fun ds env hp => match ds with | [] => .ok env hp | _ => .bad) := by
  refine pgs_nil.imp fun vs σ H Q ⟨env, L, Xg, hp, ds, k, r, rd, g⟩ => ?_
  cases ds with
  | nil => exact ⟨rd, GD.here g k _ r Agree.refl⟩
  | cons d ds => exact g.elim
theorem snd_gcons (hp : plainE e = true) (h1 : PG X e (tG X.K CA is fg)) (h2 : PGs X es (tGs X.K CA js fgs)) :
    PGs X (e :: es) (tGs X.K CA (is ++ js) fun ds env hp => match ds with | d :: ds => (fg d env hp).bind fun env hp => fgs ds env hp | _ => .bad) := by
  refine (pgs_cons h1 h2 (by rw [assign_plain hp]; rfl)).imp fun vs σ H Q ⟨env, L, Xg, hp, ds, k, r, rd, g⟩ => ?_
  cases ds with
  | nil => exact g.elim
  | cons d ds =>
    obtain ⟨v, t, e1, r1, r2⟩ := rd
    refine ⟨v, t, e1, env, L, Xg, hp, d, k, r, r1, (GD.bind g).imp fun env1 hp1 H1 L1 X1 p1 k1 g1 σ1 rσ ag => ?_⟩
    exact ⟨env1, L1, X1, hp1, ds, k1, rσ, r2.post k p1, g1.imp fun env2 hp2 H2 L2 X2 p2 k2 q σ2 r3 ag2 => q σ2 r3 (ag.trans ag2)⟩
theorem GD.wish {α : Type} {K : PySem.W.Frag} {H : Hp} {L X : List Addr} {W : XK} {o : Out α} {R : α → HpI → Hp → List Addr → List Addr → Prop} (g : GD K CA H L X (fun _ _ _ => False) o R) : GD K CA H L X W o R := by
  cases o with
  | ok a hp => exact g
  | exc x hp => exact fun c dx H' L' X' p k e => (g c dx H' L' X' p k e).elim
  | bad => exact g
theorem snd_gtup {kk : Nat} (hc : X.calm = true) (hp : plainEs es = true) (h : PGs X es (tGs X.K CA is fgs)) (hlen : ∀ ds env hp env' hp', fgs ds env hp = .ok env' hp' → ds.length = es.length) (hx : ∀ ds env hp x hp', fgs ds env hp ≠ .exc x hp') :
    PG X (.Tuple es kk pos) (tG X.K CA is fun d env hp => match seqOf hp d with | some ds => fgs ds env hp | none => .bad) := by
  obtain ⟨a1, a2⟩ := assign_len (env := X.env) hp
  have both : PG X (.Tuple es kk pos) (fun v σ H Q => gTup X.K es.length (tGs X.K CA is fgs) v σ H Q ∨ gLst X.K es.length (tGs X.K CA is fgs) v σ H Q) :=
    ⟨fun pins s σ H v u Q I r q => q.elim ((pg_tup hc h a1 a2).run pins s σ H v u Q I r) ((pg_lst hc h a1 a2).run pins s σ H v u Q I r)⟩
  refine both.imp fun v σ H Q ⟨env, L, Xg, hp, d, k, r, rd, g⟩ => ?_
  cases q : seqOf hp d with
  | none => simp only [q] at g; exact g.elim
  | some ds =>
    simp only [q] at g
    obtain ⟨a, vs, e1, h1, _, h3⟩ := seq_any k rd q
    have hl : ds.length = es.length := by
      cases z : fgs ds env hp with
      | ok env' hp' => exact hlen _ _ _ _ _ z
      | exc x hp' => exact absurd z (hx _ _ _ _ _)
      | bad => rw [z] at g; exact g.elim
    have hl' : vs.length = es.length := by rw [h3.len]; exact hl
    rcases h1 with h1 | h1
    · exact .inr ⟨a, vs, e1, h1, hl', env, L, Xg, hp, ds, k, r, h3, g⟩
    · exact .inl ⟨a, vs, e1, h1, hl', env, L, Xg, hp, ds, k, r, h3, g⟩
theorem snd_gsub {o i : Expr} {fo fi : EnvI → HpI → Out D} (hp : plainIx i = true) (ho : PE X o (tE X.K CA W fo)) (hi : PE X i (tE X.K CA W fi)) :
    PG X (.Subscript o i pos) (tG X.K CA [] fun d env hp => (fo env hp).bind fun x hp => (fi env hp).bind fun y hp => match setIx x y d hp with | some hp => .ok env hp | none => .bad) := by
  refine (pg_sub ho hi set_list (by intro v; cases i <;> first | rfl | (simp [plainIx] at hp; done))).imp fun v σ H Q ⟨env, L, Xg, hp, d, k, r, rd, g⟩ => ?_
  refine ⟨env, L, Xg, hp, k, r, (GD.bind g).wish.imp fun x hp1 H1 L1 X1 p1 k1 g1 ov ro => ?_⟩
  have r1 := r.post k p1
  refine ⟨env, L1, X1, hp1, k1, r1, (GD.bind g1).wish.imp fun y hp2 H2 L2 X2 p2 k2 g2 iv ri => ?_⟩
  have r2 := r1.post k1 p2
  have rd2 := (rd.post k p1).post k1 p2
  have ro2 := ro.post k1 p2
  cases q : setIx x y d hp2 with
  | none => simp only [q] at g2; exact g2.elim
  | some hp3 =>
    simp only [q] at g2
    cases x with
    | loc n =>
      cases y with
      | int m =>
        simp only [setIx] at q
        cases q1 : hp2[n]? with
        | none => simp only [q1] at q; cases q
        | some ob =>
          cases ob with
          | dk _ => simp only [q1] at q; cases q
          | dt _ => simp only [q1] at q; cases q
          | ins _ _ => simp only [q1] at q; cases q
          | lst xs =>
            simp only [q1] at q
            cases q2 : ixN xs.length m with
            | none => simp only [q2] at q; cases q
            | some j =>
              simp only [q2] at q
              cases q
              obtain ⟨b, vs, h1, h2, h3, h4, h5⟩ := k2.at q1
              obtain ⟨b', e1, h6⟩ := ro2
              rw [h1] at h6; cases h6
              refine ⟨b, vs, m, j, e1, ri, h2, by rw [h5.len]; exact q2, ?_⟩
              have hz : (vs.set j v).length ≤ sizeLine := by rw [List.length_set]; exact h4
              have p3 : Post H2 L2 X2 (upd H2 b (.lst (vs.set j v))) L2 X2 := Post.write h3 h2 trivial
              exact g2 _ _ _ p3 (k2.write h1 h2 (h5.set rd2 j) hz) σ (r2.post k2 p3) Agree.refl
      | _ => simp [setIx] at q
    | _ => simp [setIx] at q
/-! ## 15. what is walked -/
/-- an iterator that gives the items -/
def ItOk (K : PySem.W.Frag) (w : IV) (J : L2.It) (H0 : Hp) (L0 X0 : List Addr) : Prop :=
  ∃ (G : Hp → Prop) (Y : Nat → Hp → V → Hp → Prop), Walk J w.ds.length G Y ∧ w.ds.length ≤ sizeLine ∧ (∀ H L X hp, PostX H0 L0 X0 H L X → HOK K H L X hp → ckOk w.ck hp = true → G H) ∧
    ∀ (i : Nat) d H L X hp x H', w.ds[i]? = some d → PostX H0 L0 X0 H L X → HOK K H L X hp → ckOk w.ck hp = true → Y i H x H' → Post H L X H' L X ∧ HOK K H' L X hp ∧ Rep K H' L X d x
def tIt (K : PySem.W.Frag) (CA : Nat → Addr) (W : WX) (f : EnvI → HpI → Out IV) : TI := fun σ H R => ∃ env L X hp, HOK K H L X hp ∧ REnv K H L X env σ ∧
  GD K CA H L X (fun c dx H' => W c dx σ H') (f env hp) (fun w _ H' L' X' => ∀ J, ItOk K w J H' L' X' → R J H')
def ckOf : D → List D → Option (Nat × List D)
  | .loc n, ds => some (n, ds)
  | _, _ => none
theorem seq_later {d : D} {ds : List D} {hp hp' : HpI} (h : seqOf hp d = some ds) (c : ckOk (ckOf d ds) hp' = true) : seqOf hp' d = some ds := by
  cases d with
  | loc n =>
    simp only [ckOf, ckOk] at c
    cases q : hp'[n]? with
    | none => rw [q] at c; cases c
    | some o =>
      cases o with
      | dk _ => rw [q] at c; cases c
      | dt _ => rw [q] at c; cases c
      | ins _ _ => rw [q] at c; cases c
      | lst ys =>
        rw [q] at c
        have := D.eqs_of_beq _ _ c
        subst this
        simp only [seqOf, lstOf, lst0, q]
  | _ => exact h
/-- a list's iterator, a tuple's, and the two of enumerate -/
theorem walkL {K : PySem.W.Frag} {a : Addr} {n : Nat} : Walk (Itl K a) n (fun H => ∃ vs, vs.length = n ∧ SqL K H a vs) (fun i H x H' => H' = H ∧ ∀ vs, SqL K H a vs → vs[i]? = some x) :=
  ⟨fun i H hi ⟨vs, hl, hv⟩ => ⟨vs, vs[i], hv, by simp [hl, hi]⟩, fun H ⟨vs, hl, hv⟩ => ⟨vs, hv, Nat.le_of_eq hl⟩, fun i H x H' _ _ y => y⟩
theorem walkT {K : PySem.W.Frag} {a : Addr} {n : Nat} : Walk (Itt K a) n (fun H => ∃ vs, vs.length = n ∧ SqT K H a vs) (fun i H x H' => H' = H ∧ ∀ vs, SqT K H a vs → vs[i]? = some x) :=
  ⟨fun i H hi ⟨vs, hl, hv⟩ => ⟨vs, vs[i], hv, by simp [hl, hi]⟩, fun H ⟨vs, hl, hv⟩ => ⟨vs, hv, Nat.le_of_eq hl⟩, fun i H x H' _ _ y => y⟩
theorem walkEL {K : PySem.W.Frag} {a : Addr} {n : Nat} : Walk (Ite K a) n (fun H => ∃ vs, vs.length = n ∧ SqL K H a vs) (fun i H v H' => ∃ T x, v = .ref T ∧ H T = none ∧ H' = upd H T (.tup [.int (i : Nat), x]) ∧ ∀ vs, SqL K H a vs → vs[i]? = some x) :=
  ⟨fun i H hi ⟨vs, hl, hv⟩ => ⟨vs, vs[i], hv, by simp [hl, hi]⟩, fun H ⟨vs, hl, hv⟩ => ⟨vs, hv, Nat.le_of_eq hl⟩, fun i H x H' _ _ y => y⟩
theorem walkET {K : PySem.W.Frag} {a : Addr} {n : Nat} : Walk (IteT K a) n (fun H => ∃ vs, vs.length = n ∧ SqT K H a vs) (fun i H v H' => ∃ T x, v = .ref T ∧ H T = none ∧ H' = upd H T (.tup [.int (i : Nat), x]) ∧ ∀ vs, SqT K H a vs → vs[i]? = some x) :=
  ⟨fun i H hi ⟨vs, hl, hv⟩ => ⟨vs, vs[i], hv, by simp [hl, hi]⟩, fun H ⟨vs, hl, hv⟩ => ⟨vs, hv, Nat.le_of_eq hl⟩, fun i H x H' _ _ y => y⟩
theorem walkZ {K : PySem.W.Frag} {a b : Addr} {n m : Nat} : Walk (Itz K a b) (min n m) (fun H => (∃ vs, vs.length = n ∧ SqL K H a vs) ∧ ∃ ws, ws.length = m ∧ SqL K H b ws)
    (fun i H v H' => ∃ T x y, v = .ref T ∧ H T = none ∧ H' = upd H T (.tup [x, y]) ∧ (∀ xs, SqL K H a xs → xs[i]? = some x) ∧ ∀ ys, SqL K H b ys → ys[i]? = some y) := by
  refine ⟨fun i H hi ⟨⟨vs, h1, h2⟩, ws, h3, h4⟩ => ?_, fun H ⟨⟨vs, h1, h2⟩, ws, h3, h4⟩ => ⟨vs, ws, h2, h4, by omega⟩, fun i H x H' _ _ y => y⟩
  have a1 : i < vs.length := by omega
  have a2 : i < ws.length := by omega
  exact ⟨vs, ws, vs[i], ws[i], h2, h4, by simp [a1], by simp [a2]⟩
section
variable {K : PySem.W.Frag} {H H0 : Hp} {L L0 X0 Xg : List Addr} {hp hp0 : HpI}
def isTupD : D → Bool | .tup _ => true | _ => false
theorem seq_notT {d : D} {v : V} {ds : List D} (k : HOK K H L Xg hp) (r : Rep K H L Xg d v) (e : seqOf hp d = some ds) (ht : isTupD d = false) : ∃ a vs, v = .ref a ∧ SqL K H a vs ∧ vs.length ≤ sizeLine ∧ Reps K H L Xg ds vs := by
  refine seq_lst k r ?_
  cases d <;> first | exact e | (simp [isTupD] at ht; done)
theorem seq_T {d : D} {v : V} {ds : List D} (r : Rep K H L Xg d v) (e : seqOf hp d = some ds) (ht : isTupD d = true) : ∃ a vs, v = .ref a ∧ SqT K H a vs ∧ vs.length ≤ sizeLine ∧ Reps K H L Xg ds vs := by
  cases d with
  | tup es => cases e; exact r
  | _ => simp [isTupD] at ht
theorem it_list {d : D} {ds : List D} {a : Addr} (k : HOK K H0 L0 X0 hp0) (r : Rep K H0 L0 X0 d (.ref a)) (e : seqOf hp0 d = some ds) (ht : isTupD d = false) : ItOk K ⟨ds, ckOf d ds⟩ (Itl K a) H0 L0 X0 := by
  obtain ⟨a0, vs0, ea, h1, h2, h3⟩ := seq_notT k r e ht
  refine ⟨_, _, walkL, by rw [← h3.len]; exact h2, fun H L X hp p k' c => ?_, fun i d' H L X hp x H' hi p k' c y => ?_⟩
  · obtain ⟨a', vs, e1, g1, g2, g3⟩ := seq_notT k' (r.postX p) (seq_later e c) ht
    cases e1
    exact ⟨vs, g3.len, g1⟩
  · obtain ⟨a', vs, e1, g1, g2, g3⟩ := seq_notT k' (r.postX p) (seq_later e c) ht
    cases e1
    obtain ⟨rfl, y⟩ := y
    obtain ⟨v, e2, rv⟩ := g3.get hi
    rw [y vs g1] at e2
    cases e2
    exact ⟨Post.refl, k', rv⟩
theorem it_tup {d : D} {ds : List D} {a : Addr} (k : HOK K H0 L0 X0 hp0) (r : Rep K H0 L0 X0 d (.ref a)) (e : seqOf hp0 d = some ds) (ht : isTupD d = true) : ItOk K ⟨ds, ckOf d ds⟩ (Itt K a) H0 L0 X0 := by
  obtain ⟨a0, vs0, ea, h1, h2, h3⟩ := seq_T r e ht
  refine ⟨_, _, walkT, by rw [← h3.len]; exact h2, fun H L X hp p k' c => ?_, fun i d' H L X hp x H' hi p k' c y => ?_⟩
  · obtain ⟨a', vs, e1, g1, g2, g3⟩ := seq_T (r.postX p) (seq_later e c) ht
    cases e1
    exact ⟨vs, g3.len, g1⟩
  · obtain ⟨a', vs, e1, g1, g2, g3⟩ := seq_T (r.postX p) (seq_later e c) ht
    cases e1
    obtain ⟨rfl, y⟩ := y
    obtain ⟨v, e2, rv⟩ := g3.get hi
    rw [y vs g1] at e2
    cases e2
    exact ⟨Post.refl, k', rv⟩
theorem enum_len : ∀ (n : Nat) (ds : List D), (enumD n ds).length = ds.length
  | _, [] => rfl
  | n, d :: ds => by rw [enumD, List.length_cons, List.length_cons, enum_len]
theorem enum_get : ∀ (n : Nat) (ds : List D) (i : Nat) (e : D), (enumD n ds)[i]? = some e → ∃ d, ds[i]? = some d ∧ e = .tup [.int ((n + i : Nat)), d]
  | _, [], _, _, h => by simp [enumD] at h
  | n, d :: ds, 0, e, h => by simp [enumD] at h; exact ⟨d, rfl, by rw [← h]; rfl⟩
  | n, d :: ds, i + 1, e, h => by
    obtain ⟨c, h1, h2⟩ := enum_get (n + 1) ds i e (by simpa [enumD] using h)
    exact ⟨c, by simpa using h1, by rw [h2]; have : n + 1 + i = n + (i + 1) := by omega
                                    rw [this]⟩
theorem pair_new {d e : D} {x y : V} {T : Addr} (k : HOK K H L Xg hp) (r1 : Rep K H L Xg d x) (r2 : Rep K H L Xg e y) (hn : H T = none) :
    Post H L Xg (upd H T (.tup [x, y])) L Xg ∧ HOK K (upd H T (.tup [x, y])) L Xg hp ∧ Rep K (upd H T (.tup [x, y])) L Xg (.tup [d, e]) (.ref T) := by
  have p : Post H L Xg (upd H T (.tup [x, y])) L Xg := Post.new hn _
  exact ⟨p, k.new hn _, T, [x, y], rfl, SqT.of upd_same, by show 2 ≤ sizeLine; decide, .cons (r1.post k p) (.cons (r2.post k p) rfl)⟩
theorem it_elist {d : D} {ds : List D} {a : Addr} (k : HOK K H0 L0 X0 hp0) (r : Rep K H0 L0 X0 d (.ref a)) (e : seqOf hp0 d = some ds) (ht : isTupD d = false) : ItOk K ⟨enumD 0 ds, ckOf d ds⟩ (Ite K a) H0 L0 X0 := by
  obtain ⟨a0, vs0, ea, h1, h2, h3⟩ := seq_notT k r e ht
  refine ⟨_, _, (by rw [enum_len]; exact walkEL), by rw [enum_len, ← h3.len]; exact h2, fun H L X hp p k' c => ?_, fun i d' H L X hp x H' hi p k' c y => ?_⟩
  · obtain ⟨a', vs, e1, g1, g2, g3⟩ := seq_notT k' (r.postX p) (seq_later e c) ht
    cases e1
    exact ⟨vs, g3.len, g1⟩
  · obtain ⟨a', vs, e1, g1, g2, g3⟩ := seq_notT k' (r.postX p) (seq_later e c) ht
    cases e1
    obtain ⟨T, u, rfl, hn, rfl, y⟩ := y
    obtain ⟨dd, hi2, rfl⟩ := enum_get 0 ds i d' hi
    obtain ⟨v, e2, rv⟩ := g3.get hi2
    rw [y vs g1] at e2
    cases e2
    rw [Nat.zero_add]
    exact pair_new k' (show Rep K H L X (.int (i : Nat)) (.int (i : Nat)) from rfl) rv hn
theorem it_etup {d : D} {ds : List D} {a : Addr} (k : HOK K H0 L0 X0 hp0) (r : Rep K H0 L0 X0 d (.ref a)) (e : seqOf hp0 d = some ds) (ht : isTupD d = true) : ItOk K ⟨enumD 0 ds, ckOf d ds⟩ (IteT K a) H0 L0 X0 := by
  obtain ⟨a0, vs0, ea, h1, h2, h3⟩ := seq_T r e ht
  refine ⟨_, _, (by rw [enum_len]; exact walkET), by rw [enum_len, ← h3.len]; exact h2, fun H L X hp p k' c => ?_, fun i d' H L X hp x H' hi p k' c y => ?_⟩
  · obtain ⟨a', vs, e1, g1, g2, g3⟩ := seq_T (r.postX p) (seq_later e c) ht
    cases e1
    exact ⟨vs, g3.len, g1⟩
  · obtain ⟨a', vs, e1, g1, g2, g3⟩ := seq_T (r.postX p) (seq_later e c) ht
    cases e1
    obtain ⟨T, u, rfl, hn, rfl, y⟩ := y
    obtain ⟨dd, hi2, rfl⟩ := enum_get 0 ds i d' hi
    obtain ⟨v, e2, rv⟩ := g3.get hi2
    rw [y vs g1] at e2
    cases e2
    rw [Nat.zero_add]
    exact pair_new k' (show Rep K H L X (.int (i : Nat)) (.int (i : Nat)) from rfl) rv hn
theorem rng_len : ∀ (lo : Int) (n : Nat), (rngD lo n).length = n
  | _, 0 => rfl
  | lo, n + 1 => by rw [rngD, List.length_cons, rng_len]
theorem rng_get : ∀ (lo : Int) (n i : Nat) (e : D), (rngD lo n)[i]? = some e → e = .int (lo + i)
  | _, 0, _, _, h => by simp [rngD] at h
  | lo, n + 1, 0, e, h => by simp [rngD] at h; rw [← h]; simp
  | lo, n + 1, i + 1, e, h => by
    have := rng_get (lo + 1) n i e (by simpa [rngD] using h)
    rw [this]
    congr 1
    omega
theorem it_rng {lo : Int} {n : Nat} (hn : n ≤ sizeLine) : ItOk K ⟨rngD lo n, none⟩ (Itr lo n) H0 L0 X0 := by
  refine ⟨_, _, (by rw [rng_len]; exact walk_range), by rw [rng_len]; exact hn, fun _ _ _ _ _ _ _ => trivial, fun i d' H L X hp x H' hi p k' c y => ?_⟩
  obtain ⟨rfl, rfl⟩ := y
  exact ⟨Post.refl, k', by rw [rng_get lo n i d' hi]; exact rfl⟩
theorem it_txt {s : Str} (hz : s.cps.size ≤ sizeLine) : ItOk K ⟨signs s, none⟩ (Its s) H0 L0 X0 := by
  have hl : (signs s).length = s.cps.size := by unfold signs; simp
  refine ⟨fun _ => True, fun i H v H' => H' = H ∧ ∃ c, s.cps[i]? = some c ∧ v = .str ⟨#[c]⟩, ⟨fun i H hi _ => Nat.lt_of_lt_of_eq hi hl, fun H _ => Nat.le_of_eq hl.symm, fun i H x H' _ _ y => y⟩, by rw [hl]; exact hz, fun _ _ _ _ _ _ _ => trivial, fun i d' H L X hp x H' hi p k' c y => ?_⟩
  obtain ⟨rfl, cc, e1, rfl⟩ := y
  unfold signs at hi
  rw [List.getElem?_map, Array.getElem?_toList, e1] at hi
  cases hi
  exact ⟨Post.refl, k', rfl⟩
theorem zip_len : ∀ (as bs : List D), (zipD as bs).length = min as.length bs.length
  | [], _ => by simp [zipD]
  | _ :: _, [] => by simp [zipD]
  | a :: as, b :: bs => by rw [zipD, List.length_cons, zip_len, List.length_cons, List.length_cons]; omega
theorem zip_get : ∀ (as bs : List D) (i : Nat) (e : D), (zipD as bs)[i]? = some e → ∃ a b, as[i]? = some a ∧ bs[i]? = some b ∧ e = .tup [a, b]
  | [], _, _, _, h => by simp [zipD] at h
  | _ :: _, [], _, _, h => by simp [zipD] at h
  | a :: as, b :: bs, 0, e, h => by simp [zipD] at h; exact ⟨a, b, rfl, rfl, h.symm⟩
  | a :: as, b :: bs, i + 1, e, h => by
    obtain ⟨x, y, h1, h2, h3⟩ := zip_get as bs i e (by simpa [zipD] using h)
    exact ⟨x, y, by simpa using h1, by simpa using h2, h3⟩
theorem it_zip {as bs : List D} {a b : Addr} (k : HOK K H0 L0 X0 hp0) (r1 : Rep K H0 L0 X0 (.lst as) (.ref a)) (r2 : Rep K H0 L0 X0 (.lst bs) (.ref b)) : ItOk K ⟨zipD as bs, none⟩ (Itz K a b) H0 L0 X0 := by
  obtain ⟨a0, vs0, ea, h1, _, h2, h3⟩ := id r1
  refine ⟨_, _, (by rw [zip_len]; exact walkZ), by rw [zip_len, ← h3.len]; exact Nat.le_trans (Nat.min_le_left _ _) h2, fun H L X hp p k' c => ?_, fun i d' H L X hp x H' hi p k' c y => ?_⟩
  · obtain ⟨a', vs, e1, g1, _, g2, g3⟩ := r1.postX p
    obtain ⟨b', ws, e2, q1, _, q2, q3⟩ := r2.postX p
    cases e1; cases e2
    exact ⟨⟨vs, g3.len, SqL.of g1⟩, ws, q3.len, SqL.of q1⟩
  · obtain ⟨a', vs, e1, g1, _, g2, g3⟩ := r1.postX p
    obtain ⟨b', ws, e2, q1, _, q2, q3⟩ := r2.postX p
    cases e1; cases e2
    obtain ⟨T, u, w, rfl, hn, rfl, y1, y2⟩ := y
    obtain ⟨c1, c2, f1, f2, rfl⟩ := zip_get as bs i d' hi
    obtain ⟨v1, e1, rv1⟩ := g3.get f1
    obtain ⟨v2, e2, rv2⟩ := q3.get f2
    rw [y1 vs (SqL.of g1)] at e1; cases e1
    rw [y2 ws (SqL.of q1)] at e2; cases e2
    exact pair_new k' rv1 rv2 hn
end
theorem ivSeq_eq (d : D) (hp : HpI) : ivSeq d hp = (seqOf hp d).map fun ds => (⟨ds, ckOf d ds⟩, hp) := by
  cases d with
  | loc n =>
    simp only [ivSeq, seqOf, lstOf, lst0]
    cases hp[n]? with
    | none => rfl
    | some o => cases o <;> rfl
  | _ => rfl
theorem ivEnum_eq (d : D) (hp : HpI) : ivEnum d hp = (seqOf hp d).map fun ds => (⟨enumD 0 ds, ckOf d ds⟩, hp) := by
  cases d with
  | loc n =>
    simp only [ivEnum, seqOf, lstOf, lst0]
    cases hp[n]? with
    | none => rfl
    | some o => cases o <;> rfl
  | _ => rfl
theorem ref_of {K : PySem.W.Frag} {H : Hp} {L Xg : List Addr} {hp : HpI} {d : D} {v : V} {ds : List D} (k : HOK K H L Xg hp) (r : Rep K H L Xg d v) (e : seqOf hp d = some ds) : ∃ a, v = .ref a := by
  obtain ⟨a, _, e1, _⟩ := seq_any k r e
  exact ⟨a, e1⟩
/-- does the evaluation end at a tuple -/
def endsTup (o : Out D) : Bool := match o with | .ok d _ => isTupD d | _ => false
variable {tg a b : Expr} {fa fb : EnvI → HpI → Out D} {p : Pos}
theorem snd_iseq (ha : PE X a (tE X.K CA W fa)) : PI X tg a (tIt X.K CA W fun env hp => (fa env hp).bind fun x hp => ofOpt (ivSeq x hp)) := by
  refine ((pi_list ha).or (pi_tup ha)).imp fun σ H R ⟨env, L, Xg, hp, k, r, g⟩ => ?_
  have key : ∀ tf : Bool, endsTup (fa env hp) = tf → GD X.K CA H L Xg (fun c dx H' => W c dx σ H') (fa env hp) (RQ X.K fun x H1 => ∃ a, x = .ref a ∧ (if tf then (∃ xs, SqT X.K H1 a xs) ∧ R (Itt X.K a) H1 else (∃ xs, SqL X.K H1 a xs) ∧ R (Itl X.K a) H1)) := by
    intro tf htf
    refine (GD.bind g).impE fun d hp1 H1 L1 X1 eo p1 k1 g1 v rv => ?_
    rw [eo] at htf
    have htf' : isTupD d = tf := htf
    rw [ivSeq_eq] at g1
    cases q : seqOf hp1 d with
    | none => rw [q] at g1; exact g1.elim
    | some ds =>
      rw [q] at g1
      obtain ⟨a, rfl⟩ := ref_of k1 rv q
      refine ⟨a, rfl, ?_⟩
      cases tf with
      | true =>
        obtain ⟨a', vs, e1, h1, _⟩ := seq_T rv q htf'
        cases e1
        exact ⟨⟨vs, h1⟩, g1 _ _ _ Post.refl k1 _ (it_tup k1 rv q htf')⟩
      | false =>
        obtain ⟨a', vs, e1, h1, _⟩ := seq_notT k1 rv q htf'
        cases e1
        exact ⟨⟨vs, h1⟩, g1 _ _ _ Post.refl k1 _ (it_list k1 rv q htf')⟩
  cases htf : endsTup (fa env hp) with
  | true => exact .inr ⟨env, L, Xg, hp, k, r, key true htf⟩
  | false => exact .inl ⟨env, L, Xg, hp, k, r, key false htf⟩
theorem snd_itxt (ha : PE X a (tE X.K CA W fa)) : PI X tg a (tIt X.K CA W fun env hp => (fa env hp).bind fun x hp => ofOpt (ivTxt x hp)) := by
  refine (pi_str ha).imp fun σ H R ⟨env, L, Xg, hp, k, r, g⟩ => ?_
  refine ⟨env, L, Xg, hp, k, r, (GD.bind g).imp fun d hp1 H1 L1 X1 p1 k1 g1 v rv => ?_⟩
  cases d <;> first | exact g1.elim | skip
  rename_i s
  simp only [ivTxt] at g1
  by_cases hz : s.cps.size ≤ sizeLine
  · rw [if_pos hz] at g1
    exact ⟨s, rv, g1 _ _ _ Post.refl k1 _ (it_txt hz)⟩
  · rw [if_neg hz] at g1
    exact g1.elim
theorem snd_ienum {elts : List Expr} {kk : Nat} {tpos : Pos} (hg : Gl X ("enumerate" : Str)) (hm : ∀ x ∈ bltNames, X.mg x = none) (hp : plainE a = true) (ha : PE X a (tE X.K CA W fa)) :
    PI X (.Tuple elts kk tpos) (.Call (.Name "enumerate" p) [a] [] pos) (tIt X.K CA W fun env hp => (fa env hp).bind fun x hp => ofOpt (ivEnum x hp)) := by
  have hm' := hm ("enumerate" : Str) (by decide +kernel)
  have hpa : PA X [a] (tCons (tE X.K CA W fa) tNil) := pa_cons ha pa_nil (star_plain hp)
  refine ((pi_enum hg hm' hpa (star_plain hp)).or (pi_enumT hg hm' hpa (star_plain hp))).imp fun σ H R ⟨env, L, Xg, hp, k, r, g⟩ => ?_
  have key : ∀ tf : Bool, endsTup (fa env hp) = tf → GD X.K CA H L Xg (fun c dx H' => W c dx σ H') (fa env hp) (RQ X.K fun x H1 => ∃ a xs, [x] = [V.ref a] ∧ (if tf then SqT X.K H1 a xs ∧ R (IteT X.K a) H1 else SqL X.K H1 a xs ∧ R (Ite X.K a) H1)) := by
    intro tf htf
    refine (GD.bind g).impE fun d hp1 H1 L1 X1 eo p1 k1 g1 v rv => ?_
    rw [eo] at htf
    have htf' : isTupD d = tf := htf
    rw [ivEnum_eq] at g1
    cases q : seqOf hp1 d with
    | none => rw [q] at g1; exact g1.elim
    | some ds =>
      rw [q] at g1
      obtain ⟨a, rfl⟩ := ref_of k1 rv q
      cases tf with
      | true =>
        obtain ⟨a', vs, e1, h1, _⟩ := seq_T rv q htf'
        cases e1
        exact ⟨a, vs, rfl, h1, g1 _ _ _ Post.refl k1 _ (it_etup k1 rv q htf')⟩
      | false =>
        obtain ⟨a', vs, e1, h1, _⟩ := seq_notT k1 rv q htf'
        cases e1
        exact ⟨a, vs, rfl, h1, g1 _ _ _ Post.refl k1 _ (it_elist k1 rv q htf')⟩
  cases htf : endsTup (fa env hp) with
  | true => exact .inr ⟨env, L, Xg, hp, k, r, key true htf⟩
  | false => exact .inl ⟨env, L, Xg, hp, k, r, key false htf⟩
theorem rng_fin {σ : L2.St} {H : Hp} {L Xg : List Addr} {hp : HpI} {lo hi : Int} {R : L2.It → Hp → Prop} (k : HOK X.K H L Xg hp) (g : GD X.K CA H L Xg (fun c dx H' => W c dx σ H') (ofOpt (ivRng lo hi hp)) (fun w _ H' L' X' => ∀ J, ItOk X.K w J H' L' X' → R J H')) :
    (-(2 ^ 62) ≤ lo ∧ lo < 2 ^ 62 ∧ -(2 ^ 62) ≤ hi ∧ hi < 2 ^ 62) ∧ R (Itr lo (hi - lo).toNat) H := by
  unfold ivRng at g
  by_cases hz : (-(2 ^ 62) ≤ lo ∧ lo < 2 ^ 62 ∧ -(2 ^ 62) ≤ hi ∧ hi < 2 ^ 62) ∧ (hi - lo).toNat ≤ sizeLine
  · rw [if_pos hz] at g
    exact ⟨hz.1, g _ _ _ Post.refl k _ (it_rng hz.2)⟩
  · rw [if_neg hz] at g; exact g.elim
theorem snd_irng1 (hg : Gl X ("range" : Str)) (hm : ∀ x ∈ bltNames, X.mg x = none) (hp : plainE a = true) (ha : PE X a (tE X.K CA W fa)) :
    PI X tg (.Call (.Name "range" p) [a] [] pos) (tIt X.K CA W fun env hp => (fa env hp).bind fun x hp => match x with | .int j => ofOpt (ivRng 0 j hp) | _ => .bad) := by
  refine (pi_range1 hg (hm _ (by decide +kernel)) (pa_cons ha pa_nil (star_plain hp)) (star_plain hp)).imp fun σ H R ⟨env, L, Xg, hp, k, r, g⟩ => ?_
  refine ⟨env, L, Xg, hp, k, r, (GD.bind g).imp fun d hp1 H1 L1 X1 p1 k1 g1 v rv => ?_⟩
  cases d with
  | int j =>
    obtain ⟨h1, h2⟩ := rng_fin k1 g1
    rw [Int.sub_zero] at h2
    exact ⟨j, by rw [show v = _ from rv], h1.2.2.1, h1.2.2.2, h2⟩
  | _ => exact g1.elim
theorem snd_irng2 (hg : Gl X ("range" : Str)) (hm : ∀ x ∈ bltNames, X.mg x = none) (hp : plainE a = true) (hq : plainE b = true) (ha : PE X a (tE X.K CA W fa)) (hb : PE X b (tE X.K CA W fb)) :
    PI X tg (.Call (.Name "range" p) [a, b] [] pos) (tIt X.K CA W fun env hp => (fa env hp).bind fun x hp => (fb env hp).bind fun y hp => match x, y with | .int i, .int j => ofOpt (ivRng i j hp) | _, _ => .bad) := by
  have s2 : starEach [b] X.env = [(false, eval b X.env)] := star_plain hq
  refine (pi_range2 hg (hm _ (by decide +kernel)) (pa_cons ha (pa_cons hb pa_nil s2) (star_plain hp)) (by rw [star_plain hp, s2]) s2).imp fun σ H R ⟨env, L, Xg, hp, k, r, g⟩ => ?_
  refine ⟨env, L, Xg, hp, k, r, (GD.bind g).imp fun d hp1 H1 L1 X1 p1 k1 g1 v rv => ?_⟩
  refine ⟨env, L1, X1, hp1, k1, r.post k p1, (GD.bind g1).imp fun e hp2 H2 L2 X2 p2 k2 g2 w rw' => ?_⟩
  cases d with
  | int i =>
    cases e with
    | int j =>
      obtain ⟨h1, h2⟩ := rng_fin k2 g2
      exact ⟨i, j, by rw [show v = _ from rv, show w = _ from rw'], h1, h2⟩
    | _ => exact g2.elim
  | _ => exact g2.elim
theorem snd_izip {elts : List Expr} {kk : Nat} {tpos : Pos} (hg : Gl X ("zip" : Str)) (hm : ∀ x ∈ bltNames, X.mg x = none) (hp : plainE a = true) (hq : plainE b = true) (ha : PE X a (tE X.K CA W fa)) (hb : PE X b (tE X.K CA W fb)) :
    PI X (.Tuple elts kk tpos) (.Call (.Name "zip" p) [a, b] [] pos) (tIt X.K CA W fun env hp => (fa env hp).bind fun x hp => (fb env hp).bind fun y hp => ofOpt (ivZip x y hp)) := by
  have s2 : starEach [b] X.env = [(false, eval b X.env)] := star_plain hq
  refine (pi_zip hg (hm _ (by decide +kernel)) (pa_cons ha (pa_cons hb pa_nil s2) (star_plain hp)) (star_plain hp) (any_plain (es := [b]) (by simp [plainEs, hq]))).imp fun σ H R ⟨env, L, Xg, hp, k, r, g⟩ => ?_
  refine ⟨env, L, Xg, hp, k, r, (GD.bind g).imp fun d hp1 H1 L1 X1 p1 k1 g1 v rv => ?_⟩
  refine ⟨env, L1, X1, hp1, k1, r.post k p1, (GD.bind g1).imp fun e hp2 H2 L2 X2 p2 k2 g2 w rw' => ?_⟩
  have rv2 := rv.post k1 p2
  cases d with
  | lst as =>
    cases e with
    | lst bs =>
      obtain ⟨a1, vs, e1, h1, _, _, _⟩ := id rv2
      obtain ⟨b1, ws, e2, h2, _, _, _⟩ := id rw'
      subst e1 e2
      exact ⟨a1, b1, vs, ws, rfl, SqL.of h1, SqL.of h2, g2 _ _ _ Post.refl k2 _ (it_zip k2 rv2 rw')⟩
    | _ => exact g2.elim
  | _ => first | exact g2.elim | (cases e <;> exact g2.elim)
end
end KI

namespace KI
open PySem PySem.Spec PyProof.Rows L2
variable [LX]
/-! ## 16. comprehensions -/
section
variable {K : PySem.W.Frag} {CA : Nat → Addr} {H H' H1 : Hp} {L L' L1 X X' X1 : List Addr} {hp : HpI}
theorem GD.eq {α : Type} {W : XK} {o : Out α} {a : α} {hp' : HpI} (h : o = .ok a hp') : GD K CA H L X W o (fun b hp'' _ _ _ => b = a ∧ hp'' = hp') := by
  subst h
  exact fun _ _ _ _ _ => ⟨rfl, rfl⟩
theorem Post.newX {p : Addr} (h : H p = none) (o : HO) : Post H L X (upd H p o) L (X ++ [p]) := by
  have q : Post H L X (upd H p o) L X := Post.new h o
  exact ⟨⟨[], [p], by simp, rfl, fun a ha => by simp at ha, fun a ha => by rw [List.mem_singleton.mp ha]; exact h⟩, q.keep, q.tups, q.frzs, q.live, q.exts⟩
theorem HOK.newX (k : HOK K H L X hp) {p : Addr} (h : H p = none) (o : HO) : HOK K (upd H p o) L (X ++ [p]) hp := by
  have q : Post H L X (upd H p o) L (X ++ [p]) := Post.newX h o
  refine ⟨k.nd, k.len, fun a ha => List.mem_append_left _ (k.sub a ha), fun a ha => ?_, fun n ob e => ?_, tabs_new k.tabs h o⟩
  · rcases List.mem_append.mp ha with z | z
    · exact q.live a (k.live a z)
    · rw [List.mem_singleton.mp z, upd_same]; exact fun z => nomatch z
  · obtain ⟨a, e1, r⟩ := k.ob n ob e
    obtain ⟨ho, h1, _⟩ := r.some_
    exact ⟨a, e1, r.keep k q (upd_ne (ne_of_none h1 h))⟩
theorem Post.notL {a : Addr} (p : Post H L X H' L' X') (h : a ∉ L) (hn : H a ≠ none) : a ∉ L' := fun z => by
  obtain ⟨n, m, e1, _, s, fr⟩ := p.ext
  rw [e1] at z
  rcases List.mem_append.mp z with z | z
  · exact h z
  · exact hn (fr a (s a z))
theorem Post.inX {a : Addr} (p : Post H L X H' L' X') (h : a ∈ X) : a ∈ X' := by
  obtain ⟨n, m, _, e2, _⟩ := p.ext
  rw [e2]
  exact List.mem_append_left _ h
/-- a list that is reserved (in X, not in L) is written -/
theorem Reps.touch {D : Addr} {vs ws : List V} (hD : H D = some (.lst vs)) (hx : D ∈ X) {ds : List KI.D} {us : List V} (r : Reps K H L X ds us) : Reps K (upd H D (.lst ws)) L X ds us :=
  Reps.mono (fun a zs h ha => ⟨by rw [upd_ne (fun e => ha (by rw [e]; exact hx))]; exact h, ha⟩) (fun a xs h => by rw [upd_ne (ne_of h hD (fun z => nomatch z))]; exact h) (fun a o u h => by rw [upd_ne (ne_of h hD (fun z => nomatch z))]; exact h) (fun a φ h => by rw [upd_ne (ne_of h hD (fun z => nomatch z))]; exact h) (fun _ _ e => e) ds us r
theorem HOK.touch (k : HOK K H L X hp) {D : Addr} {vs ws : List V} (hD : H D = some (.lst vs)) (hx : D ∈ X) (hl : D ∉ L) : HOK K (upd H D (.lst ws)) L X hp := by
  refine ⟨k.nd, k.len, k.sub, fun a ha => ?_, fun n ob e => ?_, tabs_write k.tabs hD trivial⟩
  · by_cases e : a = D
    · rw [e, upd_same]; exact fun z => nomatch z
    · rw [upd_ne e]; exact k.live a ha
  · obtain ⟨a, e1, r⟩ := k.ob n ob e
    refine ⟨a, e1, ?_⟩
    have ha : a ≠ D := fun z => hl (by rw [← z]; exact List.mem_of_getElem? e1)
    obtain ⟨us, ho, h1, h2, h3⟩ := r
    exact ⟨us, ho, by rw [upd_ne ha]; exact h1, h2, h3.touch hD hx⟩
theorem Post.touch {D : Addr} {ws : List V} (p : Post H1 L1 X1 H L X) (h : H1 D = none) : Post H1 L1 X1 (upd H D (.lst ws)) L X := by
  refine ⟨p.ext, fun a o q hl ht => ?_, fun a xs q => ?_, fun a o u q => ?_, fun a q => ?_, fun a φ q => by rw [upd_ne (ne_of_none q h)]; exact p.exts a φ q⟩
  · rw [upd_ne (ne_of_none q h)]; exact p.keep a o q hl ht
  · rw [upd_ne (ne_of_none q h)]; exact p.tups a xs q
  · rw [upd_ne (ne_of_none q h)]; exact p.frzs a o u q
  · by_cases e : a = D
    · rw [e, upd_same]; exact fun z => nomatch z
    · rw [upd_ne e]; exact p.live a q
/-- the list is handed out: as an object, or as data -/
theorem comp_end {W : XK} {m : Bool} {D : Addr} {ds : List KI.D} {vs : List V} {Q : VK} (g : GD K CA H1 L1 X1 W (ofOpt (some (mkL m ds hp))) (RQ K Q)) (p : Post H1 L1 X1 H L X) (k : HOK K H L X hp) (hn : H1 D = none) (hD : H D = some (.lst vs)) (hx : D ∈ X) (hl : D ∉ L) (r : Reps K H L X ds vs) (hz : vs.length ≤ sizeLine) (hX1 : D ∉ X1) : Q (.ref D) H := by
  obtain ⟨n, mm, e1, e2, s, fr⟩ := p.ext
  cases m with
  | true =>
    have p2 : Post H1 L1 X1 H (L ++ [D]) X := by
      refine ⟨⟨n ++ [D], mm, by rw [e1, List.append_assoc], e2, fun a ha => ?_, fr⟩, p.keep, p.tups, p.frzs, p.live, p.exts⟩
      rcases List.mem_append.mp ha with z | z
      · exact s a z
      · rw [List.mem_singleton.mp z]
        rw [e2] at hx
        exact (List.mem_append.mp hx).resolve_left hX1
    have lift : ∀ (ds : List KI.D) vs, Reps K H L X ds vs → Reps K H (L ++ [D]) X ds vs := fun ds vs h => Reps.mono (fun a zs h ha => ⟨h, ha⟩) (fun _ _ h => h) (fun _ _ _ h => h) (fun _ _ h => h) (fun i a e => by rw [List.getElem?_append_left (List.getElem?_eq_some_iff.mp e).1]; exact e) ds vs h
    have k2 : HOK K H (L ++ [D]) X (hp ++ [.lst ds]) := by
      refine ⟨List.nodup_append.mpr ⟨k.nd, by simp, fun a ha b hb e => ?_⟩, by rw [List.length_append, List.length_append, k.len]; rfl, fun a ha => ?_, k.live, fun i ob e => ?_, k.tabs⟩
      · rw [List.mem_singleton.mp hb] at e
        exact hl (e ▸ ha)
      · rcases List.mem_append.mp ha with z | z
        · exact k.sub a z
        · rw [List.mem_singleton.mp z]; exact hx
      · by_cases hi : i < hp.length
        · rw [List.getElem?_append_left hi] at e
          obtain ⟨a, e1, r1⟩ := k.ob i ob e
          refine ⟨a, by rw [List.getElem?_append_left (List.getElem?_eq_some_iff.mp e1).1]; exact e1, ?_⟩
          obtain ⟨us, ho, h1, h2, h3⟩ := r1
          exact ⟨us, ho, h1, h2, lift _ us h3⟩
        · rw [List.getElem?_append_right (by omega)] at e
          have hi' : i = hp.length := by
            by_cases z : i = hp.length
            · exact z
            · have : ([O.lst ds] : List O)[i - hp.length]? = none := by
                rw [List.getElem?_eq_none_iff]
                simp only [List.length_cons, List.length_nil]
                omega
              rw [this] at e; cases e
          subst hi'
          rw [Nat.sub_self] at e
          cases e
          exact ⟨D, by rw [← k.len]; simp, vs, _, hD, ⟨rfl, hz⟩, lift ds vs r⟩
    exact g H (L ++ [D]) X p2 k2 (.ref D) ⟨D, rfl, by rw [← k.len]; simp⟩
  | false =>
    let X2 := X1 ++ mm.filter (fun a => decide (a ≠ D))
    have sub : ∀ a, a ∈ X2 → a ∈ X := fun a ha => by
      rw [e2]
      rcases List.mem_append.mp ha with z | z
      · exact List.mem_append_left _ z
      · exact List.mem_append_right _ (List.mem_filter.mp z).1
    have nD : D ∉ X2 := fun ha => by
      rcases List.mem_append.mp ha with z | z
      · exact hX1 z
      · have := (List.mem_filter.mp z).2; simp at this
    have lift : ∀ (ds : List KI.D) vs, Reps K H L X ds vs → Reps K H L X2 ds vs := fun ds vs h => Reps.mono (fun a zs h ha => ⟨h, fun z => ha (sub a z)⟩) (fun _ _ h => h) (fun _ _ _ h => h) (fun _ _ h => h) (fun _ _ e => e) ds vs h
    have inm : ∀ a, a ∈ n → a ∈ mm.filter (fun a => decide (a ≠ D)) := fun a ha => List.mem_filter.mpr ⟨s a ha, by
      have : a ≠ D := fun z => hl (by rw [e1, ← z]; exact List.mem_append_right _ ha)
      simp [this]⟩
    have p2 : Post H1 L1 X1 H L X2 := ⟨⟨n, mm.filter (fun a => decide (a ≠ D)), e1, rfl, inm, fun a ha => fr a (List.mem_filter.mp ha).1⟩, p.keep, p.tups, p.frzs, p.live, p.exts⟩
    have k2 : HOK K H L X2 hp := by
      refine ⟨k.nd, k.len, fun a ha => ?_, fun a ha => k.live a (sub a ha), fun i ob e => ?_, k.tabs⟩
      · have hX := k.sub a ha
        rw [e2] at hX
        rcases List.mem_append.mp hX with z | z
        · exact List.mem_append_left _ z
        · exact List.mem_append_right _ (List.mem_filter.mpr ⟨z, by
            have : a ≠ D := fun z => hl (z ▸ ha)
            simp [this]⟩)
      · obtain ⟨a, e1, r1⟩ := k.ob i ob e
        refine ⟨a, e1, ?_⟩
        obtain ⟨us, ho, h1, h2, h3⟩ := r1
        exact ⟨us, ho, h1, h2, lift _ us h3⟩
    exact g H L X2 p2 k2 (.ref D) ⟨D, vs, rfl, hD, nD, hz, lift ds vs r⟩
theorem lc_imp {W : WX} {m : Bool} {own is : List Nat} {fi : EnvI → HpI → Out IV} {fg : D → EnvI → HpI → Out EnvI} {ft : EnvI → HpI → Out Bool} {fe : EnvI → HpI → Out D} (his : ∀ i ∈ is, i ∈ own) {σ : L2.St} {Q : VK}
    (h : tE K CA W (fun env hp => (fi env hp).bind fun w hp => (compL (ckOk w.ck) (fun d hp => (fg d (wipeE env own) hp).bind fun env2 hp => (ft env2 hp).bind fun b hp =>
        if b = true then (fe env2 hp).bind fun x hp => .ok (some x) hp else .ok none hp) w.ds hp []).bind fun ds hp => ofOpt (some (mkL m ds hp))) σ H Q) :
    tLc (tIt K CA W fi) (tG K CA is fg) (tT K CA (fun _ _ _ _ => False) ft) (tE K CA (fun _ _ _ _ => False) fe) own σ H Q := by
  obtain ⟨env, L, X, hp, k, r, g⟩ := h
  refine ⟨env, L, X, hp, k, r, (GD.bind g).imp fun w hp1 H1 L1 X1 p1 k1 g1 J ⟨G, Y, wk, hz, hG, hY⟩ => ?_⟩
  intro D hD
  have rσ := (r.post k p1).wipe own
  have hX1 : D ∉ X1 := k1.notX hD
  have hL1 : D ∉ L1 := fun z => hX1 (k1.sub D z)
  generalize hf : (fun d hp => (fg d (wipeE env own) hp).bind fun env2 hp => (ft env2 hp).bind fun b hp => if b = true then (fe env2 hp).bind fun x hp => Out.ok (some x) hp else Out.ok none hp) = f at g1
  refine ⟨fun i m' H' => m' + i = w.ds.length ∧ ∃ L' X' hp' acc av, Post H1 L1 X1 H' L' X' ∧ HOK K H' L' X' hp' ∧ H' D = some (.lst av) ∧ D ∈ X' ∧ D ∉ L' ∧ Reps K H' L' X' acc av ∧ av.length ≤ i ∧
      GD K CA H1 L1 X1 (fun c dx H' => W c dx σ H') ((compL (ckOk w.ck) f (w.ds.drop i) hp' acc).bind fun ds hp => ofOpt (some (mkL m ds hp))) (RQ K Q), ⟨w.ds.length, rfl, L1, X1 ++ [D], hp1, [], [], Post.newX hD _, k1.newX hD _, upd_same, by simp, hL1, rfl, Nat.zero_le _, g1⟩, ?_⟩
  rintro i m' H' ⟨hm, L', X', hp', acc, av, p, k', hDl, hDX, hDL, ra, hla, gd⟩
  by_cases hi : i < w.ds.length
  · right
    have hdrop : w.ds.drop i = w.ds[i] :: w.ds.drop (i + 1) := List.drop_eq_getElem_cons hi
    rw [hdrop] at gd
    simp only [compL] at gd
    by_cases hc : ckOk w.ck hp' = true
    · rw [if_pos hc] at gd
      have hgo := hG _ _ _ _ (p.toX k1) k' hc
      refine ⟨wk.goes i H' hi hgo, fun H'' => m' - 1 + (i + 1) = w.ds.length ∧ ∃ L' X' hp' acc av, Post H1 L1 X1 H'' L' X' ∧ HOK K H'' L' X' hp' ∧ H'' D = some (.lst av) ∧ D ∈ X' ∧ D ∉ L' ∧ Reps K H'' L' X' acc av ∧ av.length ≤ i + 1 ∧
        GD K CA H1 L1 X1 (fun c dx H' => W c dx σ H') ((compL (ckOk w.ck) f (w.ds.drop (i + 1)) hp' acc).bind fun ds hp => ofOpt (some (mkL m ds hp))) (RQ K Q), fun H'' hN => ⟨m' - 1, by omega, hN⟩, fun x H'' y => ?_⟩
      obtain ⟨p2, k2, rd⟩ := hY i w.ds[i] H' L' X' hp' x H'' (by simp [hi]) (p.toX k1) k' hc (wk.yields i H' x H'' hi hgo y)
      have live : ∀ {Hz : Hp} {av : List V}, Hz D = some (.lst av) → Hz D ≠ none := fun h => by rw [h]; exact fun z => nomatch z
      have kD : ∀ {Ha Hb : Hp} {La Lb Xa Xb : List Addr}, Post Ha La Xa Hb Lb Xb → D ∉ La → Ha D = some (.lst av) → Hb D = some (.lst av) := fun q hl h => q.keep D _ h hl (fun ps => fun z => nomatch z)
      have hD2 := kD p2 hDL hDl
      refine ⟨wipeE env own, L', X', hp', w.ds[i], k2, ((rσ.post k1 p).post k' p2), rd, ?_⟩
      cases q : f w.ds[i] hp' with
      | bad => simp only [q] at gd; exact gd.elim
      | exc x hp2 => simp only [q] at gd; exact gd.elim
      | ok o hp2 =>
        simp only [q] at gd
        have gf : GD K CA H'' L' X' (fun _ _ _ => False) (f w.ds[i] hp') (fun b hpx _ _ _ => b = o ∧ hpx = hp2) := GD.eq q
        rw [← hf] at gf
        refine (GD.bind gf).imp fun env2 hp3 H3 L3 X3 p3 k3 g3 σ2 r2 ag => ⟨wipe_agree ag his, ?_⟩
        have hL3 := p3.notL hDL (live hD2)
        have hD3 := kD p3 hDL hD2
        refine ⟨env2, L3, X3, hp3, k3, r2, (GD.bind g3).imp fun b hp4 H4 L4 X4 p4 k4 g4 => ?_⟩
        have hL4 := p4.notL hL3 (live hD3)
        have hD4 := kD p4 hL3 hD3
        have p14 : Post H1 L1 X1 H4 L4 X4 := ((p.trans p2).trans p3).trans p4
        have ra4 : Reps K H4 L4 X4 acc av := ((ra.post k' p2).post k2 p3).post k3 p4
        cases b with
        | true =>
          rw [if_pos rfl] at g4
          refine ⟨env2, L4, X4, hp4, k4, r2.post k3 p4, (GD.bind g4).imp fun e hp5 H5 L5 X5 p5 k5 g5 v rv => ?_⟩
          obtain ⟨eo, eh⟩ := g5 _ _ _ Post.refl k5
          subst eo eh
          simp only at gd
          have hL5 := p5.notL hL4 (live hD4)
          have hD5 := kD p5 hL4 hD4
          have hX5 : D ∈ X5 := p5.inX (p4.inX (p3.inX (p2.inX hDX)))
          have ra5 : Reps K H5 L5 X5 (acc ++ [e]) (av ++ [v]) := (ra4.post k4 p5).app (.cons rv rfl)
          exact ⟨av, hD5, by omega, by omega, L5, X5, hp5, acc ++ [e], av ++ [v], (p14.trans p5).touch hD, k5.touch hD5 hX5 hL5, upd_same, hX5, hL5, ra5.touch hD5 hX5, by rw [List.length_append]; simp; omega, gd⟩
        | false =>
          rw [if_neg Bool.false_ne_true] at g4
          obtain ⟨eo, eh⟩ := g4 _ _ _ Post.refl k4
          subst eo eh
          simp only at gd
          exact ⟨by omega, L4, X4, hp4, acc, av, p14, k4, hD4, p4.inX (p3.inX (p2.inX hDX)), hL4, ra4, by omega, gd⟩
    · rw [if_neg hc] at gd
      exact gd.elim
  · left
    have he : i = w.ds.length := by omega
    have hdrop : w.ds.drop i = [] := List.drop_eq_nil_of_le (by omega)
    rw [hdrop] at gd
    simp only [compL] at gd
    by_cases hc : ckOk w.ck hp' = true
    · rw [if_pos hc] at gd
      subst he
      exact ⟨wk.stops H' (hG _ _ _ _ (p.toX k1) k' hc), comp_end gd p k' hD hDl hDX hDL ra (Nat.le_trans hla hz) hX1⟩
    · rw [if_neg hc] at gd
      exact gd.elim
def W0 : WX := fun _ _ _ _ => False
def fcomp2 (m : Bool) (own : List Nat) (fi : EnvI → HpI → Out IV) (fg : D → EnvI → HpI → Out EnvI) (ft : EnvI → HpI → Out Bool) (own1 : List Nat) (fi1 : EnvI → HpI → Out IV) (fg1 : D → EnvI → HpI → Out EnvI) (ft1 : EnvI → HpI → Out Bool) (fe : EnvI → HpI → Out D) : EnvI → HpI → Out D := fun env hp => (fi env hp).bind fun w hp =>
      (compO (ckOk w.ck) (fun d hp acc => (fg d (wipeE env own) hp).bind fun env2 hp => (ft env2 hp).bind fun b hp =>
        if b = true then (fi1 env2 hp).bind fun w1 hp => if acc.length + w1.ds.length ≤ sizeLine then
          compL (ckOk w1.ck) (fun d hp => (fg1 d (wipeE env2 own1) hp).bind fun env3 hp => (ft1 env3 hp).bind fun b hp =>
            if b = true then (fe env3 hp).bind fun x hp => .ok (some x) hp else .ok none hp) w1.ds hp acc else .bad
        else .ok acc hp) w.ds hp []).bind fun ds hp => ofOpt (some (mkL m ds hp))
theorem compL_noexc {ck : HpI → Bool} {f : D → HpI → Out (Option D)} {x : Exn} {hx : HpI} : ∀ (ds : List D) (hp : HpI) (acc : List D), compL ck f ds hp acc ≠ .exc x hx
  | [], hp, acc => by unfold compL; split <;> exact fun z => nomatch z
  | d :: ds, hp, acc => by
    unfold compL
    split
    · split
      · exact compL_noexc ds _ _
      · exact compL_noexc ds _ _
      · exact fun z => nomatch z
    · exact fun z => nomatch z
theorem lc2_imp {W : WX} {m : Bool} {own is own1 is1 : List Nat} {fi fi1 : EnvI → HpI → Out IV} {fg fg1 : D → EnvI → HpI → Out EnvI} {ft ft1 : EnvI → HpI → Out Bool} {fe : EnvI → HpI → Out D} (his : ∀ i ∈ is, i ∈ own) (his1 : ∀ i ∈ is1, i ∈ own1) {σ : L2.St} {Q : VK}
    (h : tE K CA W (fcomp2 m own fi fg ft own1 fi1 fg1 ft1 fe) σ H Q) :
    tLc2 (tIt K CA W fi) (tG K CA is fg) (tT K CA W0 ft) (tIt K CA W0 fi1) (tG K CA is1 fg1) (tT K CA W0 ft1) (tE K CA W0 fe) own own1 σ H Q := by
  obtain ⟨env, L, X, hp, k, r, g⟩ := h
  refine ⟨env, L, X, hp, k, r, (GD.bind g).imp fun w hp1 H1 L1 X1 p1 k1 g1 J ⟨G, Y, wk, hz, hG, hY⟩ => ?_⟩
  intro D hD
  have rσ := (r.post k p1).wipe own
  have hX1 : D ∉ X1 := k1.notX hD
  have hL1 : D ∉ L1 := fun z => hX1 (k1.sub D z)
  generalize hf : (fun d hp acc => (fg d (wipeE env own) hp).bind fun env2 hp => (ft env2 hp).bind fun b hp =>
        if b = true then (fi1 env2 hp).bind fun w1 hp => if acc.length + w1.ds.length ≤ sizeLine then
          compL (ckOk w1.ck) (fun d hp => (fg1 d (wipeE env2 own1) hp).bind fun env3 hp => (ft1 env3 hp).bind fun b hp =>
            if b = true then (fe env3 hp).bind fun x hp => Out.ok (some x) hp else Out.ok none hp) w1.ds hp acc else .bad
        else Out.ok acc hp) = f at g1
  have live : ∀ {Hz : Hp} {av : List V}, Hz D = some (.lst av) → Hz D ≠ none := fun h => by rw [h]; exact fun z => nomatch z
  have kD : ∀ {Ha Hb : Hp} {La Lb Xa Xb : List Addr} {av : List V}, Post Ha La Xa Hb Lb Xb → D ∉ La → Ha D = some (.lst av) → Hb D = some (.lst av) := fun q hl h => q.keep D _ h hl (fun ps => fun z => nomatch z)
  refine ⟨fun i m' H' => m' + i = w.ds.length ∧ ∃ L' X' hp' acc av, Post H1 L1 X1 H' L' X' ∧ HOK K H' L' X' hp' ∧ H' D = some (.lst av) ∧ D ∈ X' ∧ D ∉ L' ∧ Reps K H' L' X' acc av ∧ av.length ≤ sizeLine ∧
      GD K CA H1 L1 X1 (fun c dx H' => W c dx σ H') ((compO (ckOk w.ck) f (w.ds.drop i) hp' acc).bind fun ds hp => ofOpt (some (mkL m ds hp))) (RQ K Q), ⟨w.ds.length, rfl, L1, X1 ++ [D], hp1, [], [], Post.newX hD _, k1.newX hD _, upd_same, by simp, hL1, rfl, Nat.zero_le _, g1⟩, ?_⟩
  rintro i m' H' ⟨hm, L', X', hp', acc, av, p, k', hDl, hDX, hDL, ra, hla, gd⟩
  by_cases hi : i < w.ds.length
  · right
    have hdrop : w.ds.drop i = w.ds[i] :: w.ds.drop (i + 1) := List.drop_eq_getElem_cons hi
    rw [hdrop] at gd
    simp only [compO] at gd
    by_cases hc : ckOk w.ck hp' = true
    · rw [if_pos hc] at gd
      have hgo := hG _ _ _ _ (p.toX k1) k' hc
      refine ⟨wk.goes i H' hi hgo, fun H'' => m' - 1 + (i + 1) = w.ds.length ∧ ∃ L' X' hp' acc av, Post H1 L1 X1 H'' L' X' ∧ HOK K H'' L' X' hp' ∧ H'' D = some (.lst av) ∧ D ∈ X' ∧ D ∉ L' ∧ Reps K H'' L' X' acc av ∧ av.length ≤ sizeLine ∧
        GD K CA H1 L1 X1 (fun c dx H' => W c dx σ H') ((compO (ckOk w.ck) f (w.ds.drop (i + 1)) hp' acc).bind fun ds hp => ofOpt (some (mkL m ds hp))) (RQ K Q), fun H'' hN => ⟨m' - 1, by omega, hN⟩, fun x H'' y => ?_⟩
      obtain ⟨p2, k2, rd⟩ := hY i w.ds[i] H' L' X' hp' x H'' (by simp [hi]) (p.toX k1) k' hc (wk.yields i H' x H'' hi hgo y)
      have hD2 := kD p2 hDL hDl
      refine ⟨wipeE env own, L', X', hp', w.ds[i], k2, ((rσ.post k1 p).post k' p2), rd, ?_⟩
      cases q : f w.ds[i] hp' acc with
      | bad => simp only [q] at gd; exact gd.elim
      | exc x hp2 => simp only [q] at gd; exact gd.elim
      | ok acc2 hp2 =>
        simp only [q] at gd
        have gf : GD K CA H'' L' X' (fun _ _ _ => False) (f w.ds[i] hp' acc) (fun b hpx _ _ _ => b = acc2 ∧ hpx = hp2) := GD.eq q
        rw [← hf] at gf
        refine (GD.bind gf).impE fun env2 hp3 H3 L3 X3 eo3 p3 k3 g3 σ2 r2 ag => ⟨wipe_agree ag his, ?_⟩
        have hL3 := p3.notL hDL (live hD2)
        have hD3 := kD p3 hDL hD2
        refine ⟨env2, L3, X3, hp3, k3, r2, (GD.bind g3).impE fun b hp4 H4 L4 X4 eo4 p4 k4 g4 => ?_⟩
        have hL4 := p4.notL hL3 (live hD3)
        have hD4 := kD p4 hL3 hD3
        have p14 : Post H1 L1 X1 H4 L4 X4 := ((p.trans p2).trans p3).trans p4
        have ra4 : Reps K H4 L4 X4 acc av := ((ra.post k' p2).post k2 p3).post k3 p4
        have hX4 : D ∈ X4 := p4.inX (p3.inX (p2.inX hDX))
        cases b with
        | false =>
          rw [if_neg Bool.false_ne_true] at g4
          obtain ⟨eo, eh⟩ := g4 _ _ _ Post.refl k4
          subst eo eh
          exact ⟨by omega, L4, X4, hp4, acc, av, p14, k4, hD4, hX4, hL4, ra4, hla, gd⟩
        | true =>
          rw [if_pos rfl] at g4
          refine ⟨env2, L4, X4, hp4, k4, r2.post k3 p4, (GD.bind g4).impE fun w1 hp5 H5 L5 X5 eo5 p5 k5 g5 J1 ⟨G1, Y1, wk1, hz1, hG1, hY1⟩ => ?_⟩
          by_cases hsz : acc.length + w1.ds.length ≤ sizeLine
          · have rσ2 := ((r2.post k3 p4).post k4 p5).wipe own1
            have hL5 := p5.notL hL4 (live hD4)
            have hD5 := kD p5 hL4 hD4
            have hX5 : D ∈ X5 := p5.inX hX4
            have ra5 : Reps K H5 L5 X5 acc av := ra4.post k4 p5
            have q5 := q
            rw [← hf] at q5
            simp only [eo3, Out.bind_ok, eo4, if_true, eo5, if_pos hsz] at q5
            generalize hf1 : (fun d hp => (fg1 d (wipeE env2 own1) hp).bind fun env3 hp => (ft1 env3 hp).bind fun b hp => if b = true then (fe env3 hp).bind fun x hp => Out.ok (some x) hp else Out.ok none hp) = f1 at q5
            generalize acc2 = accF at q5 gd
            generalize hp2 = hpF at q5 gd
            · skip
              refine ⟨fun j kk H => kk + j = w1.ds.length ∧ ∃ L' X' hp' acc1 av1, Post H1 L1 X1 H L' X' ∧ PostX H5 L5 X5 H L' X' ∧ HOK K H L' X' hp' ∧ H D = some (.lst av1) ∧ D ∈ X' ∧ D ∉ L' ∧ Reps K H L' X' acc1 av1 ∧ av1.length ≤ acc.length + j ∧
                  compL (ckOk w1.ck) f1 (w1.ds.drop j) hp' acc1 = .ok accF hpF, ⟨w1.ds.length, rfl, L5, X5, hp5, acc, av, p14.trans p5, PostX.refl, k5, hD5, hX5, hL5, ra5, by rw [ra5.len]; exact Nat.le_refl _, q5⟩, ?_⟩
              rintro j kk Hj ⟨hkk, Lj, Xj, hpj, acc1, av1, pj, px, kj, hDj, hXj, hLj, raj, hlj, cj⟩
              by_cases hj : j < w1.ds.length
              · right
                have hdrop1 : w1.ds.drop j = w1.ds[j] :: w1.ds.drop (j + 1) := List.drop_eq_getElem_cons hj
                rw [hdrop1] at cj
                simp only [compL] at cj
                by_cases hc1 : ckOk w1.ck hpj = true
                · rw [if_pos hc1] at cj
                  have hgo1 := hG1 _ _ _ _ px kj hc1
                  refine ⟨wk1.goes j Hj hj hgo1, fun H => kk - 1 + (j + 1) = w1.ds.length ∧ ∃ L' X' hp' acc1 av1, Post H1 L1 X1 H L' X' ∧ PostX H5 L5 X5 H L' X' ∧ HOK K H L' X' hp' ∧ H D = some (.lst av1) ∧ D ∈ X' ∧ D ∉ L' ∧ Reps K H L' X' acc1 av1 ∧ av1.length ≤ acc.length + (j + 1) ∧
                    compL (ckOk w1.ck) f1 (w1.ds.drop (j + 1)) hp' acc1 = .ok accF hpF, fun H hN => ⟨kk - 1, by omega, hN⟩, fun x Hy y => ?_⟩
                  obtain ⟨py, ky, rdy⟩ := hY1 j w1.ds[j] Hj Lj Xj hpj x Hy (by simp [hj]) px kj hc1 (wk1.yields j Hj x Hy hj hgo1 y)
                  have hDy := kD py hLj hDj
                  have pxy := px.then py kj
                  refine ⟨wipeE env2 own1, Lj, Xj, hpj, w1.ds[j], ky, rσ2.postX pxy, rdy, ?_⟩
                  cases qj : f1 w1.ds[j] hpj with
                  | bad => simp only [qj] at cj; cases cj
                  | exc x hp2 => simp only [qj] at cj; cases cj
                  | ok o hpo =>
                    simp only [qj] at cj
                    have gf1 : GD K CA Hy Lj Xj (fun _ _ _ => False) (f1 w1.ds[j] hpj) (fun b hpx _ _ _ => b = o ∧ hpx = hpo) := GD.eq qj
                    rw [← hf1] at gf1
                    refine (GD.bind gf1).imp fun env3 hp6 H6 L6 X6 p6 k6 g6 σ3 r3 ag1 => ⟨wipe_agree ag1 his1, ?_⟩
                    have hL6 := p6.notL hLj (live hDy)
                    have hD6 := kD p6 hLj hDy
                    refine ⟨env3, L6, X6, hp6, k6, r3, (GD.bind g6).imp fun b hp7 H7 L7 X7 p7 k7 g7 => ?_⟩
                    have hL7 := p7.notL hL6 (live hD6)
                    have hD7 := kD p7 hL6 hD6
                    have p17 : Post H1 L1 X1 H7 L7 X7 := ((pj.trans py).trans p6).trans p7
                    have px7 : PostX H5 L5 X5 H7 L7 X7 := (pxy.then p6 ky).then p7 k6
                    have ra7 : Reps K H7 L7 X7 acc1 av1 := ((raj.post kj py).post ky p6).post k6 p7
                    have hX7 : D ∈ X7 := p7.inX (p6.inX (py.inX hXj))
                    cases b with
                    | true =>
                      rw [if_pos rfl] at g7
                      refine ⟨env3, L7, X7, hp7, k7, r3.post k6 p7, (GD.bind g7).imp fun e hp8 H8 L8 X8 p8 k8 g8 v rv => ?_⟩
                      obtain ⟨eo, eh⟩ := g8 _ _ _ Post.refl k8
                      subst eo eh
                      simp only at cj
                      have hL8 := p8.notL hL7 (live hD7)
                      have hD8 := kD p8 hL7 hD7
                      have hX8 : D ∈ X8 := p8.inX hX7
                      have ra8 : Reps K H8 L8 X8 (acc1 ++ [e]) (av1 ++ [v]) := (ra7.post k7 p8).app (.cons rv rfl)
                      exact ⟨av1, hD8, by omega, by omega, L8, X8, hp8, acc1 ++ [e], av1 ++ [v], (p17.trans p8).touch hD, (px7.then p8 k7).touch hD8 trivial hX5, k8.touch hD8 hX8 hL8, upd_same, hX8, hL8, ra8.touch hD8 hX8, by rw [List.length_append]; simp; omega, cj⟩
                    | false =>
                      rw [if_neg Bool.false_ne_true] at g7
                      obtain ⟨eo, eh⟩ := g7 _ _ _ Post.refl k7
                      subst eo eh
                      simp only at cj
                      exact ⟨by omega, L7, X7, hp7, acc1, av1, p17, px7, k7, hD7, hX7, hL7, ra7, by omega, cj⟩
                · rw [if_neg hc1] at cj
                  cases cj
              · left
                have he : j = w1.ds.length := by omega
                have hdrop1 : w1.ds.drop j = [] := List.drop_eq_nil_of_le (by omega)
                rw [hdrop1] at cj
                simp only [compL] at cj
                by_cases hc1 : ckOk w1.ck hpj = true
                · rw [if_pos hc1] at cj
                  cases cj
                  subst he
                  exact ⟨wk1.stops Hj (hG1 _ _ _ _ px kj hc1), by omega, Lj, Xj, _, _, av1, pj, kj, hDj, hXj, hLj, raj, by omega, gd⟩
                · rw [if_neg hc1] at cj
                  cases cj
          · rw [if_neg hsz] at g5
            exact g5.elim
    · rw [if_neg hc] at gd
      exact gd.elim
  · left
    have he : i = w.ds.length := by omega
    have hdrop : w.ds.drop i = [] := List.drop_eq_nil_of_le (by omega)
    rw [hdrop] at gd
    simp only [compO] at gd
    by_cases hc : ckOk w.ck hp' = true
    · rw [if_pos hc] at gd
      subst he
      exact ⟨wk.stops H' (hG _ _ _ _ (p.toX k1) k' hc), comp_end gd p k' hD hDl hDX hDL ra hla hX1⟩
    · rw [if_neg hc] at gd
      exact gd.elim
end
section
variable {X : Cx} {CA : Nat → Addr} {W : WX} {pos : Pos} {elt tg iter : Expr} {ifs : List Expr} {scope : Scope} {own : List (Str × Nat)} {m : Bool} {is : List Nat} {fi : EnvI → HpI → Out IV} {fg : D → EnvI → HpI → Out EnvI} {ft : EnvI → HpI → Out Bool} {fe : EnvI → HpI → Out D}
theorem ptsD {X : Cx} {t : Expr} (h : PT X t (tT X.K CA W0 ft)) : PTs X [t] (tT X.K CA W0 ft) := pts_one h
theorem ptsN {X : Cx} : PTs X [] (tT X.K CA W0 fun _ hp => .ok true hp) := ⟨fun pins s σ H Q I ⟨env, L, Xg, hp, k, r, g⟩ => pts_nil.run pins s σ H Q I (GD.here g k)⟩
def fcomp (m : Bool) (own : List Nat) (fi : EnvI → HpI → Out IV) (fg : D → EnvI → HpI → Out EnvI) (ft : EnvI → HpI → Out Bool) (fe : EnvI → HpI → Out D) : EnvI → HpI → Out D := fun env hp => (fi env hp).bind fun w hp => (compL (ckOk w.ck) (fun d hp => (fg d (wipeE env own) hp).bind fun env2 hp => (ft env2 hp).bind fun b hp =>
        if b = true then (fe env2 hp).bind fun x hp => .ok (some x) hp else .ok none hp) w.ds hp []).bind fun ds hp => ofOpt (some (mkL m ds hp))
theorem folded_plain {env : Env} {e : Expr} (h : plainS e = true) : ∀ x, foldedSetIterable e env x = pure x := by
  intro x
  cases e <;> first | rfl | (simp [plainS] at h; done)
theorem snd_comp (hc : X.calm = true) (hN : X.N.Nodup) (hp : plainS iter = true) (hi : PI X tg iter (tIt X.K CA W fi)) (ok : BlkOk X.N X.env.scope scope own) (his : ∀ i ∈ is, i ∈ own.map (·.2))
    (hg : ∀ (s : Shared) (H : Hp) (C : Addr) (cl : List (Str × Addr)) (fp : List Addr), PG (X.blk s H scope (compEnvC scope cl C X.env) fp) tg (tG X.K CA is fg))
    (ht : ∀ (s : Shared) (H : Hp) (C : Addr) (cl : List (Str × Addr)) (fp : List Addr), PTs (X.blk s H scope (compEnvC scope cl C X.env) fp) ifs (tT X.K CA W0 ft))
    (he : ∀ (s : Shared) (H : Hp) (C : Addr) (cl : List (Str × Addr)) (fp : List Addr), PE (X.blk s H scope (compEnvC scope cl C X.env) fp) elt (tE X.K CA W0 fe)) :
    PE X (.ListComp elt [⟨tg, iter, ifs, 0⟩] scope pos) (tE X.K CA W (fcomp m (own.map (·.2)) fi fg ft fe)) :=
  (pe_lc hc hN hi ok hg ht he (folded_plain hp)).imp fun _ _ _ q => lc_imp his q
theorem snd_comp2 {tg1 iter1 : Expr} {ifs1 : List Expr} {own1 is1 : List Nat} {fi1 : EnvI → HpI → Out IV} {fg1 : D → EnvI → HpI → Out EnvI} {ft1 : EnvI → HpI → Out Bool} (hc : X.calm = true) (hN : X.N.Nodup) (hp : plainS iter = true) (hp1 : plainS iter1 = true) (hi : PI X tg iter (tIt X.K CA W fi)) (ok : BlkOk X.N X.env.scope scope own) (his : ∀ i ∈ is, i ∈ own.map (·.2)) (hv : ∀ i ∈ own1, i ∈ own.map (·.2)) (his1 : ∀ i ∈ is1, i ∈ own1)
    (hg : ∀ (s : Shared) (H : Hp) (C : Addr) (cl : List (Str × Addr)) (fp : List Addr), PG (X.blk s H scope (compEnvC scope cl C X.env) fp) tg (tG X.K CA is fg))
    (ht : ∀ (s : Shared) (H : Hp) (C : Addr) (cl : List (Str × Addr)) (fp : List Addr), PTs (X.blk s H scope (compEnvC scope cl C X.env) fp) ifs (tT X.K CA W0 ft))
    (hi1 : ∀ (s : Shared) (H : Hp) (C : Addr) (cl : List (Str × Addr)) (fp : List Addr), PI (X.blk s H scope (compEnvC scope cl C X.env) fp) tg1 iter1 (tIt X.K CA W0 fi1))
    (hg1 : ∀ (s : Shared) (H : Hp) (C : Addr) (cl : List (Str × Addr)) (fp : List Addr), PG (X.blk s H scope (compEnvC scope cl C X.env) fp) tg1 (tG X.K CA is1 fg1))
    (ht1 : ∀ (s : Shared) (H : Hp) (C : Addr) (cl : List (Str × Addr)) (fp : List Addr), PTs (X.blk s H scope (compEnvC scope cl C X.env) fp) ifs1 (tT X.K CA W0 ft1))
    (he : ∀ (s : Shared) (H : Hp) (C : Addr) (cl : List (Str × Addr)) (fp : List Addr), PE (X.blk s H scope (compEnvC scope cl C X.env) fp) elt (tE X.K CA W0 fe)) :
    PE X (.ListComp elt [⟨tg, iter, ifs, 0⟩, ⟨tg1, iter1, ifs1, 0⟩] scope pos) (tE X.K CA W (fcomp2 m (own.map (·.2)) fi fg ft own1 fi1 fg1 ft1 fe)) :=
  (pe_lc2 hc hN hi ok hv hg ht hi1 hg1 ht1 he (folded_plain hp) (fun _ => folded_plain hp1)).imp fun _ _ _ q => lc2_imp his his1 q
end
end KI

namespace KI
open PySem PySem.Spec PyProof.Rows L2
variable [LX]
/-! ## 17. statements -/
def GS (K : PySem.W.Frag) (CA : Nat → Addr) (H : Hp) (L X : List Addr) (W : WX) (o : SOut) (D : Ends) : Prop :=
  match o with
  | .nx env hp' => ∀ H' L' X' σ', Post H L X H' L' X' → HOK K H' L' X' hp' → REnv K H' L' X' env σ' → D.nx σ' H'
  | .rt d hp' => ∀ H' L' X' v, Post H L X H' L' X' → HOK K H' L' X' hp' → Rep K H' L' X' d v → D.rt v H'
  | .bk env hp' => ∀ H' L' X' σ', Post H L X H' L' X' → HOK K H' L' X' hp' → REnv K H' L' X' env σ' → D.bk σ' H'
  | .ct env hp' => ∀ H' L' X' σ', Post H L X H' L' X' → HOK K H' L' X' hp' → REnv K H' L' X' env σ' → D.ct σ' H'
  | .exc x env hp' => ∀ cls dx H' L' X' σ', Post H L X H' L' X' → HOK K H' L' X' hp' → REnv K H' L' X' env σ' → ExR K CA H' L' X' x cls dx → W cls dx σ' H'
  | .bad => False
def tS (K : PySem.W.Frag) (CA : Nat → Addr) (W : WX) (f : EnvI → HpI → SOut) : TS := fun D σ H => ∃ env L X hp, HOK K H L X hp ∧ REnv K H L X env σ ∧ GS K CA H L X W (f env hp) D
section
variable {K : PySem.W.Frag} {CA : Nat → Addr} {H H' H1 : Hp} {L L' L1 X X' X1 : List Addr} {hp hp' : HpI} {W : WX} {D : Ends}
theorem GS.at {o : SOut} (g : GS K CA H L X W o D) (p : Post H L X H' L' X') : GS K CA H' L' X' W o D := by
  cases o with
  | nx env hp => exact fun H2 L2 X2 σ q => g H2 L2 X2 σ (p.trans q)
  | rt d hp => exact fun H2 L2 X2 v q => g H2 L2 X2 v (p.trans q)
  | bk env hp => exact fun H2 L2 X2 σ q => g H2 L2 X2 σ (p.trans q)
  | ct env hp => exact fun H2 L2 X2 σ q => g H2 L2 X2 σ (p.trans q)
  | exc x env hp => exact fun c dx H2 L2 X2 σ q => g c dx H2 L2 X2 σ (p.trans q)
  | bad => exact g
theorem GS.thenS {α : Type} {o : Out α} {env : EnvI} {σ : L2.St} {f : α → HpI → SOut} (g : GS K CA H L X W (o.thenS env f) D) (k : HOK K H L X hp) (r : REnv K H L X env σ) :
    GD K CA H L X (fun c dx H' => W c dx σ H') o (fun a hp1 H1 L1 X1 => GS K CA H1 L1 X1 W (f a hp1) D) := by
  cases o with
  | ok a hp1 => exact fun H1 L1 X1 p _ => GS.at (o := f a hp1) g p
  | exc x hp1 => exact fun c dx H1 L1 X1 p k1 e => g c dx H1 L1 X1 σ p k1 (r.post k p) e
  | bad => exact g
theorem GS.thenG {α : Type} {o : Out α} {f : α → HpI → SOut} (g : GS K CA H L X W (o.thenG f) D) :
    GD K CA H L X (fun _ _ _ => False) o (fun a hp1 H1 L1 X1 => GS K CA H1 L1 X1 W (f a hp1) D) := by
  cases o with
  | ok a hp1 => exact fun H1 L1 X1 p _ => GS.at (o := f a hp1) g p
  | exc x hp1 => exact g.elim
  | bad => exact g
theorem GS.seq {o : SOut} {f : EnvI → HpI → SOut} (g : GS K CA H L X W (o.andThen f) D) : GS K CA H L X W o { D with nx := tS K CA W f D } := by
  cases o with
  | nx env hp1 => exact fun H1 L1 X1 σ p k r => ⟨env, L1, X1, hp1, k, r, GS.at (o := f env hp1) g p⟩
  | rt d hp => exact g
  | bk env hp => exact g
  | ct env hp => exact g
  | exc x env hp => exact g
  | bad => exact g
end
theorem _root_.L2.PS.imp {X : Cx} {e : Stmt} {t t' : TS} (h : PS X e t) (i : ∀ D σ H, t' D σ H → t D σ H) : PS X e t' := ⟨fun pins s σ H D I q => h.run pins s σ H D I (i D σ H q)⟩
theorem _root_.L2.PSs.imp {X : Cx} {e : List Stmt} {t t' : TS} (h : PSs X e t) (i : ∀ D σ H, t' D σ H → t D σ H) : PSs X e t' := ⟨fun pins s σ H D I q => h.run pins s σ H D I (i D σ H q)⟩
section
variable {X : Cx} {CA : Nat → Addr} {W : WX} {pos : Pos} {e tg : Expr} {fe : EnvI → HpI → Out D} {is : List Nat} {fg : D → EnvI → HpI → Out EnvI} {fa fb : EnvI → HpI → SOut} {ft : EnvI → HpI → Out Bool} {fi : EnvI → HpI → Out IV}
theorem snd_snil : PSs X [] (tS X.K CA W fun env hp => .nx env hp) := pss_nil.imp fun D σ H ⟨env, L, Xg, hp, k, r, g⟩ => g _ _ _ _ Post.refl k r
theorem snd_scons {st : Stmt} {sts : List Stmt} (h1 : PS X st (tS X.K CA W fa)) (h2 : PSs X sts (tS X.K CA W fb)) : PSs X (st :: sts) (tS X.K CA W fun env hp => (fa env hp).andThen fb) :=
  (pss_cons h1 h2).imp fun D σ H ⟨env, L, Xg, hp, k, r, g⟩ => ⟨env, L, Xg, hp, k, r, GS.seq g⟩
theorem snd_expr (hc : isComp e = false) (he : PE X e (tE X.K CA W fe)) : PS X (.Expr e pos) (tS X.K CA W fun env hp => (fe env hp).thenS env fun _ hp => .nx env hp) := by
  refine (ps_expr he (by cases e <;> first | rfl | (simp [isComp] at hc; done))).imp fun D σ H ⟨env, L, Xg, hp, k, r, g⟩ => ?_
  exact ⟨env, L, Xg, hp, k, r, (GS.thenS g k r).imp fun d hp1 H1 L1 X1 p1 k1 g1 v rv => g1 _ _ _ _ Post.refl k1 (r.post k p1)⟩
theorem asg_imp {D : Ends} {σ : L2.St} {H : Hp} (h : tS X.K CA W (fun env hp => (fe env hp).thenS env fun x hp => (fg x env hp).thenG fun env' hp => .nx env' hp) D σ H) : tAsg (tE X.K CA W fe) (tG X.K CA is fg) D σ H := by
  obtain ⟨env, L, Xg, hp, k, r, g⟩ := h
  refine ⟨env, L, Xg, hp, k, r, (GS.thenS g k r).imp fun d hp1 H1 L1 X1 p1 k1 g1 v rv => ?_⟩
  exact ⟨env, L1, X1, hp1, d, k1, r.post k p1, rv, (GS.thenG g1).imp fun env2 hp2 H2 L2 X2 p2 k2 g2 σ2 r2 _ => g2 _ _ _ _ Post.refl k2 r2⟩
theorem sw_false {c : CC} {l : Nat} (hk : X.env.scope.kind = .function) (hsc : X.env.scope = c.sc) (h1 : noSC e = true) (h2 : swC c tg e = false) : swapsWith e (some tg) l X.env = pure false := by
  cases e with
  | ListComp elt gs s p =>
    cases tg with
    | Name t q =>
      have hb : X.env.blockKind = .function := by unfold Env.blockKind; rw [hk]; rfl
      unfold swapsWith
      simp only [swC] at h2
      simp only [hb, Env.kindOf, hsc, Expr.pos]
      show pure _ = pure _
      congr 1
      by_cases hq : c.sc.names.lookup t = some .local
      · rw [hq] at h2 ⊢
        simpa using h2
      · have : (c.sc.names.lookup t == some NameKind.local) = false := by simpa using hq
        rw [this]
        simp
    | _ => rfl
  | SetComp _ _ _ _ => simp [noSC] at h1
  | DictComp _ _ _ _ _ => simp [noSC] at h1
  | _ => rfl
theorem swS_ok {c : CC} {ts vs : List Expr} {k k2 : Nat} {p p2 : Pos} {o : Option (List Str)} (hk : X.env.scope.kind = .function) (hsc : X.env.scope = c.sc) (h : swS c.sc ts vs = some o) : swappedStores [.Tuple ts k p] (.Tuple vs k2 p2) X.env = pure o := by
  have hb : X.env.blockKind = .function := by unfold Env.blockKind; rw [hk]; rfl
  unfold swS at h
  unfold swappedStores
  simp only [hb, Env.kindOf, hsc]
  have hne : (ScopeKind.function != ScopeKind.function) = false := rfl
  rw [hne, Bool.or_false]
  split at h
  · rename_i q
    rw [if_pos q]
    cases h
    rfl
  · rename_i q
    rw [if_neg q]
    show (if (vs.any isStar) = true then (pure none : Sem (Option (List Str))) else
      if ((ts.filterMap (nameAt c.sc ((ts.head?.map (·.pos.line)).getD 0))).length != ts.length || (ts.filterMap (nameAt c.sc ((ts.head?.map (·.pos.line)).getD 0))).eraseDups.length != (ts.filterMap (nameAt c.sc ((ts.head?.map (·.pos.line)).getD 0))).length) = true then pure none
      else if vs.all (foldedForSure 8) = true then pure none else if vs.all (constantsAlone 8) = true then _ else pure (some (ts.filterMap (nameAt c.sc ((ts.head?.map (·.pos.line)).getD 0))))) = pure o
    simp only at h
    generalize hn : ts.filterMap (nameAt c.sc ((ts.head?.map (·.pos.line)).getD 0)) = names at h ⊢
    split at h
    · rename_i q2
      rw [if_pos q2]
      cases h
      rfl
    · rename_i q2
      rw [if_neg q2]
      split at h
      · rename_i q3
        rw [if_pos q3]
        cases h
        rfl
      · rename_i q3
        rw [if_neg q3]
        split at h
        · rename_i q4
          rw [if_pos q4]
          cases h
          rfl
        · rename_i q4
          rw [if_neg q4]
          split at h
          · cases h
          · rename_i q5
            rw [if_neg q5]
            cases h
            rfl
theorem okAsg_ok {c : CC} {l : Nat} (hk : X.env.scope.kind = .function) (hsc : X.env.scope = c.sc) (hp : plainE tg = true) (h : okAsg c tg e = true) : swapsWithSole [tg] e l X.env = pure false ∧ swappedStores [tg] e X.env = pure none := by
  unfold okAsg at h
  simp only [Bool.and_eq_true, Bool.not_eq_true'] at h
  obtain ⟨⟨h1, h2⟩, h3⟩ := h
  refine ⟨sw_false hk hsc h1 h2, ?_⟩
  cases tg <;> first | (simp at h3; done) | skip
  all_goals first | rfl | skip
  cases e <;> first | rfl | skip
  simp only [decide_eq_true_eq] at h3
  exact swS_ok hk hsc h3
theorem snd_asg {c : CC} (hk : X.env.scope.kind = .function) (hsc : X.env.scope = c.sc) (hp : plainE tg = true) (h : okAsg c tg e = true) (he : PE X e (tE X.K CA W fe)) (hg : PG X tg (tG X.K CA is fg)) :
    PS X (.Assign [tg] e pos) (tS X.K CA W fun env hp => (fe env hp).thenS env fun x hp => (fg x env hp).thenG fun env' hp => .nx env' hp) := by
  obtain ⟨h1, h2⟩ := okAsg_ok (l := pos.line) hk hsc hp h
  exact (ps_asg he hg h1 h2 (by rw [assign_plain hp]; rfl)).imp fun _ _ _ q => asg_imp q
theorem gname_imp {i : Nat} {v : V} {σ : L2.St} {H : Hp} {Q : L2.St → Hp → Prop} (h : tG X.K CA is (fun d env hp => .ok (env.set i (some d)) hp) v σ H Q) (hi : i ∈ is) : gName i v σ H Q := by
  obtain ⟨env, L, Xg, hp, d, k, r, rd, g⟩ := h
  refine GD.here g k _ (r.set rd i) ⟨List.length_set, fun j hj => ?_⟩
  rw [List.getElem?_set_ne (fun e => hj (by rw [← e]; exact hi))]
/-- name = [..], the store exchanged with the comprehension's end -/
theorem snd_setLc {i : Nat} {y : Str} {py spos : Pos} {elt tg' iter : Expr} {ifs : List Expr} {scope : Scope} {own : List (Str × Nat)} {m : Bool} {is : List Nat} {fi : EnvI → HpI → Out IV} {fg' : D → EnvI → HpI → Out EnvI} {ft : EnvI → HpI → Out Bool} {fe' : EnvI → HpI → Out D}
    (hk : X.env.scope.kind = .function) {c : CC} (hsc : X.env.scope = c.sc) (hsw : swC c (.Name y py) (.ListComp elt [⟨tg', iter, ifs, 0⟩] scope pos) = true)
    (hc : X.calm = true) (hN : X.N.Nodup) (hy : X.N[i]? = some y) (hp : plainS iter = true) (hi : PI X tg' iter (tIt X.K CA W fi)) (ok : BlkOk X.N X.env.scope scope own) (his : ∀ i ∈ is, i ∈ own.map (·.2))
    (hg : ∀ (s : Shared) (H : Hp) (C : Addr) (cl : List (Str × Addr)) (fp : List Addr), PG (X.blk s H scope (compEnvC scope cl C X.env) fp) tg' (tG X.K CA is fg'))
    (ht : ∀ (s : Shared) (H : Hp) (C : Addr) (cl : List (Str × Addr)) (fp : List Addr), PTs (X.blk s H scope (compEnvC scope cl C X.env) fp) ifs (tT X.K CA W0 ft))
    (he : ∀ (s : Shared) (H : Hp) (C : Addr) (cl : List (Str × Addr)) (fp : List Addr), PE (X.blk s H scope (compEnvC scope cl C X.env) fp) elt (tE X.K CA W0 fe')) :
    PS X (.Assign [.Name y py] (.ListComp elt [⟨tg', iter, ifs, 0⟩] scope pos) spos) (tS X.K CA W fun env hp => (fcomp m (own.map (·.2)) fi fg' ft fe' env hp).thenS env fun x hp => (Out.ok (env.set i (some x)) hp : Out EnvI).thenG fun env' hp => .nx env' hp) := by
  simp only [swC, Bool.and_eq_true, decide_eq_true_eq, beq_iff_eq, Bool.not_eq_true'] at hsw
  obtain ⟨⟨q1, q2⟩, q3⟩ := hsw
  have hyl : X.env.scope.names.lookup y = some .local := by rw [hsc]; exact q1
  refine (ps_setLc hc hN hy hyl (sw_true hk hyl (by rw [q2]; exact beq_self_eq_true _) q3) hi ok hg ht he (folded_plain hp)).imp fun D σ H q => ?_
  obtain ⟨env, L, Xg, hp, k, r, g⟩ := asg_imp (is := [i]) (fg := fun x env hp => Out.ok (env.set i (some x)) hp) q
  exact lc_imp his (m := m) ⟨env, L, Xg, hp, k, r, g.imp fun d hp1 H1 L1 X1 p1 k1 g1 v rv => gname_imp (is := [i]) (g1 v rv) (by simp)⟩
theorem snd_setLc2 {i : Nat} {y : Str} {py spos : Pos} {elt tg' iter tg1 iter1 : Expr} {ifs ifs1 : List Expr} {scope : Scope} {own : List (Str × Nat)} {own1 is1 : List Nat} {m : Bool} {is : List Nat} {fi fi1 : EnvI → HpI → Out IV} {fg' fg1 : D → EnvI → HpI → Out EnvI} {ft ft1 : EnvI → HpI → Out Bool} {fe' : EnvI → HpI → Out D}
    (hk : X.env.scope.kind = .function) {c : CC} (hsc : X.env.scope = c.sc) (hsw : swC c (.Name y py) (.ListComp elt [⟨tg', iter, ifs, 0⟩, ⟨tg1, iter1, ifs1, 0⟩] scope pos) = true)
    (hc : X.calm = true) (hN : X.N.Nodup) (hy : X.N[i]? = some y) (hp : plainS iter = true) (hp1 : plainS iter1 = true) (hi : PI X tg' iter (tIt X.K CA W fi)) (ok : BlkOk X.N X.env.scope scope own) (his : ∀ i ∈ is, i ∈ own.map (·.2)) (hv : ∀ i ∈ own1, i ∈ own.map (·.2)) (his1 : ∀ i ∈ is1, i ∈ own1)
    (hg : ∀ (s : Shared) (H : Hp) (C : Addr) (cl : List (Str × Addr)) (fp : List Addr), PG (X.blk s H scope (compEnvC scope cl C X.env) fp) tg' (tG X.K CA is fg'))
    (ht : ∀ (s : Shared) (H : Hp) (C : Addr) (cl : List (Str × Addr)) (fp : List Addr), PTs (X.blk s H scope (compEnvC scope cl C X.env) fp) ifs (tT X.K CA W0 ft))
    (hi1 : ∀ (s : Shared) (H : Hp) (C : Addr) (cl : List (Str × Addr)) (fp : List Addr), PI (X.blk s H scope (compEnvC scope cl C X.env) fp) tg1 iter1 (tIt X.K CA W0 fi1))
    (hg1 : ∀ (s : Shared) (H : Hp) (C : Addr) (cl : List (Str × Addr)) (fp : List Addr), PG (X.blk s H scope (compEnvC scope cl C X.env) fp) tg1 (tG X.K CA is1 fg1))
    (ht1 : ∀ (s : Shared) (H : Hp) (C : Addr) (cl : List (Str × Addr)) (fp : List Addr), PTs (X.blk s H scope (compEnvC scope cl C X.env) fp) ifs1 (tT X.K CA W0 ft1))
    (he : ∀ (s : Shared) (H : Hp) (C : Addr) (cl : List (Str × Addr)) (fp : List Addr), PE (X.blk s H scope (compEnvC scope cl C X.env) fp) elt (tE X.K CA W0 fe')) :
    PS X (.Assign [.Name y py] (.ListComp elt [⟨tg', iter, ifs, 0⟩, ⟨tg1, iter1, ifs1, 0⟩] scope pos) spos) (tS X.K CA W fun env hp => (fcomp2 m (own.map (·.2)) fi fg' ft own1 fi1 fg1 ft1 fe' env hp).thenS env fun x hp => (Out.ok (env.set i (some x)) hp : Out EnvI).thenG fun env' hp => .nx env' hp) := by
  simp only [swC, Bool.and_eq_true, decide_eq_true_eq, beq_iff_eq, Bool.not_eq_true'] at hsw
  obtain ⟨⟨q1, q2⟩, q3⟩ := hsw
  have hyl : X.env.scope.names.lookup y = some .local := by rw [hsc]; exact q1
  refine (ps_setLc2 hc hN hy hyl (sw_true hk hyl (by rw [q2]; exact beq_self_eq_true _) q3) hi ok hv hg ht hi1 hg1 ht1 he (folded_plain hp) (fun _ => folded_plain hp1)).imp fun D σ H q => ?_
  obtain ⟨env, L, Xg, hp, k, r, g⟩ := asg_imp (is := [i]) (fg := fun x env hp => Out.ok (env.set i (some x)) hp) q
  exact lc2_imp his his1 (m := m) ⟨env, L, Xg, hp, k, r, g.imp fun d hp1 H1 L1 X1 p1 k1 g1 v rv => gname_imp (is := [i]) (g1 v rv) (by simp)⟩
theorem snd_par {c : CC} {i j : Nat} {x y : Str} {a b : Expr} {px py pt : Pos} {kt k2 : Nat} {pt2 : Pos} {fa fb : EnvI → HpI → Out D} (hk : X.env.scope.kind = .function) (hsc : X.env.scope = c.sc) (hc : X.calm = true) (hN : X.N.Nodup) (hi : X.N[i]? = some x) (hj : X.N[j]? = some y) (hij : i ≠ j)
    (hx : X.env.scope.names.lookup x = some .local) (hy : X.env.scope.names.lookup y = some .local) (hp : plainE a = true) (hq : plainE b = true) (ha : PE X a (tE X.K CA W fa)) (hb : PE X b (tE X.K CA W fb)) (hs : swS c.sc [.Name x px, .Name y py] [a, b] = some (some [x, y])) :
    PS X (.Assign [.Tuple [.Name x px, .Name y py] kt pt] (.Tuple [a, b] k2 pt2) pos) (tS X.K CA W fun env hp => (fa env hp).thenS env fun x hp => (fb env hp).thenS env fun y hp => .nx ((env.set i (some x)).set j (some y)) hp) := by
  refine (ps_par hc hN hi hj hij hx hy (pa_cons ha (pa_cons hb pa_nil (star_plain hq)) (star_plain hp)) (swS_ok hk hsc hs) rfl).imp fun D σ H ⟨env, L, Xg, hp, k, r, g⟩ => ?_
  refine ⟨env, L, Xg, hp, k, r, (GS.thenS g k r).imp fun d hp1 H1 L1 X1 p1 k1 g1 v rv => ?_⟩
  have r1 := r.post k p1
  refine ⟨env, L1, X1, hp1, k1, r1, (GS.thenS g1 k1 r1).imp fun e hp2 H2 L2 X2 p2 k2 g2 w rw' => ?_⟩
  exact ⟨v, w, rfl, g2 _ _ _ _ Post.refl k2 (((r1.post k1 p2).set (rv.post k1 p2) i).set rw' j)⟩
theorem snd_par3 {c : CC} {i j l : Nat} {x y z : Str} {a b d : Expr} {px py pz pt : Pos} {kt k2 : Nat} {pt2 : Pos} {fa fb fd : EnvI → HpI → Out D} (hk : X.env.scope.kind = .function) (hsc : X.env.scope = c.sc) (hc : X.calm = true) (hN : X.N.Nodup) (hi : X.N[i]? = some x) (hj : X.N[j]? = some y) (hl : X.N[l]? = some z) (hij : i ≠ j) (hil : i ≠ l) (hjl : j ≠ l)
    (hx : X.env.scope.names.lookup x = some .local) (hy : X.env.scope.names.lookup y = some .local) (hz : X.env.scope.names.lookup z = some .local) (hp : plainE a = true) (hq : plainE b = true) (hw : plainE d = true) (ha : PE X a (tE X.K CA W fa)) (hb : PE X b (tE X.K CA W fb)) (hd : PE X d (tE X.K CA W fd)) (hs : swS c.sc [.Name x px, .Name y py, .Name z pz] [a, b, d] = some (some [x, y, z])) :
    PS X (.Assign [.Tuple [.Name x px, .Name y py, .Name z pz] kt pt] (.Tuple [a, b, d] k2 pt2) pos) (tS X.K CA W fun env hp => (fa env hp).thenS env fun x hp => (fb env hp).thenS env fun y hp => (fd env hp).thenS env fun z hp => .nx (((env.set i (some x)).set j (some y)).set l (some z)) hp) := by
  refine (ps_par3 hc hN hi hj hl hij hil hjl hx hy hz (pa_cons ha (pa_cons hb (pa_cons hd pa_nil (star_plain hw)) (star_plain hq)) (star_plain hp)) (swS_ok hk hsc hs) rfl).imp fun D σ H ⟨env, L, Xg, hp, k, r, g⟩ => ?_
  refine ⟨env, L, Xg, hp, k, r, (GS.thenS g k r).imp fun d hp1 H1 L1 X1 p1 k1 g1 v rv => ?_⟩
  have r1 := r.post k p1
  refine ⟨env, L1, X1, hp1, k1, r1, (GS.thenS g1 k1 r1).imp fun e hp2 H2 L2 X2 p2 k2 g2 w rw' => ?_⟩
  have r2 := r1.post k1 p2
  refine ⟨env, L2, X2, hp2, k2, r2, (GS.thenS g2 k2 r2).imp fun e3 hp3 H3 L3 X3 p3 k3 g3 w3 rw3 => ?_⟩
  exact ⟨v, w, w3, rfl, g3 _ _ _ _ Post.refl k3 ((((r2.post k2 p3).set ((rv.post k1 p2).post k2 p3) i).set (rw'.post k2 p3) j).set rw3 l)⟩
def RAug (K : PySem.W.Frag) (o : Op2) : TIp := fun x y H Q => ∃ L X hp d e z, HOK K H L X hp ∧ Rep K H L X d x ∧ Rep K H L X e y ∧ semAug o d e = some z ∧ ∀ v, Rep K H L X z v → Q v H
theorem pip_of {op : Operator} {o : Op2} {f : Int → Int → Int} {C : Int → Int → Prop} (h : OpR X (inplaceOp op) (rI C fun i j => .int (f i j))) (hs : ∀ d e z, semAug o d e = some z → ∃ i j, d = .int i ∧ e = .int j ∧ z = .int (f i j) ∧ C i j) : PIp X op (RAug X.K o) := by
  intro pins s σ H x y v u Q I r1 r2 ⟨L, Xg, hp, d, e, z, k, q1, q2, q3, q4⟩
  obtain ⟨i, j, rfl, rfl, rfl, hC⟩ := hs d e z q3
  exact h pins s σ H x y v u Q I r1 r2 ⟨i, j, q1, q2, hC, q4 _ rfl⟩
theorem pip_add {m : Bool} : PIp X .Add (RAug X.K (.add m)) := pip_of (C := fun _ _ => True) (f := fun i j => i + j) (fun pins s σ H x y v u Q I r1 r2 ⟨i, j, a, b, _, q⟩ => iop_add pins s σ H x y v u Q I r1 r2 ⟨i, j, a, b, q⟩)
  fun d e z h => by cases d <;> cases e <;> first | (cases h; exact ⟨_, _, rfl, rfl, rfl, trivial⟩) | cases h
theorem pip_sub : PIp X .Sub (RAug X.K .sub) := pip_of (C := fun _ _ => True) (f := fun i j => i - j) (fun pins s σ H x y v u Q I r1 r2 ⟨i, j, a, b, _, q⟩ => iop_sub pins s σ H x y v u Q I r1 r2 ⟨i, j, a, b, q⟩)
  fun d e z h => by cases d <;> cases e <;> first | (cases h; exact ⟨_, _, rfl, rfl, rfl, trivial⟩) | cases h
theorem pip_mul {m : Bool} : PIp X .Mult (RAug X.K (.mul m)) := pip_of (C := CMul) (f := fun i j => i * j) iop_mul
  fun d e z h => by
    cases d <;> cases e <;> first | cases h | skip
    rename_i i j
    simp only [semAug] at h
    split at h
    · rename_i hz
      cases h
      exact ⟨_, _, rfl, rfl, rfl, .inr hz⟩
    · cases h
theorem snd_aug {i : Nat} {x : Str} {o : Op2} {op : Operator} {px : Pos} (hp : PIp X op (RAug X.K o)) (hN : X.N.Nodup) (hi : X.N[i]? = some x) (hs : (match X.env.scope.names.lookup x with | some .local => true | some .cell => X.fn x | _ => false) = true) (he : PE X e (tE X.K CA W fe)) :
    PS X (.AugAssign (.Name x px) op e pos) (tS X.K CA W fun env hp => match env[i]? with
      | some (some x) => (fe env hp).thenS env fun y hp => match semAug o x y with
        | some z => .nx (env.set i (some z)) hp
        | none => .bad
      | _ => .bad) := by
  have h2 : Loc X.env.scope x ∧ (X.fn x = true ∨ X.env.scope.names.lookup x = some .local) := by
    split at hs
    · rename_i q; exact ⟨.inl q, .inr q⟩
    · rename_i q; exact ⟨.inr q, .inl hs⟩
    · cases hs
  refine (ps_aug hN hi h2.1 he hp h2.2).imp fun D σ H ⟨env, L, Xg, hp, k, r, g⟩ => ?_
  cases q : env[i]? with
  | none => simp only [q] at g; exact g.elim
  | some od =>
    cases od with
    | none => simp only [q] at g; exact g.elim
    | some d =>
      simp only [q] at g
      obtain ⟨v, e1, r1⟩ := r.get i d q
      refine ⟨v, e1, env, L, Xg, hp, k, r, (GS.thenS g k r).imp fun e hp1 H1 L1 X1 p1 k1 g1 w rw' => ?_⟩
      cases q2 : semAug o d e with
      | none => simp only [q2] at g1; exact g1.elim
      | some z =>
        simp only [q2] at g1
        exact ⟨L1, X1, hp1, d, e, z, k1, r1.post k p1, rw', q2, fun u ru => g1 _ _ _ _ Post.refl k1 ((r.post k p1).set ru i)⟩
theorem snd_ret (he : PE X e (tE X.K CA W fe)) : PS X (.Return (some e) pos) (tS X.K CA W fun env hp => (fe env hp).thenS env fun x hp => .rt x hp) := by
  refine (ps_ret he).imp fun D σ H ⟨env, L, Xg, hp, k, r, g⟩ => ?_
  exact ⟨env, L, Xg, hp, k, r, (GS.thenS g k r).imp fun d hp1 H1 L1 X1 p1 k1 g1 v rv => g1 _ _ _ _ Post.refl k1 rv⟩
theorem snd_retN : PS X (.Return none pos) (tS X.K CA W fun _ hp => .rt .non hp) := ps_retN.imp fun D σ H ⟨env, L, Xg, hp, k, r, g⟩ => g _ _ _ _ Post.refl k rfl
theorem snd_ifs {t : Expr} {a b : List Stmt} (ht : PT X t (tT X.K CA W ft)) (ha : PSs X a (tS X.K CA W fa)) (hb : PSs X b (tS X.K CA W fb)) :
    PS X (.If t a b pos) (tS X.K CA W fun env hp => (ft env hp).thenS env fun c hp => if c = true then fa env hp else fb env hp) := by
  refine (ps_if ht ha hb).imp fun D σ H ⟨env, L, Xg, hp, k, r, g⟩ => ?_
  refine ⟨env, L, Xg, hp, k, r, (GS.thenS g k r).imp fun c hp1 H1 L1 X1 p1 k1 g1 => ?_⟩
  cases c with
  | true => exact ⟨env, L1, X1, hp1, k1, r.post k p1, g1⟩
  | false => exact ⟨env, L1, X1, hp1, k1, r.post k p1, g1⟩
/-- one turn of a loop -/
theorem GS.turn {K : PySem.W.Frag} {H : Hp} {L X : List Addr} {o : SOut} {D : Ends} {F : EnvI → HpI → SOut} (g : GS K CA H L X W (match o with | .nx env' hp' => F env' hp' | .ct env' hp' => F env' hp' | .bk env' hp' => .nx env' hp' | o => o) D) {N : L2.St → Hp → Prop}
    (hN : ∀ env' hp' H' L' X' σ', Post H L X H' L' X' → HOK K H' L' X' hp' → REnv K H' L' X' env' σ' → GS K CA H' L' X' W (F env' hp') D → N σ' H') : GS K CA H L X W o { D with nx := N, ct := N, bk := D.nx } := by
  cases o with
  | nx env hp => exact fun H1 L1 X1 σ p k r => hN env hp H1 L1 X1 σ p k r (GS.at (o := F env hp) g p)
  | ct env hp => exact fun H1 L1 X1 σ p k r => hN env hp H1 L1 X1 σ p k r (GS.at (o := F env hp) g p)
  | bk env hp => exact g
  | rt d hp => exact g
  | exc x env hp => exact g
  | bad => exact g
theorem snd_for {x : Expr} {b : List Stmt} (hpo : PassesOwn (model X.prog X.w) X.A X.env X.xe) (hc : X.calm = true) (hp : plainS x = true) (hi : PI X tg x (tIt X.K CA W fi)) (hg : PG X tg (tG X.K CA is fg)) (hb : PSs X b (tS X.K CA W fb)) :
    PS X (.For tg x b [] pos) (tS X.K CA W fun env hp => (fi env hp).thenS env fun w hp => forL (ckOk w.ck) (fun d env hp => (fg d env hp).thenG fun env' hp => fb env' hp) w.ds env hp) := by
  refine (ps_for hpo hc hi hg hb (folded_plain hp)).imp fun D σ H ⟨env, L, Xg, hp, k, r, g⟩ => ?_
  refine ⟨env, L, Xg, hp, k, r, (GS.thenS g k r).imp fun w hp1 H1 L1 X1 p1 k1 g1 J ⟨G, Y, wk, hz, hG, hY⟩ => ?_⟩
  generalize hf : (fun d env hp => (fg d env hp).thenG fun env' hp => fb env' hp) = f at g1
  refine ⟨fun i m σ H' => m + i = w.ds.length ∧ ∃ env L' X' hp', Post H1 L1 X1 H' L' X' ∧ HOK X.K H' L' X' hp' ∧ REnv X.K H' L' X' env σ ∧ GS X.K CA H' L' X' W (forL (ckOk w.ck) f (w.ds.drop i) env hp') D, ⟨w.ds.length, rfl, env, L1, X1, hp1, Post.refl, k1, r.post k p1, g1⟩, ?_⟩
  rintro i m σ' H' ⟨hm, env', L', X', hp', p, k', r', gd⟩
  by_cases hi : i < w.ds.length
  · right
    have hdrop : w.ds.drop i = w.ds[i] :: w.ds.drop (i + 1) := List.drop_eq_getElem_cons hi
    rw [hdrop] at gd
    simp only [forL] at gd
    by_cases hc : ckOk w.ck hp' = true
    · rw [if_pos hc] at gd
      have hgo := hG _ _ _ _ (p.toX k1) k' hc
      refine ⟨wk.goes i H' hi hgo, fun σ2 H2 => m - 1 + (i + 1) = w.ds.length ∧ ∃ env L' X' hp', Post H1 L1 X1 H2 L' X' ∧ HOK X.K H2 L' X' hp' ∧ REnv X.K H2 L' X' env σ2 ∧ GS X.K CA H2 L' X' W (forL (ckOk w.ck) f (w.ds.drop (i + 1)) env hp') D,
        fun σ2 H2 hN => ⟨m - 1, by omega, hN⟩, fun x H2 y => ?_⟩
      obtain ⟨p2, k2, rd⟩ := hY i w.ds[i] H' L' X' hp' x H2 (by simp [hi]) (p.toX k1) k' hc (wk.yields i H' x H2 hi hgo y)
      have gt := GS.turn (N := fun σ2 H2 => m - 1 + (i + 1) = w.ds.length ∧ ∃ env L' X' hp', Post H1 L1 X1 H2 L' X' ∧ HOK X.K H2 L' X' hp' ∧ REnv X.K H2 L' X' env σ2 ∧ GS X.K CA H2 L' X' W (forL (ckOk w.ck) f (w.ds.drop (i + 1)) env hp') D)
        (F := fun env' hp' => forL (ckOk w.ck) f (w.ds.drop (i + 1)) env' hp') (gd.at p2) (fun env3 hp3 H3 L3 X3 σ3 q1 q2 q3 q4 => ⟨by omega, env3, L3, X3, hp3, (p.trans p2).trans q1, q2, q3, q4⟩)
      rw [← hf] at gt
      refine ⟨env', L', X', hp', w.ds[i], k2, r'.post k' p2, rd, (GS.thenG gt).imp fun env2 hp3 H3 L3 X3 p3 k3 g3 σ3 r3 _ => ?_⟩
      exact ⟨env2, L3, X3, hp3, k3, r3, by rw [← hf]; exact g3⟩
    · rw [if_neg hc] at gd
      exact gd.elim
  · left
    have he : i = w.ds.length := by omega
    have hdrop : w.ds.drop i = [] := List.drop_eq_nil_of_le (by omega)
    rw [hdrop] at gd
    simp only [forL] at gd
    by_cases hc : ckOk w.ck hp' = true
    · rw [if_pos hc] at gd
      subst he
      exact ⟨wk.stops H' (hG _ _ _ _ (p.toX k1) k' hc), gd _ _ _ _ Post.refl k' r'⟩
    · rw [if_neg hc] at gd
      exact gd.elim
theorem snd_whl {t : Expr} {b : List Stmt} {wf : Nat} (hpo : PassesOwn (model X.prog X.w) X.A X.env X.xe) (ht : PT X t (tT X.K CA W ft)) (hb : PSs X b (tS X.K CA W fb)) :
    PS X (.While t b [] pos) (tS X.K CA W fun env hp => whlL ft fb wf env hp) := by
  refine (ps_while hpo ht hb).imp fun D σ H ⟨env, L, Xg, hp, k, r, g⟩ => ?_
  refine ⟨fun m σ H => ∃ env L X' hp, HOK X.K H L X' hp ∧ REnv X.K H L X' env σ ∧ GS X.K CA H L X' W (whlL ft fb m env hp) D, ⟨wf, env, L, Xg, hp, k, r, g⟩, ?_⟩
  rintro m σ1 H1 ⟨env1, L1, X1, hp1, k1, r1, g1⟩
  cases m with
  | zero => exact g1.elim
  | succ m =>
    refine ⟨env1, L1, X1, hp1, k1, r1, ?_⟩
    cases q : ft env1 hp1 with
    | bad => simp only [whlL, q] at g1; exact g1.elim
    | exc x hp2 =>
      simp only [whlL, q] at g1
      exact fun c dx H' L' X' p k2 ex => g1 c dx H' L' X' σ1 p k2 (r1.post k1 p) ex
    | ok c hp2 =>
      intro H2 L2 X2 p2 k2
      have r2 := r1.post k1 p2
      cases c with
      | false =>
        simp only [whlL, q] at g1
        exact g1 H2 L2 X2 σ1 p2 k2 r2
      | true =>
        simp only [whlL, q] at g1
        refine ⟨fun σ3 H3 => ∃ env L X' hp, HOK X.K H3 L X' hp ∧ REnv X.K H3 L X' env σ3 ∧ GS X.K CA H3 L X' W (whlL ft fb m env hp) D, fun σ3 H3 hN => ⟨m, Nat.lt_succ_self m, hN⟩, env1, L2, X2, hp2, k2, r2, ?_⟩
        refine GS.turn (F := fun env' hp' => whlL ft fb m env' hp') (GS.at (o := match fb env1 hp2 with | .nx env' hp' => whlL ft fb m env' hp' | .ct env' hp' => whlL ft fb m env' hp' | .bk env' hp' => .nx env' hp' | o => o) g1 p2) ?_
        exact fun env3 hp3 H3 L3 X3 σ3 q1 q2 q3 q4 => ⟨env3, L3, X3, hp3, q2, q3, q4⟩
theorem snd_pass : PS X (.Pass pos) (tS X.K CA W fun env hp => .nx env hp) := ps_pass.imp fun D σ H ⟨env, L, Xg, hp, k, r, g⟩ => g _ _ _ _ Post.refl k r
theorem snd_brk : PS X (.Break pos) (tS X.K CA W fun env hp => .bk env hp) := ps_break.imp fun D σ H ⟨env, L, Xg, hp, k, r, g⟩ => g _ _ _ _ Post.refl k r
theorem snd_cont : PS X (.Continue pos) (tS X.K CA W fun env hp => .ct env hp) := ps_continue.imp fun D σ H ⟨env, L, Xg, hp, k, r, g⟩ => g _ _ _ _ Post.refl k r
theorem snd_nev {st : Stmt} : PS X st (tS X.K CA W fun _ _ => .bad) := ps_never.imp fun D σ H ⟨env, L, Xg, hp, k, r, g⟩ => g.elim
end
end KI

namespace KI
open PySem PySem.Spec PyProof.Rows L2
variable [LX]
/-! ## 17b. lambdas as values -/
section
variable {X : Cx} {CA : Nat → Addr} {W : WX} {pos : Pos}
theorem lam_obj {P : Program} {w : World} {H : Hp} {h : Heap} {a c : Addr} {j : Nat} {q : Str} {params : Arguments} {body : Expr} {scope : Scope} {pm ctv dv doc : Value} (e : h.get? a = some (PySem.W.kdv_obj "<lambda>" q params (.expr body) scope (cloFrom LX.CL scope.names []) dv doc pm c ctv)) (ck : LX.ck j params body scope) (hd : params.defaults = [] ↔ dv = .none) :
    ObjOk P w H h a (LamO j q a c dv) :=
  ⟨⟨params, body, scope, pm, ctv, doc, e, ck, hd⟩, ⟨_, e⟩, fun _ _ ⟨p, b, s, x, y, dc, z, k⟩ st => ⟨p, b, s, x, y, dc, st _ z, k⟩⟩
theorem Post.tblCode {H : Hp} {L Xg : List Addr} {P c : Addr} {ps qs : Array Value} {q : Str} (hP : H P = some (.tbl ps)) (hc : H c = none) : Post H L Xg (upd (upd H P (.tbl qs)) c (LamX.CodeO c q)) L Xg := by
  have at_ : ∀ b o, H b = some o → (∀ ps, o ≠ .tbl ps) → upd (upd H P (.tbl qs)) c (LamX.CodeO c q) b = some o := fun b o e n => by
    have n1 : b ≠ P := fun z => by rw [z, hP] at e; exact n ps (Option.some.inj e).symm
    rw [upd_ne (ne_of_none e hc), upd_ne n1]
    exact e
  refine ⟨⟨[], [], by simp, by simp, fun a h => h, fun a h => by simp at h⟩, fun a o e _ n => at_ a o e n, fun a xs e => at_ a _ e (fun _ z => nomatch z), fun a o u e => at_ a _ e (fun _ z => nomatch z), fun a e => ?_, fun a φ e => at_ a _ e (fun _ z => nomatch z)⟩
  by_cases h1 : a = c
  · rw [h1, upd_same]; exact fun z => nomatch z
  · rw [upd_ne h1]
    by_cases h2 : a = P
    · rw [h2, upd_same]; exact fun z => nomatch z
    · rw [upd_ne h2]; exact e
theorem HOK.of_post {K : PySem.W.Frag} {H H' : Hp} {L Xg : List Addr} {hp : HpI} (k : HOK K H L Xg hp) (p : Post H L Xg H' L Xg) (h : ∀ a ∈ L, ∀ u, MutO u → H a = some u → H' a = some u) (t : LamX.Tabs LX.T H') : HOK K H' L Xg hp := by
  refine ⟨k.nd, k.len, k.sub, fun a ha => p.live a (k.live a ha), fun n ob e => ?_, t⟩
  obtain ⟨a, e1, r⟩ := k.ob n ob e
  obtain ⟨vs, ho, h1, h2, h3⟩ := r
  exact ⟨a, e1, vs, ho, h a (List.mem_of_getElem? e1) ho h2.mut h1, h2, h3.post k p⟩
theorem lamO_ne {j : Nat} {q : Str} {a c : Addr} {dv : Value} : ∀ ps, LamO j q a c dv ≠ .tbl ps := fun ps z => nomatch z
/-- what is asked of the place where a lambda is made -/
structure LamSite (X : Cx) : Prop where
  ex : ∃ c P : Addr, LamX.TabB X.base X.mg c P ∧ X.env.code = .ref c ∧ (P, X.env.qual ++ "<lambda>") ∈ LX.T ∧ ∀ p ∈ LX.T, p.1 = P → p.2 = X.env.qual ++ "<lambda>"
theorem lam_tail {j : Nat} {params : Arguments} {body : Expr} {scope : Scope} {dv : Value} {pins : List (Addr × Obj)} {s : Shared} {σ : L2.St} {H : Hp} {L Xg : List Addr} {hp : HpI} {Q : VK} {E : Value → Shared → Prop} (S : LamSite X) (I : Inv X pins σ H s) (k : HOK X.K H L Xg hp) (hfree : ∀ y ∈ scope.names, y.2 = .free → ∃ c, X.env.cells.lookup y.1 = some c)
    (hcl : cloFrom X.env.cells scope.names [] = cloFrom LX.CL scope.names []) (ck : LX.ck j params body scope) (hdv : params.defaults = [] ↔ dv = .none) (hok : DvOk H dv)
    (g : ∀ H' L' X' v, Post H L Xg H' L' X' → HOK X.K H' L' X' hp → Rep X.K H' L' X' (.fn j) v → Q v H') :
    wpAny (model X.prog X.w) X.A (makeTail "<lambda>" (X.env.qual ++ "<lambda>") params (.expr body) scope X.env dv .none none pos pos.line) (EP X pins σ Q) E s := by
  obtain ⟨c, P, TB, hcode, hm, hu⟩ := S.ex
  obtain ⟨ps, hP, ht, ha⟩ := k.tabs _ hm
  have bP : s.heap.BuiltinsAt X.mg P := TB.bm.keeps I.bk
  have hP' : s.heap.get? P = some { cls := .none, data := .fields ps } := I.hok P _ hP
  cases hc : codeAmong pos ps.toList with
  | some cv =>
    obtain ⟨c', e, hco⟩ := ha pos cv hc
    subst e
    refine PySem.W.kdv_makeTailHit (mg := X.mg) (c := c) (P := P) (ps := ps) (closure_ok hfree) I.ok.glob (I.mod.glob.keeps I.bk) hcode (TB.code.keeps I.bk) hP' ht hc bP fun ctv doc h' tk hx hsz => ?_
    rw [hcl]
    have hn : H h'.objs.size = none := I.hok.fresh hsz
    have ob : (h'.push (PySem.W.kdv_obj "<lambda>" (X.env.qual ++ "<lambda>") params (.expr body) scope (cloFrom LX.CL scope.names []) dv doc ((X.mg "__name__").getD .none) c' ctv)).get? h'.objs.size = some (PySem.W.kdv_obj "<lambda>" (X.env.qual ++ "<lambda>") params (.expr body) scope (cloFrom LX.CL scope.names []) dv doc ((X.mg "__name__").getD .none) c' ctv) := Heap.get?_push_size _ rfl
    have J := I.laid (t' := tk) (fun b o e => Heap.get?_push_of_some _ (hx b o e)) hsz (lam_obj (P := X.prog) (w := X.w) (H := upd H h'.objs.size (LamO j (X.env.qual ++ "<lambda>") h'.objs.size c' dv)) ob ck hdv)
    refine ⟨.ref h'.objs.size, _, J, rfl, ?_⟩
    exact g _ _ _ _ (Post.new hn _) (k.new hn _) ⟨_, c', _, dv, rfl, upd_same, by rw [upd_ne (ne_of_none hco hn)]; exact hco, hok.elim .inl fun ⟨t, e, h⟩ => .inr ⟨t, e, by rw [upd_ne (ne_of_none h hn)]; exact h⟩⟩
  | none =>
    refine PySem.W.kdv_makeTail (mg := X.mg) (c := c) (P := P) (ps := ps) (closure_ok hfree) I.ok.glob (I.mod.glob.keeps I.bk) hcode (TB.code.keeps I.bk) hP' ht hc TB.gP bP fun c' ctv doc h' tk hx hge hlt hrec htb => ?_
    rw [hcl]
    obtain ⟨c2, oc, vs, t, e2, hoc, hd, hv⟩ := hrec
    cases e2
    have nC : H c' = none := I.hok.fresh hge
    have I1 := LamX.inv_table (t' := tk) (q := X.env.qual ++ "<lambda>") (more := #[rawInt pos.line, rawInt pos.col, .ref c']) (h' := h') I hP (fun b o hb e => hx b o hb e) htb hge ⟨oc, vs, t, hoc, hd, hv⟩
    have p1 : Post H L Xg _ L Xg := Post.tblCode (q := X.env.qual ++ "<lambda>") (qs := ps ++ #[rawInt pos.line, rawInt pos.col, .ref c']) hP nC
    have eL : (ps ++ #[rawInt pos.line, rawInt pos.col, .ref c']).toList = ps.toList ++ [rawInt pos.line, rawInt pos.col, .ref c'] := by simp
    have kc : ∀ b q', H b = some (LamX.CodeO b q') → upd (upd H P (.tbl (ps ++ #[rawInt pos.line, rawInt pos.col, .ref c']))) c' (LamX.CodeO c' (X.env.qual ++ "<lambda>")) b = some (LamX.CodeO b q') := fun b q' e => p1.exts b _ e
    have T1 : LamX.Tabs LX.T (upd (upd H P (.tbl (ps ++ #[rawInt pos.line, rawInt pos.col, .ref c']))) c' (LamX.CodeO c' (X.env.qual ++ "<lambda>"))) := fun p hp => by
      by_cases hb : p.1 = P
      · refine ⟨ps ++ #[rawInt pos.line, rawInt pos.col, .ref c'], by rw [hb, upd_ne (ne_of_none hP nC), upd_same], by rw [eL]; exact PySem.TriplesOk_snoc _ _ _ _ ht, fun p' cv hcv => ?_⟩
        rw [eL] at hcv
        rw [hu p hp hb]
        rcases LamX.among_app _ ht hcv with z | z
        · obtain ⟨c0, e1, e2⟩ := ha p' cv z
          exact ⟨c0, e1, kc _ _ e2⟩
        · exact ⟨c', z, upd_same⟩
      · obtain ⟨qs, a1, a2, a3⟩ := k.tabs p hp
        refine ⟨qs, by rw [upd_ne (ne_of_none a1 nC), upd_ne hb]; exact a1, a2, fun p' cv hcv => ?_⟩
        obtain ⟨c0, e1, e2⟩ := a3 p' cv hcv
        exact ⟨c0, e1, kc _ _ e2⟩
    have k1 : HOK X.K _ L Xg hp := k.of_post p1 (fun a ha u mu e => by
      rw [upd_ne (ne_of_none e nC), upd_ne (fun z => by rw [z, hP] at e; cases e; exact mu)]
      exact e) T1
    have hok1 := hok.elim (fun e => (Or.inl e : DvOk _ dv)) (fun ⟨t, e, h⟩ => .inr ⟨t, e, p1.tups _ _ h⟩)
    generalize hH : upd (upd H P (.tbl (ps ++ #[rawInt pos.line, rawInt pos.col, .ref c']))) c' (LamX.CodeO c' (X.env.qual ++ "<lambda>")) = H1 at *
    have hn : H1 h'.objs.size = none := I1.hok.fresh (Nat.le_refl _)
    have hco : H1 c' = some (LamX.CodeO c' (X.env.qual ++ "<lambda>")) := by rw [← hH, upd_same]
    have ob : (h'.push (PySem.W.kdv_obj "<lambda>" (X.env.qual ++ "<lambda>") params (.expr body) scope (cloFrom LX.CL scope.names []) dv doc ((X.mg "__name__").getD .none) c' ctv)).get? h'.objs.size = some (PySem.W.kdv_obj "<lambda>" (X.env.qual ++ "<lambda>") params (.expr body) scope (cloFrom LX.CL scope.names []) dv doc ((X.mg "__name__").getD .none) c' ctv) := Heap.get?_push_size _ rfl
    have J := I1.laid (t' := tk) (fun b o e => Heap.get?_push_of_some _ e) (Nat.le_refl _) (lam_obj (P := X.prog) (w := X.w) (H := upd H1 h'.objs.size (LamO j (X.env.qual ++ "<lambda>") h'.objs.size c' dv)) ob ck hdv)
    refine ⟨.ref h'.objs.size, _, J, rfl, ?_⟩
    exact g _ _ _ _ (p1.trans (Post.new hn _)) (k1.new hn _) ⟨_, c', _, dv, rfl, upd_same, by rw [upd_ne (ne_of_none hco hn)]; exact hco, hok1.elim .inl fun ⟨t, e, h⟩ => .inr ⟨t, e, by rw [upd_ne (ne_of_none h hn)]; exact h⟩⟩
/-- the defaults that a lambda may have: none, or a nought -/
def DfOk (params : Arguments) : Prop := params.kw_defaults = [] ∧ (params.defaults = [] ∨ ∃ k p, params.defaults = [.Constant (.int 0) k p])
theorem snd_lam {j : Nat} {params : Arguments} {body : Expr} {scope : Scope} (S : LamSite X) (hdef : DfOk params) (hfree : ∀ y ∈ scope.names, y.2 = .free → ∃ c, X.env.cells.lookup y.1 = some c)
    (hcl : cloFrom X.env.cells scope.names [] = cloFrom LX.CL scope.names []) (ck : LX.ck j params body scope) : PE X (.Lambda params body scope pos) (tE X.K CA W fun _ hp => .ok (.fn j) hp) := by
  refine ⟨fun pins s σ H Q I ⟨env, L, Xg, hp, k, r, g⟩ => ?_⟩
  obtain ⟨hk, hd⟩ := hdef
  rcases hd with hd | ⟨kk, p, hd⟩
  · refine PySem.W.kla_eval (by rw [defaultsOf_eq, hk, hd]; rfl) ?_
    rw [makeFunction_eq]
    simp only [List.zip_nil_right, List.filterMap_nil, List.isEmpty_nil, if_true, pure_bind]
    exact lam_tail S I k hfree hcl ck (by simp [hd]) (.inl rfl) fun H' L' X' v p k' r => g H' L' X' p k' v r
  · refine PySem.W.kdv_lam (by rw [hd]; rfl) hk ?_
    rw [hd]
    refine PySem.W.kdv_all1 (thn ((pe_int (X := X)).run pins s σ H (fun v H1 => v = .int 0 ∧ H1 = H) I ⟨rfl, rfl⟩) fun u s1 ⟨v, H1, I1, r1, q1⟩ => ?_)
    obtain ⟨rfl, rfl⟩ := q1
    refine PySem.W.kdv_all0 ?_
    rw [makeFunction_eq]
    simp only [List.zip_nil_right, List.filterMap_nil, List.isEmpty_nil, if_true, pure_bind, List.isEmpty_cons, Bool.false_eq_true, if_false]
    refine wpAny_bind (wpAny_newTextTuple ?_)
    have hn : H1 s1.heap.objs.size = none := I1.hok.fresh (Nat.le_refl _)
    obtain ⟨tk, rfl⟩ := r1
    have I2 : Inv X pins σ (upd H1 s1.heap.objs.size (.tup [.int 0])) { s1 with heap := s1.heap.push (PySem.W.kdv_tup [.int 0 tk]) } := by
      refine I1.laid (t' := s1.toks) (fun b o e => Heap.get?_push_of_some _ e) (Nat.le_refl _) ?_
      exact ⟨by show 1 ≤ sizeLine; decide, [.int 0 tk], .cons ⟨tk, rfl⟩ .nil, ⟨_, Heap.get?_push_size _ rfl, rfl, _, rfl⟩⟩
    exact lam_tail S I2 (k.new hn _) hfree hcl ck (by simp [hd]) (.inr ⟨_, rfl, upd_same⟩) fun H' L' X' v p k' r => g H' L' X' ((Post.new hn _).trans p) k' v r
/-- a made lambda keeps what the evaluator's cf yields -/
def LamRun (P : Program) (w : World) (K : PySem.W.Frag) (mg : Str → Option Value) (base : Heap) (CA : Nat → Addr) (cf : CF) (n nd j m : Nat) : Prop :=
  ∀ (a c : Addr) (q : Str) (dv : Value) (A : Around) (outer : List Env) (s : Shared) (H : Hp) (us : List Value) (vs : List V) (Q : VK) (E : XK), Room (2 * n + 2) A → Env0 P w K mg base A outer s H → H a = some (LamO j q a c dv) → H c = some (LamX.CodeO c q) → Vals vs us →
    spI K CA cf (nd + j) m vs H Q E → codeAny (model P w) A (.call (.ref a) ⟨us, []⟩) (CR (L2.CX P w) outer P w H s Q E) s
theorem snd_callv {cf : CF} {n nd i m : Nat} {k : Option Nat} {x : Str} {p : Pos} {es : List Expr} {fs : EnvI → HpI → Out (List D)} (LR : ∀ j, LamRun X.prog X.w X.K X.mg X.base CA cf n nd j m) (hr : Room (2 * n + 2) X.A) (tk : Takes X W) (hN : X.N[i]? = some x) (hv : visB X.env.scope x = true) (ho : okN x = true)
    (hn : es.isEmpty = false) (hp : plainEs es = true) (ha : PA X es (tA X.K CA W fs)) (hlen : ∀ env hp ds hp', fs env hp = .ok ds hp' → ds.length = m) :
    PE X (.Call (.Name x p) es [] pos) (tE X.K CA W fun env hp => match env[i]? with
      | some (some (.fn j)) => (fs env hp).bind fun ds hp => framed cf k (nd + j) ds hp
      | _ => .bad) := by
  cases es with
  | nil => simp at hn
  | cons e es =>
    simp only [plainEs, Bool.and_eq_true] at hp
    refine ⟨fun pins s σ H Q I ⟨env, L, Xg, hpp, ko, r, g⟩ => ?_⟩
    cases q : env[i]? with
    | none => simp only [q] at g; exact g.elim
    | some od =>
    cases od with
    | none => simp only [q] at g; exact g.elim
    | some d =>
    cases d with
    | fn j =>
      simp only [q] at g
      obtain ⟨v, ev, a, c, qn, dv, e1, h1, h2, _⟩ := r.get i _ q
      subst e1
      have hv' : Vis X.env.scope x := by
        unfold visB at hv
        split at hv
        · exact .inl (by assumption)
        · exact .inr (.inl (by assumption))
        · exact .inr (.inr (by assumption))
        · cases hv
      unfold okN at ho
      simp only [Bool.and_eq_true, Bool.not_eq_true'] at ho
      have fnAt : ∀ (sx : Shared) (Hx : Hp), Inv X pins σ Hx sx → Hx a = some (LamO j qn a c dv) → PySem.W.FnAt a sx.heap := fun sx Hx Ix hx => by
        obtain ⟨⟨_, _, _, _, _, _, z, _⟩, _⟩ := Ix.hok a _ hx
        exact ⟨_, _, _, _, z⟩
      have g2 : GD X.K CA H L Xg (fun c dx H' => W c dx σ H') (fs env hpp) (RQs X.K fun vs H2 => spI X.K CA cf (nd + j) m vs H2 Q (WE W σ) ∧ H2 a = some (LamO j qn a c dv) ∧ H2 c = some (LamX.CodeO c qn)) :=
        (GD.bind g).impE fun ds hp1 H2 L1 X1 eo p1 k1 g1 vs rv => ⟨framed_sp (by rw [rv.len]; exact hlen _ _ _ _ eo) k1 rv g1, p1.exts _ _ h1, p1.exts _ _ h2⟩
      refine wpAny_Call_Name_kw (thn ((pe_var (pos := p) hN hv' ho.1 ho.2).run pins s σ H (fun v H1 => v = .ref a ∧ H1 = H) I ⟨.ref a, ev, rfl, rfl⟩) fun u s1 ⟨v, H1, I1, r1, qv, qH⟩ => ?_)
      subst qv qH
      obtain rfl : u = Value.ref a := r1
      refine PySem.W.callWith_F (fnAt s1 _ I1 h1) (thn (ha.run pos pins s1 σ _ _ I1 ⟨env, L, Xg, hpp, ko, r, g2⟩) fun us s2 ⟨vs, H2, I2, rz, sp, h3, h4⟩ => ⟨fnAt s2 _ I2 h3, ?_⟩) (star_plain hp.1) (any_plain hp.2)
      refine wpAny_call (codeAny_mono (LR j a c qn dv X.A X.stack s2 H2 us vs Q (WE W σ) hr I2.env0 h3 h4 rz sp) fun r s' hq => ?_)
      cases r with
      | error e => exact passAt tk σ pins H2 s2 e s' I2 hq
      | ok fl =>
        cases fl with
        | ret u => exact I2.after hq
        | next => exact False.elim hq
        | brk => exact False.elim hq
        | cont => exact False.elim hq
    | _ => simp only [q] at g; exact g.elim
end
end KI

namespace KI
open PySem PySem.Spec PyProof.Rows L2
/-! ## 31. errors: their making, their raising -/
/-- the class over which all errors stand -/
structure KilnOk (K : PySem.W.Frag) (mg : Str → Option Value) (CK : Addr) : Prop where
  hmg : mg "KilnError" = some (.ref CK)
  ga : PySem.W.specialIn K (.ref CK) "__getattribute__" = some (some (.builtin "type.__getattribute__"))
  rd : PySem.W.readsIn K CK (.type "type") = true
  ini : PySem.W.findCls K (.ref CK) (.type "type") "__init__" = some (.val (.builtin "ValueError.__init__"))
section
variable {X : Cx} {e : Expr} {es : List Expr} {ta : TA} {p1 p2 pos : Pos} {CK : Addr}
theorem hc_line {x m : Str} {args : List Expr} {env : Env} (hl : (p2.endLine == pos.line) = true) (hform : methodCallForm (args.length + ([] : List Keyword).length) (backTo pos (starEach args env)) (backToKw pos (keywordEach [] env)) = true) :
    eval (.Call (.Attribute (.Name x p1) m p2) args [] pos) env = (do
      let ov ← eval (.Name x p1) env
      standAt p2.atName
      let (f, first) ← holding [ov] (getMethod ov m (plainOf (.Name x p1) env))
      callWith pos f first (backTo pos (starEach args env)) (backToKw pos (keywordEach [] env))) := by
  rw [arm_eval_Call]
  simp only [mcall_line hform hl]
  rfl
theorem pe_keinit (KC : KilnOk X.K X.mg CK) (hg : Gl X "KilnError") (ha : PA X (e :: es) ta) (hl : (p2.endLine == pos.line) = true)
    (hform : methodCallForm ((e :: es).length + ([] : List Keyword).length) (backTo pos (starEach (e :: es) X.env)) (backToKw pos (keywordEach [] X.env)) = true := by rfl)
    (he : starEach (e :: es) X.env = (false, eval e X.env) :: starEach es X.env := by rfl) (hpl : (backTo pos (starEach es X.env)).any (·.1) = false := by rfl) :
    PE X (.Call (.Attribute (.Name "KilnError" p1) "__init__" p2) (e :: es) [] pos) (tVeI X.K ta) := by
  refine ⟨fun pins s σ H Q I h => ?_⟩
  refine PySem.W.methodCall_KW (ld_glob I hg KC.hmg ?_ (by decide)) (hc_line hl hform)
  refine PySem.W.method_cls I.kIn KC.ga (PySem.W.cls_value I.kIn KC.rd KC.ini (by decide +kernel) ?_)
  show wpAny _ _ (callWith pos (Value.builtin "ValueError.__init__") [] (backTo pos (starEach (e :: es) X.env)) []) _ _ _
  refine PyProof.Rows.callWith_method1 (thn (ha.run pos pins _ σ H _ (I.tok _) h) fun us s1 ⟨vs, H1, I1, r1, a, C, ws, ev, hl, T, ea, q⟩ => ?_) he hpl
  subst ev
  cases r1 with
  | @cons _ u0 _ ur ra rw' =>
    obtain rfl : u0 = Value.ref a := ra
    have hlen : ur.length ≤ sizeLine := by
      rw [← Paired.length rw', sizeLine_eq]
      omega
    exact oinit_ok T I1 ea hlen fun s' J => ⟨.non, H1, J, rfl, q⟩
end
section
variable {P : Program} {w : World} {K : PySem.W.Frag} {mg : Str → Option Value} {base : Heap} {CK C f : Addr} {nm qn f1 f2 : Str} {params : Arguments} {body : List Stmt} {scope : Scope} {dV kV doc pm cdv ct oc : Value} {an od : Option Addr} {osl : Array (Option Value)}
/-- the text of an error's __init__ with one field, with two -/
def Init1 (f1 : Str) (body : List Stmt) : Prop := ∃ q1 q2 q3 q4 q5 q6 q7 q8 q9 q10 k, (q2.endLine == q5.line) = true ∧ body = [.Expr (.Call (.Attribute (.Name "KilnError" q1) "__init__" q2) [.Name "self" q3, .Constant (.str "refused") k q4] [] q5) q6, .Assign [.Attribute (.Name "self" q7) f1 q8] (.Name f1 q9) q10]
def Init2 (f1 f2 : Str) (body : List Stmt) : Prop := ∃ q1 q2 q3 q4 q5 q6 q7 q8 q9 q10 q11 q12 q13 q14 k, (q2.endLine == q5.line) = true ∧ body = [.Expr (.Call (.Attribute (.Name "KilnError" q1) "__init__" q2) [.Name "self" q3, .Constant (.str "refused") k q4] [] q5) q6, .Assign [.Attribute (.Name "self" q7) f1 q8] (.Name f1 q9) q10, .Assign [.Attribute (.Name "self" q11) f2 q12] (.Name f2 q13) q14]
theorem zip_rev1 (f1 : Str) (y : V) : ([f1].zip [y]).reverse = [(f1, y)] := rfl
theorem init1_ok (KC : KilnOk K mg CK) (T : OexC K C) (h1 : PySem.W.findIn K (.ref C) f1 = some none) (hb : Init1 f1 body) (lk : K.lookup f = some ⟨oc, od, .func (PySem.W.fnOf nm qn params body scope dV kV doc pm an cdv ct), osl⟩) (hcd : PySem.W.codeIn K cdv qn = true) (S : FnScope ["self", f1] ["self", f1] scope)
    (hg : scope.names.lookup ("KilnError" : Str) = some .globalImplicit) (v0 : Vis scope "self") (v1 : Vis scope f1) (d1 : (f1 == ("__debug__" : Str)) = false) (d2 : (f1 == ("__classdict__" : Str)) = false) :
    FnOk P w K mg base (L2.CX P w) 1 f (PySem.W.fnOf nm qn params body scope dV kV doc pm an cdv ct) ["self", f1] (spInit C [f1]) := by
  obtain ⟨q1, q2, q3, q4, q5, q6, q7, q8, q9, q10, k, hql, rfl⟩ := hb
  refine fn_of lk hcd S (fun vs H Q E q => q.1) fun A outer s H vs Q E hr hsp => ?_
  obtain ⟨hl, a, ws, rfl, ha, hq⟩ := hsp
  obtain ⟨y, rfl⟩ : ∃ y, ws = [y] := by
    match ws, hl with
    | [y], _ => exact ⟨y, rfl⟩
  refine ⟨_, pss_cons (ps_expr (pe_keinit (X := cxOf (L2.CX P w) P w K mg base ["self", f1] qn scope f cdv A outer s H E) KC hg (pa_cons (pe_var (i := 0) rfl v0) (pa_cons pe_str pa_nil)) hql)) (pss_one (ps_ost (pe_var (i := 0) rfl v0) (pe_var (i := 1) rfl v1 d1 d2))), ?_⟩
  refine ⟨.ref a, rfl, a, C, [.str "refused"], rfl, by decide, T, ha, ?_⟩
  refine ⟨y, rfl, .ref a, rfl, a, C, rfl, T, h1, .inl ⟨ha, fun dx hn hne => ?_⟩⟩
  exact hq dx _ upd_same (by rw [upd_ne hne, upd_same]; rfl) hn hne fun b hb hd => by rw [upd_ne hb, upd_ne hd]
theorem init2_ok (KC : KilnOk K mg CK) (T : OexC K C) (h1 : PySem.W.findIn K (.ref C) f1 = some none) (h2 : PySem.W.findIn K (.ref C) f2 = some none) (hb : Init2 f1 f2 body) (lk : K.lookup f = some ⟨oc, od, .func (PySem.W.fnOf nm qn params body scope dV kV doc pm an cdv ct), osl⟩) (hcd : PySem.W.codeIn K cdv qn = true) (S : FnScope ["self", f1, f2] ["self", f1, f2] scope)
    (hg : scope.names.lookup ("KilnError" : Str) = some .globalImplicit) (v0 : Vis scope "self") (v1 : Vis scope f1) (d1 : (f1 == ("__debug__" : Str)) = false) (d2 : (f1 == ("__classdict__" : Str)) = false) (v2 : Vis scope f2) (d3 : (f2 == ("__debug__" : Str)) = false) (d4 : (f2 == ("__classdict__" : Str)) = false) :
    FnOk P w K mg base (L2.CX P w) 1 f (PySem.W.fnOf nm qn params body scope dV kV doc pm an cdv ct) ["self", f1, f2] (spInit C [f1, f2]) := by
  obtain ⟨q1, q2, q3, q4, q5, q6, q7, q8, q9, q10, q11, q12, q13, q14, k, hql, rfl⟩ := hb
  refine fn_of lk hcd S (fun vs H Q E q => q.1) fun A outer s H vs Q E hr hsp => ?_
  obtain ⟨hl, a, ws, rfl, ha, hq⟩ := hsp
  obtain ⟨y, z, rfl⟩ : ∃ y z, ws = [y, z] := by
    match ws, hl with
    | [y, z], _ => exact ⟨y, z, rfl⟩
  refine ⟨_, pss_cons (ps_expr (pe_keinit (X := cxOf (L2.CX P w) P w K mg base ["self", f1, f2] qn scope f cdv A outer s H E) KC hg (pa_cons (pe_var (i := 0) rfl v0) (pa_cons pe_str pa_nil)) hql)) (pss_cons (ps_ost (pe_var (i := 0) rfl v0) (pe_var (i := 1) rfl v1 d1 d2)) (pss_one (ps_ost (pe_var (i := 0) rfl v0) (pe_var (i := 2) rfl v2 d3 d4)))), ?_⟩
  refine ⟨.ref a, rfl, a, C, [.str "refused"], rfl, by decide, T, ha, ?_⟩
  refine ⟨y, rfl, .ref a, rfl, a, C, rfl, T, h1, .inl ⟨ha, fun dx hn hne => ?_⟩⟩
  refine ⟨z, rfl, .ref a, rfl, a, C, rfl, T, h2, .inr ⟨dx, [(f1, y)], upd_same, by rw [upd_ne hne, upd_same], by show 1 ≤ 900; decide, ?_⟩⟩
  exact hq dx _ (by rw [upd_ne (Ne.symm hne), upd_same]) (by rw [upd_same]; rfl) hn hne fun b hb hd => by rw [upd_ne hd, upd_ne hb, upd_ne hd]
end
variable [LX]
section
variable {X : Cx} {CA : Nat → Addr} {W : WX} {pos p p2 p3 : Pos} {x : Str} {cl n : Nat} {fs : List Str}
theorem snd_raise0 {m : Str} {m' : Str} {j : Nat} (ok : ExcOk X.prog X.w X.K X.mg X.base (CA cl) x []) (hc : X.calm = true) (tk : Takes X W) (hg : Gl X x) (hdb : (x == ("__debug__" : Str)) = false) :
    PS X (.Raise (some (.Call (.Name x p) [.Constant (.str m) j p2] [] p3)) none pos) (tS X.K CA W fun env hp => (Out.ok [D.str m'] hp).thenS env fun ds hp => if ds.length = ([] : List Str).length ∨ ([] : List Str) = [] then .exc ⟨cl, (([] : List Str).zip ds).reverse⟩ env hp else .bad) := by
  obtain ⟨B, newId, initId, bmB, F, q⟩ := ok.own rfl
  refine (ps_raise hc tk (pmk_own F q ok.hmg ok.kC (raises_own ok.ex ok.ty) hg hdb)).imp fun D σ H ⟨env, L, Xg, hp, k, r, g⟩ => ?_
  exact g _ _ _ _ _ _ Post.refl k r ⟨rfl, .inl ⟨rfl, rfl⟩⟩
theorem rfs_zip {K : PySem.W.Frag} {H : Hp} {L Xg : List Addr} : ∀ {l : List (Str × D)} {m : List (Str × V)}, l.map (·.1) = m.map (·.1) → Reps K H L Xg (l.map (·.2)) (m.map (·.2)) → RFs K H L Xg l m
  | [], [], _, _ => fun f => trivial
  | (a, d) :: l, (b, v) :: m, h, r => fun f => by
    simp only [List.map_cons, List.cons.injEq] at h
    obtain ⟨rfl, h2⟩ := h
    obtain ⟨v', r', e, r1, r2⟩ := r
    simp only [List.map_cons, List.cons.injEq] at e
    obtain ⟨rfl, rfl⟩ := e
    have ih := rfs_zip h2 r2 f
    rw [List.lookup_cons, List.lookup_cons]
    cases hf : f == a with
    | true => exact r1
    | false => exact ih
  | [], _ :: _, h, _ => by simp at h
  | _ :: _, [], h, _ => by simp at h
theorem Reps.rev {K : PySem.W.Frag} {H : Hp} {L Xg : List Addr} : ∀ {ds : List D} {vs : List V}, Reps K H L Xg ds vs → Reps K H L Xg ds.reverse vs.reverse
  | [], vs, h => by rw [show vs = [] from h]; exact rfl
  | d :: ds, vs, ⟨v, r, e, h1, h2⟩ => by
    rw [e, List.reverse_cons, List.reverse_cons]
    exact (Reps.rev h2).app (.cons h1 rfl)
theorem snd_raise1 {e : Expr} {es : List Expr} {fe : EnvI → HpI → Out (List D)} (ok : ExcOk X.prog X.w X.K X.mg X.base (CA cl) x fs) (hf : fs ≠ []) (hc : X.calm = true) (tk : Takes X W) (hr : Room 2 X.A) (hg : Gl X x) (hdb : (x == ("__debug__" : Str)) = false) (hp : plainEs (e :: es) = true)
    (ha : PA X (e :: es) (tA X.K CA W fe)) (hlen : (e :: es).length = fs.length) (hle : ∀ env hp ds hp', fe env hp = .ok ds hp' → ds.length = (e :: es).length) (hl9 : fs.length ≤ 900) :
    PS X (.Raise (some (.Call (.Name x p) (e :: es) [] p3)) none pos) (tS X.K CA W fun env hp => (fe env hp).thenS env fun ds hp => if ds.length = fs.length ∨ fs = [] then .exc ⟨cl, (fs.zip ds).reverse⟩ env hp else .bad) := by
  obtain ⟨T, fI, fd, ps, iC, tI, hb, F1⟩ := ok.ini hf
  simp only [plainEs, Bool.and_eq_true] at hp
  refine (ps_raise hc tk (pmk_oex T iC tI F1 hr hb .nil (fun pins σ H s u s' I z => ?_) hg ok.hmg ha hdb (star_plain hp.1) (any_plain hp.2))).imp fun D σ H ⟨env, L, Xg, hp, k, r, g⟩ => ?_
  · exact (tk u s' (XE.of_call I (fun _ _ _ h => h.elim) z))
  · refine ⟨env, L, Xg, hp, k, r, (GS.thenS g k r).impE fun ds hp1 H1 L1 X1 eo p1 k1 g1 vs rv => ?_⟩
    have hd : ds.length = fs.length := (hle _ _ _ _ eo).trans hlen
    rw [if_pos (.inl hd)] at g1
    have hvl : vs.length = fs.length := by rw [rv.len]; exact hd
    refine ⟨by omega, fun a hn => ⟨by simp; omega, a, vs ++ [], rfl, upd_same, fun dx H2 e1 e2 e3 e4 e5 => ⟨rfl, dx, _, e1, e2, ?_, ?_⟩⟩⟩
    · rw [upd_ne e4] at e3; exact e3
    · have hnd : H1 dx = none := by rw [upd_ne e4] at e3; exact e3
      have eH : upd (del H2 a) dx (.xd (fs.zip (vs ++ [])).reverse) = upd H1 dx (.xd (fs.zip (vs ++ [])).reverse) := by
        funext b
        by_cases hb1 : b = dx
        · rw [hb1, upd_same, upd_same]
        · rw [upd_ne hb1, upd_ne hb1]
          by_cases hb2 : b = a
          · rw [hb2, del_same, hn]
          · rw [del_ne hb2, e5 b hb2 hb1, upd_ne hb2]
      rw [eH]
      have pz : Post H1 L1 X1 (upd H1 dx (.xd (fs.zip (vs ++ [])).reverse)) L1 X1 := Post.new hnd _
      refine g1 _ _ _ _ _ _ pz (k1.new hnd _) ((r.post k p1).post k1 pz) ⟨rfl, .inr ⟨dx, _, rfl, upd_same, k1.notX hnd, ?_⟩⟩
      have rz := rv.post k1 pz
      rw [List.append_nil] at rz ⊢
      refine rfs_zip ?_ ?_
      · rw [List.map_reverse, List.map_reverse, List.map_fst_zip (by omega), List.map_fst_zip (by omega)]
      · rw [List.map_reverse, List.map_reverse, List.map_snd_zip (by omega), List.map_snd_zip (by omega)]
        exact rz.rev
end
end KI

namespace KI
open PySem PySem.Spec PyProof.Rows L2
/-! ## 32. what a law's _law_kind does behind except -/
section
variable {X : Cx}
/-! ### bools in a list: count, index -/
theorem hold_bls : ∀ {bs : List Bool} {us : List Value} {h : Heap}, Vals (bs.map V.bl) us → PySem.W.HoldAll h us bs
  | [], _, _, .nil => ⟨[], .nil⟩
  | b :: bs, _, h, .cons r t => by
    obtain ⟨as, z⟩ := hold_bls (h := h) t
    cases r
    exact ⟨_, .cons (Reads.bool b) z⟩
theorem mt_count (hu : X.A.units + 64 < cLine) : MtR X "list.count" (fun x xs H Q => ∃ (l : Addr) (bs : List Bool) (b : Bool), x = .ref l ∧ xs = [.bl b] ∧ H l = some (.lst (bs.map V.bl)) ∧ Q (.int ((bs.countP fun y => decide (y = b) : Nat) : Int)) H) := by
  intro pins s σ H x xs v us Q I rx rs h
  obtain ⟨l, bs, b, rfl, rfl, hl, q⟩ := h
  cases rx
  cases rs with
  | cons r1 r2 =>
    cases r2
    cases r1
    obtain ⟨hz, its, n, rv, ho⟩ := I.hok l _ hl
    refine PySem.W.count_list_datum (vs := its.toArray) ⟨_, ho, rfl, n, rfl⟩ (by simpa using hold_bls rv) ⟨_, Reads.bool b⟩ (by show X.A.units + 1 + 0 < _; omega) ⟨.int ((bs.countP fun y => decide (y = b) : Nat) : Int), H, I.tok _, ⟨_, rfl⟩, q⟩
theorem mt_index (hu : X.A.units + 64 < cLine) : MtR X "list.index" (fun x xs H Q => ∃ (l : Addr) (bs : List Bool) (b : Bool), x = .ref l ∧ xs = [.bl b] ∧ H l = some (.lst (bs.map V.bl)) ∧ b ∈ bs ∧ Q (.int ((bs.idxOf b : Nat) : Int)) H) := by
  intro pins s σ H x xs v us Q I rx rs h
  obtain ⟨l, bs, b, rfl, rfl, hl, hb, q⟩ := h
  cases rx
  cases rs with
  | cons r1 r2 =>
    cases r2
    cases r1
    obtain ⟨hz, its, n, rv, ho⟩ := I.hok l _ hl
    refine PySem.W.index_list_datum (vs := its) ⟨_, ho, rfl, n, rfl⟩ (hold_bls rv) ⟨_, Reads.bool b⟩ (by show X.A.units + 1 + 0 < _; omega) (by simpa using hz) hb ⟨.int ((bs.idxOf b : Nat) : Int), H, I.tok _, ⟨_, rfl⟩, q⟩
end
end KI
namespace PySem.W
open PySem PySem.Spec PySem.Calls PyProof.Rows
section
variable {prog : Program} {w : World} {A : Around} {E : Value → Shared → Prop} {s : Shared} {K : Frag} {x D : Addr} {ox : Obj} {od : Option Obj}
/-! ### isinstance of a caught error that may have fields -/
theorem ki_findObj {C : Addr} {name : Str} {a g : Value} (hc : (clsIn K C).isSome = true) (ha : findIn K (.ref C) name = some (some a)) (hg : specialIn K a "__get__" = some (some g)) (ht : takesIn K a = some true) : findObj K C od name = some (.bind g a) := by
  obtain ⟨cd, hc⟩ := Option.isSome_iff_exists.mp hc
  unfold findObj
  rw [hc, Option.bind_some, ha, Option.bind_some]
  simp [hg, ht]
theorem ki_classE {Q : Option Value → Shared → Prop} (hga : findIn K (.ref D) "__getattribute__" = some (some (.builtin "BaseException.__getattribute__"))) (hgt : findIn K (.ref D) "__getattr__" = some none) (hsub : subIn K (.ref D) (.type "BaseException") = some true)
    (hdct : hasDictIn K D = true) (ha : findIn K (.ref D) "__class__" = some (some (.builtin "object.__class__")))
    (hn : specialIn K (.builtin "object.__class__") "__get__" = some (some (.builtin "getset_descriptor.__get__"))) (htk : takesIn K (.builtin "object.__class__") = some true) (hm : mroIn K D (.type "object") = some true)
    (X : K.In s.heap) (I : InstAt s.heap x ox D od) (h : Q (some (.ref D)) { s with toks := s.toks + 1 }) : wpAny (model prog w) A (getAttr? (.ref x) "__class__") Q E s := by
  have hf : findObj K D od "__class__" = some (.bind (.builtin "getset_descriptor.__get__") (.builtin "object.__class__")) := ki_findObj (by obtain ⟨cd, hc, _⟩ := any_some hdct; rw [hc]; rfl) ha hn htk
  obtain ⟨hp, g, d, t, os⟩ := s
  have L0 := I.type (M := model prog w)
  have L1 := looks_findIn (M := model prog w) X hga
  have L2 := looks_findIn (M := model prog w) X hgt
  have L3 := looks_find (M := model prog w) X I hf
  have sub : Looks (model prog w) hp (isInstance (.ref x) (.type "BaseException")) true := L0.andThen (looks_subIn X hsub)
  have hx0 : (false && onTheHeap (Value.builtin "BaseException.__getattribute__")) = false := rfl
  have hx2 : (Value.builtin "BaseException.__getattribute__" == Value.builtin "object.__getattribute__") = false := by decide +kernel
  have hx1 : (onTheHeap (Value.ref D) && Value.builtin "BaseException.__getattribute__" == Value.builtin "object.__getattribute__") = false := by rw [hx2]; rfl
  unfold getAttr? getAttrBy? getAttrBy
  refine wpAny_bind (wpAny_mkText (wpAny_bind (wpAny_attempt (wpAny_holding (wpAny_bind (L0.at (wpAny_bind (L1.at ?_))))))))
  show wpAny _ _ (if (onTheHeap (Value.ref D) && Value.builtin "BaseException.__getattribute__" == Value.builtin "object.__getattribute__") = true then _ else _) _ _ _
  rw [hx1, if_neg Bool.false_ne_true]
  unfold getAttrByItsOwn hookBefore
  refine wpAny_bind ?_
  rw [if_pos (show onTheHeap (Value.ref D) = true from rfl)]
  refine L2.at ?_
  refine wpAny_bind (wpAny_attempt (wpAny_holding ?_))
  unfold callGetattribute
  rw [hx0, if_neg Bool.false_ne_true]
  unfold boundAndCalled
  rw [PySem.F.excAttr_ValueError.ga.bind (.ref x)]
  refine wpAny_bind (wpAny_pure ?_)
  show wpAny _ _ (call (.builtin "BaseException.__getattribute__") [.ref x, .str "__class__" t]) _ _ _
  refine wpAny_call (codeAny_call_builtin PySem.F.excAttr_ValueError.ga.plain PySem.F.entry_bexc_ga ?_)
  refine @check_slot (model prog w) _ _ ⟨hp, g, d, t + 1, os⟩ "BaseException.__getattribute__" "BaseException" "__getattribute__" (.ref x) [.str "__class__" t] [] _ (by decide +kernel) (by decide +kernel) sub (PySem.F.args_bexc_ga (.ref x) (.str "__class__" t)) ?_
  unfold Builtin.«object.__getattribute__»
  refine wpAny_bind (wpAny_of_eq (a := ((Value.ref x : Value), [Value.str "__class__" t])) (by first | rfl | (simp only [slotArgs]; rfl)) ?_)
  refine wpAny_bind (wpAny_pure (wpAny_bind (L0.at (wpAny_bind (L3.at ?_)))))
  show wpAny _ _ (holding [Value.builtin "object.__class__"] (call (.builtin "getset_descriptor.__get__") [.builtin "object.__class__", .ref x, .ref D]) >>= ret) _ _ _
  refine wpAny_bind (wpAny_holding (wpAny_call (class_get (s := ⟨hp, g, d, t + 1, os⟩) (ox := ox) (od := od) X I hm ?_)))
  refine wpAny_pure ?_
  show wpAny _ _ (handedOut (.ref D)) _ _ _
  rw [handedOut_of (v := .ref D) rfl]
  first
    | exact wpAny_pure (wpAny_pure h)
    | exact wpAny_pure h
    | exact wpAny_pure (wpAny_bind (wpAny_pure (wpAny_pure h)))
theorem ki_kitx (hga : findIn K (.ref D) "__getattribute__" = some (some (.builtin "BaseException.__getattribute__"))) (hgt : findIn K (.ref D) "__getattr__" = some none) (hsub : subIn K (.ref D) (.type "BaseException") = some true) (hdct : hasDictIn K D = true) (ha : findIn K (.ref D) "__class__" = some (some (.builtin "object.__class__")))
    (hn : specialIn K (.builtin "object.__class__") "__get__" = some (some (.builtin "getset_descriptor.__get__"))) (htk : takesIn K (.builtin "object.__class__") = some true) (hm : mroIn K D (.type "object") = some true) :
    KitX K (.ref x) (.ref D) (fun h => InstAt h x ox D od) where
  ty := fun _ _ _ I => I.type
  it := fun _ _ X _ => by
    obtain ⟨cdD, hcD, _⟩ := any_some hdct
    unfold clsIn at hcD
    split at hcD
    · rename_i c' d' cd' sl' ho
      intro A' Q' E' s' k q
      unfold isType loadHead
      exact wpAny_bind (wpAny_loadPart (k _ _ (X _ _ ho)) (wpAny_pure q))
    · cases hcD
  ne := fun h tp dd its n sl X htp => by
    obtain ⟨cdD, hcD, _⟩ := any_some hdct
    refine Bool.eq_false_iff.mpr fun q => ?_
    have e : D = tp := Value.ref.inj (beq_iff_eq.mp q)
    subst e
    unfold clsIn at hcD
    split at hcD
    · rename_i c' d' cd' sl' ho
      have z := (X _ _ ho).symm.trans htp
      cases z
    · cases hcD
  ca := fun X I k => ki_classE hga hgt hsub hdct ha hn htk hm X I k
end
end PySem.W
namespace KI
open PySem PySem.Spec PyProof.Rows L2
def rIsD (K : PySem.W.Frag) (D a : Addr) (d : Option Addr) : List V → Hp → VK → Prop := fun xs H Q => ∃ (c : V) (cv : Value) (b : Bool), xs = [.ref a, c] ∧ (∀ u, RelV c u → u = cv) ∧ PySem.W.kitOne K (.ref D) cv = some b ∧ (d = none ∨ ∃ dd fv, d = some dd ∧ H dd = some (.xd fv)) ∧ Q (.bl b) H
theorem call_isD {X : Cx} {a D : Addr} {d : Option Addr} {oe : Obj} {pn : List (Addr × Obj)} (C : ExcC X.K D) (hz : Zc (.ref D) d oe) (hf : ∃ vs, oe.data = .fields vs) : CallR (X.suite a ((a, oe) :: pn)) (.builtin "isinstance") (rIsD X.K D a d) := by
  intro pins s σ H xs us Q I r h
  obtain ⟨c, cv, b, rfl, hcv, e, hd, q⟩ := h
  cases r with
  | cons rx rr =>
    cases rr with
    | cons rt rr =>
      cases rr
      cases rx
      have ec := hcv _ rt
      subst ec
      obtain ⟨hget, _⟩ := I.pin (a, oe) (List.mem_append.mpr (.inl List.mem_cons_self))
      obtain ⟨vs, hv⟩ := hf
      have J : ∃ od, PySem.W.InstAt s.heap a oe D od := by
        rcases hd with rfl | ⟨dd, fv, rfl, hx⟩
        · exact ⟨none, hget, hz.1, by unfold PySem.W.notCls; rw [hv] <;> rfl, by rw [hz.2]; trivial⟩
        · obtain ⟨mA, ⟨o, es, ep, ho, hr⟩, _⟩ := I.hok dd _ hx
          exact ⟨some o, hget, hz.1, by unfold PySem.W.notCls; rw [hv] <;> rfl, by rw [hz.2]; exact ho⟩
      obtain ⟨od, J⟩ := J
      exact PySem.W.kia_one (PySem.W.ki_kitx C.hg C.hk C.hs C.hd C.ha C.hn C.ht C.hm) I.kIn J e (fun z => nomatch z) fun tk => ⟨.bl b, H, I.kept (t' := tk) fun _ _ z => z, rfl, q⟩
end KI

namespace KI
open PySem PySem.Spec PyProof.Rows L2
/-! ## 33. the suite of _law_kind -/
abbrev eIs (y : Str) (q1 q2 q3 q4 : Pos) : Expr := .Call (.Name "isinstance" q1) [.Name "e" q2, .Name y q3] [] q4
/-- the classes' names, a blank between -/
def kindWords : Str := (exNames.drop 1).foldl (fun s t => s ++ (" " : Str) ++ t) "BadGoods"
/-- the text of the suite, its places left open -/
inductive KSuite : List Stmt → Prop where
  | mk (q1 q2 q3 q4 q5 q6 q7 q8 q9 q10 q11 q12 q13 q14 q15 q16 q17 q18 q19 q20 q21 q22 q23 q24 q25 q26 q27 q28 q29 q30 q31 q32 q33 q34 q35 q36 q37 q38 q39 q40 q41 q42 q43 q44 q45 q46 q47 q48 q49 q50 q51 q52 q53 q54 q55 q56 q57 q58 q59 q60 q61 q62 q63 q64 q65 q66 q67 q68 q69 q70 q71 q72 q73 q74 q75 q76 q77 q78 q79 q80 q81 q82 q83 q84 q85 q86 q87 q88 q89 q90 q91 q92 q93 q94 q95 q96 q97 q98 q99 q100 q101 q102 q103 q104 q105 q106 q107 q108 q109 q110 q111 q112 q113 q114 q115 q116 q117 q118 q119 q120 q121 q122 q123 q124 q125 q126 q127 q128 q129 q130 q131 q132 : Pos) (w : Str) (h0 : (q66.endLine == q68.line) = true) (h1 : (q82.endLine == q84.line) = true) (h2 : (q86.endLine == q88.line) = true) (hw : w = kindWords) : KSuite
  [.Assign [.Name "_law_kinds" q1] (.List [eIs "BadGoods" q2 q3 q4 q5, eIs "BadKiln" q6 q7 q8 q9, eIs "BadFiring" q10 q11 q12 q13, eIs "BadPots" q14 q15 q16 q17] q18) q19,
   .Assign [.Name "_law_kinds" q20] (.BinOp (.Name "_law_kinds" q21) .Add (.List [eIs "BadCount" q22 q23 q24 q25, eIs "BadLoad" q26 q27 q28 q29, eIs "NoPot" q30 q31 q32 q33, eIs "NoClay" q34 q35 q36 q37] q38) q39) q40,
   .Assign [.Name "_law_kinds" q41] (.BinOp (.Name "_law_kinds" q42) .Add (.List [eIs "NoGlaze" q43 q44 q45 q46, eIs "BadDay" q47 q48 q49 q50, eIs "BadDeed" q51 q52 q53 q54, eIs "BadText" q55 q56 q57 q58] q59) q60) q61,
   .Assign [.Name "_law_words" q62] (.Constant (.str w) 0 q63) q64,
   .If (.BoolOp .Or [.Compare (.Call (.Attribute (.Name "_law_kinds" q65) "count" q66) [.Constant (.bool true) 0 q67] [] q68) [.NotEq] [.Constant (.int 1) 0 q69] q70, .UnaryOp .Not (eIs "ValueError" q71 q72 q73 q74) q75] q76) [.Return (some (.Constant (.str "other") 0 q77)) q78] [] q79,
   .Assign [.Name "_law_word" q80] (.Subscript (.Call (.Attribute (.Name "_law_words" q81) "split" q82) [.Constant (.str " ") 0 q83] [] q84) (.Call (.Attribute (.Name "_law_kinds" q85) "index" q86) [.Constant (.bool true) 0 q87] [] q88) q89) q90,
   .If (.Compare (.Name "_law_word" q91) [.Eq] [.Constant (.str "BadGoods") 0 q92] q93) [.Return (some (.Tuple [.Name "_law_word" q94, .Attribute (.Name "e" q95) "part" q96, .Attribute (.Name "e" q97) "number" q98] 0 q99)) q100] [] q101,
   .If (.Compare (.Name "_law_word" q102) [.In] [.Tuple [.Constant (.str "BadFiring") 0 q103, .Constant (.str "BadPots") 0 q104, .Constant (.str "BadDeed") 0 q105] 0 q106] q107) [.Return (some (.Tuple [.Name "_law_word" q108, .Attribute (.Name "e" q109) "number" q110] 0 q111)) q112] [] q113,
   .If (.Compare (.Name "_law_word" q114) [.Eq] [.Constant (.str "BadLoad") 0 q115] q116) [.Return (some (.Tuple [.Name "_law_word" q117, .Attribute (.Name "e" q118) "word" q119] 0 q120)) q121] [] q122,
   .Return (some (.IfExp (.Compare (.Name "_law_word" q123) [.Eq] [.Constant (.str "BadText") 0 q124] q125) (.Tuple [.Name "_law_word" q126, .Attribute (.Name "e" q127) "row" q128] 0 q129) (.Name "_law_word" q130) q131)) q132]
/-- what is known of the errors' classes -/
structure KindFx (K : PySem.W.Frag) (mg : Str → Option Value) (CA : Nat → Addr) (CK : Addr) : Prop where
  hmg : ∀ (i : Nat) (nm : Str), exNames[i]? = some nm → mg nm = some (.ref (CA i))
  hCK : mg "KilnError" = some (.ref CK)
  ex : ∀ i < 12, PySem.W.exmOne K (.ref (CA i)) (.ref CK) = some true
  one : ∀ i < 12, ∀ j < 12, PySem.W.kitOne K (.ref (CA i)) (.ref (CA j)) = some (decide (i = j))
  ve : ∀ i < 12, PySem.W.kitOne K (.ref (CA i)) (.type "ValueError") = some true
  exc : ∀ i < 12, ExcC K (CA i)
  xf : ∀ i < 12, XfC K (CA i)
  fld : ∀ i < 12, ∀ f ∈ (["part", "number", "word", "row"] : List Str), PySem.W.findIn K (.ref (CA i)) f = some none
  bI : mg "isinstance" = none
  bV : mg "ValueError" = none
/-- the names of _law_kind -/
structure KSc (a0 : Str) (N : List Str) (sc : Scope) : Prop where
  hN : N = [a0, "e", "_law_kinds", "_law_words", "_law_word"]
  nd : N.Nodup
  loc : ∀ y ∈ N, sc.names.lookup y = some .local
  gl : ∀ y ∈ ((["isinstance", "ValueError", "KilnError"] : List Str) ++ exNames), sc.names.lookup y = some .globalImplicit
def DX (d : Option Addr) (H : Hp) : Prop := d = none ∨ ∃ dd fv, d = some dd ∧ H dd = some (.xd fv)
def ExtH (H H' : Hp) : Prop := ∀ b o, H b = some o → H' b = some o
theorem ExtH.upd {H : Hp} {p : Addr} {o : HO} (h : H p = none) : ExtH H (upd H p o) := fun b u e => by rw [upd_ne (ne_of_none e h)]; exact e
theorem ExtH.trans {H H1 H2 : Hp} (a : ExtH H H1) (b : ExtH H1 H2) : ExtH H H2 := fun c o h => b c o (a c o h)
theorem ExtH.refl {H : Hp} : ExtH H H := fun _ _ h => h
theorem DX.ext {d : Option Addr} {H H' : Hp} (h : DX d H) (e : ExtH H H') : DX d H' := h.elim .inl fun ⟨dd, fv, a, b⟩ => .inr ⟨dd, fv, a, e _ _ b⟩
variable [LX]
section
variable {X : Cx} {a : Addr} {oe : Obj} {pn : List (Addr × Obj)} {CA : Nat → Addr} {CK : Addr} {i : Nat} {d : Option Addr} {a0 : Str}
theorem pe_isE {y : Str} {j : Nat} {q1 q2 q3 q4 : Pos} (F : KindFx X.K X.mg CA CK) (S : KSc a0 X.N X.env.scope) (hi : i < 12) (hz : Zc (.ref (CA i)) d oe) (hf : ∃ vs, oe.data = .fields vs) (hj : exNames[j]? = some y) (hj2 : j < 12) (hy : y ∈ exNames) (hd : (y == ("__debug__" : Str)) = false := by decide) :
    PE (X.suite a ((a, oe) :: pn)) (eIs y q1 q2 q3 q4) (fun σ H Q => σ[1]? = some (some (.ref a)) ∧ DX d H ∧ Q (.bl (decide (i = j))) H) := by
  have hN : (X.suite a ((a, oe) :: pn)).N[1]? = some ("e" : Str) := by show X.N[1]? = _; rw [S.hN]; rfl
  have hl : X.env.scope.names.lookup ("e" : Str) = some NameKind.local := S.loc "e" (by rw [S.hN]; simp)
  have gI : Gl (X.suite a ((a, oe) :: pn)) "isinstance" := S.gl "isinstance" (by simp)
  have gy : Gl (X.suite a ((a, oe) :: pn)) y := S.gl y (List.mem_append_right _ hy)
  refine (pe_callB (call_isD (F.exc i hi) hz hf) gI F.bI rfl (pa_cons (pe_var (i := 1) hN (.inl hl)) (pa_cons (pe_glob (v := V.ref (CA j)) gy (F.hmg j y hj) rfl hd) pa_nil))).imp fun σ H Q ⟨h1, h2, q⟩ => ?_
  exact ⟨.ref a, h1, .ref (CA j), .ref (CA j), decide (i = j), rfl, fun u r => r, F.one i hi j hj2, h2, q⟩
theorem pe_isV {q1 q2 q3 q4 : Pos} (F : KindFx X.K X.mg CA CK) (S : KSc a0 X.N X.env.scope) (hi : i < 12) (hz : Zc (.ref (CA i)) d oe) (hf : ∃ vs, oe.data = .fields vs) :
    PE (X.suite a ((a, oe) :: pn)) (eIs "ValueError" q1 q2 q3 q4) (fun σ H Q => σ[1]? = some (some (.ref a)) ∧ DX d H ∧ Q (.bl true) H) := by
  have hN : (X.suite a ((a, oe) :: pn)).N[1]? = some ("e" : Str) := by show X.N[1]? = _; rw [S.hN]; rfl
  have hl : X.env.scope.names.lookup ("e" : Str) = some NameKind.local := S.loc "e" (by rw [S.hN]; simp)
  have gI : Gl (X.suite a ((a, oe) :: pn)) "isinstance" := S.gl "isinstance" (by simp)
  have gy : Gl (X.suite a ((a, oe) :: pn)) "ValueError" := S.gl "ValueError" (by simp)
  refine (pe_callB (call_isD (F.exc i hi) hz hf) gI F.bI rfl (pa_cons (pe_var (i := 1) hN (.inl hl)) (pa_cons (pe_bltn (v := .ty "ValueError") gy F.bV rfl rfl) pa_nil))).imp fun σ H Q ⟨h1, h2, q⟩ => ?_
  exact ⟨.ref a, h1, .ty "ValueError", .type "ValueError", true, rfl, fun u r => r, F.ve i hi, h2, q⟩
def b4 (i k : Nat) : List Bool := [decide (i = k), decide (i = k + 1), decide (i = k + 2), decide (i = k + 3)]
theorem pe_four {k : Nat} {y0 y1 y2 y3 : Str} {a1 a2 a3 a4 b1 b2 b3 b4' c1 c2 c3 c4 d1 d2 d3 d4 q : Pos} (F : KindFx X.K X.mg CA CK) (S : KSc a0 X.N X.env.scope) (hi : i < 12) (hz : Zc (.ref (CA i)) d oe) (hf : ∃ vs, oe.data = .fields vs) (hk : k + 4 ≤ 12)
    (h0 : exNames[k]? = some y0) (h1 : exNames[k + 1]? = some y1) (h2 : exNames[k + 2]? = some y2) (h3 : exNames[k + 3]? = some y3)
    (g0 : (y0 == ("__debug__" : Str)) = false := by decide) (g1 : (y1 == ("__debug__" : Str)) = false := by decide) (g2 : (y2 == ("__debug__" : Str)) = false := by decide) (g3 : (y3 == ("__debug__" : Str)) = false := by decide) :
    PE (X.suite a ((a, oe) :: pn)) (.List [eIs y0 a1 a2 a3 a4, eIs y1 b1 b2 b3 b4', eIs y2 c1 c2 c3 c4, eIs y3 d1 d2 d3 d4] q)
      (fun σ H Q => σ[1]? = some (some (.ref a)) ∧ DX d H ∧ ∀ p, H p = none → Q (.ref p) (upd H p (.lst ((b4 i k).map V.bl)))) := by
  refine (pe_lst (pa_cons (pe_isE F S hi hz hf h0 (by omega) (List.mem_of_getElem? h0) g0) (pa_cons (pe_isE F S hi hz hf h1 (by omega) (List.mem_of_getElem? h1) g1) (pa_cons (pe_isE F S hi hz hf h2 (by omega) (List.mem_of_getElem? h2) g2) (pa_cons (pe_isE F S hi hz hf h3 (by omega) (List.mem_of_getElem? h3) g3) pa_nil))))).imp fun σ H Q ⟨e1, e2, q⟩ => ?_
  exact ⟨e1, e2, e1, e2, e1, e2, e1, e2, by show 4 ≤ sizeLine; decide, q⟩
/-- what is told of an error with the fields fv: a text, a tuple -/
def kindV (i : Nat) (fv : List (Str × V)) : Option (Str ⊕ List V) :=
  if i = 0 then match fv.lookup ("part" : Str), fv.lookup ("number" : Str) with
    | some p, some n => some (.inr [.str "BadGoods", p, n])
    | _, _ => none
  else if i = 2 ∨ i = 3 ∨ i = 10 then match fv.lookup ("number" : Str), exNames[i]? with
    | some n, some s => some (.inr [.str s, n])
    | _, _ => none
  else if i = 5 then match fv.lookup ("word" : Str) with
    | some n => some (.inr [.str "BadLoad", n])
    | _ => none
  else if i = 11 then match fv.lookup ("row" : Str) with
    | some n => some (.inr [.str "BadText", n])
    | _ => none
  else (exNames[i]?).map .inl
/-- kinds, words, word told -/
theorem exn_get {i : Nat} (hi : i < 12) : ∃ w, exNames[i]? = some w := ⟨exNames[i]'hi, List.getElem?_eq_getElem hi⟩
theorem split_words : Txt.split kindWords (" " : Str) = exNames := by decide +kernel
theorem cnt_one : ∀ i < 12, (b4 i 0 ++ b4 i 4 ++ b4 i 8).countP (fun y => decide (y = true)) = 1 := by decide
theorem idx_one : ∀ i < 12, (b4 i 0 ++ b4 i 4 ++ b4 i 8).idxOf true = i := by decide
theorem mem_one : ∀ i < 12, true ∈ (b4 i 0 ++ b4 i 4 ++ b4 i 8) := by decide
theorem pe_fld {cls : Value} {f : Str} {q1 q2 : Pos} (F : KindFx X.K X.mg CA CK) (S : KSc a0 X.N X.env.scope) (hi : i < 12) (hz : Zc (.ref (CA i)) d oe) (hf : ∃ vs, oe.data = .fields vs) (hm : f ∈ (["part", "number", "word", "row"] : List Str)) :
    PE (X.suite a ((a, oe) :: pn)) (.Attribute (.Name "e" q1) f q2) (fun σ H Q => σ[1]? = some (some (.ref a)) ∧ ∃ (dd : Addr) (fs : List (Str × V)) (v : V), d = some dd ∧ H dd = some (.xd fs) ∧ fs.lookup f = some v ∧ Q v H) := by
  have hN : (X.suite a ((a, oe) :: pn)).N[1]? = some ("e" : Str) := by show X.N[1]? = _; rw [S.hN]; rfl
  have hl : X.env.scope.names.lookup ("e" : Str) = some NameKind.local := S.loc "e" (by rw [S.hN]; simp)
  refine (pe_xf (F.xf i hi) (F.fld i hi f hm) hz hf (pe_var (i := 1) hN (.inl hl))).imp fun σ H Q ⟨h1, dd, fs, v, e1, e2, e3, q⟩ => ?_
  exact ⟨.ref a, h1, rfl, rfl, dd, fs, v, e1, e2, e3, q⟩
end
end KI

namespace KI
open PySem PySem.Spec PyProof.Rows L2
variable [LX]
section
variable {X : Cx} {a : Addr} {oe : Obj} {pn : List (Addr × Obj)} {CA : Nat → Addr} {CK : Addr} {i : Nat} {d : Option Addr} {a0 : Str}
theorem KSc.n2 (S : KSc a0 X.N X.env.scope) : (X.suite a ((a, oe) :: pn)).N[2]? = some ("_law_kinds" : Str) := by show X.N[2]? = _; rw [S.hN]; rfl
theorem KSc.n3 (S : KSc a0 X.N X.env.scope) : (X.suite a ((a, oe) :: pn)).N[3]? = some ("_law_words" : Str) := by show X.N[3]? = _; rw [S.hN]; rfl
theorem KSc.n4 (S : KSc a0 X.N X.env.scope) : (X.suite a ((a, oe) :: pn)).N[4]? = some ("_law_word" : Str) := by show X.N[4]? = _; rw [S.hN]; rfl
theorem KSc.l2 (S : KSc a0 X.N X.env.scope) : X.env.scope.names.lookup ("_law_kinds" : Str) = some NameKind.local := S.loc ("_law_kinds" : Str) (by rw [S.hN]; simp)
theorem KSc.l3 (S : KSc a0 X.N X.env.scope) : X.env.scope.names.lookup ("_law_words" : Str) = some NameKind.local := S.loc ("_law_words" : Str) (by rw [S.hN]; simp)
theorem KSc.l4 (S : KSc a0 X.N X.env.scope) : X.env.scope.names.lookup ("_law_word" : Str) = some NameKind.local := S.loc ("_law_word" : Str) (by rw [S.hN]; simp)
theorem vk (S : KSc a0 X.N X.env.scope) {p : Pos} : PE (X.suite a ((a, oe) :: pn)) (.Name "_law_kinds" p) (tVar 2) := pe_var (i := 2) S.n2 (.inl S.l2)
theorem vs (S : KSc a0 X.N X.env.scope) {p : Pos} : PE (X.suite a ((a, oe) :: pn)) (.Name "_law_words" p) (tVar 3) := pe_var (i := 3) S.n3 (.inl S.l3)
theorem vw (S : KSc a0 X.N X.env.scope) {p : Pos} : PE (X.suite a ((a, oe) :: pn)) (.Name "_law_word" p) (tVar 4) := pe_var (i := 4) S.n4 (.inl S.l4)
/-- the first kinds -/
def tK1 (i : Nat) (a : Addr) (d : Option Addr) : TS := fun D σ H => ∃ x0 x2 x3 x4, σ = [x0, some (.ref a), x2, x3, x4] ∧ DX d H ∧ ∀ H' p, ExtH H H' → H' p = some (.lst ((b4 i 0).map V.bl)) → D.nx [x0, some (.ref a), some (.ref p), x3, x4] H'
theorem k1 {e : Expr} {p q : Pos} (S : KSc a0 X.N X.env.scope) (h : PE (X.suite a ((a, oe) :: pn)) e (fun σ H Q => σ[1]? = some (some (.ref a)) ∧ DX d H ∧ ∀ p, H p = none → Q (.ref p) (upd H p (.lst ((b4 i 0).map V.bl)))))
    (hs : swapsWith e (some (.Name "_law_kinds" p)) q.line X.env = pure false) : PS (X.suite a ((a, oe) :: pn)) (.Assign [.Name "_law_kinds" p] e q) (tK1 i a d) := by
  refine (ps_set (X := X.suite a ((a, oe) :: pn)) (i := 2) S.nd S.n2 (.inl S.l2) h hs (.inr S.l2)).imp fun D σ H ⟨x0, x2, x3, x4, e1, e2, q⟩ => ?_
  subst e1
  exact ⟨rfl, e2, fun p hn => q _ p (ExtH.upd hn) upd_same⟩
def tK2 (i k : Nat) (bs : List Bool) (a : Addr) (d : Option Addr) : TS := fun D σ H => ∃ x0 l x3 x4, σ = [x0, some (.ref a), some (.ref l), x3, x4] ∧ H l = some (.lst (bs.map V.bl)) ∧ DX d H ∧ ∀ H' p, ExtH H H' → H' p = some (.lst ((bs ++ b4 i k).map V.bl)) → D.nx [x0, some (.ref a), some (.ref p), x3, x4] H'
theorem k2 {e : Expr} {p p1 p2 q : Pos} {k : Nat} {bs : List Bool} (S : KSc a0 X.N X.env.scope) (hb : bs.length ≤ 100) (h : PE (X.suite a ((a, oe) :: pn)) e (fun σ H Q => σ[1]? = some (some (.ref a)) ∧ DX d H ∧ ∀ p, H p = none → Q (.ref p) (upd H p (.lst ((b4 i k).map V.bl))))) :
    PS (X.suite a ((a, oe) :: pn)) (.Assign [.Name "_law_kinds" p] (.BinOp (.Name "_law_kinds" p1) .Add e p2) q) (tK2 i k bs a d) := by
  refine (ps_set (X := X.suite a ((a, oe) :: pn)) (i := 2) S.nd S.n2 (.inl S.l2) (pe_op op_cat (vk S) h) rfl (.inr S.l2)).imp fun D σ H ⟨x0, l, x3, x4, e1, e2, e3, q⟩ => ?_
  subst e1
  refine ⟨.ref l, rfl, rfl, e3, fun p hn => ⟨l, p, bs.map V.bl, (b4 i k).map V.bl, rfl, rfl, ExtH.upd hn _ _ e2, upd_same, ?_, fun p' hn' => ?_⟩⟩
  · simp only [List.length_map]
    exact Nat.le_trans (Nat.add_le_add_right hb 4) (by decide)
  · exact q _ p' ((ExtH.upd hn).trans (ExtH.upd hn')) (by rw [upd_same, List.map_append])
theorem k4 {w : Str} {p q r : Pos} {k : Nat} (S : KSc a0 X.N X.env.scope) : PS (X.suite a ((a, oe) :: pn)) (.Assign [.Name "_law_words" p] (.Constant (.str w) k q) r) (fun D σ H => D.nx (σ.set 3 (some (.str w))) H) :=
  (ps_set (X := X.suite a ((a, oe) :: pn)) (i := 3) S.nd S.n3 (.inl S.l3) pe_str rfl (.inr S.l3)).imp fun D σ H q => q

def tK5 (bs : List Bool) (a : Addr) (d : Option Addr) : TS := fun D σ H => ∃ x0 l x3 x4, σ = [x0, some (.ref a), some (.ref l), x3, x4] ∧ H l = some (.lst (bs.map V.bl)) ∧ bs.countP (fun y => decide (y = true)) = 1 ∧ DX d H ∧ D.nx σ H
theorem k5 {q1 q2 q3 q4 q5 q6 q7 q8 q9 q10 q11 q12 q13 q14 q15 : Pos} {bs : List Bool} {k1 k2 k3 : Nat} {w : Str} (F : KindFx X.K X.mg CA CK) (S : KSc a0 X.N X.env.scope) (hi : i < 12) (hz : Zc (.ref (CA i)) d oe) (hf : ∃ vs, oe.data = .fields vs) (hu : X.A.units + 64 < cLine) (hl : (q2.endLine == q4.line) = true) :
    PS (X.suite a ((a, oe) :: pn)) (.If (.BoolOp .Or [.Compare (.Call (.Attribute (.Name "_law_kinds" q1) "count" q2) [.Constant (.bool true) k1 q3] [] q4) [.NotEq] [.Constant (.int 1) k2 q5] q6, .UnaryOp .Not (eIs "ValueError" q7 q8 q9 q10) q11] q12) [.Return (some (.Constant (.str w) k3 q13)) q14] [] q15) (tK5 bs a d) := by
  have hu' : (X.suite a ((a, oe) :: pn)).A.units + 64 < cLine := hu
  have c1 : PE (X.suite a ((a, oe) :: pn)) (.Call (.Attribute (.Name "_law_kinds" q1) "count" q2) [.Constant (.bool true) k1 q3] [] q4) _ := pe_bm PySem.F.plainAttrs_list PySem.F.slot_list_count PySem.F.type_list_count (mt_count hu') (vk S) (pa_cons pe_bl pa_nil) rfl rfl hl
  refine (ps_if (pw_or (pt_cmp (pc_neI c1 pe_int)) (pw_or1 (pt_not (pt_val (pe_isV F S hi hz hf))))).pt (pss_one (ps_ret pe_str)) pss_nil).imp fun D σ H ⟨x0, l, x3, x4, e1, e2, e3, e4, q⟩ => ?_
  subst e1
  refine ⟨.ref l, rfl, .inl ⟨rfl, _, .inl (.inl e2)⟩, l, bs, true, rfl, rfl, e2, 1, 1, ?_, rfl, false, rfl, ?_⟩
  · rw [e3]; rfl
  · dsimp only
    rw [if_neg Bool.false_ne_true]
    refine ⟨rfl, e4, true, rfl, ?_⟩
    dsimp only
    rw [if_neg (by decide)]
    exact q
def tK6 (bs : List Bool) (j : Nat) (w : Str) (a : Addr) : TS := fun D σ H => ∃ x0 l x4, σ = [x0, some (.ref a), some (.ref l), some (.str kindWords), x4] ∧ H l = some (.lst (bs.map V.bl)) ∧ true ∈ bs ∧ bs.idxOf true = j ∧ exNames[j]? = some w ∧ ∀ H', ExtH H H' → D.nx [x0, some (.ref a), some (.ref l), some (.str kindWords), some (.str w)] H'
theorem k6 {q1 q2 q3 q4 q5 q6 q7 q8 q9 q10 q11 : Pos} {k1 k2 : Nat} {bs : List Bool} {j : Nat} {w : Str} (S : KSc a0 X.N X.env.scope) (hu : X.A.units + 64 < cLine) (hl1 : (q3.endLine == q5.line) = true) (hl2 : (q7.endLine == q9.line) = true) :
    PS (X.suite a ((a, oe) :: pn)) (.Assign [.Name "_law_word" q1] (.Subscript (.Call (.Attribute (.Name "_law_words" q2) "split" q3) [.Constant (.str " ") k1 q4] [] q5) (.Call (.Attribute (.Name "_law_kinds" q6) "index" q7) [.Constant (.bool true) k2 q8] [] q9) q10) q11) (tK6 bs j w a) := by
  have hu' : (X.suite a ((a, oe) :: pn)).A.units + 64 < cLine := hu
  have c1 : PE (X.suite a ((a, oe) :: pn)) (.Call (.Attribute (.Name "_law_kinds" q6) "index" q7) [.Constant (.bool true) k2 q8] [] q9) _ := pe_bm PySem.F.plainAttrs_list PySem.F.slot_list_index PySem.F.type_list_index (mt_index hu') (vk S) (pa_cons pe_bl pa_nil) rfl rfl hl2
  have c2 : PE (X.suite a ((a, oe) :: pn)) (.Call (.Attribute (.Name "_law_words" q2) "split" q3) [.Constant (.str " ") k1 q4] [] q5) _ := pe_split (vs S) pe_str rfl rfl hl1
  refine (ps_set (X := X.suite a ((a, oe) :: pn)) (i := 4) S.nd S.n4 (.inl S.l4) (pe_ix ix_seq c2 c1 (by intro o i; rfl)) rfl (.inr S.l4)).imp fun D σ H ⟨x0, l, x4, e1, e2, e3, e4, e5, q⟩ => ?_
  subst e1
  refine ⟨.str kindWords, rfl, ⟨_, rfl⟩, kindWords, " ", rfl, rfl, by decide +kernel, by decide +kernel, fun p hn => ?_⟩
  have e2' := ExtH.upd (o := .lst ((Txt.split kindWords (" " : Str)).map V.str)) hn _ _ e2
  refine ⟨.ref l, rfl, .inl ⟨rfl, _, .inl (.inl e2')⟩, l, bs, true, rfl, rfl, e2', e3, .inl ⟨p, (Txt.split kindWords (" " : Str)).map V.str, ((bs.idxOf true : Nat) : Int), .str w, rfl, rfl, .inl (.inl upd_same), ?_, ?_⟩⟩
  · rw [split_words, e4]
    exact L2.atI_nat (by rw [List.getElem?_map, e5]; rfl)
  · exact q _ (ExtH.upd hn)

theorem k7 {q1 q2 q3 q4 q5 q6 : Pos} {k1 k2 : Nat} {c w : Str} {es : List Expr} {ta : TA} (S : KSc a0 X.N X.env.scope) (h : PA (X.suite a ((a, oe) :: pn)) es ta) :
    PS (X.suite a ((a, oe) :: pn)) (.If (.Compare (.Name "_law_word" q1) [.Eq] [.Constant (.str c) k1 q2] q3) [.Return (some (.Tuple es k2 q4)) q5] [] q6)
      (fun D σ H => σ[4]? = some (some (.str w)) ∧ if w = c then ta σ H (fun vs H1 => vs.length ≤ sizeLine ∧ ∀ p, H1 p = none → D.rt (.ref p) (upd H1 p (.tup vs))) else D.nx σ H) := by
  refine (ps_if (pt_cmpR op_eq (vw S) pe_str rfl) (pss_one (ps_ret (pe_tup h))) pss_nil).imp fun D σ H ⟨e1, q⟩ => ?_
  refine ⟨.str w, e1, rfl, decide (w = c), ?_, ?_⟩
  · congr 1
    exact decide_eq_decide.mpr ⟨fun e => V.str.inj e, fun e => by rw [e]⟩
  · dsimp only
    by_cases hw : w = c
    · rw [if_pos hw] at q
      rw [if_pos (decide_eq_true hw)]
      exact q
    · rw [if_neg hw] at q
      rw [if_neg (by rw [decide_eq_false hw]; exact Bool.false_ne_true)]
      exact q
theorem k8 {q1 q2 q3 q4 q5 q6 q7 q8 q9 : Pos} {k0 k1 k2 k3 k4 : Nat} {c1 c2 c3 w : Str} {es : List Expr} {ta : TA} (S : KSc a0 X.N X.env.scope) (h : PA (X.suite a ((a, oe) :: pn)) es ta) :
    PS (X.suite a ((a, oe) :: pn)) (.If (.Compare (.Name "_law_word" q1) [.In] [.Tuple [.Constant (.str c1) k1 q2, .Constant (.str c2) k2 q3, .Constant (.str c3) k3 q4] k0 q5] q6) [.Return (some (.Tuple es k4 q7)) q8] [] q9)
      (fun D σ H => σ[4]? = some (some (.str w)) ∧ ∀ H', ExtH H H' → if c1 = w ∨ c2 = w ∨ c3 = w then ta σ H' (fun vs H1 => vs.length ≤ sizeLine ∧ ∀ p, H1 p = none → D.rt (.ref p) (upd H1 p (.tup vs))) else D.nx σ H') := by
  refine (ps_if (pt_cmpR op_in_seq (vw S) (pe_tup (pa_cons pe_str (pa_cons pe_str (pa_cons pe_str pa_nil)))) rfl) (pss_one (ps_ret (pe_tup h))) pss_nil).imp fun D σ H ⟨e1, q⟩ => ?_
  refine ⟨.str w, e1, by show 3 ≤ sizeLine; decide, fun p hn => ⟨p, [.str c1, .str c2, .str c3], rfl, .inr (.inl (.inl upd_same)), rfl, rfl, decide (c1 = w ∨ c2 = w ∨ c3 = w), ?_, ?_⟩⟩
  · congr 1
    show inV (.str w) [.str c1, .str c2, .str c3] = _
    rw [Bool.eq_iff_iff]
    simp [inV, eqV, List.any]
  · have q := q _ (ExtH.upd (o := .tup [.str c1, .str c2, .str c3]) hn)
    dsimp only
    by_cases hw : c1 = w ∨ c2 = w ∨ c3 = w
    · rw [if_pos hw] at q
      rw [if_pos (decide_eq_true hw)]
      exact q
    · rw [if_neg hw] at q
      rw [if_neg (by rw [decide_eq_false hw]; exact Bool.false_ne_true)]
      exact q
theorem k10 {q1 q2 q3 q4 q5 q6 q7 : Pos} {k1 k2 : Nat} {c w : Str} {es : List Expr} {ta : TA} (S : KSc a0 X.N X.env.scope) (h : PA (X.suite a ((a, oe) :: pn)) es ta) :
    PS (X.suite a ((a, oe) :: pn)) (.Return (some (.IfExp (.Compare (.Name "_law_word" q1) [.Eq] [.Constant (.str c) k1 q2] q3) (.Tuple es k2 q4) (.Name "_law_word" q5) q6)) q7)
      (fun D σ H => σ[4]? = some (some (.str w)) ∧ if w = c then ta σ H (fun vs H1 => vs.length ≤ sizeLine ∧ ∀ p, H1 p = none → D.rt (.ref p) (upd H1 p (.tup vs))) else D.rt (.str w) H) := by
  refine (ps_ret (pe_ifExp (pt_cmpR op_eq (vw S) pe_str rfl) (pe_tup h) (vw S))).imp fun D σ H ⟨e1, q⟩ => ?_
  refine ⟨.str w, e1, rfl, decide (w = c), ?_, ?_⟩
  · congr 1
    exact decide_eq_decide.mpr ⟨fun e => V.str.inj e, fun e => by rw [e]⟩
  · dsimp only
    by_cases hw : w = c
    · rw [if_pos hw] at q
      rw [if_pos (decide_eq_true hw)]
      exact q
    · rw [if_neg hw] at q
      rw [if_neg (by rw [decide_eq_false hw]; exact Bool.false_ne_true)]
      exact ⟨.str w, e1, q⟩
theorem wG : ∀ i < 12, (exNames[i]? = some ("BadGoods" : Str)) ↔ (i = 0) := by decide +kernel
theorem wN : ∀ i < 12, ((some ("BadFiring" : Str) = exNames[i]?) ∨ (some ("BadPots" : Str) = exNames[i]?) ∨ (some ("BadDeed" : Str) = exNames[i]?)) ↔ (i = 2 ∨ i = 3 ∨ i = 10) := by decide +kernel
theorem wL : ∀ i < 12, (exNames[i]? = some ("BadLoad" : Str)) ↔ (i = 5) := by decide +kernel
theorem wT : ∀ i < 12, (exNames[i]? = some ("BadText" : Str)) ↔ (i = 11) := by decide +kernel
end
end KI

namespace KI
open PySem PySem.Spec PyProof.Rows L2
variable [LX]
section
variable {X : Cx} {a : Addr} {oe : Obj} {pn : List (Addr × Obj)} {CA : Nat → Addr} {CK : Addr} {i : Nat} {d : Option Addr} {a0 : Str}
theorem suite_ok {ss : List Stmt} (F : KindFx X.K X.mg CA CK) (S : KSc a0 X.N X.env.scope) (hi : i < 12) (hz : Zc (.ref (CA i)) d oe) (hf : ∃ vs, oe.data = .fields vs) (hu : X.A.units + 64 < cLine) (hb : KSuite ss) :
    ∃ t, PSs (X.suite a ((a, oe) :: pn)) ss t ∧ ∀ (D : Ends) (x0 x2 x3 x4 : Option V) (H : Hp) (fv : List (Str × V)), ((d = none ∧ fv = []) ∨ ∃ dd, d = some dd ∧ H dd = some (.xd fv)) →
      (∀ H', ExtH H H' →
        match kindV i fv with
        | some (.inl s) => D.rt (.str s) H'
        | some (.inr vs) => ∀ p, H' p = none → D.rt (.ref p) (upd H' p (.tup vs))
        | none => False) →
      t D [x0, some (.ref a), x2, x3, x4] H := by
  cases hb with
  | mk q1 q2 q3 q4 q5 q6 q7 q8 q9 q10 q11 q12 q13 q14 q15 q16 q17 q18 q19 q20 q21 q22 q23 q24 q25 q26 q27 q28 q29 q30 q31 q32 q33 q34 q35 q36 q37 q38 q39 q40 q41 q42 q43 q44 q45 q46 q47 q48 q49 q50 q51 q52 q53 q54 q55 q56 q57 q58 q59 q60 q61 q62 q63 q64 q65 q66 q67 q68 q69 q70 q71 q72 q73 q74 q75 q76 q77 q78 q79 q80 q81 q82 q83 q84 q85 q86 q87 q88 q89 q90 q91 q92 q93 q94 q95 q96 q97 q98 q99 q100 q101 q102 q103 q104 q105 q106 q107 q108 q109 q110 q111 q112 q113 q114 q115 q116 q117 q118 q119 q120 q121 q122 q123 q124 q125 q126 q127 q128 q129 q130 q131 q132 w0 hl1 hl2 hl3 hw0 =>
  subst hw0
  obtain ⟨w, hw⟩ := exn_get hi
  have fld : ∀ {f : Str} {p1 p2 : Pos}, f ∈ (["part", "number", "word", "row"] : List Str) → _ := fun {f p1 p2} hm => pe_fld (cls := .none) (f := f) (q1 := p1) (q2 := p2) (pn := pn) F S hi hz hf (a := a) hm
  refine ⟨_,
    pss_cons (k1 (i := i) (d := d) S (pe_four (k := 0) F S hi hz hf (by decide) rfl rfl rfl rfl) rfl)
    (pss_cons (k2 (i := i) (d := d) (k := 4) (bs := b4 i 0) S (by show 4 ≤ 100; decide) (pe_four (k := 4) F S hi hz hf (by decide) rfl rfl rfl rfl))
    (pss_cons (k2 (i := i) (d := d) (k := 8) (bs := b4 i 0 ++ b4 i 4) S (by show 8 ≤ 100; decide) (pe_four (k := 8) F S hi hz hf (by decide) rfl rfl rfl rfl))
    (pss_cons (k4 S)
    (pss_cons (k5 (d := d) (bs := b4 i 0 ++ b4 i 4 ++ b4 i 8) F S hi hz hf hu hl1)
    (pss_cons (k6 (bs := b4 i 0 ++ b4 i 4 ++ b4 i 8) (j := i) (w := w) S hu hl2 hl3)
    (pss_cons (k7 (w := w) S (pa_cons (vw S) (pa_cons (fld (by simp)) (pa_cons (fld (by simp)) pa_nil))))
    (pss_cons (k8 (w := w) S (pa_cons (vw S) (pa_cons (fld (by simp)) pa_nil)))
    (pss_cons (k7 (w := w) S (pa_cons (vw S) (pa_cons (fld (by simp)) pa_nil)))
    (pss_one (k10 (w := w) S (pa_cons (vw S) (pa_cons (fld (by simp)) pa_nil)))))))))))), ?_⟩
  intro D x0 x2 x3 x4 H fv hd hq
  have dx : DX d H := hd.elim (fun h => .inl h.1) fun ⟨dd, e, h⟩ => .inr ⟨dd, fv, e, h⟩
  have fl : ∀ {f : Str} {v : V}, fv.lookup f = some v → ∃ dd, d = some dd ∧ H dd = some (.xd fv) := fun {f v} hl => by
    rcases hd with ⟨_, rfl⟩ | h
    · cases hl
    · exact h
  have two : (2 : Nat) ≤ sizeLine := by decide
  have three : (3 : Nat) ≤ sizeLine := by decide
  refine ⟨x0, x2, x3, x4, rfl, dx, fun H1 p1 e1 h1 => ?_⟩
  refine ⟨x0, p1, x3, x4, rfl, h1, dx.ext e1, fun H2 p2 e2 h2 => ?_⟩
  have e2 := e1.trans e2
  refine ⟨x0, p2, x3, x4, rfl, h2, dx.ext e2, fun H3 p3 e3 h3 => ?_⟩
  have e3 := e2.trans e3
  refine ⟨x0, p3, some (.str kindWords), x4, rfl, h3, cnt_one i hi, dx.ext e3, ?_⟩
  refine ⟨x0, p3, x4, rfl, h3, mem_one i hi, idx_one i hi, hw, fun H4 e4 => ?_⟩
  have e4 := e3.trans e4
  have cG := wG i hi
  have cN := wN i hi
  have cL := wL i hi
  have cT := wT i hi
  rw [hw] at cG cN cL cT
  simp only [Option.some.injEq] at cG cN cL cT
  refine ⟨rfl, ?_⟩
  by_cases g : i = 0
  · rw [if_pos (cG.mpr g)]
    have hq := hq H4 e4
    unfold kindV at hq
    rw [if_pos g] at hq
    have ew := cG.mpr g
    subst ew
    cases q1 : fv.lookup ("part" : Str) with
    | none => simp only [q1] at hq
    | some v1 =>
      cases q2 : fv.lookup ("number" : Str) with
      | none => simp only [q1, q2] at hq
      | some v2 =>
        simp only [q1, q2] at hq
        obtain ⟨dd, z1, z2⟩ := fl q1
        exact ⟨_, rfl, rfl, dd, fv, v1, z1, e4 _ _ z2, q1, rfl, dd, fv, v2, z1, e4 _ _ z2, q2, three, hq⟩
  rw [if_neg fun z => g (cG.mp z)]
  refine ⟨rfl, fun H5 e5 => ?_⟩
  have e5 := e4.trans e5
  have hq5 := hq H5 e5
  unfold kindV at hq5
  rw [if_neg g] at hq5
  by_cases n : i = 2 ∨ i = 3 ∨ i = 10
  · rw [if_pos (cN.mpr n)]
    rw [if_pos n] at hq5
    cases q1 : fv.lookup ("number" : Str) with
    | none => simp only [q1] at hq5
    | some v1 =>
      simp only [q1, hw] at hq5
      obtain ⟨dd, z1, z2⟩ := fl q1
      exact ⟨_, rfl, rfl, dd, fv, v1, z1, e5 _ _ z2, q1, two, hq5⟩
  rw [if_neg fun z => n (cN.mp z)]
  rw [if_neg n] at hq5
  refine ⟨rfl, ?_⟩
  by_cases l : i = 5
  · rw [if_pos (cL.mpr l)]
    rw [if_pos l] at hq5
    have ew := cL.mpr l
    subst ew
    cases q1 : fv.lookup ("word" : Str) with
    | none => simp only [q1] at hq5
    | some v1 =>
      simp only [q1] at hq5
      obtain ⟨dd, z1, z2⟩ := fl q1
      exact ⟨_, rfl, rfl, dd, fv, v1, z1, e5 _ _ z2, q1, two, hq5⟩
  rw [if_neg fun z => l (cL.mp z)]
  rw [if_neg l] at hq5
  refine ⟨rfl, ?_⟩
  by_cases t : i = 11
  · rw [if_pos (cT.mpr t)]
    rw [if_pos t] at hq5
    have ew := cT.mpr t
    subst ew
    cases q1 : fv.lookup ("row" : Str) with
    | none => simp only [q1] at hq5
    | some v1 =>
      simp only [q1] at hq5
      obtain ⟨dd, z1, z2⟩ := fl q1
      exact ⟨_, rfl, rfl, dd, fv, v1, z1, e5 _ _ z2, q1, two, hq5⟩
  rw [if_neg fun z => t (cT.mp z)]
  rw [if_neg t] at hq5
  simp only [hw, Option.map_some] at hq5
  exact hq5
end
end KI

namespace KI
open PySem PySem.Spec PyProof.Rows L2
/-! ## 34. lambdas that capture: their frames, their runs -/
theorem _root_.L2.Room.two {k : Nat} {A : Around} (r : Room (k + 1) A) (e1 e2 : Env) : Room k ((A.deeper e1).deeper e2) :=
  ⟨r.hd, by have := r.dp; show A.depth + 1 + 1 + 3 * k + 5 < _; omega, by have := r.un; show A.units + 3 + 3 + 16 * k + 200 < _; omega⟩
/-- the names of such a lambda: sc is its creator's scope, N the creator's slots -/
structure CapS (N : List Str) (sc scope : Scope) : Prop where
  kind : scope.kind = .function
  co : scope.isCoroutine = false
  gen : scope.isGenerator = false
  nocell : ∀ y ∈ scope.names, y.2 ≠ .cell
  loc : ∀ y ∈ scope.names, y.2 = .local → y.1 ∉ N
  free : ∀ y ∈ scope.names, y.2 = .free → sc.names.lookup y.1 = some .cell ∨ sc.names.lookup y.1 = some .free
def capSB (N : List Str) (sc scope : Scope) : Bool :=
  decide (scope.kind = .function) && !scope.isCoroutine && !scope.isGenerator && scope.names.all fun y => !decide (y.2 = .cell) && (!decide (y.2 = .local) || !decide (y.1 ∈ N)) && (!decide (y.2 = .free) || decide (sc.names.lookup y.1 = some .cell) || decide (sc.names.lookup y.1 = some .free))
theorem capS_by {N : List Str} {sc scope : Scope} (h : capSB N sc scope = true) : CapS N sc scope := by
  unfold capSB at h
  simp only [Bool.and_eq_true, Bool.or_eq_true, Bool.not_eq_true', decide_eq_true_eq, decide_eq_false_iff_not, List.all_eq_true] at h
  obtain ⟨⟨⟨h1, h2⟩, h3⟩, h4⟩ := h
  refine ⟨h1, h2, h3, fun y hy => (h4 y hy).1.1, fun y hy e => (h4 y hy).1.2.elim (fun z => absurd e z) id, fun y hy e => ?_⟩
  rcases (h4 y hy).2 with (z | z) | z
  · exact absurd e z
  · exact .inl z
  · exact .inr z
theorem CapS.has {N : List Str} {X : Cx} {scope : Scope} (L : CapS N X.env.scope scope) (ok : X.Ok) : ∀ y ∈ scope.names, y.2 = .free → ∃ c, X.env.cells.lookup y.1 = some c := fun y hy e => by
  rcases L.free y hy e with k | k
  · exact ok.has _ (.inl k)
  · exact ok.has _ (.inr k)
abbrev capEnv (X : Cx) (q : Str) (scope : Scope) (L f c' : Addr) : Env := PySem.W.envX q scope L f (.ref c') (cloFrom X.env.cells scope.names [])
/-- the context of such a lambda's body -/
def capCx (X : Cx) (A : Around) (outer : List Env) (s : Shared) (H : Hp) (E : XK) (q : Str) (scope : Scope) (f c' : Addr) : Cx where
  prog := X.prog
  w := X.w
  K := X.K
  mg := X.mg
  base := X.base
  A := A.deeper (capEnv X q scope s.heap.objs.size f c')
  N := X.N
  s_0 := s
  H_0 := H
  env := capEnv X q scope s.heap.objs.size f c'
  outer := outer
  stack := capEnv X q scope s.heap.objs.size f c' :: outer
  ex := []
  fn := fun _ => false
  calm := true
  pn := []
  xe := fun e s' => wpAny (model X.prog X.w) (A.deeper (capEnv X q scope s.heap.objs.size f c')) (leaving (capEnv X q scope s.heap.objs.size f c') e) (fun _ s'' => L2.CX X.prog X.w outer H s E e s'') (fun e' s'' => L2.CX X.prog X.w outer H s E e' s'') s'
section
variable {X : Cx} {pins : List (Addr × Obj)} {σ : L2.St} {H HZ : Hp} {s s1 : Shared}
theorem cap_start {ex : List Addr} {A : Around} {outer : List Env} {E : XK} {q : Str} {scope : Scope} {f c' : Addr} {h₁ : Heap} {tk : Nat} {m : Str → Option Value} (I : Inv X pins σ H s) (L : CapS X.N X.env.scope scope) (e0 : Env0 X.prog X.w X.K X.mg X.base A outer s1 HZ) (hd : A.handled = none)
    (un : Un (frs X.stack) ex H HZ s.heap s1.heap) (nc : ∀ b ∈ ex, ∀ x c, X.env.cells.lookup x = some c → c ≠ b) (hns : h₁.Ns s1.heap.objs.size m) (kp : ∀ b o, s1.heap.get? b = some o → h₁.get? b = some o) :
    Inv (capCx X A outer s1 HZ E q scope f c') [] σ HZ { s1 with heap := h₁, toks := tk } := by
  have hfree := L.has I.ok
  have cm : ∀ {y c}, (cloFrom X.env.cells scope.names []).lookup y = some c → X.env.cells.lookup y = some c := fun {y c} e => by
    rcases cloFrom_mem (PySem.mem_of_lookup e) with hm | ⟨h1, h2⟩
    · cases hm
    · obtain ⟨c1, hc⟩ := hfree _ h1 rfl
      have hc : X.env.cells.lookup y = some c1 := hc
      have e2 : c = c1 := by
        rw [h2, hc] <;> rfl
      rw [e2]
      exact hc
  have look : ∀ {y}, scope.names.lookup y = some .free → ∃ c, (cloFrom X.env.cells scope.names []).lookup y = some c := fun {y} hl => by
    have hy : (y, NameKind.free) ∈ scope.names := PySem.mem_of_lookup hl
    exact mem_lookup (cloFrom_has (cells := X.env.cells) (acc := []) hy)
  have cellK : ∀ {y : Str} {c : Addr} {v : Option Value}, X.env.cells.lookup y = some c → H c = none → s.heap.IsCell c v → h₁.IsCell c v := fun {y c v} hy n ⟨o, ho, hd⟩ => by
    obtain ⟨sl, q⟩ := un.any ho n (fun z => nc c z y c hy rfl)
    exact ⟨_, kp _ _ q, hd⟩
  have noA : ∀ b : Addr, b ∉ (capCx X A outer s1 HZ E q scope f c').ex := fun b z => absurd (show b ∈ ([] : List Addr) from z) (by simp)
  refine ⟨⟨e0.mod, L.kind, rfl, rfl, Nat.le_refl _, fun y z c e1 e2 => I.ok.inj y z c (cm e1) (cm e2), fun y hy => ?_, fun y c z _ => ?_, fun _ => hd, Around.frames_deeper e0.frames, .inr ⟨rfl, rfl⟩, fun b z => absurd z (noA b), e0.bs, e0.bsz, fun b _ _ => noA b,
      fun b z => absurd z (noA b), e0.funs, e0.frf⟩,
    rfl, e0.bare, Un.kept kp, ⟨_, hns, fun i y v e1 e2 e3 => ?_⟩, fun y c e => ?_, e0.hok.fresh (Nat.le_refl _), fun y c e => ?_, fun q hq => absurd (show q ∈ ([] : List (Addr × Obj)) ++ [] from hq) (by simp), e0.hok.kept kp, I.len⟩
  · have hy : scope.names.lookup y = some .cell ∨ scope.names.lookup y = some .free := hy
    rcases hy with hy | hy
    · exact absurd rfl (L.nocell _ (PySem.mem_of_lookup hy))
    · exact look hy
  · have z : false = true := z
    cases z
  · have e3 : Vis scope y := e3
    rcases e3 with k | k | k
    · exact absurd (List.mem_of_getElem? e1) (L.loc _ (PySem.mem_of_lookup k) rfl)
    · exact absurd rfl (L.nocell _ (PySem.mem_of_lookup k))
    · obtain ⟨m, hn, hl⟩ := I.loc
      have hvis : Vis X.env.scope y := (L.free _ (PySem.mem_of_lookup k) rfl).elim (fun k => .inr (.inl k)) (fun k => .inr (.inr k))
      obtain ⟨w', r, q⟩ := hl i y v e1 e2 hvis
      obtain ⟨c2, h2⟩ := look k
      refine ⟨w', r, .inr ⟨.inr k, c2, h2, ?_⟩⟩
      have c1 := cm h2
      rcases q with ⟨k', _⟩ | ⟨_, c3, e', z⟩
      · have k' : X.env.scope.names.lookup y = some .local := k'
        rcases L.free _ (PySem.mem_of_lookup k) rfl with k2 | k2 <;> rw [show X.env.scope.names.lookup y = _ from k2] at k' <;> cases k'
      · rw [c1] at e'
        cases e'
        exact cellK c1 (I.freeC y _ c1) z
  · obtain ⟨w', z⟩ := I.cell y c (cm e)
    exact ⟨w', cellK (cm e) (I.freeC y c (cm e)) z⟩
  · obtain ⟨v, o, ho, hd⟩ := I.cell y c (cm e)
    exact un.free c o ho (I.freeC y c (cm e)) (fun z => nc c z y c (cm e) rfl)
end
/-- the parameters that such a lambda may have: none, one with a nought for its default -/
def CapPar (params : Arguments) (scope : Scope) : Prop := params = ⟨[], [], none, [], [], none, []⟩ ∨ ∃ (a : Arg) (k : Nat) (p : Pos), params = ⟨[], [a], none, [], [], none, [.Constant (.int 0) k p]⟩ ∧ scope.names.lookup a.arg = some .local
theorem cap_bind {params : Arguments} {body : Expr} {scope : Scope} {q : Str} {cl : List (Str × Addr)} {dv doc pm ctv : Value} {c : Addr} {H : Hp} {s : Shared} (hp : CapPar params scope) (hdv : params.defaults = [] ↔ dv = .none) (hok : DvOk H dv)
    (hh : ∀ t, H t = some (.tup [.int 0]) → ∃ (o : Obj) (u : Value) (n : Nat), s.heap.get? t = some o ∧ o.data = .seq #[u] n) :
    ∃ binds, BindsTo s (PySem.W.kdv_fn "<lambda>" q params (.expr body) scope cl dv doc pm (.ref c) ctv) ⟨[], []⟩ binds ∧ ∀ y ∈ binds, scope.names.lookup y.1 = some .local := by
  rcases hp with rfl | ⟨a, k, p, rfl, hl⟩
  · have e : dv = .none := hdv.mp rfl
    subst e
    exact ⟨[], BindsTo.of_eq rfl, fun y hy => by simp at hy⟩
  · rcases hok with e | ⟨t, rfl, h⟩
    · exact absurd (hdv.mpr e) (by simp)
    · obtain ⟨o, u, n, ho, hs⟩ := hh t h
      refine ⟨[(a.arg, u)], BindsTo.of_defaults rfl ho hs rfl ?_, fun y hy => ?_⟩
      · simp [List.lookup, List.filter, List.zip]
      obtain rfl : y = (a.arg, u) := by simpa using hy
      exact hl
variable [LX]
/-- no cell of the creator is among them -/
def NoCell (X : Cx) (ex : List Addr) : Prop := ∀ b ∈ ex, ∀ x c, X.env.cells.lookup x = some c → c ≠ b
/-- what a lambda that captures keeps, called without arguments; its creator stands at s0 -/
def CapRun (X : Cx) (CA : Nat → Addr) (cf : CF) (n nd : Nat) : Prop :=
  ∀ (pins : List (Addr × Obj)) (σ : L2.St) (H0 : Hp) (s0 : Shared), Inv X pins σ H0 s0 → ∀ (ex : List Addr) (a c : Addr) (q : Str) (dv : Value) (j : Nat) (A : Around) (outer : List Env) (s : Shared) (H : Hp) (Q : VK) (E : XK), NoCell X ex →
    A.handled = none → A.depth < recursionLimit → (∀ env, Room (2 * n + 1) (A.deeper env)) → Env0 X.prog X.w X.K X.mg X.base A outer s H → Un (frs X.stack) ex H0 H s0.heap s.heap →
    H a = some (LamO j q a c dv) → H c = some (LamX.CodeO c q) → DvOk H dv →
    (∃ env L Xg hp, HOK X.K H L Xg hp ∧ REnv X.K H L Xg env σ ∧ GD X.K CA H L Xg E (cf (nd + j) (env.map encD) hp) (RQ X.K Q)) →
    codeAny (model X.prog X.w) A (.call (.ref a) ⟨[], []⟩) (CR (L2.CX X.prog X.w) outer X.prog X.w H s Q E) s
section
variable {X : Cx} {pins : List (Addr × Obj)} {σ : L2.St} {H : Hp} {s : Shared} {CA : Nat → Addr} {cf : CF} {n nd : Nat}
/-- x(), in _law_kind's frame -/
theorem pe_actC {CXg : CXT} {Eg : XK} {Ng : List Str} {qg : Str} {sg : Scope} {g f c' : Addr} {cdg : Value} {i j : Nat} {x q : Str} {dv : Value} {pn : List (Addr × Obj)} {xe : Value → Shared → Prop} {W : WX} {p1 p2 : Pos}
    (CRn : CapRun X CA cf n nd) {ex : List Addr} {H0 : Hp} {s0 : Shared} (I : Inv X pins σ H0 s0) (nc : NoCell X ex) (un0 : Un (frs X.stack) ex H0 H s0.heap s.heap) (hr : Room (2 * n + 2) X.A)
    (tk : Takes ((cxOf CXg X.prog X.w X.K X.mg X.base Ng qg sg g cdg X.A X.stack s H Eg).tr pn xe) W)
    (hN : Ng[i]? = some x) (hv : Vis sg x) (hd : (x == ("__debug__" : Str)) = false) (hcd : (x == ("__classdict__" : Str)) = false) :
    PE ((cxOf CXg X.prog X.w X.K X.mg X.base Ng qg sg g cdg X.A X.stack s H Eg).tr pn xe) (.Call (.Name x p1) [] [] p2)
      (fun σZ HZ Q => ∃ E : XK, (∀ cls d H', E cls d H' → W cls d σZ H') ∧ σZ[i]? = some (some (.ref f)) ∧ HZ f = some (LamO j q f c' dv) ∧ HZ c' = some (LamX.CodeO c' q) ∧ DvOk HZ dv ∧ ∃ env L Xg hp, HOK X.K HZ L Xg hp ∧ REnv X.K HZ L Xg env σ ∧ GD X.K CA HZ L Xg E (cf (nd + j) (env.map encD) hp) (RQ X.K Q)) := by
  refine ⟨fun pinsZ sZ σZ HZ Q IZ ⟨E, hW, hs, hf, hc, hdv, ht⟩ => ?_⟩
  refine wpAny_Call_Name_kw (thn ((pe_var (pos := p1) (i := i) hN hv hd hcd).run pinsZ sZ σZ HZ (fun v H1 => v = .ref f ∧ H1 = HZ) IZ ⟨.ref f, hs, rfl, rfl⟩) fun u s1 ⟨v, H1, I1, r1, q1⟩ => ?_)
  obtain ⟨ev, eH⟩ := q1
  subst ev
  rw [eH] at I1
  obtain rfl : u = Value.ref f := r1
  have fa : PySem.W.FnAt f s1.heap := by
    obtain ⟨⟨_, _, _, _, _, _, z, _⟩, _⟩ := I1.hok f _ hf
    exact ⟨_, _, _, _, z⟩
  refine PySem.W.callWith_F0 fa ?_
  have un : Un (frs X.stack) [] H HZ s.heap s1.heap := I1.base
  have rc : codeAny (model X.prog X.w) (X.A.deeper (envOfC qg sg s.heap.objs.size g cdg)) (.call (.ref f) ⟨[], []⟩) (CR (L2.CX X.prog X.w) (envOfC qg sg s.heap.objs.size g cdg :: X.stack) X.prog X.w HZ s1 Q E) s1 :=
    CRn pins σ H0 s0 I ex f c' q dv j _ _ s1 HZ Q E nc hr.hd (hr.deeper _).depth (fun env => hr.two _ env) I1.env0 (un0.trans (un.mono (fun _ h => h) (fun _ h => nomatch h))) hf hc hdv ht
  refine wpAny_call (codeAny_mono rc fun r s' hq => ?_)
  cases r with
  | error e => exact tk _ _ (XE.of_call I1 (fun cls d H' h => hW cls d H' h) hq)
  | ok fl =>
    cases fl with
    | ret u => exact I1.after hq
    | next => exact False.elim hq
    | brk => exact False.elim hq
    | cont => exact False.elim hq
end
/-- the law's _law_kind -/
structure KOk (K : PySem.W.Frag) (mg : Str → Option Value) (kf : Addr) : Prop where
  hmg : mg "_law_kind" = some (.ref kf)
  kp : PySem.W.keepIn K (.ref kf) = true
  ex : ∃ (a0 nm qn : Str) (N : List Str) (params : Arguments) (ss : List Stmt) (b0 : Stmt) (scope : Scope) (kV doc pm cdv ct oc : Value) (an od : Option Addr) (osl : Array (Option Value)) (p1 p2 p3 p4 p5 p6 : Pos),
    K.lookup kf = some ⟨oc, od, .func (PySem.W.fnOf nm qn params [.Try [.Return (some (.Call (.Name a0 p1) [] [] p2)) p3] [.ExceptHandler (some (.Name "KilnError" p4)) (some "e") (b0 :: ss) p5] [] [] p6] scope .none kV doc pm an cdv ct), osl⟩ ∧
    PySem.W.codeIn K cdv qn = true ∧ FnScope N [a0] scope ∧ KSc a0 N scope ∧ KSuite (b0 :: ss) ∧ (a0 == ("__debug__" : Str)) = false ∧ (a0 == ("__classdict__" : Str)) = false ∧
    L2.Binds K (PySem.W.fnOf nm qn params [.Try [.Return (some (.Call (.Name a0 p1) [] [] p2)) p3] [.ExceptHandler (some (.Name "KilnError" p4)) (some "e") (b0 :: ss) p5] [] [] p6] scope .none kV doc pm an cdv ct) [a0] []
/-- what the suite makes of an error -/
def tSuite (CA : Nat → Addr) (a : Addr) (cls : Value) (d : Option Addr) : TS := fun D σ H => ∃ (i : Nat) (x0 x2 x3 x4 : Option V) (fv : List (Str × V)), i < 12 ∧ cls = .ref (CA i) ∧ σ = [x0, some (.ref a), x2, x3, x4] ∧ ((d = none ∧ fv = []) ∨ ∃ dd, d = some dd ∧ H dd = some (.xd fv)) ∧
  ∀ H', ExtH H H' → match kindV i fv with
    | some (.inl s) => D.rt (.str s) H'
    | some (.inr vs) => ∀ p, H' p = none → D.rt (.ref p) (upd H' p (.tup vs))
    | none => False
theorem pss_suite {X : Cx} {a : Addr} {oe : Obj} {cls : Value} {d : Option Addr} {pn : List (Addr × Obj)} {CA : Nat → Addr} {CK : Addr} {a0 : Str} {ss : List Stmt} (F : KindFx X.K X.mg CA CK) (S : KSc a0 X.N X.env.scope) (hz : Zc cls d oe) (hf : ∃ vs, oe.data = .fields vs) (hu : X.A.units + 64 < cLine) (hb : KSuite ss) :
    PSs (X.suite a ((a, oe) :: pn)) ss (tSuite CA a cls d) := by
  refine ⟨fun pins s σ H D I ⟨i, x0, x2, x3, x4, fv, hi, ec, es, hd, hq⟩ => ?_⟩
  subst ec es
  obtain ⟨t, ht, h⟩ := suite_ok (pn := pn) F S hi hz hf hu hb
  exact ht.run pins s _ H D I (h D x0 x2 x3 x4 H fv hd hq)
theorem Post.extH {H H' : Hp} {L Xg : List Addr} (e : ExtH H H') : Post H L Xg H' L Xg :=
  ⟨⟨[], [], by simp, by simp, fun a h => h, fun a h => by simp at h⟩, fun a o h _ _ => e a o h, fun a xs h => e a _ h, fun a o u h => e a _ h, fun a h => (by
    cases q : H a with
    | none => exact absurd q h
    | some o => rw [e a o q]; exact fun z => (nomatch z)), fun a φ h => e a _ h⟩
theorem HOK.extH {K : PySem.W.Frag} {H H' : Hp} {L Xg : List Addr} {hp : HpI} (k : HOK K H L Xg hp) (e : ExtH H H') : HOK K H' L Xg hp :=
  k.of_post (Post.extH e) (fun a _ u _ h => e a _ h) (k.tabs.ext e)
/-- what is told of an error stands for the evaluator's value -/
theorem kind_val {K : PySem.W.Frag} {CA : Nat → Addr} {H : Hp} {L Xg : List Addr} {hp : HpI} {x : Exn} {d : D} {cls : Value} {dx : Option Addr} (k : HOK K H L Xg hp) (ex : ExR K CA H L Xg x cls dx) (hd : kindD x = some d) :
    x.cls < 12 ∧ cls = .ref (CA x.cls) ∧ ∃ fv, ((dx = none ∧ fv = []) ∨ ∃ dd, dx = some dd ∧ H dd = some (.xd fv)) ∧
      ∀ H', ExtH H H' → match kindV x.cls fv with
        | some (.inl s) => Rep K H' L Xg d (.str s)
        | some (.inr vs) => ∀ p, H' p = none → Rep K (upd H' p (.tup vs)) L Xg d (.ref p)
        | none => False := by
  obtain ⟨h1, h2⟩ := ex
  have hfv : ∃ fv, ((dx = none ∧ fv = []) ∨ ∃ dd, dx = some dd ∧ H dd = some (.xd fv)) ∧ RFs K H L Xg x.fs fv := by
    rcases h2 with ⟨h3, h4⟩ | ⟨dd, fv, h3, h4, h5, h6⟩
    · exact ⟨[], .inl ⟨h4, rfl⟩, by rw [h3]; exact fun f => trivial⟩
    · exact ⟨fv, .inr ⟨dd, h3, h4⟩, h6⟩
  obtain ⟨fv, hd1, rf⟩ := hfv
  have lt : ∀ {i : Nat} {w : Str}, exNames[i]? = some w → i < 12 := fun {i w} e => (List.getElem?_eq_some_iff.mp e).1
  have one : ∀ {f : Str} {v : D}, x.fs.lookup f = some v → ∃ u, fv.lookup f = some u ∧ Rep K H L Xg v u := fun {f v} e => by
    have q := rf f
    rw [e] at q
    cases q2 : fv.lookup f with
    | none => rw [q2] at q; exact q.elim
    | some u => rw [q2] at q; exact ⟨u, rfl, q⟩
  have tupR : ∀ {H' : Hp} {p : Addr} {ds : List D} {vs : List V}, ExtH H H' → H' p = none → vs.length ≤ sizeLine → Reps K H L Xg ds vs → Rep K (upd H' p (.tup vs)) L Xg (.tup ds) (.ref p) := fun {H' p ds vs} e hn hl r =>
    ⟨p, vs, rfl, .inl (.inl upd_same), hl, r.post k (Post.extH (e.trans (ExtH.upd hn)))⟩
  have hl2 : (2 : Nat) ≤ sizeLine := by decide
  have hl3 : (3 : Nat) ≤ sizeLine := by decide
  unfold kindD at hd
  unfold kindV
  by_cases g : x.cls = 0
  · rw [if_pos g] at hd
    refine ⟨by omega, h1, fv, hd1, fun H' e => ?_⟩
    rw [if_pos g]
    cases q1 : x.fs.lookup ("part" : Str) with
    | none => simp only [q1] at hd; cases hd
    | some d1 =>
      cases q2 : x.fs.lookup ("number" : Str) with
      | none => simp only [q1, q2] at hd; cases hd
      | some d2 =>
        simp only [q1, q2] at hd
        cases hd
        obtain ⟨u1, a1, r1⟩ := one q1
        obtain ⟨u2, a2, r2⟩ := one q2
        simp only [a1, a2]
        exact fun p hn => tupR e hn hl3 (.cons rfl (.cons r1 (.cons r2 rfl)))
  rw [if_neg g] at hd
  by_cases n : x.cls = 2 ∨ x.cls = 3 ∨ x.cls = 10
  · rw [if_pos n] at hd
    refine ⟨by omega, h1, fv, hd1, fun H' e => ?_⟩
    rw [if_neg g, if_pos n]
    cases q1 : x.fs.lookup ("number" : Str) with
    | none => simp only [q1] at hd; cases hd
    | some d1 =>
      cases q2 : exNames[x.cls]? with
      | none => simp only [q1, q2] at hd; cases hd
      | some w =>
        simp only [q1, q2] at hd
        cases hd
        obtain ⟨u1, a1, r1⟩ := one q1
        simp only [a1]
        exact fun p hn => tupR e hn hl2 (.cons rfl (.cons r1 rfl))
  rw [if_neg n] at hd
  by_cases l : x.cls = 5
  · rw [if_pos l] at hd
    refine ⟨by omega, h1, fv, hd1, fun H' e => ?_⟩
    rw [if_neg g, if_neg n, if_pos l]
    cases q1 : x.fs.lookup ("word" : Str) with
    | none => simp only [q1] at hd; cases hd
    | some d1 =>
      simp only [q1] at hd
      cases hd
      obtain ⟨u1, a1, r1⟩ := one q1
      simp only [a1]
      exact fun p hn => tupR e hn hl2 (.cons rfl (.cons r1 rfl))
  rw [if_neg l] at hd
  by_cases t : x.cls = 11
  · rw [if_pos t] at hd
    refine ⟨by omega, h1, fv, hd1, fun H' e => ?_⟩
    rw [if_neg g, if_neg n, if_neg l, if_pos t]
    cases q1 : x.fs.lookup ("row" : Str) with
    | none => simp only [q1] at hd; cases hd
    | some d1 =>
      simp only [q1] at hd
      cases hd
      obtain ⟨u1, a1, r1⟩ := one q1
      simp only [a1]
      exact fun p hn => tupR e hn hl2 (.cons rfl (.cons r1 rfl))
  rw [if_neg t] at hd
  cases q2 : exNames[x.cls]? with
  | none => rw [q2] at hd; cases hd
  | some w =>
    rw [q2] at hd
    cases hd
    refine ⟨lt q2, h1, fv, hd1, fun H' e => ?_⟩
    rw [if_neg g, if_neg n, if_neg l, if_neg t]
    exact rfl
section
variable {X : Cx} {pins : List (Addr × Obj)} {σ : L2.St} {H : Hp} {s : Shared} {CA : Nat → Addr} {CK kf : Addr} {cf : CF} {n nd : Nat}
theorem kindO_any {K : PySem.W.Frag} {H1 : Hp} {L Xg : List Addr} {W W' : XK} {o : Out D} {R : D → HpI → Hp → List Addr → List Addr → Prop} (g : GD K CA H1 L Xg W (kindO o) R) : GD K CA H1 L Xg W' (kindO o) R := by
  cases o with
  | ok d hp => exact g
  | bad => exact g
  | exc x hp =>
    cases q : kindD x with
    | none => simp only [kindO, q] at g ⊢; exact g
    | some d => simp only [kindO, q] at g ⊢; exact g
/-- _law_kind(x), x a lambda that captures the creator's cells -/
theorem kind_code {f c : Addr} {q : Str} {dv : Value} {j : Nat} {env : EnvI} {L Xg : List Addr} {hp : HpI} {Q : VK} (KO : KOk X.K X.mg kf) (F : KindFx X.K X.mg CA CK) (CRn : CapRun X CA cf n nd) (hr : Room (2 * n + 2) X.A) {ex : List Addr} {H0 : Hp} {s0 : Shared} (I : Inv X pins σ H0 s0) (nc : NoCell X ex) (un0 : Un (frs X.stack) ex H0 H s0.heap s.heap) (e0 : Env0 X.prog X.w X.K X.mg X.base X.A X.stack s H)
    (hf : H f = some (LamO j q f c dv)) (hc : H c = some (LamX.CodeO c q)) (hdv : DvOk H dv) (k : HOK X.K H L Xg hp) (r : REnv X.K H L Xg env σ) (g : GD X.K CA H L Xg C8.E0 (kindO (cf (nd + j) (env.map encD) hp)) (RQ X.K Q)) :
    codeAny (model X.prog X.w) X.A (.call (.ref kf) ⟨[.ref f], []⟩) (CR C8.CX0 X.stack X.prog X.w H s Q C8.E0) s := by
  obtain ⟨a0, nm, qn, N, params, ss, b0, scope, kV, doc, pm, cdv, ct, oc, an, od, osl, p1, p2, p3, p4, p5, p6, lk, hcd, S, KS, hss, hd0, hcd0, hb⟩ := KO.ex
  refine LamX.run_ofS (N := N) (ps := [a0]) (us := [.ref f]) (vs := [.ref f]) (k := 2 * n + 1) lk hcd S hr e0 (hb s [.ref f] (e0.mod.kin.keeps fun b o e => (e0.bs b o e).1) rfl) (.cons rfl .nil) rfl fun hr' => ?_
  have hN0 : N[0]? = some a0 := by rw [KS.hN]; rfl
  have hN1 : N[1]? = some ("e" : Str) := by rw [KS.hN]; rfl
  have l0 : scope.names.lookup a0 = some NameKind.local := KS.loc a0 (List.mem_of_getElem? hN0)
  have l1 : scope.names.lookup ("e" : Str) = some NameKind.local := KS.loc ("e" : Str) (List.mem_of_getElem? hN1)
  have gK : scope.names.lookup ("KilnError" : Str) = some NameKind.globalImplicit := KS.gl ("KilnError" : Str) (by simp)
  have hst : L2.start N [V.ref f] = [some (.ref f), none, none, none, none] := by rw [KS.hN]; rfl
  let Y := (cxOf C8.CX0 X.prog X.w X.K X.mg X.base N qn scope kf cdv X.A X.stack s H C8.E0).nox
  have hu : Y.A.units + 64 < cLine := (hr.deeper _).units
  have base := ps_try_as (X := Y) (x := "KilnError") (n := "e") (c := .ref CK) (i := 1) (np := p4) (pos := p6) (pos' := p5) (body := [.Return (some (.Call (.Name a0 p1) [] [] p2)) p3]) (suite := ss) (b₀ := b0)
      (tb := fun W D σZ HZ => ∃ Ech : XK, (∀ cls d H', Ech cls d H' → W cls d σZ H') ∧ σZ[0]? = some (some (.ref f)) ∧ HZ f = some (LamO j q f c dv) ∧ HZ c = some (LamX.CodeO c q) ∧ DvOk HZ dv ∧ ∃ env L Xg hp, HOK X.K HZ L Xg hp ∧ REnv X.K HZ L Xg env σ ∧ GD X.K CA HZ L Xg Ech (cf (nd + j) (env.map encD) hp) (RQ X.K D.rt))
      (ts := tSuite CA) (Wout := fun _ _ _ _ => False) rfl rfl S.nd hN1 l1 ⟨gK, rfl, .inl F.hCK⟩ LamX.takes0 (fun W pn xe tk _ => ?_) (fun a oe cls d pn hz hf' => pss_suite (X := Y) (a0 := a0) F KS hz hf' hu hss)
  · refine ⟨_, (pss_one base).nox, ?_⟩
    rw [hst]
    refine ⟨fun cls d H' => wAs X.K (.ref CK) 1 (tSuite CA) (fun _ _ _ _ => False) { nx := fun _ H' => Q .non H', rt := Q } cls d [some (.ref f), none, none, none, none] H', fun cls d H' h => h, rfl, hf, hc, hdv, env, L, Xg, hp, k, r, ?_⟩
    cases q1 : cf (nd + j) (env.map encD) hp with
    | ok d hp' => rw [q1] at g; exact g
    | bad => rw [q1] at g; exact g
    | exc x hp' =>
      rw [q1] at g
      cases q2 : kindD x with
      | none => simp only [kindO, q2] at g; exact g.elim
      | some d =>
        simp only [kindO, q2] at g
        intro cls dx H' L' X' p k' ex
        obtain ⟨h12, ec, fv, hfv, hv⟩ := kind_val k' ex q2
        subst ec
        refine ⟨true, F.ex _ h12, fun _ a hn => ⟨x.cls, some (.ref f), none, none, none, fv, h12, rfl, rfl, hfv, fun H'' e => ?_⟩, fun z => nomatch z⟩
        have hv := hv H'' e
        cases q3 : kindV x.cls fv with
        | none => rw [q3] at hv; exact hv.elim
        | some w =>
          rw [q3] at hv
          cases w with
          | inl s0 =>
            exact g H'' L' X' (p.trans (Post.extH e)) (k'.extH e) _ hv
          | inr vs =>
            intro p0 hn0
            have e2 := e.trans (ExtH.upd (o := .tup vs) hn0)
            exact g _ L' X' (p.trans (Post.extH e2)) (k'.extH e2) _ (hv p0 hn0)
  · refine ⟨fun pinsZ sZ σZ HZ D IZ h => ?_⟩
    have hp := pe_actC (CXg := C8.CX0) (Eg := C8.E0) (p1 := p1) (p2 := p2) (f := f) (c' := c) (q := q) (dv := dv) (j := j) (i := 0) CRn I nc un0 hr tk hN0 (.inl l0) hd0 hcd0
    exact (pss_one (ps_ret (pos := p3) hp)).run pinsZ sZ σZ HZ D IZ h
/-- _law_kind(e) -/
theorem snd_kind {e : Expr} {W : WX} {fe : EnvI → HpI → Out D} {p pos : Pos} (KO : KOk X.K X.mg kf) (F : KindFx X.K X.mg CA CK) (CRn : CapRun X CA cf n nd) (hr : Room (2 * n + 2) X.A) (hg : Gl X "_law_kind") (hp : plainE e = true) (he : PE X e (tE X.K CA W fe)) :
    PE X (.Call (.Name "_law_kind" p) [e] [] pos) (tE X.K CA W fun env hp => (fe env hp).bind fun x hp => match x with
      | .fn j => kindO (cf (nd + j) (env.map encD) hp)
      | _ => .bad) := by
  refine ⟨fun pins s σ H Q I ⟨env, L, Xg, hpp, ko, r, g⟩ => ?_⟩
  have arg : PA X [e] (tCons (tE X.K CA W fe) tNil) := pa_cons he pa_nil (star_plain hp)
  have hq : tCons (tE X.K CA W fe) tNil σ H (fun vs H1 => ∃ f c q dv j, vs = [V.ref f] ∧ H1 f = some (LamO j q f c dv) ∧ H1 c = some (LamX.CodeO c q) ∧ DvOk H1 dv ∧ ∃ env L Xg hp, HOK X.K H1 L Xg hp ∧ REnv X.K H1 L Xg env σ ∧ GD X.K CA H1 L Xg C8.E0 (kindO (cf (nd + j) (env.map encD) hp)) (RQ X.K Q)) := by
    refine ⟨env, L, Xg, hpp, ko, r, (GD.bind g).impE fun d hp1 H1 L1 X1 eo p1 k1 g1 v rv => ?_⟩
    cases d with
    | fn j =>
      obtain ⟨f, c, q, dv, rfl, h1, h2, h3⟩ := rv
      exact ⟨f, c, q, dv, j, rfl, h1, h2, h3, env, L1, X1, hp1, k1, r.post ko p1, kindO_any g1⟩
    | _ => exact g1.elim
  refine wpAny_Call_Name_kw (ld_glob I hg KO.hmg ?_ (by decide))
  refine PySem.W.callWith_K (h₀ := X.base) I.ok.mod.kin KO.kp (thn (arg.run pos pins s σ H _ I hq) fun us s1 ⟨vs, H1, I1, r1, q1⟩ => ⟨I1.kIn, ?_⟩) (star_plain hp) rfl
  obtain ⟨f, c, q, dv, j, rfl, h1, h2, h3, env1, L1, X1, hp1, k1, r2, g1⟩ := q1
  obtain ⟨u, rfl, ru⟩ : ∃ u, us = [u] ∧ RelV (.ref f) u := by
    cases r1 with
    | cons a b => cases b; exact ⟨_, rfl, a⟩
  obtain rfl : u = Value.ref f := ru
  refine wpAny_call (codeAny_mono (kind_code (nd := nd) (ex := []) KO F CRn hr I1 (fun b hb => nomatch hb) Un.refl I1.env0 h1 h2 h3 k1 r2 g1) fun r s2 hq => ?_)
  cases r with
  | error e => exact (show False from hq).elim
  | ok fl =>
    cases fl with
    | ret u => exact I1.after hq
    | next => exact False.elim hq
    | brk => exact False.elim hq
    | cont => exact False.elim hq
end
end KI

namespace KI
open PySem PySem.Spec PyProof.Rows L2
variable [LX]
/-! ## 35. [_law_kind(x) for x in ..]: the block knows its creator -/
section
variable {X : Cx} {pins : List (Addr × Obj)} {σ σ2 : L2.St} {H : Hp} {s : Shared}
theorem wipe_out {i : Nat} : ∀ {vs : List Nat} {σ : L2.St}, i ∉ vs → (L2.wipe σ vs)[i]? = σ[i]?
  | [], _, _ => rfl
  | v :: vs, σ, h => by
    unfold L2.wipe
    rw [List.getElem?_set_ne (fun e => h (by rw [e]; exact List.mem_cons_self)), wipe_out fun z => h (List.mem_cons_of_mem _ z)]
theorem inv_slots {vs : List Nat} (I : Inv X pins σ H s) (hx : ∀ i ∈ vs, ∀ x, X.N[i]? = some x → ¬ Vis X.env.scope x) (hw : L2.wipe σ2 vs = L2.wipe σ vs) : Inv X pins σ2 H s := by
  obtain ⟨m, hn, hl⟩ := I.loc
  refine ⟨I.ok, I.os, I.bare, I.base, ⟨m, hn, fun i x v e1 e2 e3 => hl i x v e1 ?_ e3⟩, I.cell, I.free, I.freeC, I.pin, I.hok, ?_⟩
  · have hi : i ∉ vs := fun z => hx i z x e1 e3
    rw [← wipe_out (σ := σ) hi, ← hw, wipe_out hi]
    exact e2
  · rw [← wipe_length σ2 vs, hw, wipe_length]
    exact I.len
/-- a list comprehension of one clause, no test: the element is told the creator's state at the block's start -/
theorem kl_core {Q : VK} {elt tg iter : Expr} {scope : Scope} {own : List (Str × Nat)} {pos pos' : Pos} {wi : TI} {g : TG} {te : TE} {use : Option (Value → Sem Unit)} {Qf : Value → Shared → Prop}
    (hc : X.calm = true) (hN : X.N.Nodup) (I : Inv X pins σ H s) (hi : PI X tg iter wi) (ok : BlkOk X.N X.env.scope scope own)
    (hg : ∀ (s : Shared) (H : Hp) (C : Addr) (cl : List (Str × Addr)) (fp : List Addr), PG (X.blk s H scope (compEnvC scope cl C X.env) fp) tg g)
    (he : ∀ (s0 : Shared) (H0 : Hp) (C : Addr) (cl : List (Str × Addr)) (fp : List Addr), Inv X pins σ H0 s0 → NoCell X fp → PE (X.blk s0 H0 scope (compEnvC scope cl C X.env) fp) elt te) (hs : ∀ x, foldedSetIterable iter X.env x = pure x)
    (h : tLc wi g (fun _ H R => R true H) te (own.map (·.2)) σ H Q)
    (hend : ∀ D C s' m H', Inv X pins σ H' s' → Q (.ref D) H' → s'.heap.Ns C m → FpOk X pins H' C → compPost (model X.prog X.w) X.A X.xe use Qf (.ref D) C (.ok .next) s') :
    wpAny (model X.prog X.w) X.A (comprehension (.ListComp elt [⟨tg, iter, [], 0⟩] scope pos) scope X.env pos' (newList []) false (eval iter X.env) use) Qf X.xe s := by
  -- what the block captures is there
  have caps : ∀ y ∈ scope.names, y.2 = .free → ∃ c, X.env.cells.lookup y.1 = some c := fun y hy e => (ok.free y hy e).elim (fun k => I.ok.has _ (.inl k)) fun k => I.ok.has _ (.inr k)
  refine wpAny_comprehension_free (use := use) rfl hs (closure_ok caps) ok.kind (fun y hy e => by rw [ok.uniq y hy, e]) (thn (hi.run pins s σ H _ I h) fun xv sa hx => thn hx fun itv sb hb => ?_)
  obtain ⟨it, fp, tn, J, Hb, rfl, Ib, T, stb, fb, q⟩ := hb
  refine wpAny_newObj_type (newEnv_comp ?_) (Nat.zero_le _)
  -- the new list stands at D
  obtain ⟨D, hD⟩ : ∃ D, sb.heap.objs.size = D := ⟨_, rfl⟩
  obtain ⟨W, ⟨m0, w0⟩, turn⟩ := q D (Ib.hok.fresh (Nat.le_of_eq hD))
  obtain ⟨sc, hsc⟩ : ∃ sc : Shared, ({ sb with heap := sb.heap.push { cls := .type "list", data := .seq ([] : List Value).toArray } } : Shared) = sc := ⟨_, rfl⟩
  have hheap : sc.heap = sb.heap.push { cls := .type "list", data := .seq ([] : List Value).toArray } := by rw [← hsc]
  obtain ⟨Hc, hHc⟩ : ∃ Hc, upd Hb D (.lst []) = Hc := ⟨_, rfl⟩
  have Ic : Inv X pins σ Hc sc := by
    rw [← hsc, ← hHc]
    exact Ib.laid (t' := sb.toks) (fun b o e => Heap.get?_push_of_some _ e) (Nat.le_of_eq hD) ⟨Nat.zero_le _, [], 0, .nil, by rw [← hD]; exact Heap.get?_push_size _ rfl⟩
  rw [hHc] at w0
  have fc : ∀ b ∈ fp, FpOk X pins Hc b ∧ b < sc.heap.objs.size := fun b hb => by
    obtain ⟨o, e, _⟩ := T.obj _ _ stb b hb
    have hlt := Heap.lt_size e
    refine ⟨⟨?_, (fb b hb).2⟩, by rw [hheap, Heap.size_push]; exact Nat.lt_succ_of_lt hlt⟩
    rw [← hHc, upd_ne (by rw [← hD]; exact Nat.ne_of_lt hlt)]
    exact (fb b hb).1
  have nc : NoCell X fp := fun b hb x c e => (fc b hb).1.2.2.2.2.1 x c e
  have stc : tn 0 sc.heap := T.keep _ _ _ stb fun b _ o e => by rw [hheap]; exact Heap.get?_push_of_some _ e
  -- the block's frame
  have Id := block_start Ic ok hN fc
  have pg := hg sc Hc sc.heap.objs.size (cellsFrom (sc.heap.objs.size + 1) scope.names (cloFrom X.env.cells scope.names [])) fp
  have pe := he sc Hc sc.heap.objs.size (cellsFrom (sc.heap.objs.size + 1) scope.names (cloFrom X.env.cells scope.names [])) fp Ic nc
  rw [hsc]
  show codeAny _ _ (.compStart (.ListComp elt [⟨tg, iter, [], 0⟩] scope pos) 0 (.ref it) (.ref sb.heap.objs.size) (compEnvC scope (cellsFrom (sc.heap.objs.size + 1) scope.names (cloFrom X.env.cells scope.names [])) sc.heap.objs.size X.env)) (compPost (model X.prog X.w) X.A X.xe use Qf (.ref sb.heap.objs.size) sc.heap.objs.size) { sc with heap := pushCells (sc.heap.push { cls := .type "dict", data := .dict #[] }) scope.names }
  rw [hD]
  obtain ⟨ce, hce⟩ : ∃ ce, compEnvC scope (cellsFrom (sc.heap.objs.size + 1) scope.names (cloFrom X.env.cells scope.names [])) sc.heap.objs.size X.env = ce := ⟨_, rfl⟩
  have hloc : ce.locals = sc.heap.objs.size := by rw [← hce]; rfl
  rw [hce] at Id pg pe ⊢
  obtain ⟨sd, hsd⟩ : ∃ sd : Shared, ({ sc with heap := pushCells (sc.heap.push { cls := .type "dict", data := .dict #[] }) scope.names } : Shared) = sd := ⟨_, rfl⟩
  have std : tn 0 sd.heap := T.keep _ _ _ stc fun b _ o e => by rw [← hsd]; exact pushCells_keeps _ _ _ _ (Heap.get?_push_of_some _ e)
  rw [hsd] at Id ⊢
  have iters : ∀ {τ : L2.St} {H' : Hp} {s' : Shared}, Inv (X.blk sc Hc scope ce fp) [] τ H' s' → (∀ b ∈ fp, H' b = none) → ∀ b ∈ fp, FpOk (X.blk sc Hc scope ce fp) [] H' b := fun J n b hb =>
    ⟨n b hb, (J.ok.exf b hb).1, J.ok.exfs b hb, .inl hb, (J.ok.exf b hb).2, fun p hp => nomatch hp⟩
  -- the turns
  refine codeAny_compStart_list (?_ : codeAny (model X.prog X.w) X.A (.compLoop (.ListComp elt [⟨tg, iter, [], 0⟩] scope pos) 0 (.ref it) (.ref D) ce) (compPost (model X.prog X.w) X.A X.xe use Qf (.ref D) sc.heap.objs.size) sd) (T.self X.A 0 _ _ _ std ?_)
  all_goals
    refine compLoop_any (fun n s' => ∃ i H', Inv (X.blk sc Hc scope ce fp) [] (L2.wipe σ (own.map (·.2))) H' s' ∧ tn i s'.heap ∧ (∀ b ∈ fp, H' b = none) ∧ W i n H') ?_ m0 ⟨0, Hc, Id, std, fun b hb => (fc b hb).1.1, w0⟩
    rintro n se ⟨i, He, Ie, ste, ne, we⟩
    rcases turn i n He we with ⟨stop, qq⟩ | ⟨go, Nx, hNx, step⟩
    · refine thnF (T.done (X.blk sc Hc scope ce fp) rfl rfl rfl hc i [] se _ He (fun _ _ => False) Ie (iters Ie ne) ste stop) fun r sf ⟨hr, If⟩ => ?_
      subst hr
      have Ig : Inv X pins σ He sf := Ic.call' (ch := fp) If.os If.base If.hok If.bare fun b hb => ⟨(fc b hb).1.2.2.2.1, (fc b hb).1.2.1, (fc b hb).1.2.2.2.2.1, (fc b hb).1.2.2.2.2.2⟩
      have fr : He ce.locals = none := If.free
      obtain ⟨m, hn, _⟩ := If.loc
      have hn : sf.heap.Ns ce.locals m := hn
      rw [hloc] at fr hn
      exact hend D _ sf m He Ig qq hn (Ic.fpOk (Nat.le_refl _) fr)
    · refine thnF (T.item (X.blk sc Hc scope ce fp) rfl rfl rfl hc i [] se _ He (fun _ _ => False) Ie (iters Ie ne) ste go) fun r sf ⟨u, hr, hf⟩ => ?_
      subst hr
      refine thnF hf fun _ sg ⟨x, Hg, Ig, rg, yg, stg, ng⟩ => ?_
      refine thnF (pg.run _ sg _ Hg x u _ (Ig.pinned (iters Ig ng) (T.obj _ _ stg)) rg (step x Hg yg)) fun _ sh ⟨τ, Hh, Ih, hw, qh⟩ => ?_
      have fin : ∀ {s' : Shared} {H' : Hp}, Inv (X.blk sc Hc scope ce fp) ([] ++ pinsAt fp sg.heap) τ H' s' → Nx H' → ∃ m, m < n ∧ ∃ i H', Inv (X.blk sc Hc scope ce fp) [] (L2.wipe σ (own.map (·.2))) H' s' ∧ tn i s'.heap ∧ (∀ b ∈ fp, H' b = none) ∧ W i m H' := fun {s' H'} I' nx => by
        obtain ⟨m', hm, w'⟩ := hNx H' nx
        have at_ : ∀ b ∈ fp, ∀ o, sg.heap.get? b = some o → s'.heap.get? b = some o ∧ H' b = none := fun b hb o e =>
          let z := I'.pin (b, o) (List.mem_append_right _ (List.mem_append_right _ (mem_pinsAt hb e)))
          ⟨z.1, z.2.1⟩
        refine ⟨m', hm, i + 1, H', (I'.unpinned (pins := [])).weak (by rw [← wipe_length τ (own.map (·.2)), hw]) (fun j v e => ?_), T.keep _ _ _ stg fun b hb o e => (at_ b hb o e).1, fun b hb => ?_, w'⟩
        · rw [← hw] at e
          exact (wipe_some e).1
        · obtain ⟨o, e, _⟩ := T.obj _ _ stg b hb
          exact (at_ b hb o e).2
      refine wpAny_pure ?_
      simp only [if_true]
      refine thnF (pe.run _ sh τ Hh _ Ih qh) fun z si ⟨yv, Hi, Ii, ri, acc, hDi, hzi, nx⟩ => ?_
      exact app_ok (X := X.blk sc Hc scope ce fp) Ii hDi hzi ri fun sj Ij => fin Ij nx
/-- the element is told that its slots are the creator's but for its own -/
theorem lc_own {K : PySem.W.Frag} {CA : Nat → Addr} {W : WX} {is own : List Nat} {fi : EnvI → HpI → Out IV} {fg : D → EnvI → HpI → Out EnvI} {te : TE} {Q : VK}
    (h : tLc (tIt K CA W fi) (tG K CA is fg) (tT K CA (fun _ _ _ _ => False) fun _ hp => .ok true hp) te own σ H Q) :
    tLc (tIt K CA W fi) (tG K CA is fg) (fun _ H R => R true H) (fun τ H Q => L2.wipe τ own = L2.wipe σ own ∧ te τ H Q) own σ H Q := by
  obtain ⟨env, L, Xg, hp, k, r, g⟩ := h
  refine ⟨env, L, Xg, hp, k, r, g.imp fun w hp1 H1 L1 X1 p1 k1 g1 J hJ D hD => ?_⟩
  obtain ⟨W0, hm, step⟩ := g1 J hJ D hD
  refine ⟨W0, hm, fun i m Hi hw => (step i m Hi hw).imp id fun ⟨go, Nx, hNx, st⟩ => ⟨go, Nx, hNx, fun x H' y => ?_⟩⟩
  obtain ⟨env2, L2', X2, hp2, d, k2, r2, rd, g2⟩ := st x H' y
  refine ⟨env2, L2', X2, hp2, d, k2, r2, rd, g2.imp fun env3 hp3 H3 L3 X3 p3 k3 g3 τ rτ ag => ?_⟩
  obtain ⟨hw2, env4, L4, X4, hp4, k4, r4, g4⟩ := g3 τ rτ ag
  have z := g4 H3 L4 X4 Post.refl k4
  dsimp only [RQb] at z
  rw [if_pos rfl] at z
  refine ⟨hw2, ?_⟩
  dsimp only
  rw [if_pos rfl]
  exact ⟨hw2, z⟩
end
section
variable {X : Cx} {CA : Nat → Addr} {CK kf : Addr} {cf : CF} {n nd : Nat} {W : WX}
/-- within the block: _law_kind(x), x the block's own -/
theorem pe_kindB {pins : List (Addr × Obj)} {σ : L2.St} {H0 : Hp} {s0 : Shared} {C : Addr} {cl : List (Str × Addr)} {fp : List Addr} {scope : Scope} {v : Nat} {y : Str} {p1 p2 p3 : Pos} (KO : KOk X.K X.mg kf) (F : KindFx X.K X.mg CA CK) (CRn : CapRun X CA cf n nd) (hr : Room (2 * n + 2) X.A)
    (I0 : Inv X pins σ H0 s0) (nc : NoCell X fp) (hx : ∀ i ∈ [v], ∀ x, X.N[i]? = some x → ¬ Vis X.env.scope x) (hg : Gl (X.blk s0 H0 scope (compEnvC scope cl C X.env) fp) "_law_kind")
    (hN : X.N[v]? = some y) (hv : Vis (X.blk s0 H0 scope (compEnvC scope cl C X.env) fp).env.scope y) (hd : (y == ("__debug__" : Str)) = false) (hcd : (y == ("__classdict__" : Str)) = false) :
    PE (X.blk s0 H0 scope (compEnvC scope cl C X.env) fp) (.Call (.Name "_law_kind" p1) [.Name y p2] [] p3) (fun τ H Q => L2.wipe τ [v] = L2.wipe σ [v] ∧ tE X.K CA W0 (kindAt cf nd v) τ H Q) := by
  refine ⟨fun pinsB s τ H Q I ⟨hw, env, L, Xg, hp, k, r, g⟩ => ?_⟩
  obtain ⟨f, c, q, dv, j, e1, h1, h2, h3, g⟩ : ∃ f c q dv j, τ[v]? = some (some (V.ref f)) ∧ H f = some (LamO j q f c dv) ∧ H c = some (LamX.CodeO c q) ∧ DvOk H dv ∧ GD X.K CA H L Xg C8.E0 (kindO (cf (nd + j) (env.map encD) hp)) (RQ X.K Q) := by
    unfold kindAt at g
    split at g
    · rename_i j hj
      obtain ⟨u, a, f, c, q, dv, rfl, z1, z2, z3⟩ := r.get v _ hj
      exact ⟨f, c, q, dv, j, a, z1, z2, z3, kindO_any g⟩
    · exact g.elim
  refine wpAny_Call_Name_kw (ld_glob I hg KO.hmg ?_ (by decide))
  have arg : PA (X.blk s0 H0 scope (compEnvC scope cl C X.env) fp) [.Name y p2] (tCons (tVar v) tNil) := pa_cons (pe_var (i := v) hN hv hd hcd) pa_nil
  refine PySem.W.callWith_K (h₀ := X.base) I.ok.mod.kin KO.kp (thn (arg.run p3 pinsB s τ H (fun vs H1 => vs = [V.ref f] ∧ H1 = H) I ⟨_, e1, rfl, rfl⟩) fun us s1 ⟨vs, H1, I1, r1, q1, q2⟩ => ⟨I1.kIn, ?_⟩) rfl rfl
  subst q1 q2
  obtain ⟨u, rfl, ru⟩ : ∃ u, us = [u] ∧ RelV (.ref f) u := by
    cases r1 with
    | cons a b => cases b; exact ⟨_, rfl, a⟩
  obtain rfl : u = Value.ref f := ru
  refine wpAny_call (codeAny_mono (kind_code (X := X) (nd := nd) (ex := fp) KO F CRn hr (inv_slots (vs := [v]) I0 hx hw) nc I1.base I1.env0 h1 h2 h3 k r g) fun r s2 hq => ?_)
  cases r with
  | error e => exact (show False from hq).elim
  | ok fl =>
    cases fl with
    | ret u => exact I1.after hq
    | next => exact False.elim hq
    | brk => exact False.elim hq
    | cont => exact False.elim hq
theorem snd_kinds {m : Bool} {v : Nat} {y : Str} {tg iter : Expr} {scope : Scope} {p1 p2 p3 pos : Pos} {fi : EnvI → HpI → Out IV} {own : List (Str × Nat)} (hown : own.map (·.2) = [v]) (KO : KOk X.K X.mg kf) (F : KindFx X.K X.mg CA CK) (CRn : CapRun X CA cf n nd) (hr : Room (2 * n + 2) X.A)
    (hc : X.calm = true) (hN : X.N.Nodup) (hp : plainS iter = true) (hi : PI X tg iter (tIt X.K CA W fi)) (ok : BlkOk X.N X.env.scope scope own) (hx : ∀ i ∈ [v], ∀ x, X.N[i]? = some x → ¬ Vis X.env.scope x)
    (hg : ∀ (s : Shared) (H : Hp) (C : Addr) (cl : List (Str × Addr)) (fp : List Addr), PG (X.blk s H scope (compEnvC scope cl C X.env) fp) tg (tG X.K CA [v] fun d env hp => .ok (env.set v (some d)) hp))
    (hk : ∀ (s : Shared) (H : Hp) (C : Addr) (cl : List (Str × Addr)) (fp : List Addr), Gl (X.blk s H scope (compEnvC scope cl C X.env) fp) "_law_kind" ∧ Vis (X.blk s H scope (compEnvC scope cl C X.env) fp).env.scope y)
    (hNv : X.N[v]? = some y) (hd : (y == ("__debug__" : Str)) = false) (hcd : (y == ("__classdict__" : Str)) = false) :
    PE X (.ListComp (.Call (.Name "_law_kind" p1) [.Name y p2] [] p3) [⟨tg, iter, [], 0⟩] scope pos) (tE X.K CA W (fcomp m [v] fi (fun d env hp => .ok (env.set v (some d)) hp) (fun _ hp => .ok true hp) (kindAt cf nd v))) := by
  refine ⟨fun pins s σ H Q I h => ?_⟩
  rw [eval_ListComp]
  have h2 := lc_own (lc_imp (is := [v]) (own := [v]) (m := m) (fi := fi) (fg := fun d env hp => .ok (env.set v (some d)) hp) (ft := fun _ hp => .ok true hp) (fe := kindAt cf nd v) (fun i hi => hi) h)
  refine kl_core (own := own) hc hN I hi ok hg (fun s0 H0 C cl fp I0 nc => ?_) (folded_plain hp) (by rw [hown]; exact h2) fun D C s' m H' I' q hn f => ⟨m, hn, fun h'' sb => ?_⟩
  · exact pe_kindB (CK := CK) KO F CRn hr I0 nc hx (hk s0 H0 C cl fp).1 hNv (hk s0 H0 C cl fp).2 hd hcd
  · obtain ⟨f0, f1, f2, f3, f4, f5⟩ := f
    exact ⟨.ref D, H', I'.turned (t' := s'.toks) (fun b o hb e => (sb.2 b hb).trans e) f0 f1 f3 f4 f5, rfl, q⟩
/-- name = [_law_kind(x) for x in ..], the store exchanged with the comprehension's end -/
theorem snd_setKinds {m : Bool} {v i : Nat} {y z : Str} {tg iter : Expr} {scope : Scope} {p1 p2 p3 pos pz spos : Pos} {fi : EnvI → HpI → Out IV} {own : List (Str × Nat)} (hkf : X.env.scope.kind = .function) {c : CC} (hsc : X.env.scope = c.sc)
    (hsw : swC c (.Name z pz) (.ListComp (.Call (.Name "_law_kind" p1) [.Name y p2] [] p3) [⟨tg, iter, [], 0⟩] scope pos) = true) (hz : X.N[i]? = some z)
    (hown : own.map (·.2) = [v]) (KO : KOk X.K X.mg kf) (F : KindFx X.K X.mg CA CK) (CRn : CapRun X CA cf n nd) (hr : Room (2 * n + 2) X.A)
    (hc : X.calm = true) (hN : X.N.Nodup) (hp : plainS iter = true) (hi : PI X tg iter (tIt X.K CA W fi)) (ok : BlkOk X.N X.env.scope scope own) (hx : ∀ i ∈ [v], ∀ x, X.N[i]? = some x → ¬ Vis X.env.scope x)
    (hg : ∀ (s : Shared) (H : Hp) (C : Addr) (cl : List (Str × Addr)) (fp : List Addr), PG (X.blk s H scope (compEnvC scope cl C X.env) fp) tg (tG X.K CA [v] fun d env hp => .ok (env.set v (some d)) hp))
    (hk : ∀ (s : Shared) (H : Hp) (C : Addr) (cl : List (Str × Addr)) (fp : List Addr), Gl (X.blk s H scope (compEnvC scope cl C X.env) fp) "_law_kind" ∧ Vis (X.blk s H scope (compEnvC scope cl C X.env) fp).env.scope y)
    (hNv : X.N[v]? = some y) (hd : (y == ("__debug__" : Str)) = false) (hcd : (y == ("__classdict__" : Str)) = false) :
    PS X (.Assign [.Name z pz] (.ListComp (.Call (.Name "_law_kind" p1) [.Name y p2] [] p3) [⟨tg, iter, [], 0⟩] scope pos) spos) (tS X.K CA W fun env hp => (fcomp m [v] fi (fun d env hp => .ok (env.set v (some d)) hp) (fun _ hp => .ok true hp) (kindAt cf nd v) env hp).thenS env fun x hp => (Out.ok (env.set i (some x)) hp : Out EnvI).thenG fun env' hp => .nx env' hp) := by
  simp only [swC, Bool.and_eq_true, decide_eq_true_eq, beq_iff_eq, Bool.not_eq_true'] at hsw
  obtain ⟨⟨q1, q2⟩, q3⟩ := hsw
  have hzl : X.env.scope.names.lookup z = some .local := by rw [hsc]; exact q1
  refine ⟨fun pins s σ H D I h => ?_⟩
  have h2 : tLc (tIt X.K CA W fi) (tG X.K CA [v] fun d env hp => .ok (env.set v (some d)) hp) (fun _ H R => R true H) (fun τ H Q => L2.wipe τ [v] = L2.wipe σ [v] ∧ tE X.K CA (fun _ _ _ _ => False) (kindAt cf nd v) τ H Q) [v] σ H (fun x H1 => gName i x σ H1 D.nx) := by
    obtain ⟨env, L, Xg, hp, k, r, g⟩ := asg_imp (is := [i]) (fg := fun x env hp => Out.ok (env.set i (some x)) hp) h
    exact lc_own (lc_imp (is := [v]) (own := [v]) (m := m) (fi := fi) (fg := fun d env hp => .ok (env.set v (some d)) hp) (ft := fun _ hp => .ok true hp) (fe := kindAt cf nd v) (fun i hi => hi) ⟨env, L, Xg, hp, k, r, g.imp fun d hp1 H1 L1 X1 p1 k1 g1 v rv => gname_imp (is := [i]) (g1 v rv) (by simp)⟩)
  rw [exec_Assign_Name_used _ _ _ _ (sw_true hkf hzl (by rw [q2]; exact beq_self_eq_true _) q3)]
  refine wpAny_bind (wpAny_standAt (wpAny_bind ?_))
  show wpAny _ X.A (do let _ ← comprehension (.ListComp (.Call (.Name "_law_kind" p1) [.Name y p2] [] p3) [⟨tg, iter, [], 0⟩] scope pos) scope X.env (firstIterPos [⟨tg, iter, [], 0⟩] pos) (newList []) false (eval iter X.env) (some (assign (.Name z pz) X.env))) _ _ s
  refine wpAny_bind (thn (kl_core (own := own) (Qf := fun _ s' => SP X pins D .next s') hc hN I hi ok hg (fun s0 H0 C cl fp I0 nc => pe_kindB (CK := CK) KO F CRn hr I0 nc hx (hk s0 H0 C cl fp).1 hNv (hk s0 H0 C cl fp).2 hd hcd) (folded_plain hp) (by rw [hown]; exact h2) fun L C s' m H' I' q hn f => ?_) fun _ s' hq => wpAny_pure (wpAny_pure hq))
  show wpAny _ _ (assign (.Name z pz) X.env (.ref L)) _ _ _
  refine wpAny_assign_Name (store_ok2 (v := V.ref L) I' hN hz (.inl hzl) rfl (fun s2 I2 ⟨a, sb, ha⟩ => ?_) (.inr hzl))
  obtain ⟨f0, f1, f2, f3, f4, f5⟩ := f
  have haC : C ≠ a := by
    rcases ha with z | w
    · rw [z]; exact f1
    · exact fun e => f4 z a w e.symm
  refine ⟨m, hn.sameBut sb haC, fun h3 sb3 => ?_⟩
  exact ⟨_, H', I2.turned (t' := s2.toks) (fun b o hb e => (sb3.2 b hb).trans e) f0 f1 f3 f4 f5, q⟩
end
end KI

namespace KI
open PySem PySem.Spec PyProof.Rows L2
variable [LX]
/-! ## 40. tables -/
section
variable {κ : Type} [DecidableEq κ] {K : PySem.W.Frag} {H H' : Hp} {L X L' X' : List Addr} {hp : HpI}
structure RK (K : PySem.W.Frag) (H : Hp) (L X : List Addr) (kvs : List (κ × D)) (vs : List (κ × V)) : Prop where
  keys : kvs.map (·.1) = vs.map (·.1)
  vals : Reps K H L X (kvs.map (·.2)) (vs.map (·.2))
theorem zip_split : ∀ (vs : List (κ × V)), (vs.map (·.1)).zip (vs.map (·.2)) = vs
  | [] => rfl
  | p :: vs => by simp [zip_split vs]
theorem RK.zip {kvs : List (κ × D)} {vs : List (κ × V)} (r : RK K H L X kvs vs) : (kvs.map (·.1)).zip (vs.map (·.2)) = vs := by rw [r.keys, zip_split]
theorem RK.of {kvs : List (κ × D)} {us : List V} (r : Reps K H L X (kvs.map (·.2)) us) : RK K H L X kvs ((kvs.map (·.1)).zip us) := by
  have hl : us.length = kvs.length := by rw [r.len, List.length_map]
  refine ⟨?_, ?_⟩
  · rw [List.map_fst_zip (by rw [List.length_map, hl]; exact Nat.le_refl _)]
  · rw [List.map_snd_zip (by rw [List.length_map, hl]; exact Nat.le_refl _)]
    exact r
theorem RK.cons_inv {p : κ × D} {kvs : List (κ × D)} {vs : List (κ × V)} (r : RK K H L X (p :: kvs) vs) : ∃ v t, vs = (p.1, v) :: t ∧ Rep K H L X p.2 v ∧ RK K H L X kvs t := by
  obtain ⟨k, v⟩ := r
  cases vs with
  | nil => simp at k
  | cons q t =>
    simp only [List.map_cons, List.cons.injEq] at k
    obtain ⟨w, t', e, h1, h2⟩ := v
    simp only [List.map_cons, List.cons.injEq] at e
    obtain ⟨e1, e2⟩ := e
    obtain ⟨q1, q2⟩ := q
    simp only at k e1
    obtain ⟨rfl, k2⟩ := k
    subst e1
    exact ⟨q2, t, rfl, h1, k2, e2 ▸ h2⟩
theorem RK.nil : RK K H L X ([] : List (κ × D)) [] := ⟨rfl, rfl⟩
theorem RK.cons {k : κ} {d : D} {v : V} {kvs : List (κ × D)} {vs : List (κ × V)} (h : Rep K H L X d v) (r : RK K H L X kvs vs) : RK K H L X ((k, d) :: kvs) ((k, v) :: vs) :=
  ⟨by simp [r.keys], ⟨v, vs.map (·.2), rfl, h, r.vals⟩⟩
def RO (K : PySem.W.Frag) (H : Hp) (L X : List Addr) : Option D → Option V → Prop
  | some d, some v => Rep K H L X d v
  | none, none => True
  | _, _ => False
theorem RK.val {kvs : List (κ × D)} : ∀ {vs : List (κ × V)}, RK K H L X kvs vs → ∀ k, RO K H L X (valD kvs k) (valV vs k) := by
  induction kvs with
  | nil =>
    intro vs r k
    have : vs = [] := by have := r.keys; simpa using this.symm
    subst this
    trivial
  | cons p kvs ih =>
    intro vs r k
    obtain ⟨v, t, rfl, h1, h2⟩ := r.cons_inv
    by_cases e : p.1 = k
    · have e1 : valD (p :: kvs) k = some p.2 := by simp [valD, List.find?_cons, e]
      rw [e1, valV_pos (p := (p.1, v)) e]
      exact h1
    · have e1 : valD (p :: kvs) k = valD kvs k := by simp [valD, List.find?_cons, e]
      rw [e1, valV_neg (p := (p.1, v)) e]
      exact ih h2 k
theorem RK.any {kvs : List (κ × D)} {k : κ} : ∀ {vs : List (κ × V)}, RK K H L X kvs vs → (kvs.any fun kv => decide (kv.1 = k)) = (vs.any fun kv => decide (kv.1 = k)) := by
  induction kvs with
  | nil =>
    intro vs r
    have : vs = [] := by have := r.keys; simpa using this.symm
    subst this
    rfl
  | cons p kvs ih =>
    intro vs r
    obtain ⟨v, t, rfl, h1, h2⟩ := r.cons_inv
    simp only [List.any_cons, ih h2]
theorem RK.repl {kvs : List (κ × D)} {k : κ} {d : D} {v : V} (h : Rep K H L X d v) : ∀ {vs : List (κ × V)}, RK K H L X kvs vs → RK K H L X (kvs.map fun kv => if kv.1 = k then (kv.1, d) else kv) (vs.map fun kv => if kv.1 = k then (kv.1, v) else kv) := by
  induction kvs with
  | nil =>
    intro vs r
    have : vs = [] := by have := r.keys; simpa using this.symm
    subst this
    exact r
  | cons p kvs ih =>
    intro vs r
    obtain ⟨w, t, rfl, h1, h2⟩ := r.cons_inv
    obtain ⟨p1, p2⟩ := p
    simp only [List.map_cons]
    by_cases e : p1 = k
    · simp only [e, if_true]
      exact .cons h (ih h2)
    · simp only [e, if_false]
      exact .cons h1 (ih h2)
theorem RK.app {kvs : List (κ × D)} {k : κ} {d : D} {v : V} (h : Rep K H L X d v) {vs : List (κ × V)} (r : RK K H L X kvs vs) : RK K H L X (kvs ++ [(k, d)]) (vs ++ [(k, v)]) :=
  ⟨by simp [r.keys], by rw [List.map_append, List.map_append]; exact r.vals.app (.cons h rfl)⟩
theorem RK.put {kvs : List (κ × D)} {k : κ} {d : D} {v : V} (h : Rep K H L X d v) {vs : List (κ × V)} (r : RK K H L X kvs vs) : RK K H L X (putD kvs k d) (putK vs k v) := by
  unfold putD putK
  rw [r.any]
  split
  · exact r.repl h
  · exact r.app h
theorem RK.length {kvs : List (κ × D)} {vs : List (κ × V)} (r : RK K H L X kvs vs) : vs.length = kvs.length := by
  have := congrArg List.length r.keys
  simpa using this.symm
end
section
variable {K : PySem.W.Frag} {CA : Nat → Addr} {H H' : Hp} {L X L' X' : List Addr} {hp : HpI}
theorem RK.merge {more : List (Key × D)} : ∀ {kvs : List (Key × D)} {ms vs : List (Key × V)}, RK K H L X more ms → RK K H L X kvs vs → RK K H L X (mergeD kvs more) (mergeK vs ms) := by
  induction more with
  | nil =>
    intro kvs ms vs r q
    have : ms = [] := by have := r.keys; simpa using this.symm
    subst this
    exact q
  | cons p more ih =>
    intro kvs ms vs r q
    obtain ⟨v, t, rfl, h1, h2⟩ := r.cons_inv
    show RK K H L X (mergeD (putD kvs p.1 p.2) more) (mergeK (putK vs p.1 v) t)
    exact ih h2 (q.put (k := p.1) h1)
theorem key_of {y : D} {u : V} {k : Key} (h : keyD y = some k) (r : Rep K H L X y u) : u = kV k := by
  cases y <;> first | (simp [keyD] at h; done) | skip
  all_goals (simp only [keyD, Option.some.injEq] at h; subst h; exact r)
theorem keys_of : ∀ {ys : List D} {us : List V} {ks : List Key}, keysD ys = some ks → Reps K H L X ys us → us = ks.map kV
  | [], us, ks, h, r => by
    cases h
    exact r
  | y :: ys, us, ks, h, ⟨v, t, e, r1, r2⟩ => by
    rw [keysD] at h
    cases q1 : keyD y with
    | none => rw [q1] at h; cases h
    | some k =>
      cases q2 : keysD ys with
      | none => rw [q1, q2] at h; cases h
      | some ks' =>
        rw [q1, q2] at h
        cases h
        rw [e, key_of q1 r1, keys_of q2 r2]
        rfl
/-- keys and values, in turn -/
def pairsV : List V → List (V × V)
  | k :: v :: r => (k, v) :: pairsV r
  | _ => []
theorem pairs_of : ∀ {ds : List D} {us : List V} {ps : List (Key × D)}, pairsD ds = some ps → Reps K H L X ds us → ∃ vs : List (Key × V), RK K H L X ps vs ∧ pairsV us = vs.map fun kv => (kV kv.1, kv.2)
  | [], us, ps, h, r => by
    cases h
    rw [show us = [] from r]
    exact ⟨[], .nil, rfl⟩
  | [_], us, ps, h, r => by cases h
  | a :: b :: ds, us, ps, h, ⟨u, t, e, r1, v, t2, e2, r2, r3⟩ => by
    rw [pairsD] at h
    cases q1 : keyD a with
    | none => rw [q1] at h; cases h
    | some k =>
      cases q2 : pairsD ds with
      | none => rw [q1, q2] at h; cases h
      | some ps' =>
        rw [q1, q2] at h
        cases h
        obtain ⟨vs, h1, h2⟩ := pairs_of q2 r3
        refine ⟨(k, v) :: vs, .cons r2 h1, ?_⟩
        rw [e, e2, key_of q1 r1, pairsV, h2]
        rfl
theorem atDk_inv {x y : D} {o : Option D} (h : atDk x y hp = some o) : ∃ n k kvs, x = .loc n ∧ keyD y = some k ∧ hp[n]? = some (.dk kvs) ∧ o = valD kvs k := by
  unfold atDk at h
  split at h
  · split at h
    · cases h
      exact ⟨_, _, _, rfl, by assumption, by assumption, rfl⟩
    · cases h
  · cases h
theorem atDt_inv {x : D} {ys : List D} {o : Option D} (h : atDt x ys hp = some o) : ∃ n k kvs, x = .loc n ∧ keysD ys = some k ∧ hp[n]? = some (.dt kvs) ∧ o = valD kvs k := by
  unfold atDt at h
  split at h
  · split at h
    · cases h
      exact ⟨_, _, _, rfl, by assumption, by assumption, rfl⟩
    · cases h
  · cases h
theorem HOK.atDk {n : Nat} {kvs : List (Key × D)} (k : HOK K H L X hp) (e : hp[n]? = some (.dk kvs)) : ∃ a vs, L[n]? = some a ∧ H a = some (.dK vs) ∧ a ∈ L ∧ RK K H L X kvs vs := by
  obtain ⟨a, vs, ho, e1, h1, h2, rfl, h4⟩ := k.atO e
  exact ⟨a, _, e1, h1, h2, .of h4⟩
theorem HOK.atDt {n : Nat} {kvs : List (List Key × D)} (k : HOK K H L X hp) (e : hp[n]? = some (.dt kvs)) : ∃ a vs, L[n]? = some a ∧ H a = some (.dT vs) ∧ a ∈ L ∧ RK K H L X kvs vs := by
  obtain ⟨a, vs, ho, e1, h1, h2, rfl, h4⟩ := k.atO e
  exact ⟨a, _, e1, h1, h2, .of h4⟩
theorem HOK.atIns {n c : Nat} {fs : List (Str × D)} (k : HOK K H L X hp) (e : hp[n]? = some (.ins c fs)) : ∃ a dx vs, L[n]? = some a ∧ H a = some (.ins (LX.CI c) dx vs) ∧ a ∈ L ∧ RK K H L X fs vs := by
  obtain ⟨a, vs, ho, e1, h1, h2, ⟨dx, rfl⟩, h4⟩ := k.atO e
  exact ⟨a, dx, _, e1, h1, h2, .of h4⟩
theorem dget_of {x y : D} {u w : V} {o : Option D} (k : HOK K H L X hp) (rx : Rep K H L X x u) (ry : Rep K H L X y w) (h : atDk x y hp = some o) : ∃ a ov, u = .ref a ∧ DGet H a w ov ∧ RO K H L X o ov := by
  obtain ⟨n, ky, kvs, rfl, h1, h2, rfl⟩ := atDk_inv h
  obtain ⟨a, vs, e1, h3, h4, h5⟩ := k.atDk h2
  obtain ⟨b, e2, e3⟩ := rx
  rw [e1] at e3
  cases e3
  refine ⟨a, _, e2, ?_, h5.val ky⟩
  rw [key_of h1 ry]
  exact DGet.k h3
theorem isD_of {x : D} {u : V} (k : HOK K H L X hp) (rx : Rep K H L X x u) (h : isDct x hp = true) : ∃ a, u = .ref a ∧ IsD H a := by
  unfold isDct at h
  split at h
  · rename_i n
    obtain ⟨b, e2, e3⟩ := rx
    split at h
    · rename_i q
      obtain ⟨a, vs, e1, h3, h4, h5⟩ := k.atDk q
      rw [e1] at e3; cases e3
      exact ⟨b, e2, .inl ⟨_, .inl h3⟩⟩
    · rename_i q
      obtain ⟨a, vs, e1, h3, h4, h5⟩ := k.atDt q
      rw [e1] at e3; cases e3
      exact ⟨b, e2, .inr ⟨_, .inl h3⟩⟩
    · cases h
  · cases h
/-- a dict is written -/
theorem dput_of {x y d : D} {u w v : V} {hp' : HpI} (k : HOK K H L X hp) (rx : Rep K H L X x u) (ry : Rep K H L X y w) (rv : Rep K H L X d v) (h : toDk x y d hp = some hp') : ∃ a H', u = .ref a ∧ DPut H a w v H' ∧ Post H L X H' L X ∧ HOK K H' L X hp' := by
  unfold toDk at h
  split at h
  · rename_i n ky h1
    split at h
    · rename_i kvs h2
      split at h
      · rename_i hz
        cases h
        obtain ⟨a, vs, e1, h3, h4, h5⟩ := k.atDk h2
        obtain ⟨b, e2, e3⟩ := rx
        rw [e1] at e3
        cases e3
        rw [key_of h1 ry]
        have r := h5.put (k := ky) rv
        exact ⟨a, _, e2, DPut.k h3 (by rw [h5.length]; exact hz), Post.write h4 h3 trivial, k.writeO (o := .dk _) e1 h3 trivial (by show _ = _; rw [r.zip]) r.vals⟩
      · cases h
    · cases h
  · cases h
theorem dputT_of {x d : D} {ys : List D} {u v : V} {ws : List V} {b : Addr} {hp' : HpI} (k : HOK K H L X hp) (rx : Rep K H L X x u) (ry : Reps K H L X ys ws) (hb : H b = some (.tup ws)) (rv : Rep K H L X d v) (h : toDt x ys d hp = some hp') : ∃ a H', u = .ref a ∧ DPut H a (.ref b) v H' ∧ Post H L X H' L X ∧ HOK K H' L X hp' := by
  unfold toDt at h
  split at h
  · rename_i n ky h1
    split at h
    · rename_i kvs h2
      split at h
      · rename_i hz
        cases h
        obtain ⟨a, vs, e1, h3, h4, h5⟩ := k.atDt h2
        obtain ⟨b', e2, e3⟩ := rx
        rw [e1] at e3
        cases e3
        have r := h5.put (k := ky) rv
        rw [keys_of h1 ry] at hb
        exact ⟨a, _, e2, DPut.t h3 hb (by rw [h5.length]; exact hz), Post.write h4 h3 trivial, k.writeO (o := .dt _) e1 h3 trivial (by show _ = _; rw [r.zip]) r.vals⟩
      · cases h
    · cases h
  · cases h
theorem loc_new (k : HOK K H L X hp) (p : Addr) : (L ++ [p])[hp.length]? = some p := by rw [← k.len]; simp
theorem GD.from_ {α : Type} {W : XK} {o : Out α} {R : α → HpI → Hp → List Addr → List Addr → Prop} (g : GD K CA H L X W o R) (p : Post H L X H' L' X') : GD K CA H' L' X' W o R := by
  cases o with
  | ok a hp1 => exact fun H2 L2 X2 q k => g H2 L2 X2 (p.trans q) k
  | exc x hp1 => exact fun c dx H2 L2 X2 q k e => g c dx H2 L2 X2 (p.trans q) k e
  | bad => exact g
theorem GD.bindE {α β : Type} {W : XK} {o : Out α} {f : α → HpI → Out β} {R : β → HpI → Hp → List Addr → List Addr → Prop} (g : GD K CA H L X W (o.bind f) R) : GD K CA H L X W o (fun a hp1 _ _ _ => o = .ok a hp1 ∧ GD K CA H L X W (f a hp1) R) := by
  cases o with
  | ok a hp1 => exact fun _ _ _ _ _ => ⟨rfl, g⟩
  | exc x hp1 => exact g
  | bad => exact g
end
/-! ## 41. rules -/
section
variable {X : Cx} {CA : Nat → Addr} {W : WX} {pos apos : Pos} {a b d : Expr} {fa fb fd : EnvI → HpI → Out D} {es : List Expr} {fs : EnvI → HpI → Out (List D)}
theorem snd_dnew {t : Bool} : PE X (.Dict [] [] pos) (tE X.K CA W fun _ hp => .ok (.loc hp.length) (hp ++ [if t then .dt [] else .dk []])) := by
  cases t with
  | false =>
    refine pe_dnewK.imp fun σ H Q ⟨env, L, Xg, hp, k, r, g⟩ p hn => ?_
    exact g _ (L ++ [p]) (Xg ++ [p]) (Post.newL hn _) (k.newO (o := .dk []) hn rfl rfl) (.ref p) ⟨p, rfl, loc_new k p⟩
  | true =>
    refine pe_dnewT.imp fun σ H Q ⟨env, L, Xg, hp, k, r, g⟩ p hn => ?_
    exact g _ (L ++ [p]) (Xg ++ [p]) (Post.newL hn _) (k.newO (o := .dt []) hn rfl rfl) (.ref p) ⟨p, rfl, loc_new k p⟩
theorem snd_dct {ks : List (Option Expr)} {vs : List Expr} {trs : List (TE × TE)} (hP : PPs X pos ks vs trs) (hS : ∀ σ H Q, tA X.K CA W fs σ H (fun us H' => Q (pairsV us) H') → tPairs trs σ H Q) (hall : ks.all (·.isSome) = true) (hl : ks.length = vs.length) (h0 : ks ≠ []) (h15 : ks.length ≤ 15) :
    PE X (.Dict ks vs pos) (tE X.K CA W fun env hp => (fs env hp).bind fun ds hp => ofOpt (semDct ds hp)) := by
  refine (pe_disp hP hall hl h0 h15).imp fun σ H Q ⟨env, L, Xg, hp, k, r, g⟩ p hn => ?_
  have p0 : Post H L Xg (upd H p (.dK [])) L Xg := Post.new hn _
  refine hS σ _ _ ⟨env, L, Xg, hp, k.new hn _, r.post k p0, (GD.from_ (GD.bindE g) p0).imp fun ds hp2 H2 L2 X2 p2 k2 ⟨_, g2⟩ us ru => ?_⟩
  have hL : p ∉ L := fun z => k.notX hn (k.sub p z)
  have e2 : H2 p = some (.dK []) := p2.keep p _ upd_same hL (fun ps z => nomatch z)
  have hX2 : p ∉ X2 := fun z => by
    obtain ⟨n, m, _, f, _, fr⟩ := p2.ext
    rw [f] at z
    rcases List.mem_append.mp z with z | z
    · exact k.notX hn z
    · have := fr p z
      rw [upd_same] at this
      cases this
  cases q : pairsD ds with
  | none => simp only [semDct, q] at g2; exact g2.elim
  | some ps =>
    simp only [semDct, q] at g2
    by_cases hz : ps.length ≤ 15
    · rw [if_pos hz] at g2
      obtain ⟨kvs, rk, ek⟩ := pairs_of q ru
      have c : Adp H2 p := fun u e => by rw [e2] at e; cases e; exact ⟨trivial, fun w z => nomatch z⟩
      have rm := rk.merge .nil
      refine ⟨e2, kvs, ek, by rw [rk.length]; exact hz, ?_⟩
      exact g2 _ (L2 ++ [p]) (X2 ++ [p]) (Post.adopt hn p2 c) (k2.adopt (o := .dk _) hX2 c (by show _ = _; rw [rm.zip]) rm.vals) (.ref p) ⟨p, rfl, loc_new k2 p⟩
    · rw [if_neg hz] at g2; exact g2.elim
theorem nosl (h : plainIx b = true) : NoSl b := by
  intro o i
  cases b <;> first | rfl | (simp [plainIx] at h; done)
theorem snd_dix (hu : X.A.units + 64 < cLine) (ha : PE X a (tE X.K CA W fa)) (hb : PE X b (tE X.K CA W fb)) (hp : plainIx b = true) :
    PE X (.Subscript a b pos) (tE X.K CA W fun env hp => (fa env hp).bind fun x hp => (fb env hp).bind fun y hp => match atDk x y hp with | some (some v) => .ok v hp | _ => .bad) := by
  refine (pe_dget (by omega) ha hb (nosl hp)).imp fun σ H Q ⟨env, L, Xg, hp, k, r, g⟩ => ?_
  refine ⟨env, L, Xg, hp, k, r, (GD.bind g).imp fun d hp1 H1 L1 X1 p1 k1 g1 v rv => ?_⟩
  refine ⟨env, L1, X1, hp1, k1, r.post k p1, (GD.bind g1).imp fun e hp2 H2 L2 X2 p2 k2 g2 u ru => ?_⟩
  cases q : atDk d e hp2 with
  | none => simp only [q] at g2; exact g2.elim
  | some o =>
    cases o with
    | none => simp only [q] at g2; exact g2.elim
    | some z =>
      simp only [q] at g2
      obtain ⟨a, ov, e1, h1, h2⟩ := dget_of k2 (rv.post k1 p2) ru q
      cases ov with
      | none => exact h2.elim
      | some w => exact ⟨a, w, e1, h1, g2.here k2 w h2⟩
theorem snd_dixT {kk : Nat} {tp : Pos} (hu : X.A.units + 64 < cLine) (ha : PE X a (tE X.K CA W fa)) (hs : PA X es (tA X.K CA W fs)) (hlen : ∀ env hp ds hp', fs env hp = .ok ds hp' → ds.length ≤ 1000) :
    PE X (.Subscript a (.Tuple es kk tp) pos) (tE X.K CA W fun env hp => (fa env hp).bind fun x hp => (fs env hp).bind fun ys hp => match atDt x ys hp with | some (some v) => .ok v hp | _ => .bad) := by
  refine (pe_dget (by omega) ha (pe_tup hs) (fun _ _ => rfl)).imp fun σ H Q ⟨env, L, Xg, hp, k, r, g⟩ => ?_
  refine ⟨env, L, Xg, hp, k, r, (GD.bind g).imp fun d hp1 H1 L1 X1 p1 k1 g1 v rv => ?_⟩
  refine ⟨env, L1, X1, hp1, k1, r.post k p1, (GD.bind g1).impE fun ds hp2 H2 L2 X2 eo p2 k2 g2 us ru => ?_⟩
  cases q : atDt d ds hp2 with
  | none => simp only [q] at g2; exact g2.elim
  | some o =>
    cases o with
    | none => simp only [q] at g2; exact g2.elim
    | some z =>
      simp only [q] at g2
      obtain ⟨n, ky, kvs, rfl, h1, h2, h3⟩ := atDt_inv q
      obtain ⟨a, vs, e1, h4, h5, h6⟩ := k2.atDt h2
      obtain ⟨b, e2, e3⟩ := rv.post k1 p2
      rw [e1] at e3
      cases e3
      have eu := keys_of h1 ru
      have hl : us.length ≤ sizeLine := by
        rw [ru.len]
        exact Nat.le_trans (hlen _ _ _ _ eo) (by rw [sizeLine_eq]; decide)
      refine ⟨hl, fun p hn => ?_⟩
      have p3 : Post H2 L2 X2 (upd H2 p (.tup us)) L2 X2 := Post.new hn _
      have hv := h6.val ky
      rw [← h3] at hv
      cases qv : valV vs ky with
      | none => rw [qv] at hv; exact hv.elim
      | some w =>
        rw [qv] at hv
        refine ⟨a, w, e2, ?_, g2 _ _ _ p3 (k2.new hn _) w (Rep.post hv k2 p3)⟩
        have := DGet.t (H := upd H2 p (.tup us)) (a := a) (b := p) (kvs := vs) (k := ky) (by rw [upd_ne (ne_of_none h4 hn)]; exact h4) (by rw [upd_same, eu])
        rw [qv] at this
        exact this
theorem m2_of {o e f : Expr} {m : Str} (hb : plainB o = true) (he : plainE e = true) (hf : plainE f = true) (hq : apos.endLine = pos.line) : M2 X o m apos e f pos := by
  have hp : plainEs [e, f] = true := by simp [plainEs, he, hf]
  refine ⟨baseB hb, ?_, by simpa using hq, ?_⟩
  · rw [all_plain hp]
    rfl
  · rw [star_plain he, star_plain hf]
    rfl
theorem snd_dget2 (hu : X.A.units + 64 < cLine) (hb : plainB a = true) (h1 : plainE b = true) (h2 : plainE d = true) (hq : apos.endLine = pos.line) (ha : PE X a (tE X.K CA W fa)) (hbe : PE X b (tE X.K CA W fb)) (hd : PE X d (tE X.K CA W fd)) :
    PE X (.Call (.Attribute a "get" apos) [b, d] [] pos) (tE X.K CA W fun env hp => (fa env hp).bind fun x hp => if isDct x hp = true then (fb env hp).bind fun y hp => (fd env hp).bind fun z hp => match atDk x y hp with | some o => .ok (o.getD z) hp | none => .bad else .bad) := by
  refine (pe_dget2 (by omega) ha hbe hd (m2_of hb h1 h2 hq)).imp fun σ H Q ⟨env, L, Xg, hp, k, r, g⟩ => ?_
  refine ⟨env, L, Xg, hp, k, r, (GD.bind g).imp fun x hp1 H1 L1 X1 p1 k1 g1 v rv => ?_⟩
  by_cases hi : isDct x hp1 = true
  · rw [if_pos hi] at g1
    obtain ⟨ad, ea, hD⟩ := isD_of k1 rv hi
    refine ⟨ad, ea, hD, env, L1, X1, hp1, k1, r.post k p1, (GD.bind g1).imp fun y hp2 H2 L2 X2 p2 k2 g2 u ru => ?_⟩
    refine ⟨env, L2, X2, hp2, k2, (r.post k p1).post k1 p2, (GD.bind g2).imp fun z hp3 H3 L3 X3 p3 k3 g3 w rw' => ?_⟩
    cases q : atDk x y hp3 with
    | none => simp only [q] at g3; exact g3.elim
    | some o =>
      simp only [q] at g3
      obtain ⟨a', ov, e1, h3, h4⟩ := dget_of k3 ((rv.post k1 p2).post k2 p3) (ru.post k2 p3) q
      rw [ea] at e1
      cases e1
      refine ⟨ov, h3, g3.here k3 _ ?_⟩
      cases o <;> cases ov <;> first | exact rw' | exact h4 | exact h4.elim
  · rw [if_neg hi] at g1; exact g1.elim
theorem snd_dsetd (hb : plainB a = true) (h1 : plainE b = true) (h2 : plainE d = true) (hq : apos.endLine = pos.line) (ha : PE X a (tE X.K CA W fa)) (hbe : PE X b (tE X.K CA W fb)) (hd : PE X d (tE X.K CA W fd)) :
    PE X (.Call (.Attribute a "setdefault" apos) [b, d] [] pos) (tE X.K CA W fun env hp => (fa env hp).bind fun x hp => if isDct x hp = true then (fb env hp).bind fun y hp => (fd env hp).bind fun z hp => ofOpt (semSetd x y z hp) else .bad) := by
  refine (pe_dsetd ha hbe hd (m2_of hb h1 h2 hq)).imp fun σ H Q ⟨env, L, Xg, hp, k, r, g⟩ => ?_
  refine ⟨env, L, Xg, hp, k, r, (GD.bind g).imp fun x hp1 H1 L1 X1 p1 k1 g1 v rv => ?_⟩
  by_cases hi : isDct x hp1 = true
  · rw [if_pos hi] at g1
    obtain ⟨ad, ea, hD⟩ := isD_of k1 rv hi
    refine ⟨ad, ea, hD, env, L1, X1, hp1, k1, r.post k p1, (GD.bind g1).imp fun y hp2 H2 L2 X2 p2 k2 g2 u ru => ?_⟩
    refine ⟨env, L2, X2, hp2, k2, (r.post k p1).post k1 p2, (GD.bind g2).imp fun z hp3 H3 L3 X3 p3 k3 g3 w rw' => ?_⟩
    have rx := (rv.post k1 p2).post k2 p3
    have ry := ru.post k2 p3
    unfold semSetd at g3
    split at g3
    · rename_i n ky h3
      split at g3
      · rename_i kvs h4
        obtain ⟨a', vs, e1, h6, h7, h8⟩ := k3.atDk h4
        obtain ⟨b', e2, e3⟩ := rx
        rw [e1] at e3; cases e3
        rw [ea] at e2; cases e2
        have hv := h8.val ky
        by_cases hz : kvs.length < sizeLine
        · rw [if_pos hz] at g3
          refine ⟨vs, ky, h6, key_of h3 ry, by rw [h8.length]; exact hz, fun v0 ev => ?_, fun ev => ?_⟩
          · rw [ev] at hv
            cases q : valD kvs ky with
            | none => rw [q] at hv; exact hv.elim
            | some z0 =>
              rw [q] at hv g3
              exact g3 H3 L3 X3 Post.refl k3 v0 hv
          · rw [ev] at hv
            cases q : valD kvs ky with
            | some z0 => rw [q] at hv; exact hv.elim
            | none =>
              rw [q] at g3
              have rr := h8.put (k := ky) rw'
              have p4 : Post H3 L3 X3 (upd H3 ad (.dK (putK vs ky w))) L3 X3 := Post.write h7 h6 trivial
              exact g3 _ L3 X3 p4 (k3.writeO (o := .dk _) e1 h6 trivial (by show _ = _; rw [rr.zip]) rr.vals) w (rw'.post k3 p4)
        · rw [if_neg hz] at g3; exact g3.elim
      · exact g3.elim
    · exact g3.elim
  · rw [if_neg hi] at g1; exact g1.elim
/-! tests -/
theorem RO.some_eq {K : PySem.W.Frag} {H : Hp} {L Xg : List Addr} {o : Option D} {ov : Option V} (r : RO K H L Xg o ov) : ov.isSome = o.isSome := by
  cases o <;> cases ov <;> first | rfl | exact r.elim
theorem sndT_din {neg : Bool} (hu : X.A.units + 64 < cLine) (hp : plainS a = true) (hy : PE X b (tE X.K CA W fb)) (hd : PE X a (tE X.K CA W fa)) :
    PT X (.Compare b [if neg then .NotIn else .In] [a] pos) (tT X.K CA W fun env hp => (fb env hp).bind fun y hp => (fa env hp).bind fun x hp => match atDk x y hp with
      | some o => .ok (if neg then !o.isSome else o.isSome) hp
      | none => .bad) := by
  cases neg with
  | false =>
    refine (pt_cmp (pc_din (by omega) hy hd) (mark_plain hp)).imp fun σ H Q ⟨env, L, Xg, hp, k, r, g⟩ => ?_
    refine ⟨env, L, Xg, hp, k, r, (GD.bind g).imp fun y hp1 H1 L1 X1 p1 k1 g1 u ru => ?_⟩
    refine ⟨env, L1, X1, hp1, k1, r.post k p1, (GD.bind g1).imp fun x hp2 H2 L2 X2 p2 k2 g2 v rv => ?_⟩
    cases q : atDk x y hp2 with
    | none => simp only [q] at g2; exact g2.elim
    | some o =>
      simp only [q] at g2
      obtain ⟨ad, ov, e1, h1, h2⟩ := dget_of k2 rv (ru.post k1 p2) q
      refine ⟨ad, ov, e1, h1, _, rfl, ?_⟩
      rw [h2.some_eq]
      exact g2 H2 L2 X2 Post.refl k2
  | true =>
    refine (pt_cmp (pc_dnotin (by omega) hy hd) (mark_plain hp)).imp fun σ H Q ⟨env, L, Xg, hp, k, r, g⟩ => ?_
    refine ⟨env, L, Xg, hp, k, r, (GD.bind g).imp fun y hp1 H1 L1 X1 p1 k1 g1 u ru => ?_⟩
    refine ⟨env, L1, X1, hp1, k1, r.post k p1, (GD.bind g1).imp fun x hp2 H2 L2 X2 p2 k2 g2 v rv => ?_⟩
    cases q : atDk x y hp2 with
    | none => simp only [q] at g2; exact g2.elim
    | some o =>
      simp only [q] at g2
      obtain ⟨ad, ov, e1, h1, h2⟩ := dget_of k2 rv (ru.post k1 p2) q
      refine ⟨ad, ov, e1, h1, _, rfl, ?_⟩
      rw [h2.some_eq]
      exact g2 H2 L2 X2 Post.refl k2
theorem sndT_dinT {neg : Bool} {kk : Nat} {tp : Pos} (hu : X.A.units + 64 < cLine) (hp : plainS a = true) (hy : PA X es (tA X.K CA W fs)) (hd : PE X a (tE X.K CA W fa)) (hlen : ∀ env hp ds hp', fs env hp = .ok ds hp' → ds.length ≤ 1000) :
    PT X (.Compare (.Tuple es kk tp) [if neg then .NotIn else .In] [a] pos) (tT X.K CA W fun env hp => (fs env hp).bind fun ys hp => (fa env hp).bind fun x hp => match atDt x ys hp with
      | some o => .ok (if neg then !o.isSome else o.isSome) hp
      | none => .bad) := by
  cases neg with
  | false =>
    refine (pt_cmp (pc_din (by omega) (pe_tup hy) hd) (mark_plain hp)).imp fun σ H Q ⟨env, L, Xg, hp, k, r, g⟩ => ?_
    refine ⟨env, L, Xg, hp, k, r, (GD.bindE g).impE fun ys hp1 H1 L1 X1 eo p1 k1 ⟨_, g1⟩ us ru => ?_⟩
    have hl : us.length ≤ sizeLine := by
      rw [ru.len]
      exact Nat.le_trans (hlen _ _ _ _ eo) (by rw [sizeLine_eq]; decide)
    refine ⟨hl, fun p hn => ?_⟩
    have p3 : Post H1 L1 X1 (upd H1 p (.tup us)) L1 X1 := Post.new hn _
    have k3 := k1.new hn (.tup us)
    refine ⟨env, L1, X1, hp1, k3, (r.post k p1).post k1 p3, (GD.bind (g1.from_ (p1.trans p3))).imp fun x hp2 H2 L2 X2 p2 k2 g2 v rv => ?_⟩
    cases q : atDt x ys hp2 with
    | none => simp only [q] at g2; exact g2.elim
    | some o =>
      simp only [q] at g2
      obtain ⟨n, ky, kvs, rfl, h1, h2, h3⟩ := atDt_inv q
      obtain ⟨ad, vs, e1, h4, h5, h6⟩ := k2.atDt h2
      obtain ⟨b', e2, e3⟩ := rv
      rw [e1] at e3
      cases e3
      have eu := keys_of h1 ru
      have ht : H2 p = some (.tup us) := p2.tups _ _ upd_same
      have hv := h6.val ky
      rw [← h3] at hv
      refine ⟨ad, valV vs ky, e2, DGet.t h4 (by rw [ht, eu]), _, rfl, ?_⟩
      rw [hv.some_eq]
      exact g2 H2 L2 X2 Post.refl k2
  | true =>
    refine (pt_cmp (pc_dnotin (by omega) (pe_tup hy) hd) (mark_plain hp)).imp fun σ H Q ⟨env, L, Xg, hp, k, r, g⟩ => ?_
    refine ⟨env, L, Xg, hp, k, r, (GD.bindE g).impE fun ys hp1 H1 L1 X1 eo p1 k1 ⟨_, g1⟩ us ru => ?_⟩
    have hl : us.length ≤ sizeLine := by
      rw [ru.len]
      exact Nat.le_trans (hlen _ _ _ _ eo) (by rw [sizeLine_eq]; decide)
    refine ⟨hl, fun p hn => ?_⟩
    have p3 : Post H1 L1 X1 (upd H1 p (.tup us)) L1 X1 := Post.new hn _
    have k3 := k1.new hn (.tup us)
    refine ⟨env, L1, X1, hp1, k3, (r.post k p1).post k1 p3, (GD.bind (g1.from_ (p1.trans p3))).imp fun x hp2 H2 L2 X2 p2 k2 g2 v rv => ?_⟩
    cases q : atDt x ys hp2 with
    | none => simp only [q] at g2; exact g2.elim
    | some o =>
      simp only [q] at g2
      obtain ⟨n, ky, kvs, rfl, h1, h2, h3⟩ := atDt_inv q
      obtain ⟨ad, vs, e1, h4, h5, h6⟩ := k2.atDt h2
      obtain ⟨b', e2, e3⟩ := rv
      rw [e1] at e3
      cases e3
      have eu := keys_of h1 ru
      have ht : H2 p = some (.tup us) := p2.tups _ _ upd_same
      have hv := h6.val ky
      rw [← h3] at hv
      refine ⟨ad, valV vs ky, e2, DGet.t h4 (by rw [ht, eu]), _, rfl, ?_⟩
      rw [hv.some_eq]
      exact g2 H2 L2 X2 Post.refl k2
/-! statements -/
theorem sw_plain {v : Expr} {t : Option Expr} {l : Nat} (h1 : noSC v = true) (h2 : isComp v = false) : swapsWith v t l X.env = pure false := by
  cases v <;> first | (simp [noSC] at h1; done) | (simp [isComp] at h2; done) | rfl
theorem snd_dput {p2 : Pos} {v : Expr} {fv : EnvI → HpI → Out D} (hu : X.A.units + 64 < cLine) (h1 : noSC v = true) (h2 : isComp v = false) (ha : PE X a (tE X.K CA W fa)) (hb : PE X b (tE X.K CA W fb)) (hv : PE X v (tE X.K CA W fv)) :
    PS X (.Assign [.Subscript a b p2] v pos) (tS X.K CA W fun env hp => (fv env hp).thenS env fun v hp => (fa env hp).thenS env fun x hp => (fb env hp).thenS env fun y hp => match toDk x y v hp with | some hp => .nx env hp | none => .bad) := by
  refine (ps_dput (by omega) ha hb hv (sw_plain h1 h2)).imp fun D σ H ⟨env, L, Xg, hp, k, r, g⟩ => ?_
  refine ⟨env, L, Xg, hp, k, r, (GS.thenS g k r).imp fun d hp1 H1 L1 X1 p1 k1 g1 v rv => ?_⟩
  have r1 := r.post k p1
  refine ⟨env, L1, X1, hp1, k1, r1, (GS.thenS g1 k1 r1).imp fun x hp2 H2 L2 X2 p2 k2 g2 u ru => ?_⟩
  have r2 := r1.post k1 p2
  refine ⟨env, L2, X2, hp2, k2, r2, (GS.thenS g2 k2 r2).imp fun y hp3 H3 L3 X3 p3 k3 g3 w rw' => ?_⟩
  have r3 := r2.post k2 p3
  cases q : toDk x y d hp3 with
  | none => simp only [q] at g3; exact g3.elim
  | some hp4 =>
    simp only [q] at g3
    obtain ⟨ad, H4, e1, hput, p4, k4⟩ := dput_of k3 (ru.post k2 p3) rw' ((rv.post k1 p2).post k2 p3) q
    exact ⟨ad, H4, e1, hput, g3 H4 L3 X3 σ p4 k4 (r3.post k3 p4)⟩
theorem snd_dputT {p2 tp : Pos} {kk : Nat} {v : Expr} {fv : EnvI → HpI → Out D} (hu : X.A.units + 64 < cLine) (h1 : noSC v = true) (h2 : isComp v = false) (ha : PE X a (tE X.K CA W fa)) (hb : PA X es (tA X.K CA W fs)) (hv : PE X v (tE X.K CA W fv)) (hlen : ∀ env hp ds hp', fs env hp = .ok ds hp' → ds.length ≤ 1000) :
    PS X (.Assign [.Subscript a (.Tuple es kk tp) p2] v pos) (tS X.K CA W fun env hp => (fv env hp).thenS env fun v hp => (fa env hp).thenS env fun x hp => (fs env hp).thenS env fun ys hp => match toDt x ys v hp with | some hp => .nx env hp | none => .bad) := by
  refine (ps_dput (by omega) ha (pe_tup hb) hv (sw_plain h1 h2)).imp fun D σ H ⟨env, L, Xg, hp, k, r, g⟩ => ?_
  refine ⟨env, L, Xg, hp, k, r, (GS.thenS g k r).imp fun d hp1 H1 L1 X1 p1 k1 g1 v rv => ?_⟩
  have r1 := r.post k p1
  refine ⟨env, L1, X1, hp1, k1, r1, (GS.thenS g1 k1 r1).imp fun x hp2 H2 L2 X2 p2 k2 g2 u ru => ?_⟩
  have r2 := r1.post k1 p2
  refine ⟨env, L2, X2, hp2, k2, r2, (GS.thenS g2 k2 r2).impE fun ys hp3 H3 L3 X3 eo p3 k3 g3 ws rws => ?_⟩
  have hl : ws.length ≤ sizeLine := by
    rw [rws.len]
    exact Nat.le_trans (hlen _ _ _ _ eo) (by rw [sizeLine_eq]; decide)
  refine ⟨hl, fun p hn => ?_⟩
  have p4 : Post H3 L3 X3 (upd H3 p (.tup ws)) L3 X3 := Post.new hn _
  have k4 := k3.new hn (.tup ws)
  cases q : toDt x ys d hp3 with
  | none => simp only [q] at g3; exact g3.elim
  | some hp4 =>
    simp only [q] at g3
    obtain ⟨ad, H5, e1, hput, p5, k5⟩ := dputT_of k4 ((ru.post k2 p3).post k3 p4) (rws.post k3 p4) upd_same (((rv.post k1 p2).post k2 p3).post k3 p4) q
    exact ⟨ad, H5, e1, hput, g3 H5 L3 X3 σ (p4.trans p5) k5 (((r2.post k2 p3).post k3 p4).post k4 p5)⟩
end
end KI

namespace KI
open PySem PySem.Spec PyProof.Rows L2
variable [LX]
/-! ## 42. instances -/
section
variable {K : PySem.W.Frag} {CA : Nat → Addr} {H H' : Hp} {L X L' X' : List Addr} {hp : HpI}
theorem RK.lookup {f : Str} {fs : List (Str × D)} : ∀ {vs : List (Str × V)}, RK K H L X fs vs → RO K H L X (fs.lookup f) (vs.lookup f) := by
  induction fs with
  | nil =>
    intro vs r
    have : vs = [] := by have := r.keys; simpa using this.symm
    subst this
    trivial
  | cons p fs ih =>
    intro vs r
    obtain ⟨v, t, rfl, h1, h2⟩ := r.cons_inv
    obtain ⟨p1, p2⟩ := p
    simp only [List.lookup_cons]
    cases q : f == p1 with
    | true => exact h1
    | false => exact ih h2
theorem RK.putF {f : Str} {d : D} {v : V} (h : Rep K H L X d v) {fs : List (Str × D)} : ∀ {vs : List (Str × V)}, RK K H L X fs vs → RK K H L X (putFD f d fs) (L2.putF f v vs) := by
  induction fs with
  | nil =>
    intro vs r
    have : vs = [] := by have := r.keys; simpa using this.symm
    subst this
    exact .cons h .nil
  | cons p fs ih =>
    intro vs r
    obtain ⟨w, t, rfl, h1, h2⟩ := r.cons_inv
    obtain ⟨p1, p2⟩ := p
    simp only [putFD, L2.putF]
    by_cases e : p1 = f
    · simp only [e, if_true]
      exact .cons h h2
    · simp only [e, if_false]
      exact .cons h1 (ih h2)
theorem fldD_inv {c : Nat} {f : Str} {x v : D} (h : fldD c f x hp = some v) : ∃ n fs, x = .loc n ∧ hp[n]? = some (.ins c fs) ∧ fs.lookup f = some v := by
  unfold fldD at h
  split at h
  · split at h
    · rename_i c' fs q
      by_cases e : c' = c
      · rw [if_pos e] at h
        subst e
        exact ⟨_, _, rfl, q, h⟩
      · rw [if_neg e] at h; cases h
    · cases h
  · cases h
theorem fld_of {c : Nat} {f : Str} {x v : D} {u : V} (k : HOK K H L X hp) (rx : Rep K H L X x u) (h : fldD c f x hp = some v) : ∃ a dx vs w, u = .ref a ∧ H a = some (.ins (LX.CI c) dx vs) ∧ vs.lookup f = some w ∧ Rep K H L X v w := by
  obtain ⟨n, fs, rfl, h1, h2⟩ := fldD_inv h
  obtain ⟨a, dx, vs, e1, h3, h4, h5⟩ := k.atIns h1
  obtain ⟨b, e2, e3⟩ := rx
  rw [e1] at e3
  cases e3
  have := h5.lookup (f := f)
  rw [h2] at this
  cases q : vs.lookup f with
  | none => rw [q] at this; exact this.elim
  | some w => rw [q] at this; exact ⟨a, dx, vs, w, e2, h3, q, this⟩
theorem fset_of {c : Nat} {f : Str} {x d : D} {u v : V} {hp' : HpI} (k : HOK K H L X hp) (rx : Rep K H L X x u) (rv : Rep K H L X d v) (h : setFD c f x d hp = some hp') : ∃ a dx vs, u = .ref a ∧ H a = some (.ins (LX.CI c) dx vs) ∧ vs.length < 1000 ∧ Post H L X (upd H a (.ins (LX.CI c) dx (L2.putF f v vs))) L X ∧ HOK K (upd H a (.ins (LX.CI c) dx (L2.putF f v vs))) L X hp' := by
  unfold setFD at h
  split at h
  · rename_i n
    split at h
    · rename_i c' fs q
      by_cases e : c' = c ∧ fs.length < 1000
      · rw [if_pos e] at h
        obtain ⟨rfl, hz⟩ := e
        cases h
        obtain ⟨a, dx, vs, e1, h3, h4, h5⟩ := k.atIns q
        obtain ⟨b, e2, e3⟩ := rx
        rw [e1] at e3
        cases e3
        have r := h5.putF (f := f) rv
        exact ⟨a, dx, vs, e2, h3, by rw [h5.length]; exact hz, Post.write h4 h3 trivial, k.writeO (o := .ins c' _) e1 h3 trivial ⟨dx, by rw [r.zip]⟩ r.vals⟩
      · rw [if_neg e] at h; cases h
    · cases h
  · cases h
theorem insD_inv {c : Nat} {m : Str} {x : D} {u : V} (k : HOK K H L X hp) (rx : Rep K H L X x u) (h : insD c m x hp = true) : ∃ a dx vs, u = .ref a ∧ H a = some (.ins (LX.CI c) dx vs) ∧ vs.lookup m = none := by
  unfold insD at h
  split at h
  · rename_i n
    split at h
    · rename_i c' fs q
      simp only [Bool.and_eq_true, decide_eq_true_eq] at h
      obtain ⟨rfl, hm⟩ := h
      obtain ⟨a, dx, vs, e1, h3, h4, h5⟩ := k.atIns q
      obtain ⟨b, e2, e3⟩ := rx
      rw [e1] at e3
      cases e3
      have := h5.lookup (f := m)
      rw [Option.isNone_iff_eq_none] at hm
      rw [hm] at this
      cases q2 : vs.lookup m with
      | none => exact ⟨a, dx, vs, e2, h3, q2⟩
      | some w => rw [q2] at this; exact this.elim
    · cases h
  · cases h
end
section
variable {X : Cx} {CA : Nat → Addr} {W : WX} {pos apos : Pos} {a b d v : Expr} {fa fb fv : EnvI → HpI → Out D} {es : List Expr} {fs : EnvI → HpI → Out (List D)} {c n i : Nat} {f m : Str} {cf : CF}
theorem base_plain (hb : plainB a = true) : attributeBase a f X.env (eval a X.env) = eval a X.env := by
  exact baseB hb
/-- a method of what never comes: its receiver raises -/
theorem snd_ras (hq : apos.endLine = pos.line) (hb : plainB a = true) (ha : PE X a (tE X.K CA W fa)) :
    PE X (.Call (.Attribute a m apos) [] [] pos) (tE X.K CA W fun env hp => (fa env hp).bind fun _ _ => .bad) := by
  refine ⟨fun pins s σ H Q I ⟨env, L, Xg, hp, k, r, g⟩ => ?_⟩
  refine PySem.Call_method0 (base_plain hb) (by simpa using hq) (thn (ha.run pins s σ H (fun _ _ => False) I ⟨env, L, Xg, hp, k, r, (GD.bind g).imp fun x hp1 H1 L1 X1 p1 k1 g1 u ru => ?_⟩) fun v s1 ⟨x, H1, I1, r1, q1⟩ => q1.elim)
  exact g1.elim
theorem snd_fld (hb : plainB a = true) (cl : Cls X.K (LX.CI c)) (na : NoAttr X.K (LX.CI c) f) (ha : PE X a (tE X.K CA W fa)) :
    PE X (.Attribute a f pos) (tE X.K CA W fun env hp => (fa env hp).bind fun x hp => match fldD c f x hp with | some v => .ok v hp | none => .bad) := by
  refine (L2.pe_fld ha (base_plain hb)).imp fun σ H Q ⟨env, L, Xg, hp, k, r, g⟩ => ?_
  refine ⟨env, L, Xg, hp, k, r, (GD.bind g).imp fun x hp1 H1 L1 X1 p1 k1 g1 u ru => ?_⟩
  cases q : fldD c f x hp1 with
  | none => simp only [q] at g1; exact g1.elim
  | some z =>
    simp only [q] at g1
    obtain ⟨ad, dx, vs, w, e1, h1, h2, h3⟩ := fld_of k1 ru q
    exact ⟨ad, _, dx, vs, w, e1, h1, cl, na, h2, g1.here k1 w h3⟩
theorem snd_fset {p2 : Pos} (h1 : noSC v = true) (h2 : isComp v = false) (cl : Cls X.K (LX.CI c)) (na : NoAttr X.K (LX.CI c) f) (ha : PE X a (tE X.K CA W fa)) (hv : PE X v (tE X.K CA W fv)) :
    PS X (.Assign [.Attribute a f p2] v pos) (tS X.K CA W fun env hp => (fv env hp).thenS env fun v hp => (fa env hp).thenS env fun x hp => match setFD c f x v hp with | some hp => .nx env hp | none => .bad) := by
  refine (ps_fld ha hv (sw_plain h1 h2)).imp fun D σ H ⟨env, L, Xg, hp, k, r, g⟩ => ?_
  refine ⟨env, L, Xg, hp, k, r, (GS.thenS g k r).imp fun d hp1 H1 L1 X1 p1 k1 g1 v rv => ?_⟩
  have r1 := r.post k p1
  refine ⟨env, L1, X1, hp1, k1, r1, (GS.thenS g1 k1 r1).imp fun x hp2 H2 L2 X2 p2 k2 g2 u ru => ?_⟩
  have r2 := r1.post k1 p2
  cases q : setFD c f x d hp2 with
  | none => simp only [q] at g2; exact g2.elim
  | some hp3 =>
    simp only [q] at g2
    obtain ⟨ad, dx, vs, e1, h3, h4, p3, k3⟩ := fset_of k2 ru (rv.post k1 p2) q
    exact ⟨ad, _, dx, vs, e1, h3, cl, na, h4, g2 _ L2 X2 σ p3 k3 (r2.post k2 p3)⟩
theorem snd_faug {p2 : Pos} {op : Op2} {bop : Operator} (ho : ((∃ m, op = .add m) ∧ bop = .Add) ∨ (op = .sub ∧ bop = .Sub)) (cl : Cls X.K (LX.CI c)) (na : NoAttr X.K (LX.CI c) f) (ha : PE X a (tE X.K CA W fa)) (hb : PE X b (tE X.K CA W fb)) :
    PS X (.AugAssign (.Attribute a f p2) bop b pos) (tS X.K CA W fun env hp => (fa env hp).thenS env fun x hp => match fldD c f x hp with
      | some u => (fb env hp).thenS env fun y hp => match semAug op u y with
        | some z => match setFD c f x z hp with
          | some hp => .nx env hp
          | none => .bad
        | none => .bad
      | none => .bad) := by
  have key : ∀ (rd : V → V → Hp → VK → Prop), InOp X bop rd → (∀ H L Xg u y z v w Q, semAug op u y = some z → Rep X.K H L Xg u v → Rep X.K H L Xg y w → (∀ q, Rep X.K H L Xg z q → Q q H) → rd v w H Q) →
      PS X (.AugAssign (.Attribute a f p2) bop b pos) (tS X.K CA W fun env hp => (fa env hp).thenS env fun x hp => match fldD c f x hp with
        | some u => (fb env hp).thenS env fun y hp => match semAug op u y with
          | some z => match setFD c f x z hp with
            | some hp => .nx env hp
            | none => .bad
          | none => .bad
        | none => .bad) := fun rd hop hrd => by
    refine (ps_fldaug ha hb hop).imp fun D σ H ⟨env, L, Xg, hp, k, r, g⟩ => ?_
    refine ⟨env, L, Xg, hp, k, r, (GS.thenS g k r).imp fun x hp1 H1 L1 X1 p1 k1 g1 u ru => ?_⟩
    have r1 := r.post k p1
    cases q : fldD c f x hp1 with
    | none => simp only [q] at g1; exact g1.elim
    | some z =>
      simp only [q] at g1
      obtain ⟨ad, dx, vs, w, e1, h1, h2, h3⟩ := fld_of k1 ru q
      refine ⟨ad, _, dx, vs, w, e1, h1, cl, na, h2, env, L1, X1, hp1, k1, r1, (GS.thenS g1 k1 r1).imp fun y hp2 H2 L2 X2 p2 k2 g2 t rt => ?_⟩
      have r2 := r1.post k1 p2
      cases q2 : semAug op z y with
      | none => simp only [q2] at g2; exact g2.elim
      | some z2 =>
        simp only [q2] at g2
        refine hrd H2 L2 X2 z y z2 w t _ q2 (h3.post k1 p2) rt fun q3 rq => ?_
        cases q4 : setFD c f x z2 hp2 with
        | none => simp only [q4] at g2; exact g2.elim
        | some hp3 =>
          simp only [q4] at g2
          obtain ⟨ad', dx', vs', e1', h3', h4', p3, k3⟩ := fset_of k2 (ru.post k1 p2) rq q4
          rw [e1] at e1'
          cases e1'
          exact ⟨dx', vs', h3', h4', g2 _ L2 X2 σ p3 k3 (r2.post k2 p3)⟩
  rcases ho with ⟨⟨m, rfl⟩, rfl⟩ | ⟨rfl, rfl⟩
  · refine key _ in_add fun H L Xg u y z v w Q e r1 r2 h => ?_
    cases u <;> cases y <;> first | (simp [semAug] at e; done) | skip
    simp only [semAug, Option.some.injEq] at e
    subst e
    exact ⟨_, _, r1, r2, h _ rfl⟩
  · refine key _ in_sub fun H L Xg u y z v w Q e r1 r2 h => ?_
    cases u <;> cases y <;> first | (simp [semAug] at e; done) | skip
    simp only [semAug, Option.some.injEq] at e
    subst e
    exact ⟨_, _, r1, r2, h _ rfl⟩
/-! ### calls of methods -/
theorem meth_tree (hb : plainB a = true) (hp : plainEs es = true) (hl : es.length < 20) (hq : apos.endLine = pos.line) :
    eval (.Call (.Attribute a m apos) es [] pos) X.env = (do
      let ov ← eval a X.env
      standAt apos.atName
      let (f, first) ← holding [ov] (getMethod ov m (do return (← importBound a X.env).getD true))
      callWith pos f first (backTo pos (starEach es X.env)) (backToKw pos (keywordEach [] X.env))) := by
  have hfew : methodCallForm (es.length + ([] : List Keyword).length) (backTo pos (starEach es X.env)) (backToKw pos (keywordEach [] X.env)) = true := by
    unfold methodCallForm
    rw [all_plain hp]
    have : es.length + ([] : List Keyword).length + (if (backToKw pos (keywordEach [] X.env)).isEmpty then 0 else 1) < 30 := by
      have : (backToKw pos (keywordEach [] X.env)).isEmpty = true := rfl
      rw [this]
      simp only [List.length_nil, if_true]; omega
    rw [decide_eq_true this]
    rfl
  have hpos : methodCallPos true a X.env apos pos = pure pos := by
    unfold methodCallPos
    rw [if_pos (by rw [hq]; simp)]
  rw [arm_eval_Call, base_plain hb]
  unfold methodCall
  rw [hfew, hpos]
  rfl
theorem snd_meth {di : DefI} {fad : Addr} {fd : FuncData} (F : DefOk X.prog X.w X.K X.mg X.base CA cf n i di fad fd) (cl : Cls X.K (LX.CI c)) (hm : Meth X.K (LX.CI c) m fad) (hd : di.dfl = []) (hr : Room (2 * n + 2) X.A) (tk : Takes X W) (hl : es.length + 1 = di.ps.length) (hb : plainB a = true) (hp : plainEs es = true) (h20 : es.length < 20) (hq : apos.endLine = pos.line)
    (ha : PE X a (tE X.K CA W fa)) (hs : PA X es (tA X.K CA W fs)) (hlen : ∀ env hp ds hp', fs env hp = .ok ds hp' → ds.length = es.length) (hnil : es = [] → ∀ env hp, fs env hp = .ok [] hp) :
    PE X (.Call (.Attribute a m apos) es [] pos) (tE X.K CA W fun env hp => (fa env hp).bind fun x hp => if insD c m x hp = true then (fs env hp).bind fun ds hp => cf i (x :: ds) hp else .bad) := by
  refine ⟨fun pins s σ H Q I ⟨env, L, Xg, hpp, ko, r, g⟩ => ?_⟩
  have g2 : GD X.K CA H L Xg (fun c dx H' => W c dx σ H') (fa env hpp) (RQ X.K fun u H1 => ∃ ad dx vs, u = .ref ad ∧ H1 ad = some (.ins (LX.CI c) dx vs) ∧ vs.lookup m = none ∧ tA X.K CA W fs σ H1 fun ws H2 => spI X.K CA cf i di.ps.length (.ref ad :: ws) H2 Q (WE W σ)) := by
    refine (GD.bind g).imp fun x hp1 H1 L1 X1 p1 k1 g1 u ru => ?_
    by_cases hi : insD c m x hp1 = true
    · rw [if_pos hi] at g1
      obtain ⟨ad, dx, vs, e1, h1, h2⟩ := insD_inv k1 ru hi
      refine ⟨ad, dx, vs, e1, h1, h2, env, L1, X1, hp1, k1, r.post ko p1, (GD.bind g1).impE fun ds hp2 H2 L2 X2 eo p2 k2 g2 ws rws => ?_⟩
      refine ⟨?_, L2, X2, hp2, x :: ds, k2, .cons (by rw [← e1]; exact ru.post k1 p2) rws, g2⟩
      rw [List.length_cons, rws.len, hlen _ _ _ _ eo, hl]
    · rw [if_neg hi] at g1; exact g1.elim
  have hB := F.b0 hd
  refine PySem.W.methodCall_KW (thn (ha.run pins s σ H _ I ⟨env, L, Xg, hpp, ko, r, g2⟩) fun u s1 ⟨x, H1, I1, rx, ad, dx, vs, ex, ea, l, q⟩ => ?_) (meth_tree hb hp h20 hq)
  subst ex
  obtain rfl : u = Value.ref ad := rx
  refine getmeth_ok I1 ea cl hm l ?_
  cases es with
  | nil =>
    refine PySem.W.callWith_K0 (first := [.ref ad]) I1.kIn hm.kp ?_
    obtain ⟨env', L', X', hp', k', r', g'⟩ := q
    have e0 : ∃ H2, Inv X pins σ H2 s1 ∧ spI X.K CA cf i di.ps.length [.ref ad] H2 Q (WE W σ) := by
      rw [hnil rfl] at g'
      exact ⟨H1, I1, g'.here k' [] rfl⟩
    obtain ⟨H2, I2, q2⟩ := e0
    exact run_fnS (us := [.ref ad]) (vs := [.ref ad]) F.fn hr hB (passAt tk σ) I2 (.cons rfl .nil) q2
  | cons e es =>
    have hp' := hp
    simp only [plainEs, Bool.and_eq_true] at hp
    refine PySem.W.callWith_K (first := [.ref ad]) (h₀ := X.base) I.ok.mod.kin hm.kp (thn (hs.run pos pins s1 σ H1 _ I1 q) fun us s2 ⟨ws, H2, I2, rr, q2⟩ => ⟨I2.kIn, ?_⟩) (star_plain hp.1) (any_plain hp.2)
    exact run_fnS (us := .ref ad :: us) (vs := .ref ad :: ws) F.fn hr hB (passAt tk σ) I2 (.cons rfl rr) q2
theorem run_makeD {C f : Addr} {fd : FuncData} {ps : List Str} {sp : Sp} {E : XK} {CX : CXT} {k : Nat} {pins : List (Addr × Obj)} {σ : L2.St} {H : Hp} {s : Shared} {Q : VK} {us : List Value} {vs : List V} (M : Mk X.K C f) (F : FnOk X.prog X.w X.K X.mg X.base CX k f fd ps sp) (hr : Room (k + 1) X.A) (hb : Binds X.K fd ps [])
    (hx : PassesAt CX X σ E) (I : L2.Inv X pins σ H s) (r : Vals vs us)
    (h : ∀ x dx, H x = none → H dx = none → dx ≠ x → sp (.ref x :: vs) (upd (upd H dx (.own x)) x (.ins C dx [])) (fun v H2 => v = .non ∧ Q (.ref x) H2) E) :
    wpAny (model X.prog X.w) X.A (call (.ref C) us) (EP X pins σ Q) X.xe s := by
  have hq := h (s.heap.objs.size + 1) s.heap.objs.size (I.hok.fresh (Nat.le_succ _)) (I.hok.fresh (Nat.le_refl _)) (Nat.ne_of_lt (Nat.lt_succ_self _))
  have I2 := Inv.made (C := C) I
  have r2 : Vals (V.ref (s.heap.objs.size + 1) :: vs) (Value.ref (s.heap.objs.size + 1) :: us) := .cons rfl r
  have hl : (Value.ref (s.heap.objs.size + 1) :: us ++ []).length = ps.length := by
    have e := r2.length
    rw [F.len _ _ _ _ hq] at e
    rw [List.append_nil]
    exact e.symm
  have hbb := hb _ (Value.ref (s.heap.objs.size + 1) :: us) I2.kIn hl
  rw [List.append_nil] at hbb
  refine wpAny_call (make_map (f := f) I.kIn M.makes M.init (beq_iff_eq.mp M.fn) (codeAny_mono (F.run _ X.stack _ _ ⟨Value.ref (s.heap.objs.size + 1) :: us, []⟩ (Value.ref (s.heap.objs.size + 1) :: us) _ _ E (hr.make C us [])
    (I2.env0.make C us []) hbb r2 hq) fun r s' hq' => ?_))
  cases r with
  | error e => exact hx pins _ _ e s' I2 hq'
  | ok fl =>
    cases fl with
    | ret u =>
      obtain ⟨v, H', I3, rv, ev, q3⟩ := I2.after hq'
      subst ev
      exact ⟨rv, ⟨V.ref (s.heap.objs.size + 1), H', I3, rfl, q3⟩⟩
    | next => exact False.elim hq'
    | brk => exact False.elim hq'
    | cont => exact False.elim hq'
theorem snd_new {x : Str} {p : Pos} {di : DefI} {fad : Addr} {fd : FuncData} (F : DefOk X.prog X.w X.K X.mg X.base CA cf n i di fad fd) (hm : X.mg x = some (.ref (LX.CI c))) (M : Mk X.K (LX.CI c) fad) (hd : di.dfl = []) (hr : Room (2 * n + 3) X.A) (tk : Takes X W) (hg : Gl X x) (hdb : (x == ("__debug__" : Str)) = false) (hl : es.length + 1 = di.ps.length) (hn : es.isEmpty = false) (hp : plainEs es = true)
    (hs : PA X es (tA X.K CA W fs)) (hlen : ∀ env hp ds hp', fs env hp = .ok ds hp' → ds.length = es.length) :
    PE X (.Call (.Name x p) es [] pos) (tE X.K CA W fun env hp => (fs env hp).bind fun ds hp => (cf i (.loc hp.length :: ds) (hp ++ [.ins c []])).bind fun u hp' => match u with
      | .non => .ok (.loc hp.length) hp'
      | _ => .bad) := by
  cases es with
  | nil => simp at hn
  | cons e es =>
    simp only [plainEs, Bool.and_eq_true] at hp
    have hB := F.b0 hd
    refine ⟨fun pins s σ H Q I ⟨env, L, Xg, hpp, ko, r, g⟩ => ?_⟩
    have g2 : GD X.K CA H L Xg (fun c dx H' => W c dx σ H') (fs env hpp) (RQs X.K fun vs H1 => ∀ y dx, H1 y = none → H1 dx = none → dx ≠ y → spI X.K CA cf i di.ps.length (.ref y :: vs) (upd (upd H1 dx (.own y)) y (.ins (LX.CI c) dx [])) (fun v H2 => v = .non ∧ Q (.ref y) H2) (WE W σ)) := by
      refine (GD.bind g).impE fun ds hp1 H1 L1 X1 eo p1 k1 g1 vs rv y dx ny ndx ne => ?_
      have p2 : Post H1 L1 X1 (upd H1 dx (.own y)) L1 X1 := Post.new ndx _
      have k2 := k1.new ndx (.own y)
      have ny2 : upd H1 dx (.own y) y = none := by rw [upd_ne (fun z => ne z.symm)]; exact ny
      have p3 : Post (upd H1 dx (.own y)) L1 X1 (upd (upd H1 dx (.own y)) y (.ins (LX.CI c) dx [])) (L1 ++ [y]) (X1 ++ [y]) := Post.newL ny2 _
      have k3 := k2.newO (o := .ins c []) ny2 ⟨dx, rfl⟩ rfl
      have r1 : Rep X.K (upd (upd H1 dx (.own y)) y (.ins (LX.CI c) dx [])) (L1 ++ [y]) (X1 ++ [y]) (.loc hp1.length) (.ref y) := ⟨y, rfl, loc_new k1 y⟩
      refine ⟨?_, _, _, _, .loc hp1.length :: ds, k3, .cons r1 ((rv.post k1 p2).post k2 p3), (GD.bind (g1.from_ (p2.trans p3))).imp fun u hp2 H2 L2 X2 p4 k4 g4 w rw' => ?_⟩
      · rw [List.length_cons, rv.len, hlen _ _ _ _ eo]; exact hl
      · cases u with
        | non => exact ⟨rw', g4.here k4 (.ref y) (r1.post k3 p4)⟩
        | _ => exact g4.elim
    refine wpAny_Call_Name_kw (ld_glob I hg hm ?_ hdb)
    refine PySem.W.callWith_K (h₀ := X.base) I.ok.mod.kin M.kp (thn (hs.run pos pins s σ H _ I ⟨env, L, Xg, hpp, ko, r, g2⟩) fun us s1 ⟨vs, H1, I1, rr, q⟩ => ⟨I1.kIn, ?_⟩) (star_plain hp.1) (any_plain hp.2)
    exact run_makeD M F.fn hr hB (passAt tk σ) I1 rr q
end
end KI

namespace KI
open PySem PySem.Spec PyProof.Rows L2
variable [LX]
/-! ## t[::-1] -/
theorem fmap_congr {α β : Type} {f g : α → Option β} : ∀ {l : List α}, (∀ a ∈ l, f a = g a) → l.filterMap f = l.filterMap g
  | [], _ => rfl
  | a :: l, h => by rw [List.filterMap_cons, List.filterMap_cons, h a List.mem_cons_self, fmap_congr fun b hb => h b (List.mem_cons_of_mem _ hb)]
theorem rev_pick (xs : Array Value) : ((List.range xs.size).filterMap fun (m : Nat) => xs[(((xs.size : Int) - 1) + (m : Int) * (-1)).toNat]?).toArray = xs.toList.reverse.toArray := by
  have e : ((List.range xs.size).filterMap fun (m : Nat) => xs[(((xs.size : Int) - 1) + (m : Int) * (-1)).toNat]?) = ((List.range xs.size).map fun k => xs.size - 1 - k).filterMap (xs[·]?) := by
    rw [List.filterMap_map]
    refine fmap_congr fun m hm => ?_
    have := List.mem_range.mp hm
    have h : (((xs.size : Int) - 1) + (m : Int) * (-1)).toNat = xs.size - 1 - m := by omega
    simp only [Function.comp, h]
  rw [e, PySem.W.krv_range, List.filterMap_reverse, PySem.W.krv_all]
theorem adjust_rev (n : Nat) : Builtin.Slice.sliceAdjust none none (-1) (n : Int) = ((n : Int) - 1, -1) := by
  unfold Builtin.Slice.sliceAdjust
  simp
theorem places_rev (n : Nat) : Builtin.Slice.slicePlaces ((n : Int) - 1) (-1) (-1) = n := by
  unfold Builtin.Slice.slicePlaces
  have h1 : ¬ ((-1 : Int) > 0) := by omega
  have h2 : (- -1 : Int) = 1 := by omega
  simp only [h1, if_false, h2, Int.ediv_one]
  split <;> omega
section
variable {prog : Program} {w : World} {A : Around} {E : Value → Shared → Prop} {s : Shared}
theorem sliceApplied_rev {sl : Addr} {vs : Value} {n : Nat} {Q : Int × Int × Nat → Shared → Prop} (hs : s.heap.IsSliceOf sl .none .none vs) (ps : IsPart vs (some (-1)))
    (h : Q ((n : Int) - 1, -1, n) s) : wpAny (model prog w) A (Builtin.Slice.sliceApplied (.ref sl) (pure (n : Int))) Q E s := by
  obtain ⟨os, hos, hcs, hds⟩ := id hs
  unfold Builtin.Slice.sliceApplied Builtin.Slice.sliceFields
  refine wpAny_bind (wpAny_bind (wpAny_field hos hds (x := .none) rfl (wpAny_bind (wpAny_field hos hds (x := .none) rfl (wpAny_bind (wpAny_field hos hds (x := vs) rfl (wpAny_pure ?_)))))))
  refine wpAny_bind (HT.slicePart_ ps ?_)
  show wpAny _ _ (if ((-1 : Int) == 0) = true then _ else _) _ _ s
  rw [if_neg (by decide)]
  refine wpAny_bind (slicePart_none (wpAny_bind (slicePart_none (wpAny_bind (wpAny_pure ?_)))))
  show wpAny _ _ (match Builtin.Slice.sliceAdjust none none (-1) (n : Int) with | (lo, hi) => pure (lo, (-1 : Int), Builtin.Slice.slicePlaces lo hi (-1))) _ _ s
  rw [adjust_rev n]
  show wpAny _ _ (pure ((n : Int) - 1, (-1 : Int), Builtin.Slice.slicePlaces ((n : Int) - 1) (-1) (-1))) _ _ s
  rw [places_rev]
  exact wpAny_pure h
theorem getItem_tuple_rev {t sl : Addr} {items : Array Value} {vs : Value} {Q : Value → Shared → Prop} (ht : IsTup s.heap t items) (hs : s.heap.IsSliceOf sl .none .none vs) (ps : IsPart vs (some (-1)))
    (h : Q (.ref s.heap.objs.size) { s with heap := s.heap.push { cls := .type "tuple", data := .seq items.toList.reverse.toArray } })
    (hsz : items.size ≤ sizeLine) : wpAny (model prog w) A (getItem (.ref t) (.ref sl)) Q E s := by
  have htake : sizeOk (.seq items.toList.reverse.toArray) := by
    show (items.toList.reverse).toArray.size ≤ sizeLine
    rw [List.size_toArray, List.length_reverse, Array.length_toList]
    exact hsz
  obtain ⟨os, hos, hcs, hds⟩ := id hs
  have hTs : s.TypeIs (.ref sl) "slice" := ⟨os, hos, hcs⟩
  unfold getItem
  try with_reducible refine wpAny_holding ?_
  first | refine wpAny_bind (wpAny_pure ?_) | skip
  refine wpAny_bind (wpAny_sequenceKey ht.typeIs (by decide) ?_)
  refine wpAny_bind (wpAny_callSpecial?_slot (name := Str.ofString "__getitem__") ht.typeIs PyProof.Rows.slot_tuple_getitem
    (wpAny_call_entry PyProof.Rows.slot_tuple_getitem ht.typeIs entry_tuple_getitem ?_ (args_tuple_getitem _ _)))
  show wpAny _ _ (Builtin.Tuple.tupleItemsOf (.ref t) >>= _) _ _ s
  refine wpAny_bind (tupleItemsOf_ ht ?_)
  refine wpAny_bind (wpAny_typeOf hTs ?_)
  rw [if_pos (by decide)]
  refine wpAny_bind (sliceApplied_rev hs ps ?_)
  have hno : ¬ ((((items.size : Int) - 1) == 0 && (-1 : Int) == 1 && items.size == items.size) = true) := by
    intro q
    rw [Bool.and_eq_true, Bool.and_eq_true] at q
    exact absurd q.1.2 (by decide)
  show wpAny _ _ (if (((items.size : Int) - 1) == 0 && (-1 : Int) == 1 && items.size == items.size) = true then _ else _) _ _ s
  rw [if_neg hno, rev_pick]
  first
    | exact wpAny_bind (m := Builtin.Tuple.tupleExact _) (wpAny_newObj_type (wpAny_pure ⟨_, rfl, wpAny_pure h⟩) htake)
    | exact wpAny_bind (m := Builtin.Tuple.tupleExact _) (wpAny_newObj_type (wpAny_bind (wpAny_pure (wpAny_pure ⟨_, rfl, wpAny_pure h⟩))) htake)
    | exact wpAny_bind (wpAny_bind (m := Builtin.Tuple.tupleExact _) (wpAny_newObj_type (wpAny_pure (wpAny_pure ⟨_, rfl, wpAny_pure h⟩)) htake))
    | exact wpAny_bind (wpAny_bind (m := Builtin.Tuple.tupleExact _) (wpAny_newObj_type (wpAny_pure ⟨_, rfl, wpAny_pure h⟩) htake))
end
section
variable {X : Cx} {CA : Nat → Addr} {W : WX}
def tRevT (K : PySem.W.Frag) (te ts : TE) : TE := fun σ H Q => te σ H fun x H1 => tPart ts σ H1 fun o H2 => o = some (-1) ∧ ∃ a xs, x = .ref a ∧ SqT K H2 a xs ∧ ∀ p, H2 p = none → Q (.ref p) (upd H2 p (.tup xs.reverse))
theorem pe_revT {e st : Expr} {te ts : TE} {p3 pos : Pos} (he : PE X e te) (hst : PE X st ts) : PE X (.Subscript e (.Slice none none (some st) p3) pos) (tRevT X.K te ts) := by
  refine ⟨fun pins s σ H Q I h => ?_⟩
  refine Subscript_ (thn (he.run pins s σ H _ I h) fun v s1 ⟨x, H1, I1, r1, q1⟩ => ?_)
  refine wpAny_Slice (thn (po_none.run pins s1 σ H1 (fun o H2 => o = none ∧ H2 = H1) I1 ⟨rfl, rfl⟩) fun vl s2 ⟨l, H2, I2, pl, el, e2⟩ => ?_)
  subst el e2
  refine thn (po_none.run pins s2 σ H2 (fun o H3 => o = none ∧ H3 = H2) I2 ⟨rfl, rfl⟩) fun vu s3 ⟨u, H3, I3, pu, eu, e3⟩ => ?_
  subst eu e3
  refine thn ((po_some hst).run pins s3 σ H3 (fun o H4 => o = some (-1) ∧ ∃ a xs, x = .ref a ∧ SqT X.K H4 a xs ∧ ∀ p, H4 p = none → Q (.ref p) (upd H4 p (.tup xs.reverse))) I3 q1) fun vs s4 ⟨o, H4, I4, ps, eo, q4⟩ => ?_
  obtain ⟨a, xs, ex, hx, q⟩ := q4
  subst ex eo
  cases r1
  cases pl
  cases pu
  have I5 : Inv X pins σ H4 { s4 with heap := s4.heap.push { cls := .type "slice", data := .fields #[.none, .none, vs] } } := I4.kept (t' := s4.toks) fun b ob q => Heap.get?_push_of_some _ q
  obtain ⟨its, r, ht, hz⟩ := I5.tuple hx
  have hlen : its.toArray.size = xs.length := by rw [List.size_toArray]; exact r.length.symm
  show wpAny (model X.prog X.w) X.A (subscriptTail e (.Slice none none (some st) p3) (.ref a) (.ref s4.heap.objs.size)) (EP X pins σ Q) X.xe { s4 with heap := s4.heap.push { cls := .type "slice", data := .fields #[.none, .none, vs] } }
  refine tail_any (ops := [.ref a, .ref s4.heap.objs.size]) ht.typeIs (PyProof.Rows.slot_tuple_getitem.lookup) ?_ (by with_unfolding_all rfl)
  refine getItem_tuple_rev ht (Heap.IsSliceOf.new _ .none .none vs) ps ?_ (by rw [hlen]; exact hz)
  refine ⟨.ref _, _, I5.laid (t' := s4.toks) (o := .tup xs.reverse) (fun b ob q => Heap.get?_push_of_some _ q) (Nat.le_refl _) ?_, rfl, q _ (I5.hok.fresh (Nat.le_refl _))⟩
  exact ⟨by rw [List.length_reverse]; exact hz, _, r.reverse, IsTup.new _ _⟩
theorem Reps.revT {K : PySem.W.Frag} {H : Hp} {L Xg : List Addr} : ∀ {ds : List D} {vs : List V}, Reps K H L Xg ds vs → Reps K H L Xg ds.reverse vs.reverse := by
  intro ds
  induction ds with
  | nil => intro vs r; cases (show vs = [] from r); exact rfl
  | cons d ds ih =>
    intro vs r
    obtain ⟨v, t, rfl, r1, r2⟩ := r
    rw [List.reverse_cons, List.reverse_cons]
    exact (ih r2).app (.cons r1 rfl)
theorem snd_rev {e st : Expr} {fe fs : EnvI → HpI → Out D} {p3 pos : Pos} (he : PE X e (tE X.K CA W fe)) (hst : PE X st (tE X.K CA W fs)) :
    PE X (.Subscript e (.Slice none none (some st) p3) pos) (tE X.K CA W fun env hp => (fe env hp).bind fun x hp => (fs env hp).bind fun y hp => ofOpt (semRev x y hp)) := by
  refine (pe_revT he hst).imp fun σ H Q ⟨env, L, Xg, hp, k, r, g⟩ => ?_
  refine ⟨env, L, Xg, hp, k, r, (GD.bind g).imp fun d hp1 H1 L1 X1 p1 k1 g1 v rv => ?_⟩
  refine ⟨env, L1, X1, hp1, k1, r.post k p1, (GD.bind g1).imp fun y hp2 H2 L2 X2 p2 k2 g2 u ru => ?_⟩
  have rv2 := rv.post k1 p2
  have f := GD.fin g2
  unfold semRev at f
  split at f
  · rename_i xs i
    split at f
    · rename_i hi
      obtain ⟨a, vs, e1, h1, h2, h3⟩ := rv2
      refine ⟨i, ru, by rw [hi], a, vs, e1, h1, fun p hp => ?_⟩
      exact Fin.tup f k2 h3.revT (by rw [List.length_reverse]; exact h2) p hp
    · exact f.absurd
  · exact f.absurd
theorem rgV_eq (j : Int) : rgV 0 j = (List.range j.toNat).map fun i => V.int (i : Nat) := by
  unfold rgV
  rw [Int.sub_zero]
  exact List.map_congr_left fun i _ => by rw [Int.zero_add]
theorem rng_reps {K : PySem.W.Frag} {H : Hp} {L Xg : List Addr} : ∀ (n : Nat) (i : Nat), Reps K H L Xg (rngD (i : Int) n) ((List.range' i n).map fun (i : Nat) => V.int (i : Int))
  | 0, _ => rfl
  | n + 1, i => .cons rfl (by have := rng_reps (K := K) (H := H) (L := L) (Xg := Xg) n (i + 1); simpa using this)
theorem snd_lrng {m : Bool} {e : Expr} {fe : EnvI → HpI → Out D} {p p2 pos pos2 : Pos} (hc : X.calm = true) (hg : Gl X ("list" : Str)) (hg2 : Gl X ("range" : Str)) (hm : ∀ x ∈ bltNames, X.mg x = none) (hp : plainE e = true) (he : PE X e (tE X.K CA W fe)) :
    PE X (.Call (.Name "list" p) [.Call (.Name "range" p2) [e] [] pos2] [] pos) (tE X.K CA W fun env hp => (fe env hp).bind fun x hp => ofOpt (semLR m x hp)) := by
  have na : starEach [e] X.env = (false, eval e X.env) :: starEach [] X.env := star_plain hp
  refine (pe_listRg hc hg (hm _ (by decide +kernel)) (prg_1 hg2 (hm _ (by decide +kernel)) he na)).imp fun σ H Q ⟨env, L, Xg, hp, k, r, g⟩ => ?_
  refine ⟨env, L, Xg, hp, k, r, (GD.bind g).imp fun d hp1 H1 L1 X1 p1 k1 g1 v rv => ?_⟩
  have f := GD.fin g1
  unfold semLR at f
  split at f
  · rename_i j
    split at f
    · rename_i hz
      have h24 : (j - 0).toNat ≤ 2 ^ 24 := by have := hz.2; rw [PySem.sizeLine_eq] at this; omega
      refine ⟨j, rv, ⟨by decide, by decide, hz.1.1, hz.1.2, h24⟩, fun b hb => ?_⟩
      rw [rgV_eq]
      refine Fin.mkL f k1 ?_ ?_ b hb
      · have := rng_reps (K := X.K) (H := H1) (L := L1) (Xg := X1) j.toNat 0
        rw [List.range_eq_range']
        exact this
      · rw [List.length_map, List.length_range]
        exact hz.2
    · exact f.absurd
  · exact f.absurd
end
end KI

namespace KI
open PySem PySem.Spec PyProof.Rows L2
variable [LX]
/-! ## 18. soundness: what chk ties to the tree, the tree's evaluator tells -/
structure GX (X : Cx) (CA : Nat → Addr) (c : CC) (cf : CF) (n : Nat) (W : WX) : Prop where
  hN : X.N = c.N
  hsc : X.env.scope = c.sc
  hfn : X.fn = c.fn
  nd : X.N.Nodup
  calm : X.calm = true
  kind : X.env.scope.kind = .function
  tk : Takes X W
  po : PassesOwn (model X.prog X.w) X.A X.env X.xe
  room : Room (2 * n + 3) X.A
  fx : Fx X.prog X.w X.K X.mg X.base CA c.pg cf n
  cl : ∀ di ∈ c.pg.defs, ∀ k, closeds k (di.dfl.map (·.2)) = true
  lam : ∀ (j : Nat) (params : Arguments) (body : Expr) (scope : Scope) (pos : Pos), c.lamC j params body scope = true → PE X (.Lambda params body scope pos) (tE X.K CA W fun _ hp => .ok (.fn j) hp)
  lr : ∀ j m, LamRun X.prog X.w X.K X.mg X.base CA cf n c.pg.defs.length j m
  kd : c.kd = true → ∃ kf CK, KOk X.K X.mg kf ∧ KindFx X.K X.mg CA CK ∧ CapRun X CA cf n (c.pg.defs.length + c.pg.lams.length)
section
variable {X : Cx} {CA : Nat → Addr} {c : CC} {cf : CF} {n : Nat} {W : WX}
theorem GX.hu (G : GX X CA c cf n W) : X.A.units + 64 < cLine := G.room.units
theorem GX.gl (G : GX X CA c cf n W) {x : Str} (h : glB c.sc x = true) : Gl X x := by
  show X.env.scope.names.lookup x = _
  rw [G.hsc]
  exact gl_of h
theorem GX.blk (G : GX X CA c cf n W) {scope : Scope} {own : List (Str × Nat)} (ok : BlkOk X.N X.env.scope scope own) (s : Shared) (H : Hp) (C : Addr) (cl : List (Str × Addr)) (fp : List Addr) :
    GX (X.blk s H scope (compEnvC scope cl C X.env) fp) CA (blkCC c scope) cf n W0 where
  hN := G.hN
  hsc := by
    show relS scope X.env.scope = relS scope c.sc
    rw [G.hsc]
  hfn := rfl
  nd := G.nd
  calm := G.calm
  kind := by
    show (relS scope X.env.scope).kind = _
    exact ok.kind
  tk := L2.takes0
  po := PassesOwn.never
  room := G.room
  fx := G.fx
  cl := G.cl
  lam := fun j params body scope pos h => by cases h
  lr := G.lr
  kd := fun h => nomatch h
theorem GX.name (G : GX X CA c cf n W) {x : Str} (h : stB c x = true) : (match X.env.scope.names.lookup x with | some .local => true | some .cell => X.fn x | _ => false) = true := by
  unfold stB at h
  rw [G.hsc, G.hfn]
  exact h
theorem evs_len {cf : CF} : ∀ (es : Es) env hp ds hp', evs cf es env hp = .ok ds hp' → ds.length = lenEs es
  | .nil, env, hp, ds, hp', h => by cases h; rfl
  | .cons e es, env, hp, ds, hp', h => by
    rw [evs] at h
    cases q : ev cf e env hp with
    | ok x h1 =>
      rw [q, Out.bind_ok] at h
      cases q2 : evs cf es env h1 with
      | ok xs h2 =>
        rw [q2, Out.bind_ok] at h
        cases h
        rw [List.length_cons, evs_len es env h1 _ _ q2]
        rfl
      | exc x h2 => rw [q2] at h; cases h
      | bad => rw [q2] at h; cases h
    | exc x h1 => rw [q] at h; cases h
    | bad => rw [q] at h; cases h
theorem cEs_len : ∀ (es : Es) (c : CC) (xs : List Expr), cEs es c xs = true → xs.length = lenEs es ∧ plainEs xs = true
  | .nil, c, [], _ => ⟨rfl, rfl⟩
  | .nil, c, _ :: _, h => by simp [cEs] at h
  | .cons e es, c, [], h => by simp [cEs] at h
  | .cons e es, c, x :: xs, h => by
    simp only [cEs, Bool.and_eq_true] at h
    obtain ⟨h1, h2⟩ := cEs_len es c xs h.2
    exact ⟨by rw [List.length_cons, h1]; rfl, by rw [plainEs, h.1.1, h2]; rfl⟩
theorem cKs_len : ∀ (es : Es) (c : CC) (xs : List Keyword), cKs es c xs = true → xs.length = lenEs es
  | .nil, c, [], _ => rfl
  | .nil, c, _ :: _, h => by simp [cKs] at h
  | .cons e es, c, [], h => by simp [cKs] at h
  | .cons e es, c, x :: xs, h => by
    obtain ⟨a, v, p⟩ := x
    cases a with
    | none => simp [cKs] at h
    | some a =>
      simp only [cKs, Bool.and_eq_true] at h
      rw [List.length_cons, cKs_len es c xs h.2]
      rfl
theorem cGs_len : ∀ (gs : Gs) (c : CC) (xs : List Expr), cGs gs c xs = true → plainEs xs = true ∧ ∀ ds env hp env' hp', asgs cf gs ds env hp = .ok env' hp' → ds.length = xs.length
  | .nil, c, [], _ => ⟨rfl, fun ds env hp env' hp' h => by
    cases ds with
    | nil => rfl
    | cons d ds => simp [asgs] at h⟩
  | .nil, c, _ :: _, h => by simp [cGs] at h
  | .cons g gs, c, [], h => by simp [cGs] at h
  | .cons g gs, c, x :: xs, h => by
    simp only [cGs, Bool.and_eq_true] at h
    obtain ⟨h1, h2⟩ := cGs_len gs c xs h.2
    refine ⟨by rw [plainEs, h.1.1, h1]; rfl, fun ds env hp env' hp' q => ?_⟩
    cases ds with
    | nil => simp [asgs] at q
    | cons d ds =>
      rw [asgs] at q
      cases q1 : asg cf g d env hp with
      | ok e1 hp1 =>
        rw [q1, Out.bind_ok] at q
        rw [List.length_cons, List.length_cons, h2 ds e1 hp1 env' hp' q]
      | exc x h1 => rw [q1] at q; cases q
      | bad => rw [q1] at q; cases q
end
/- targets without a subscript raise nothing -/
mutual
theorem asg_noexc {cf : CF} : ∀ (g : G) d env hp x hp', noSub g = true → asg cf g d env hp ≠ .exc x hp'
  | .name i, d, env, hp, x, hp', _ => fun h => by simp [asg] at h
  | .tup gs, d, env, hp, x, hp', h => fun q => by
    rw [asg] at q
    cases q1 : seqOf hp d with
    | none => rw [q1] at q; cases q
    | some ds => rw [q1] at q; exact asgs_noexc gs ds env hp x hp' (by simpa [noSub] using h) q
  | .sub o i, d, env, hp, x, hp', h => by simp [noSub] at h
theorem asgs_noexc {cf : CF} : ∀ (gs : Gs) ds env hp x hp', noSubs gs = true → asgs cf gs ds env hp ≠ .exc x hp'
  | .nil, ds, env, hp, x, hp', _ => fun h => by cases ds <;> simp [asgs] at h
  | .cons g gs, ds, env, hp, x, hp', h => fun q => by
    simp only [noSubs, Bool.and_eq_true] at h
    cases ds with
    | nil => simp [asgs] at q
    | cons d ds =>
      rw [asgs] at q
      cases q1 : asg cf g d env hp with
      | ok e1 hp1 => rw [q1, Out.bind_ok] at q; exact asgs_noexc gs ds e1 hp1 x hp' h.2 q
      | exc y h1 => exact asg_noexc g d env hp y h1 h.1 q1
      | bad => rw [q1] at q; cases q
end

/-! the shapes that cE allows -/
section
variable {c : CC} {x : Expr} {a b d : E} {es ks : Es}
theorem cDs_len : ∀ (es : Es) (c : CC) (ks : List (Option Expr)) (vs : List Expr), cDs es c ks vs = true → ks.all (·.isSome) = true ∧ ks.length = vs.length
  | .nil, c, ks, vs, h => by
    cases ks <;> cases vs <;> first | (simp [cDs] at h; done) | exact ⟨rfl, rfl⟩
  | .cons k .nil, c, ks, vs, h => by simp [cDs] at h
  | .cons k (.cons v es), c, ks, vs, h => by
    cases ks with
    | nil => simp [cDs] at h
    | cons o ks =>
      cases o with
      | none => simp [cDs] at h
      | some x =>
        cases vs with
        | nil => simp [cDs] at h
        | cons y vs =>
          simp only [cDs, Bool.and_eq_true] at h
          obtain ⟨h1, h2⟩ := cDs_len es c ks vs h.2
          exact ⟨by rw [List.all_cons, h1]; rfl, by rw [List.length_cons, List.length_cons, h2]⟩
theorem inv_dct (h : cE (.dct es) c x = true) : ∃ ks vs p, x = .Dict ks vs p ∧ cDs es c ks vs = true ∧ ks ≠ [] ∧ ks.length ≤ 15 := by
  unfold cE at h
  split at h <;> first | (cases h; done) | (rename_i heq; cases heq; done) | (rename_i heq; cases heq)
  all_goals (simp only [Bool.and_eq_true, decide_eq_true_eq, Bool.not_eq_true'] at h)
  refine ⟨_, _, _, rfl, h.1.1, ?_, h.2⟩
  intro z
  rw [z] at h
  simp at h
theorem inv_dnew {t : Bool} (h : cE (.dnew t) c x = true) : ∃ p, x = .Dict [] [] p := by
  unfold cE at h
  split at h <;> first | (cases h; done) | (rename_i heq; cases heq; done) | (rename_i heq; cases heq)
  all_goals exact ⟨_, rfl⟩
theorem inv_dix (h : cE (.dix a b) c x = true) : ∃ u v p, x = .Subscript u v p ∧ cE a c u = true ∧ cE b c v = true ∧ plainIx v = true := by
  unfold cE at h
  split at h <;> first | (cases h; done) | (rename_i heq; cases heq; done) | (rename_i heq; cases heq)
  all_goals (simp only [Bool.and_eq_true] at h)
  exact ⟨_, _, _, rfl, h.1.1, h.1.2, h.2⟩
theorem inv_dixT (h : cE (.dixT a es) c x = true) : ∃ u ys k p2 p, x = .Subscript u (.Tuple ys k p2) p ∧ ys.length ≤ 1000 ∧ cE a c u = true ∧ cEs es c ys = true := by
  unfold cE at h
  split at h <;> first | (cases h; done) | (rename_i heq; cases heq; done) | (rename_i heq; cases heq)
  all_goals (simp only [Bool.and_eq_true, decide_eq_true_eq] at h)
  exact ⟨_, _, _, _, _, rfl, h.1.1, h.1.2, h.2⟩
theorem inv_dget (h : cE (.dget a b d) c x = true) : ∃ u apos v w pos, x = .Call (.Attribute u "get" apos) [v, w] [] pos ∧ apos.endLine = pos.line ∧ plainB u = true ∧ plainE v = true ∧ plainE w = true ∧ cE a c u = true ∧ cE b c v = true ∧ cE d c w = true := by
  unfold cE at h
  split at h <;> first | (cases h; done) | (rename_i heq; cases heq; done) | (rename_i heq; cases heq)
  all_goals (simp only [Bool.and_eq_true, beq_iff_eq, decide_eq_true_eq] at h)
  obtain ⟨⟨⟨⟨⟨⟨⟨h1, h2⟩, h3⟩, h4⟩, h5⟩, h6⟩, h7⟩, h8⟩ := h
  subst h1
  exact ⟨_, _, _, _, _, rfl, h2, h3, h4, h5, h6, h7, h8⟩
theorem inv_dsetd (h : cE (.dsetd a b d) c x = true) : ∃ u apos v w pos, x = .Call (.Attribute u "setdefault" apos) [v, w] [] pos ∧ apos.endLine = pos.line ∧ plainB u = true ∧ plainE v = true ∧ plainE w = true ∧ cE a c u = true ∧ cE b c v = true ∧ cE d c w = true := by
  unfold cE at h
  split at h <;> first | (cases h; done) | (rename_i heq; cases heq; done) | (rename_i heq; cases heq)
  all_goals (simp only [Bool.and_eq_true, beq_iff_eq, decide_eq_true_eq] at h)
  obtain ⟨⟨⟨⟨⟨⟨⟨h1, h2⟩, h3⟩, h4⟩, h5⟩, h6⟩, h7⟩, h8⟩ := h
  subst h1
  exact ⟨_, _, _, _, _, rfl, h2, h3, h4, h5, h6, h7, h8⟩
theorem inv_ras (h : cE (.ras a) c x = true) : ∃ u f apos pos, x = .Call (.Attribute u f apos) [] [] pos ∧ apos.endLine = pos.line ∧ plainB u = true ∧ cE a c u = true := by
  unfold cE at h
  split at h <;> first | (cases h; done) | (rename_i heq; cases heq; done) | (rename_i heq; cases heq)
  all_goals (simp only [Bool.and_eq_true, decide_eq_true_eq] at h)
  obtain ⟨⟨h1, h2⟩, h3⟩ := h
  exact ⟨_, _, _, _, rfl, h1, h2, h3⟩
theorem inv_fld {cl : Nat} {f : Str} (h : cE (.fld cl a f) c x = true) : ∃ u p, x = .Attribute u f p ∧ plainB u = true ∧ (cl, f) ∈ c.pg.flds ∧ cE a c u = true := by
  unfold cE at h
  split at h <;> first | (cases h; done) | (rename_i heq; cases heq; done) | (rename_i heq; cases heq)
  all_goals (simp only [Bool.and_eq_true, beq_iff_eq] at h)
  obtain ⟨⟨⟨h1, h2⟩, h3⟩, h4⟩ := h
  subst h1
  exact ⟨_, _, rfl, h2, by simpa using h3, h4⟩
theorem inv_new {cl f : Nat} (h : cE (.new cl f es) c x = true) : ∃ nm p xs p2, x = .Call (.Name nm p) xs [] p2 ∧ c.pg.clss[cl]? = some (nm, f) ∧ (∀ di, c.pg.defs[f]? = some di → xs.length + 1 = di.ps.length ∧ di.dfl = []) ∧ glB c.sc nm = true ∧ okN nm = true ∧ xs.isEmpty = false ∧ cEs es c xs = true := by
  unfold cE at h
  split at h <;> first | (cases h; done) | (rename_i heq; cases heq; done) | (rename_i heq; cases heq)
  all_goals (simp only [Bool.and_eq_true, beq_iff_eq, Bool.not_eq_true'] at h)
  obtain ⟨⟨⟨⟨⟨h1, h2⟩, h3⟩, h4⟩, h5⟩, h6⟩ := h
  refine ⟨_, _, _, _, rfl, h1, fun di e => ?_, h3, h4, h5, h6⟩
  rw [e] at h2
  simp only [Bool.and_eq_true, decide_eq_true_eq, List.isEmpty_iff] at h2
  exact h2
theorem inv_meth {cl f : Nat} {m : Str} (h : cE (.meth cl f m a es) c x = true) : ∃ u apos ys pos, x = .Call (.Attribute u m apos) ys [] pos ∧ apos.endLine = pos.line ∧ plainB u = true ∧ ys.length < 20 ∧ (cl, m, f) ∈ c.pg.meths ∧ (∀ di, c.pg.defs[f]? = some di → ys.length + 1 = di.ps.length ∧ di.dfl = []) ∧ cE a c u = true ∧ cEs es c ys = true := by
  unfold cE at h
  split at h <;> first | (cases h; done) | (rename_i heq; cases heq; done) | (rename_i heq; cases heq)
  all_goals (simp only [Bool.and_eq_true, beq_iff_eq, decide_eq_true_eq] at h)
  obtain ⟨⟨⟨⟨⟨⟨⟨h1, h2⟩, h3⟩, h4⟩, h5⟩, h6⟩, h7⟩, h8⟩ := h
  subst h1
  refine ⟨_, _, _, _, rfl, h2, h3, h4, by simpa using h5, fun di e => ?_, h7, h8⟩
  rw [e] at h6
  simp only [Bool.and_eq_true, decide_eq_true_eq, List.isEmpty_iff] at h6
  exact h6
theorem inv_din {neg : Bool} (h : cT (.din neg a b) c x = true) : ∃ u v p, x = .Compare u [if neg then .NotIn else .In] [v] p ∧ plainS v = true ∧ cE a c u = true ∧ cE b c v = true := by
  unfold cT at h
  split at h <;> first | (cases h; done) | (rename_i heq; cases heq; done) | (rename_i heq; cases heq)
  all_goals (simp only [Bool.and_eq_true, beq_iff_eq] at h)
  obtain ⟨⟨⟨h1, h2⟩, h3⟩, h4⟩ := h
  subst h1
  exact ⟨_, _, _, rfl, h2, h3, h4⟩
theorem inv_dinT {neg : Bool} (h : cT (.dinT neg es b) c x = true) : ∃ xs k p2 v p, x = .Compare (.Tuple xs k p2) [if neg then .NotIn else .In] [v] p ∧ xs.length ≤ 1000 ∧ plainS v = true ∧ cEs es c xs = true ∧ cE b c v = true := by
  unfold cT at h
  split at h <;> first | (cases h; done) | (rename_i heq; cases heq; done) | (rename_i heq; cases heq)
  all_goals (simp only [Bool.and_eq_true, beq_iff_eq, decide_eq_true_eq] at h)
  obtain ⟨⟨⟨⟨h0, h1⟩, h2⟩, h3⟩, h4⟩ := h
  subst h1
  exact ⟨_, _, _, _, _, rfl, h0, h2, h3, h4⟩
theorem inv_isN (h : cE (.op1 .isN a) c x = true) : ∃ e k p p2, x = .Compare e [.Is] [.Constant .none k p2] p ∧ cE a c e = true := by
  unfold cE at h
  split at h <;> first | (cases h; done) | (rename_i heq; cases heq; done) | (rename_i heq; cases heq)
  all_goals exact ⟨_, _, _, _, rfl, h⟩
theorem inv_notN (h : cE (.op1 .notN a) c x = true) : ∃ e k p p2, x = .Compare e [.IsNot] [.Constant .none k p2] p ∧ cE a c e = true := by
  unfold cE at h
  split at h <;> first | (cases h; done) | (rename_i heq; cases heq; done) | (rename_i heq; cases heq)
  all_goals exact ⟨_, _, _, _, rfl, h⟩
theorem inv_op2 {o : Op2} (h : cE (.op2 o a b) c x = true) : (∃ u v p, o = .ix ∧ x = .Subscript u v p ∧ cE a c u = true ∧ cE b c v = true ∧ plainIx v = true) ∨
    (∃ u op v p, binOf o = some op ∧ x = .BinOp u op v p ∧ cE a c u = true ∧ cE b c v = true) ∨
    (∃ u op v p, cmpOf o = some op ∧ x = .Compare u [op] [v] p ∧ plainS v = true ∧ cE a c u = true ∧ cE b c v = true) := by
  unfold cE at h
  split at h <;> first | (cases h; done) | (rename_i heq; cases heq; done) | (rename_i heq; cases heq)
  all_goals (simp only [Bool.and_eq_true, decide_eq_true_eq] at h)
  · refine .inl ⟨_, _, _, ?_, rfl, h.1.1.2, h.1.2, h.2⟩
    have := h.1.1.1
    cases o <;> first | rfl | cases this
  · exact .inr (.inl ⟨_, _, _, _, h.1.1, rfl, h.1.2, h.2⟩)
  · exact .inr (.inr ⟨_, _, _, _, h.1.1.1, rfl, h.1.1.2, h.1.2, h.2⟩)
theorem inv_chain {o o' : Op2} (h : cE (.chain o o' a b d) c x = true) : ∃ u op op' v w p, cmpOf o = some op ∧ cmpOf o' = some op' ∧ x = .Compare u [op, op'] [v, w] p ∧ plainS w = true ∧ cE a c u = true ∧ cE b c v = true ∧ cE d c w = true := by
  unfold cE at h
  split at h <;> first | (cases h; done) | (rename_i heq; cases heq; done) | (rename_i heq; cases heq)
  all_goals (simp only [Bool.and_eq_true, decide_eq_true_eq] at h)
  exact ⟨_, _, _, _, _, _, h.1.1.1.1.1, h.1.1.1.1.2, rfl, h.1.1.1.2, h.1.1.2, h.1.2, h.2⟩
theorem inv_sl {m : Bool} {lo hi : OE} (h : cE (.sl m a lo hi) c x = true) : ∃ u l r p p2, x = .Subscript u (.Slice l r none p2) p ∧ cE a c u = true ∧ cOE lo c l = true ∧ cOE hi c r = true := by
  unfold cE at h
  split at h <;> first | (cases h; done) | (rename_i heq; cases heq; done) | (rename_i heq; cases heq)
  all_goals (simp only [Bool.and_eq_true, decide_eq_true_eq] at h)
  exact ⟨_, _, _, _, _, rfl, h.1.1, h.1.2, h.2⟩
theorem inv_rev {s : E} (h : cE (.rev a s) c x = true) : ∃ u y p p2, x = .Subscript u (.Slice none none (some y) p2) p ∧ cE a c u = true ∧ cE s c y = true := by
  unfold cE at h
  split at h <;> first | (cases h; done) | (rename_i heq; cases heq; done) | (rename_i heq; cases heq)
  all_goals (simp only [Bool.and_eq_true, decide_eq_true_eq] at h)
  exact ⟨_, _, _, _, rfl, h.1, h.2⟩
theorem inv_lrng {m : Bool} (h : cE (.lrng m a) c x = true) : ∃ u p p2 q pos, x = .Call (.Name "list" p) [.Call (.Name "range" p2) [u] [] q] [] pos ∧ glB c.sc "list" = true ∧ glB c.sc "range" = true ∧ plainE u = true ∧ cE a c u = true := by
  unfold cE at h
  split at h <;> first | (cases h; done) | (rename_i heq; cases heq; done) | (rename_i heq; cases heq)
  all_goals (simp only [Bool.and_eq_true, beq_iff_eq] at h)
  obtain ⟨⟨⟨⟨⟨rfl, rfl⟩, h3⟩, h4⟩, h5⟩, h6⟩ := h
  exact ⟨_, _, _, _, _, rfl, h3, h4, h5, h6⟩
theorem inv_isi {t : String} (h : cE (.isi a t) c x = true) : ∃ u p p2 p3, x = .Call (.Name "isinstance" p) [u, .Name (Str.ofString t) p2] [] p3 ∧ glB c.sc "isinstance" = true ∧ glB c.sc (Str.ofString t) = true ∧ tyNames.contains t = true ∧ plainE u = true ∧ cE a c u = true := by
  unfold cE at h
  split at h <;> first | (cases h; done) | (rename_i heq; cases heq; done) | (rename_i heq; cases heq)
  all_goals (simp only [Bool.and_eq_true, beq_iff_eq] at h)
  obtain ⟨⟨⟨⟨⟨⟨h1, h2⟩, h3⟩, h4⟩, h5⟩, h6⟩, h7⟩ := h
  subst h1 h4
  exact ⟨_, _, _, _, rfl, h2, h3, h5, h6, h7⟩
theorem inv_isiT {ts : List String} (h : cE (.isiT a ts) c x = true) : ∃ u p ys k p2 p3, x = .Call (.Name "isinstance" p) [u, .Tuple ys k p2] [] p3 ∧ glB c.sc "isinstance" = true ∧ cTys ts c ys = true ∧ ts.length ≤ 100 ∧ plainE u = true ∧ cE a c u = true := by
  unfold cE at h
  split at h <;> first | (cases h; done) | (rename_i heq; cases heq; done) | (rename_i heq; cases heq)
  all_goals (simp only [Bool.and_eq_true, beq_iff_eq, decide_eq_true_eq] at h)
  obtain ⟨⟨⟨⟨⟨h1, h2⟩, h3⟩, h6⟩, h4⟩, h5⟩ := h
  subst h1
  exact ⟨_, _, _, _, _, _, rfl, h2, h3, h6, h4, h5⟩
theorem inv_bi {bb : Bi} (h : cE (.bi bb es) c x = true) : ∃ p xs p2, x = .Call (.Name (biK bb).1 p) xs [] p2 ∧ glB c.sc (biK bb).1 = true ∧ xs.isEmpty = false ∧ cEs es c xs = true := by
  unfold cE at h
  split at h <;> first | (cases h; done) | (rename_i heq; cases heq; done) | (rename_i heq; cases heq)
  all_goals (simp only [Bool.and_eq_true, beq_iff_eq, Bool.not_eq_true'] at h)
  obtain ⟨⟨⟨h1, h2⟩, h3⟩, h4⟩ := h
  subst h1
  exact ⟨_, _, _, rfl, h2, h3, h4⟩
theorem inv_me {m : Me} (h : cE (.me m a es) c x = true) : ∃ u apos ys pos, x = .Call (.Attribute u (meK m) apos) ys [] pos ∧ apos.endLine = pos.line ∧ plainB u = true ∧ ys.isEmpty = false ∧ ys.length < 20 ∧ cE a c u = true ∧ cEs es c ys = true := by
  unfold cE at h
  split at h <;> first | (cases h; done) | (rename_i heq; cases heq; done) | (rename_i heq; cases heq)
  all_goals (simp only [Bool.and_eq_true, beq_iff_eq, Bool.not_eq_true', decide_eq_true_eq] at h)
  obtain ⟨⟨⟨⟨⟨⟨h1, h2⟩, h3⟩, h4⟩, h5⟩, h6⟩, h7⟩ := h
  subst h1
  exact ⟨_, _, _, _, rfl, h2, h3, h4, h5, h6, h7⟩
theorem inv_call {k : Option Nat} {f : Nat} (h : cE (.call k f es) c x = true) : ∃ di p xs p2, c.pg.defs[f]? = some di ∧ x = .Call (.Name di.name p) xs [] p2 ∧ di.meth = false ∧ xs.length + di.dfl.length = di.ps.length ∧ glB c.sc di.name = true ∧ okN di.name = true ∧ xs.isEmpty = false ∧ cEs es c xs = true := by
  unfold cE at h
  split at h <;> first | (cases h; done) | (rename_i heq; cases heq; done) | (rename_i heq; cases heq)
  all_goals (simp only [Bool.and_eq_true, beq_iff_eq, Bool.not_eq_true'] at h)
  obtain ⟨⟨⟨⟨h1, h2⟩, h3⟩, h4⟩, h5⟩ := h
  split at h1
  · simp only [Bool.and_eq_true, beq_iff_eq, decide_eq_true_eq, Bool.not_eq_true'] at h1
    obtain ⟨⟨rfl, hm⟩, h6⟩ := h1
    exact ⟨_, _, _, _, by assumption, rfl, hm, h6, h2, h3, h4, h5⟩
  · cases h1
theorem inv_callk {k : Option Nat} {f : Nat} (h : cE (.callk k f es ks) c x = true) : ∃ di p xs kws p2, c.pg.defs[f]? = some di ∧ x = .Call (.Name di.name p) xs kws p2 ∧ di.meth = false ∧ xs.length + di.dfl.length = di.ps.length ∧ di.dfl ≠ [] ∧ (kwNames kws = di.dfl.map fun p => some p.1) ∧ glB c.sc di.name = true ∧ okN di.name = true ∧ xs.isEmpty = false ∧ cEs es c xs = true ∧ cKs ks c kws = true := by
  unfold cE at h
  split at h <;> first | (cases h; done) | (rename_i heq; cases heq; done) | (rename_i heq; cases heq)
  all_goals (simp only [Bool.and_eq_true, beq_iff_eq, Bool.not_eq_true'] at h)
  obtain ⟨⟨⟨⟨⟨h1, h2⟩, h3⟩, h4⟩, h5⟩, h6⟩ := h
  split at h1
  · simp only [Bool.and_eq_true, beq_iff_eq, decide_eq_true_eq, Bool.not_eq_true'] at h1
    obtain ⟨⟨⟨⟨rfl, hm⟩, h7⟩, h8⟩, h9⟩ := h1
    exact ⟨_, _, _, _, _, by assumption, rfl, hm, h7, by intro z; rw [z] at h8; simp at h8, h9, h2, h3, h4, h5, h6⟩
  · cases h1
theorem inv_lam {j : Nat} (h : cE (.lam j) c x = true) : ∃ params body scope p, x = .Lambda params body scope p ∧ c.lamC j params body scope = true := by
  unfold cE at h
  split at h <;> first | (cases h; done) | (rename_i heq; cases heq; done) | (rename_i heq; cases heq)
  all_goals exact ⟨_, _, _, _, rfl, h⟩
theorem inv_callv {k : Option Nat} {nd i : Nat} (h : cE (.callv k nd i es) c x = true) : ∃ y p xs p2, x = .Call (.Name y p) xs [] p2 ∧ c.N[i]? = some y ∧ visB c.sc y = true ∧ okN y = true ∧ nd = c.pg.defs.length ∧ xs.isEmpty = false ∧ cEs es c xs = true := by
  unfold cE at h
  split at h <;> first | (cases h; done) | (rename_i heq; cases heq; done) | (rename_i heq; cases heq)
  all_goals (simp only [Bool.and_eq_true, decide_eq_true_eq, Bool.not_eq_true'] at h)
  obtain ⟨⟨⟨⟨⟨h1, h2⟩, h3⟩, h4⟩, h5⟩, h6⟩ := h
  exact ⟨_, _, _, _, rfl, h1, h2, h3, h4, h5, h6⟩
theorem inv_comp {m : Bool} {elt : E} {g : G} {it : It} {t : OT} {own : List Nat} (h : cE (.comp m elt g it t own) c x = true) : ∃ u tg itx ifs scope p, x = .ListComp u [⟨tg, itx, ifs, 0⟩] scope p ∧ blkC c.N c.sc scope (ownP c.N own) = true ∧ cIt it c tg itx = true ∧ cG g (blkCC c scope) tg = true ∧ noSub g = true ∧ (gi g).all (fun i => own.contains i) = true ∧ cOT t (blkCC c scope) ifs = true ∧ cE elt (blkCC c scope) u = true := by
  unfold cE at h
  split at h <;> first | (cases h; done) | (rename_i heq; cases heq; done) | (rename_i heq; cases heq)
  all_goals (simp only [Bool.and_eq_true] at h)
  obtain ⟨⟨⟨⟨⟨⟨h1, h2⟩, h3⟩, h4⟩, h5⟩, h6⟩, h7⟩ := h
  exact ⟨_, _, _, _, _, _, rfl, h1, h2, h3, h4, h5, h6, h7⟩
theorem visB_ok {sc : Scope} {x : Str} (hv : visB sc x = true) : Vis sc x := by
  unfold visB at hv
  split at hv
  · exact .inl (by assumption)
  · exact .inr (.inl (by assumption))
  · exact .inr (.inr (by assumption))
  · cases hv
theorem inv_kind {nd : Nat} {a : E} (h : cE (.kind nd a) c x = true) : ∃ u p pos, x = .Call (.Name "_law_kind" p) [u] [] pos ∧ glB c.sc "_law_kind" = true ∧ c.kd = true ∧ nd = c.pg.defs.length + c.pg.lams.length ∧ plainE u = true ∧ cE a c u = true := by
  unfold cE at h
  split at h <;> first | (cases h; done) | (rename_i heq; cases heq; done) | (rename_i heq; cases heq)
  all_goals (simp only [Bool.and_eq_true, beq_iff_eq, decide_eq_true_eq] at h)
  obtain ⟨⟨⟨⟨⟨rfl, h2⟩, h3⟩, h4⟩, h5⟩, h6⟩ := h
  exact ⟨_, _, _, rfl, h2, h3, h4, h5, h6⟩
theorem inv_kinds {m : Bool} {nd v : Nat} {it : It} (h : cE (.kinds m nd it v) c x = true) : ∃ y p0 p p1 tg itx scope pos, x = .ListComp (.Call (.Name "_law_kind" p0) [.Name y p] [] p1) [⟨tg, itx, [], 0⟩] scope pos ∧ c.kd = true ∧ nd = c.pg.defs.length + c.pg.lams.length ∧
    blkC c.N c.sc scope (ownP c.N [v]) = true ∧ cIt it c tg itx = true ∧ cG (.name v) (blkCC c scope) tg = true ∧ cE (.var v) (blkCC c scope) (.Name y p) = true ∧ glB (blkCC c scope).sc "_law_kind" = true ∧ visB c.sc y = false := by
  unfold cE at h
  split at h <;> first | (cases h; done) | (rename_i heq; cases heq; done) | (rename_i heq; cases heq)
  all_goals (simp only [Bool.and_eq_true, beq_iff_eq, decide_eq_true_eq, Bool.not_eq_true'] at h)
  obtain ⟨⟨⟨⟨⟨⟨⟨⟨rfl, h2⟩, h3⟩, h4⟩, h5⟩, h6⟩, h7⟩, h8⟩, h9⟩ := h
  exact ⟨_, _, _, _, _, _, _, _, rfl, h2, h3, h4, h5, h6, h7, h8, h9⟩
theorem inv_lens (h : cE (.lens a) c x = true) : ∃ u p p2 q pos, x = .Call (.Name "len" p) [.Call (.Name "set" p2) [u] [] q] [] pos ∧ glB c.sc "len" = true ∧ glB c.sc "set" = true ∧ plainE u = true ∧ cE a c u = true := by
  unfold cE at h
  split at h <;> first | (cases h; done) | (rename_i heq; cases heq; done) | (rename_i heq; cases heq)
  all_goals (simp only [Bool.and_eq_true, beq_iff_eq] at h)
  obtain ⟨⟨⟨⟨⟨rfl, rfl⟩, h3⟩, h4⟩, h5⟩, h6⟩ := h
  exact ⟨_, _, _, _, _, rfl, h3, h4, h5, h6⟩
theorem inv_comp2 {m : Bool} {elt : E} {g g1 : G} {it it1 : It} {t t1 : OT} {own own1 : List Nat} (h : cE (.comp2 m elt g it t own g1 it1 t1 own1) c x = true) : ∃ u tg itx ifs tg1 itx1 ifs1 scope p, x = .ListComp u [⟨tg, itx, ifs, 0⟩, ⟨tg1, itx1, ifs1, 0⟩] scope p ∧ blkC c.N c.sc scope (ownP c.N own) = true ∧ cIt it c tg itx = true ∧ cG g (blkCC c scope) tg = true ∧ noSub g = true ∧ (gi g).all (fun i => own.contains i) = true ∧ cOT t (blkCC c scope) ifs = true ∧ cE elt (blkCC c scope) u = true ∧
    cIt it1 (blkCC c scope) tg1 itx1 = true ∧ cG g1 (blkCC c scope) tg1 = true ∧ (gi g1).all (fun i => own1.contains i) = true ∧ cOT t1 (blkCC c scope) ifs1 = true ∧ own1.all (fun i => own.contains i) = true := by
  unfold cE at h
  split at h <;> first | (cases h; done) | (rename_i heq; cases heq; done) | (rename_i heq; cases heq)
  all_goals (simp only [Bool.and_eq_true] at h)
  obtain ⟨⟨⟨⟨⟨⟨⟨⟨⟨⟨⟨⟨h1, h2⟩, h3⟩, h4⟩, h5⟩, h6⟩, h7⟩, h8⟩, h9⟩, h10⟩, h11⟩, h12⟩, h13⟩ := h
  exact ⟨_, _, _, _, _, _, _, _, _, rfl, h1, h2, h3, h4, h5, h6, h7, h8, h9, h11, h12, h13⟩
theorem inv_txt {a : E} {tg : Expr} (h : cIt (.txt a) c tg x = true) : plainS x = true ∧ cE a c x = true := by
  simpa only [cIt, Bool.and_eq_true] using h
theorem cIt_plain {it : It} {tg : Expr} (h : cIt it c tg x = true) : plainS x = true := by
  cases it <;> unfold cIt at h
  case seq => simp only [Bool.and_eq_true] at h; exact h.1
  case txt => simp only [Bool.and_eq_true] at h; exact h.1
  all_goals
    split at h
    · rfl
    · cases h
theorem inv_tisN {neg : Bool} (h : cT (.isN neg a) c x = true) : ∃ e k p p2, x = .Compare e [if neg then .IsNot else .Is] [.Constant .none k p2] p ∧ cE a c e = true := by
  unfold cT at h
  split at h <;> first | (cases h; done) | (rename_i heq; cases heq; done) | (rename_i heq; cases heq)
  all_goals (simp only [Bool.and_eq_true, beq_iff_eq] at h)
  obtain ⟨rfl, h⟩ := h
  exact ⟨_, _, _, _, rfl, h⟩
theorem inv_tcmp {o : Op2} (h : cT (.cmp o a b) c x = true) : ∃ u op v p, cmpOf o = some op ∧ x = .Compare u [op] [v] p ∧ plainS v = true ∧ cE a c u = true ∧ cE b c v = true := by
  unfold cT at h
  split at h <;> first | (cases h; done) | (rename_i heq; cases heq; done) | (rename_i heq; cases heq)
  all_goals (simp only [Bool.and_eq_true, decide_eq_true_eq] at h)
  exact ⟨_, _, _, _, h.1.1.1, rfl, h.1.1.2, h.1.2, h.2⟩
theorem inv_tchain {o o' : Op2} (h : cT (.chain o o' a b d) c x = true) : ∃ u op op' v w p, cmpOf o = some op ∧ cmpOf o' = some op' ∧ x = .Compare u [op, op'] [v, w] p ∧ plainS w = true ∧ cE a c u = true ∧ cE b c v = true ∧ cE d c w = true := by
  unfold cT at h
  split at h <;> first | (cases h; done) | (rename_i heq; cases heq; done) | (rename_i heq; cases heq)
  all_goals (simp only [Bool.and_eq_true, decide_eq_true_eq] at h)
  exact ⟨_, _, _, _, _, _, h.1.1.1.1.1, h.1.1.1.1.2, rfl, h.1.1.1.2, h.1.1.2, h.1.2, h.2⟩
theorem inv_rng1 {tg : Expr} (h : cIt (.rng1 a) c tg x = true) : ∃ u p p2, x = .Call (.Name "range" p) [u] [] p2 ∧ glB c.sc "range" = true ∧ plainE u = true ∧ cE a c u = true := by
  unfold cIt at h
  split at h <;> first | (cases h; done) | (rename_i heq; cases heq; done) | (rename_i heq; cases heq)
  all_goals (simp only [Bool.and_eq_true, beq_iff_eq] at h)
  obtain ⟨⟨⟨h1, h2⟩, h3⟩, h4⟩ := h
  subst h1
  exact ⟨_, _, _, rfl, h2, h3, h4⟩
theorem inv_rng2 {tg : Expr} (h : cIt (.rng2 a b) c tg x = true) : ∃ u v p p2, x = .Call (.Name "range" p) [u, v] [] p2 ∧ glB c.sc "range" = true ∧ plainE u = true ∧ plainE v = true ∧ cE a c u = true ∧ cE b c v = true := by
  unfold cIt at h
  split at h <;> first | (cases h; done) | (rename_i heq; cases heq; done) | (rename_i heq; cases heq)
  all_goals (simp only [Bool.and_eq_true, beq_iff_eq] at h)
  obtain ⟨⟨⟨⟨⟨h1, h2⟩, h3⟩, h4⟩, h5⟩, h6⟩ := h
  subst h1
  exact ⟨_, _, _, _, rfl, h2, h3, h4, h5, h6⟩
theorem isTupE_inv {tg : Expr} (h : isTupE tg = true) : ∃ ts k p, tg = .Tuple ts k p := by
  cases tg <;> first | (cases h; done) | exact ⟨_, _, _, rfl⟩
theorem inv_enum {tg : Expr} (h : cIt (.enum a) c tg x = true) : ∃ u p p2 ts k p3, x = .Call (.Name "enumerate" p) [u] [] p2 ∧ tg = .Tuple ts k p3 ∧ glB c.sc "enumerate" = true ∧ plainE u = true ∧ cE a c u = true := by
  unfold cIt at h
  split at h <;> first | (cases h; done) | (rename_i heq; cases heq; done) | (rename_i heq; cases heq)
  all_goals (simp only [Bool.and_eq_true, beq_iff_eq] at h)
  obtain ⟨⟨⟨⟨h1, h2⟩, h5⟩, h3⟩, h4⟩ := h
  subst h1
  obtain ⟨ts, k, p3, h5⟩ := isTupE_inv h5
  exact ⟨_, _, _, ts, k, p3, rfl, h5, h2, h3, h4⟩
theorem inv_zip {tg : Expr} (h : cIt (.zip a b) c tg x = true) : ∃ u v p p2 ts k p3, x = .Call (.Name "zip" p) [u, v] [] p2 ∧ tg = .Tuple ts k p3 ∧ glB c.sc "zip" = true ∧ plainE u = true ∧ plainE v = true ∧ cE a c u = true ∧ cE b c v = true := by
  unfold cIt at h
  split at h <;> first | (cases h; done) | (rename_i heq; cases heq; done) | (rename_i heq; cases heq)
  all_goals (simp only [Bool.and_eq_true, beq_iff_eq] at h)
  obtain ⟨⟨⟨⟨⟨⟨h1, h2⟩, h7⟩, h3⟩, h4⟩, h5⟩, h6⟩ := h
  subst h1
  obtain ⟨ts, k, p3, h7⟩ := isTupE_inv h7
  exact ⟨_, _, _, _, ts, k, p3, rfl, h7, h2, h3, h4, h5, h6⟩
theorem ownP_snd {N : List Str} : ∀ {own : List Nat}, (ownP N own).map (·.2) = own
  | [] => rfl
  | i :: is => by
    have := ownP_snd (N := N) (own := is)
    unfold ownP at this ⊢
    rw [List.map_cons, List.map_cons, this]
theorem cGs_tup {gs : Gs} {es : List Expr} {k : Nat} {p : Pos} (h : cG (.tup gs) c (.Tuple es k p) = true) : noSubs gs = true ∧ cGs gs c es = true := by
  rw [cG, Bool.and_eq_true] at h
  exact h
end
end KI

namespace KI
open PySem PySem.Spec PyProof.Rows L2
variable [LX]
/-! ## 19. soundness, construct by construct -/
theorem okN_db {x : Str} (h : okN x = true) : (x == ("__debug__" : Str)) = false := by
  unfold okN at h
  simp only [Bool.and_eq_true, Bool.not_eq_true'] at h
  exact h.1
section
variable {CA : Nat → Addr} {cf : CF} {n : Nat}
/-- the readings of a display's pairs -/
def pairsT (K : PySem.W.Frag) (CA : Nat → Addr) (cf : CF) (W : WX) : Es → List (TE × TE)
  | .cons k (.cons v es) => (tE K CA W (ev cf k), tE K CA W (ev cf v)) :: pairsT K CA cf W es
  | _ => []
theorem pairsT_ok {K : PySem.W.Frag} {W : WX} : ∀ (es : Es) (c : CC) (ks : List (Option Expr)) (vs : List Expr), cDs es c ks vs = true → ∀ σ H (Q : List (V × V) → Hp → Prop), tA K CA W (evs cf es) σ H (fun us H' => Q (pairsV us) H') → tPairs (pairsT K CA cf W es) σ H Q
  | .nil, c, ks, vs, _, σ, H, Q, ⟨env, L, Xg, hp, k, r, g⟩ => GD.here g k [] rfl
  | .cons _ .nil, c, ks, vs, h, σ, H, Q, _ => by simp [cDs] at h
  | .cons a (.cons b es), c, ks, vs, h, σ, H, Q, ⟨env, L, Xg, hp, k, r, g⟩ => by
    cases ks with
    | nil => simp [cDs] at h
    | cons o ks =>
      cases o with
      | none => simp [cDs] at h
      | some x =>
        cases vs with
        | nil => simp [cDs] at h
        | cons y vs =>
          simp only [cDs, Bool.and_eq_true] at h
          refine ⟨env, L, Xg, hp, k, r, (GD.bind g).imp fun d hp1 H1 L1 X1 p1 k1 g1 v rv => ?_⟩
          refine ⟨env, L1, X1, hp1, k1, r.post k p1, (GD.bind (GD.bind g1)).imp fun e hp2 H2 L2 X2 p2 k2 g2 w rw' => ?_⟩
          refine pairsT_ok es c ks vs h.2 σ H2 (fun ps H3 => Q ((v, w) :: ps) H3) ⟨env, L2, X2, hp2, k2, (r.post k p1).post k1 p2, (GD.bind g2).imp fun ds hp3 H3 L3 X3 p3 k3 g3 us rus => ?_⟩
          exact (GD.here (GD.here g3 k3) k3) (v :: w :: us) (.cons ((rv.post k1 p2).post k2 p3) (.cons (rw'.post k2 p3) rus))
mutual
theorem sE : ∀ (e : E) (c : CC) (x : Expr) (X : Cx) (W : WX), GX X CA c cf n W → cE e c x = true → PE X x (tE X.K CA W (ev cf e))
  | .cst d, c, x, X, W, G, h => by
    cases x <;> first | (simp [cE] at h; done) | skip
    simp only [cE] at h
    exact snd_cst h
  | .var i, c, x, X, W, G, h => by
    cases x <;> first | (simp [cE] at h; done) | skip
    simp only [cE, Bool.and_eq_true, decide_eq_true_eq] at h
    exact snd_var (by rw [G.hN]; exact h.1.1) (by rw [G.hsc]; exact h.1.2) h.2
  | .glob y d, c, x, X, W, G, h => by
    cases x <;> first | (simp [cE] at h; done) | skip
    simp only [cE, Bool.and_eq_true, beq_iff_eq] at h
    obtain ⟨⟨⟨h1, h2⟩, h3⟩, h4⟩ := h
    subst h1
    obtain ⟨u, v, q1, q2, q3⟩ := G.fx.consts _ _ h4
    exact snd_val (pe_glob (G.gl h2) q1 q2 (okN_db h3)) q3
  | .op1 .not a, c, x, X, W, G, h => by
    cases x <;> first | (simp [cE] at h; done) | skip
    rename_i o e p
    cases o <;> first | (simp [cE] at h; done) | skip
    simp only [cE] at h
    exact snd_not (sE a c e X W G h)
  | .op1 .neg a, c, x, X, W, G, h => by
    cases x <;> first | (simp [cE] at h; done) | skip
    rename_i o e p
    cases o <;> first | (simp [cE] at h; done) | skip
    simp only [cE] at h
    exact snd_neg (sE a c e X W G h)
  | .op1 .isN a, c, x, X, W, G, h => by
    obtain ⟨e, k, p, p2, rfl, h'⟩ := inv_isN h
    exact snd_isN (sE a c e X W G h')
  | .op1 .notN a, c, x, X, W, G, h => by
    obtain ⟨e, k, p, p2, rfl, h'⟩ := inv_notN h
    exact snd_notN (sE a c e X W G h')
  | .op2 o a b, c, x, X, W, G, h => by
    rcases inv_op2 h with ⟨u, v, p, rfl, rfl, h1, h2, h3⟩ | ⟨u, op, v, p, ho, rfl, h1, h2⟩ | ⟨u, op, v, p, ho, rfl, hp, h1, h2⟩
    · exact snd_ix (sE a c u X W G h1) (sE b c v X W G h2) h3
    · exact snd_bin ho (sE a c u X W G h1) (sE b c v X W G h2)
    · exact snd_cmp G.hu ho hp (sE a c u X W G h1) (sE b c v X W G h2)
  | .chain o o' a b d, c, x, X, W, G, h => by
    obtain ⟨u, op, op', v, w, p, ho, ho', rfl, hp, h1, h2, h3⟩ := inv_chain h
    exact snd_chain G.hu ho ho' hp (sE a c u X W G h1) (sE b c v X W G h2) (sE d c w X W G h3)
  | .andE es, c, x, X, W, G, h => by
    cases x <;> first | (simp [cE] at h; done) | skip
    rename_i o vs p
    cases o <;> first | (simp [cE] at h; done) | skip
    simp only [cE, Bool.and_eq_true, Bool.not_eq_true'] at h
    exact sA es c vs X W p G h.1 h.2
  | .orE es, c, x, X, W, G, h => by
    cases x <;> first | (simp [cE] at h; done) | skip
    rename_i o vs p
    cases o <;> first | (simp [cE] at h; done) | skip
    simp only [cE, Bool.and_eq_true, Bool.not_eq_true'] at h
    exact sO es c vs X W p G h.1 h.2
  | .ife t a b, c, x, X, W, G, h => by
    cases x <;> first | (simp [cE] at h; done) | skip
    simp only [cE, Bool.and_eq_true] at h
    exact snd_ife (sT t c _ X W G h.1.1) (sE a c _ X W G h.1.2) (sE b c _ X W G h.2)
  | .tup es, c, x, X, W, G, h => by
    cases x <;> first | (simp [cE] at h; done) | skip
    simp only [cE] at h
    exact snd_tup (sEs es c _ X W G h)
  | .lst m es, c, x, X, W, G, h => by
    cases x <;> first | (simp [cE] at h; done) | skip
    simp only [cE] at h
    exact snd_lst (sEs es c _ X W G h)
  | .sl m a lo hi, c, x, X, W, G, h => by
    obtain ⟨u, l, r, p, p2, rfl, h1, h2, h3⟩ := inv_sl h
    exact snd_sl (sE a c u X W G h1) (sOE lo c l X W G h2) (sOE hi c r X W G h3)
  | .lrng m a, c, x, X, W, G, h => by
    obtain ⟨u, p, p2, q, pos, rfl, h1, h2, h3, h4⟩ := inv_lrng h
    exact snd_lrng G.calm (G.gl h1) (G.gl h2) G.fx.blt h3 (sE a c u X W G h4)
  | .rev a s, c, x, X, W, G, h => by
    obtain ⟨u, y, p, p2, rfl, h1, h2⟩ := inv_rev h
    exact snd_rev (sE a c u X W G h1) (sE s c y X W G h2)
  | .isi a t, c, x, X, W, G, h => by
    obtain ⟨u, p, p2, p3, rfl, h1, h2, h3, h4, h5⟩ := inv_isi h
    exact snd_isi G.fx.blt (G.gl h1) h4 (by simpa using h3) (G.gl h2) (sE a c u X W G h5)
  | .isiT a ts, c, x, X, W, G, h => by
    obtain ⟨u, p, ys, k, p2, p3, rfl, h1, h2, h5, h3, h4⟩ := inv_isiT h
    exact snd_isiT G.fx.blt (G.gl h1) h3 G.hsc h2 h5 (sE a c u X W G h4)
  | .bi b es, c, x, X, W, G, h => by
    obtain ⟨p, xs, p2, rfl, h1, h2, h3⟩ := inv_bi h
    exact snd_bi G.calm b rfl (G.gl h1) G.fx.blt h2 (cEs_len es c xs h3).2 (sEs es c xs X W G h3)
  | .me m o es, c, x, X, W, G, h => by
    obtain ⟨u, apos, ys, pos, rfl, h1, h2, h3, h4, h5, h6⟩ := inv_me h
    exact snd_me m h3 (cEs_len es c ys h6).2 h4 h1 h2 (sE o c u X W G h5) (sEs es c ys X W G h6)
  | .lam j, c, x, X, W, G, h => by
    obtain ⟨params, body, scope, p, rfl, h1⟩ := inv_lam h
    exact G.lam j params body scope p h1
  | .callv k nd i es, c, x, X, W, G, h => by
    obtain ⟨y, p, xs, p2, rfl, h1, h2, h3, rfl, h5, h6⟩ := inv_callv h
    exact snd_callv (fun j => G.lr j xs.length) (G.room.mono (by omega)) G.tk (by rw [G.hN]; exact h1) (by rw [G.hsc]; exact h2) h3 h5 (cEs_len es c xs h6).2 (sEs es c xs X W G h6)
      (fun env hp ds hp' q => (evs_len es env hp ds hp' q).trans (cEs_len es c xs h6).1.symm)
  | .call k f es, c, x, X, W, G, h => by
    obtain ⟨di, p, xs, p2, h1, rfl, hm, h2, h3, h4, h5, h6⟩ := inv_call h
    obtain ⟨fa, fd, F⟩ := G.fx.fns f di h1
    exact snd_call rfl F (fun ds hp q => G.fx.fill f di ds hp h1 q) (fun k => G.cl di (List.mem_of_getElem? h1) k) (G.room.mono (by omega)) G.tk hm (G.gl h3) (okN_db h4) h2 h5 (cEs_len es c xs h6).2 (sEs es c xs X W G h6)
      (fun env hp ds hp' q => (evs_len es env hp ds hp' q).trans (cEs_len es c xs h6).1.symm)
  | .callk k f es ks, c, x, X, W, G, h => by
    obtain ⟨di, p, xs, kws, p2, h1, rfl, hm, h2, h7, h8, h3, h4, h5, h6, h9⟩ := inv_callk h
    obtain ⟨fa, fd, F⟩ := G.fx.fns f di h1
    exact snd_callk rfl F (G.room.mono (by omega)) G.tk hm (G.gl h3) (okN_db h4) h2 h7 h8 h5 (cEs_len es c xs h6).2 (sEs es c xs X W G h6) (sKs ks c kws X W G h9)
      (fun env hp ds hp' q => (evs_len es env hp ds hp' q).trans (cEs_len es c xs h6).1.symm) (fun env hp ds hp' q => (evs_len ks env hp ds hp' q).trans (cKs_len ks c kws h9).symm)
  | .comp m elt g it t own, c, x, X, W, G, h => by
    obtain ⟨u, tg, itx, ifs, scope, p, rfl, h1, h2, h3, h4, h5, h6, h7⟩ := inv_comp h
    have ok : BlkOk X.N X.env.scope scope (ownP c.N own) := by rw [G.hN, G.hsc]; exact blkOk_by h1
    have ho : (ownP c.N own).map (·.2) = own := ownP_snd
    have his : ∀ i ∈ gi g, i ∈ (ownP c.N own).map (·.2) := fun i hi => by
      rw [ho]
      simpa using List.all_eq_true.mp h5 i hi
    have q := snd_comp (m := m) (W := W) (elt := u) (pos := p) G.calm G.nd (cIt_plain h2) (sIt it c tg itx X W G h2) ok his
      (fun s H C cl fp => sG g (blkCC c scope) tg (X.blk s H scope (compEnvC scope cl C X.env) fp) W0 (G.blk ok s H C cl fp) h3)
      (fun s H C cl fp => sOT t (blkCC c scope) ifs (X.blk s H scope (compEnvC scope cl C X.env) fp) (G.blk ok s H C cl fp) h6)
      (fun s H C cl fp => sE elt (blkCC c scope) u (X.blk s H scope (compEnvC scope cl C X.env) fp) W0 (G.blk ok s H C cl fp) h7)
    rw [ho] at q
    exact q
  | .kind nd a, c, x, X, W, G, h => by
    obtain ⟨u, p, pos, rfl, h1, h2, rfl, h4, h5⟩ := inv_kind h
    obtain ⟨kf, CK, KO, F, CRn⟩ := G.kd h2
    exact snd_kind KO F CRn (G.room.mono (by omega)) (G.gl h1) h4 (sE a c u X W G h5)
  | .kinds m nd it v, c, x, X, W, G, h => by
    obtain ⟨y, p0, p, p1, tg, itx, scope, pos, rfl, h1, rfl, h3, h4, h5, h6, h7, h8⟩ := inv_kinds h
    obtain ⟨kf, CK, KO, F, CRn⟩ := G.kd h1
    have ok : BlkOk X.N X.env.scope scope (ownP c.N [v]) := by rw [G.hN, G.hsc]; exact blkOk_by h3
    have ho : (ownP c.N [v]).map (·.2) = [v] := ownP_snd
    simp only [cE, Bool.and_eq_true, decide_eq_true_eq] at h6
    obtain ⟨⟨k1, k2⟩, k3⟩ := h6
    have hNv : X.N[v]? = some y := by rw [G.hN]; exact k1
    unfold okN at k3
    simp only [Bool.and_eq_true, Bool.not_eq_true'] at k3
    have hv : ∀ i ∈ [v], ∀ x, X.N[i]? = some x → ¬ Vis X.env.scope x := fun i hi x e z => by
      obtain rfl : i = v := by simpa using hi
      rw [hNv] at e
      cases e
      rw [G.hsc] at z
      unfold visB at h8
      rcases z with z | z | z <;> rw [z] at h8 <;> cases h8
    exact snd_kinds (m := m) (pos := pos) ho KO F CRn (G.room.mono (by omega)) G.calm G.nd (cIt_plain h4) (sIt it c tg itx X W G h4) ok hv
      (fun s H C cl fp => sG (.name v) (blkCC c scope) tg (X.blk s H scope (compEnvC scope cl C X.env) fp) W0 (G.blk ok s H C cl fp) h5)
      (fun s H C cl fp => ⟨(G.blk ok s H C cl fp).gl h7, by rw [(G.blk ok s H C cl fp).hsc]; exact visB_ok k2⟩) hNv k3.1 k3.2
  | .dct es, c, x, X, W, G, h => by
    obtain ⟨ks, vs, p, rfl, h1, h2, h3⟩ := inv_dct h
    obtain ⟨h4, h5⟩ := cDs_len es c ks vs h1
    exact snd_dct (sDs es c ks vs X W p G h1) (pairsT_ok es c ks vs h1) h4 h5 h2 h3
  | .dnew t, c, x, X, W, G, h => by
    obtain ⟨p, rfl⟩ := inv_dnew h
    exact snd_dnew
  | .dix a b, c, x, X, W, G, h => by
    obtain ⟨u, v, p, rfl, h1, h2, h3⟩ := inv_dix h
    exact snd_dix G.hu (sE a c u X W G h1) (sE b c v X W G h2) h3
  | .dixT a es, c, x, X, W, G, h => by
    obtain ⟨u, ys, k, p2, p, rfl, h1, h2, h3⟩ := inv_dixT h
    exact snd_dixT G.hu (sE a c u X W G h2) (sEs es c ys X W G h3) fun env hp ds hp' q => by
      rw [evs_len es env hp ds hp' q, ← (cEs_len es c ys h3).1]; exact h1
  | .dget a b d, c, x, X, W, G, h => by
    obtain ⟨u, apos, v, w, pos, rfl, h1, h2, h3, h4, h5, h6, h7⟩ := inv_dget h
    exact snd_dget2 G.hu h2 h3 h4 h1 (sE a c u X W G h5) (sE b c v X W G h6) (sE d c w X W G h7)
  | .dsetd a b d, c, x, X, W, G, h => by
    obtain ⟨u, apos, v, w, pos, rfl, h1, h2, h3, h4, h5, h6, h7⟩ := inv_dsetd h
    exact snd_dsetd h2 h3 h4 h1 (sE a c u X W G h5) (sE b c v X W G h6) (sE d c w X W G h7)
  | .ras a, c, x, X, W, G, h => by
    obtain ⟨u, f, apos, pos, rfl, h1, h2, h3⟩ := inv_ras h
    exact snd_ras h1 h2 (sE a c u X W G h3)
  | .fld cl a f, c, x, X, W, G, h => by
    obtain ⟨u, p, rfl, h1, h2, h3⟩ := inv_fld h
    obtain ⟨q1, q2⟩ := G.fx.flds cl f h2
    exact snd_fld h1 q1 q2 (sE a c u X W G h3)
  | .new cl f es, c, x, X, W, G, h => by
    obtain ⟨nm, p, xs, p2, rfl, h1, h2, h3, h4, h5, h6⟩ := inv_new h
    obtain ⟨di, fad, fd, q1, F, q3, q4⟩ := G.fx.clss cl nm f h1
    obtain ⟨h7, h8⟩ := h2 di q1
    exact snd_new F q3 q4 h8 G.room G.tk (G.gl h3) (okN_db h4) h7 h5 (cEs_len es c xs h6).2 (sEs es c xs X W G h6) (fun env hp ds hp' q => (evs_len es env hp ds hp' q).trans (cEs_len es c xs h6).1.symm)
  | .meth cl f m o es, c, x, X, W, G, h => by
    obtain ⟨u, apos, ys, pos, rfl, h1, h2, h3, h4, h5, h6, h7⟩ := inv_meth h
    obtain ⟨di, fad, fd, q1, F, q3, q4⟩ := G.fx.meths cl m f h4
    obtain ⟨h8, h9⟩ := h5 di q1
    exact snd_meth F q3 q4 h9 (G.room.mono (by omega)) G.tk h8 h2 (cEs_len es c ys h7).2 h3 h1 (sE o c u X W G h6) (sEs es c ys X W G h7) (fun env hp ds hp' q => (evs_len es env hp ds hp' q).trans (cEs_len es c ys h7).1.symm)
      (fun z env hp => by
        subst z
        cases es with
        | nil => rfl
        | cons e es => simp [cEs] at h7)
  | .lens a, c, x, X, W, G, h => by
    obtain ⟨u, p, p2, q, pos, rfl, h1, h2, h3, h4⟩ := inv_lens h
    exact snd_lens G.calm (G.gl h1) (G.gl h2) G.fx.blt h3 (sE a c u X W G h4)
  | .comp2 m elt g it t own g1 it1 t1 own1, c, x, X, W, G, h => by
    obtain ⟨u, tg, itx, ifs, tg1, itx1, ifs1, scope, p, rfl, h1, h2, h3, h4, h5, h6, h7, h8, h9, h10, h11, h12⟩ := inv_comp2 h
    have ok : BlkOk X.N X.env.scope scope (ownP c.N own) := by rw [G.hN, G.hsc]; exact blkOk_by h1
    have ho : (ownP c.N own).map (·.2) = own := ownP_snd
    have his : ∀ i ∈ gi g, i ∈ (ownP c.N own).map (·.2) := fun i hi => by
      rw [ho]
      simpa using List.all_eq_true.mp h5 i hi
    have hv : ∀ i ∈ own1, i ∈ (ownP c.N own).map (·.2) := fun i hi => by
      rw [ho]
      simpa using List.all_eq_true.mp h12 i hi
    have his1 : ∀ i ∈ gi g1, i ∈ own1 := fun i hi => by
      simpa using List.all_eq_true.mp h10 i hi
    have q := snd_comp2 (m := m) (W := W) (elt := u) (pos := p) G.calm G.nd (cIt_plain h2) (cIt_plain h8) (sIt it c tg itx X W G h2) ok his hv his1
      (fun s H C cl fp => sG g (blkCC c scope) tg (X.blk s H scope (compEnvC scope cl C X.env) fp) W0 (G.blk ok s H C cl fp) h3)
      (fun s H C cl fp => sOT t (blkCC c scope) ifs (X.blk s H scope (compEnvC scope cl C X.env) fp) (G.blk ok s H C cl fp) h6)
      (fun s H C cl fp => sIt it1 (blkCC c scope) tg1 itx1 (X.blk s H scope (compEnvC scope cl C X.env) fp) W0 (G.blk ok s H C cl fp) h8)
      (fun s H C cl fp => sG g1 (blkCC c scope) tg1 (X.blk s H scope (compEnvC scope cl C X.env) fp) W0 (G.blk ok s H C cl fp) h9)
      (fun s H C cl fp => sOT t1 (blkCC c scope) ifs1 (X.blk s H scope (compEnvC scope cl C X.env) fp) (G.blk ok s H C cl fp) h11)
      (fun s H C cl fp => sE elt (blkCC c scope) u (X.blk s H scope (compEnvC scope cl C X.env) fp) W0 (G.blk ok s H C cl fp) h7)
    rw [ho] at q
    exact q
theorem sDs : ∀ (es : Es) (c : CC) (ks : List (Option Expr)) (vs : List Expr) (X : Cx) (W : WX) (p : Pos), GX X CA c cf n W → cDs es c ks vs = true → PPs X p ks vs (pairsT X.K CA cf W es)
  | .nil, c, ks, vs, X, W, p, G, h => by
    cases ks <;> cases vs <;> first | (simp [cDs] at h; done) | exact pps_nil
  | .cons k .nil, c, ks, vs, X, W, p, G, h => by simp [cDs] at h
  | .cons k (.cons v es), c, ks, vs, X, W, p, G, h => by
    cases ks with
    | nil => simp [cDs] at h
    | cons o ks =>
      cases o with
      | none => simp [cDs] at h
      | some x =>
        cases vs with
        | nil => simp [cDs] at h
        | cons y vs =>
          simp only [cDs, Bool.and_eq_true] at h
          exact pps_cons (sE k c x X W G h.1.1) (sE v c y X W G h.1.2) (sDs es c ks vs X W p G h.2)
theorem sEs : ∀ (es : Es) (c : CC) (xs : List Expr) (X : Cx) (W : WX), GX X CA c cf n W → cEs es c xs = true → PA X xs (tA X.K CA W (evs cf es))
  | .nil, c, xs, X, W, G, h => by
    cases xs <;> first | (simp [cEs] at h; done) | skip
    exact snd_anil
  | .cons e es, c, xs, X, W, G, h => by
    cases xs <;> first | (simp [cEs] at h; done) | skip
    simp only [cEs, Bool.and_eq_true] at h
    exact snd_acons h.1.1 (sE e c _ X W G h.1.2) (sEs es c _ X W G h.2)
theorem sKs : ∀ (es : Es) (c : CC) (xs : List Keyword) (X : Cx) (W : WX), GX X CA c cf n W → cKs es c xs = true → PK X xs (tA X.K CA W (evs cf es))
  | .nil, c, xs, X, W, G, h => by
    cases xs <;> first | (simp [cKs] at h; done) | skip
    exact snd_knil
  | .cons e es, c, xs, X, W, G, h => by
    cases xs <;> first | (simp [cKs] at h; done) | skip
    rename_i y ys
    obtain ⟨a, v, p⟩ := y
    cases a <;> first | (simp [cKs] at h; done) | skip
    simp only [cKs, Bool.and_eq_true] at h
    exact snd_kcons (sE e c v X W G h.1) (sKs es c ys X W G h.2)
theorem sA : ∀ (es : Es) (c : CC) (xs : List Expr) (X : Cx) (W : WX) (p : Pos), GX X CA c cf n W → cEs es c xs = true → xs.isEmpty = false → PE X (.BoolOp .And xs p) (tE X.K CA W (evA cf es))
  | .nil, c, xs, X, W, p, G, h, hn => by
    cases xs <;> first | (simp [cEs] at h; done) | (simp at hn; done)
  | .cons e .nil, c, xs, X, W, p, G, h, hn => by
    cases xs <;> first | (simp [cEs] at h; done) | skip
    rename_i x xs
    simp only [cEs, Bool.and_eq_true] at h
    cases xs <;> first | (simp [cEs] at h; done) | skip
    exact pe_one (sE e c x X W G h.1.2)
  | .cons e (.cons e' es), c, xs, X, W, p, G, h, hn => by
    cases xs <;> first | (simp [cEs] at h; done) | skip
    rename_i x xs
    rw [cEs, Bool.and_eq_true, Bool.and_eq_true] at h
    cases xs <;> first | (simp [cEs] at h; done) | skip
    exact snd_and (sE e c x X W G h.1.2) (sA (.cons e' es) c _ X W p G h.2 rfl)
theorem sO : ∀ (es : Es) (c : CC) (xs : List Expr) (X : Cx) (W : WX) (p : Pos), GX X CA c cf n W → cEs es c xs = true → xs.isEmpty = false → PE X (.BoolOp .Or xs p) (tE X.K CA W (evO cf es))
  | .nil, c, xs, X, W, p, G, h, hn => by
    cases xs <;> first | (simp [cEs] at h; done) | (simp at hn; done)
  | .cons e .nil, c, xs, X, W, p, G, h, hn => by
    cases xs <;> first | (simp [cEs] at h; done) | skip
    rename_i x xs
    simp only [cEs, Bool.and_eq_true] at h
    cases xs <;> first | (simp [cEs] at h; done) | skip
    exact pe_one (sE e c x X W G h.1.2)
  | .cons e (.cons e' es), c, xs, X, W, p, G, h, hn => by
    cases xs <;> first | (simp [cEs] at h; done) | skip
    rename_i x xs
    rw [cEs, Bool.and_eq_true, Bool.and_eq_true] at h
    cases xs <;> first | (simp [cEs] at h; done) | skip
    exact snd_or (sE e c x X W G h.1.2) (sO (.cons e' es) c _ X W p G h.2 rfl)
theorem sOE : ∀ (e : OE) (c : CC) (x : Option Expr) (X : Cx) (W : WX), GX X CA c cf n W → cOE e c x = true → PO X x (tO X.K CA W (evOE cf e))
  | .none, c, x, X, W, G, h => by
    cases x <;> first | (simp [cOE] at h; done) | skip
    exact snd_onone
  | .some e, c, x, X, W, G, h => by
    cases x <;> first | (simp [cOE] at h; done) | skip
    simp only [cOE] at h
    exact snd_osome (sE e c _ X W G h)
theorem sOT : ∀ (t : OT) (c : CC) (xs : List Expr) (X : Cx), GX X CA c cf n W0 → cOT t c xs = true → PTs X xs (tT X.K CA W0 (evOT cf t))
  | .none, c, xs, X, G, h => by
    cases xs <;> first | (simp [cOT] at h; done) | skip
    exact ptsN
  | .some t, c, xs, X, G, h => by
    cases xs <;> first | (simp [cOT] at h; done) | skip
    rename_i x xs
    cases xs <;> first | (simp [cOT] at h; done) | skip
    simp only [cOT] at h
    exact ptsD (sT t c x X W0 G h)
theorem sT : ∀ (t : T) (c : CC) (x : Expr) (X : Cx) (W : WX), GX X CA c cf n W → cT t c x = true → PT X x (tT X.K CA W (tv cf t))
  | .din neg a b, c, x, X, W, G, h => by
    obtain ⟨u, v, p, rfl, h1, h2, h3⟩ := inv_din h
    exact sndT_din G.hu h1 (sE a c u X W G h2) (sE b c v X W G h3)
  | .dinT neg es b, c, x, X, W, G, h => by
    obtain ⟨xs, k, p2, v, p, rfl, h0, h1, h2, h3⟩ := inv_dinT h
    exact sndT_dinT G.hu h1 (sEs es c xs X W G h2) (sE b c v X W G h3) fun env hp ds hp' q => by
      rw [evs_len es env hp ds hp' q, ← (cEs_len es c xs h2).1]; exact h0
  | .val e, c, x, X, W, G, h => by
    simp only [cT, Bool.and_eq_true] at h
    exact sndT_val (sE e c x X W G h.2) h.1
  | .cmp o a b, c, x, X, W, G, h => by
    obtain ⟨u, op, v, p, ho, rfl, hp, h1, h2⟩ := inv_tcmp h
    exact sndT_cmp G.hu ho hp (sE a c u X W G h1) (sE b c v X W G h2)
  | .chain o o' a b d, c, x, X, W, G, h => by
    obtain ⟨u, op, op', v, w, p, ho, ho', rfl, hp, h1, h2, h3⟩ := inv_tchain h
    exact sndT_chain G.hu ho ho' hp (sE a c u X W G h1) (sE b c v X W G h2) (sE d c w X W G h3)
  | .isN neg a, c, x, X, W, G, h => by
    obtain ⟨e, k, p, p2, rfl, h1⟩ := inv_tisN h
    exact sndT_isN (sE a c e X W G h1)
  | .not t, c, x, X, W, G, h => by
    cases x <;> first | (simp [cT] at h; done) | skip
    rename_i o e p
    cases o <;> first | (simp [cT] at h; done) | skip
    simp only [cT] at h
    exact sndT_not (sT t c e X W G h)
  | .and ts, c, x, X, W, G, h => by
    cases x <;> first | (simp [cT] at h; done) | skip
    rename_i o vs p
    cases o <;> first | (simp [cT] at h; done) | skip
    simp only [cT] at h
    exact PW.pt (sTA ts c vs X W p G h)
  | .or ts, c, x, X, W, G, h => by
    cases x <;> first | (simp [cT] at h; done) | skip
    rename_i o vs p
    cases o <;> first | (simp [cT] at h; done) | skip
    simp only [cT] at h
    exact PW.pt (sTO ts c vs X W p G h)
theorem sTA : ∀ (ts : Ts) (c : CC) (xs : List Expr) (X : Cx) (W : WX) (p : Pos), GX X CA c cf n W → cTs ts c xs = true → PW X (.BoolOp .And xs p) (tT X.K CA W (tvA cf ts))
  | .one t, c, xs, X, W, p, G, h => by
    cases xs <;> first | (simp [cTs] at h; done) | skip
    rename_i x xs
    cases xs <;> first | (simp [cTs] at h; done) | skip
    simp only [cTs] at h
    exact pw_and1 (sT t c x X W G h)
  | .cons t ts, c, xs, X, W, p, G, h => by
    cases xs <;> first | (simp [cTs] at h; done) | skip
    rename_i x xs
    simp only [cTs, Bool.and_eq_true] at h
    cases xs with
    | nil => cases ts <;> simp [cTs] at h
    | cons y ys => exact sndW_and (sT t c x X W G h.1) (sTA ts c (y :: ys) X W p G h.2)
theorem sTO : ∀ (ts : Ts) (c : CC) (xs : List Expr) (X : Cx) (W : WX) (p : Pos), GX X CA c cf n W → cTs ts c xs = true → PW X (.BoolOp .Or xs p) (tT X.K CA W (tvO cf ts))
  | .one t, c, xs, X, W, p, G, h => by
    cases xs <;> first | (simp [cTs] at h; done) | skip
    rename_i x xs
    cases xs <;> first | (simp [cTs] at h; done) | skip
    simp only [cTs] at h
    exact pw_or1 (sT t c x X W G h)
  | .cons t ts, c, xs, X, W, p, G, h => by
    cases xs <;> first | (simp [cTs] at h; done) | skip
    rename_i x xs
    simp only [cTs, Bool.and_eq_true] at h
    cases xs with
    | nil => cases ts <;> simp [cTs] at h
    | cons y ys => exact sndW_or (sT t c x X W G h.1) (sTO ts c (y :: ys) X W p G h.2)
theorem sG : ∀ (g : G) (c : CC) (x : Expr) (X : Cx) (W : WX), GX X CA c cf n W → cG g c x = true → PG X x (tG X.K CA (gi g) (asg cf g))
  | .name i, c, x, X, W, G, h => by
    cases x <;> first | (simp [cG] at h; done) | skip
    simp only [cG, Bool.and_eq_true, decide_eq_true_eq] at h
    exact snd_gname G.nd (by rw [G.hN]; exact h.1) (G.name h.2)
  | .tup gs, c, x, X, W, G, h => by
    cases x <;> first | (simp [cG] at h; done) | skip
    simp only [cG, Bool.and_eq_true] at h
    obtain ⟨h1, h2⟩ := cGs_len (cf := cf) gs c _ h.2
    exact snd_gtup G.calm h1 (sGs gs c _ X W G h.2) h2 (fun ds env hp x hp' => asgs_noexc gs ds env hp x hp' h.1)
  | .sub o i, c, x, X, W, G, h => by
    cases x <;> first | (simp [cG] at h; done) | skip
    simp only [cG, Bool.and_eq_true] at h
    exact snd_gsub h.2 (sE o c _ X W G h.1.1) (sE i c _ X W G h.1.2)
theorem sGs : ∀ (gs : Gs) (c : CC) (xs : List Expr) (X : Cx) (W : WX), GX X CA c cf n W → cGs gs c xs = true → PGs X xs (tGs X.K CA (gis gs) (asgs cf gs))
  | .nil, c, xs, X, W, G, h => by
    cases xs <;> first | (simp [cGs] at h; done) | skip
    exact snd_gnil.imp fun vs σ H Q ⟨env, L, Xg, hp, ds, k, r, rd, g⟩ => ⟨env, L, Xg, hp, ds, k, r, rd, by cases ds <;> exact g⟩
  | .cons g gs, c, xs, X, W, G, h => by
    cases xs <;> first | (simp [cGs] at h; done) | skip
    simp only [cGs, Bool.and_eq_true] at h
    exact (snd_gcons h.1.1 (sG g c _ X W G h.1.2) (sGs gs c _ X W G h.2)).imp fun vs σ H Q ⟨env, L, Xg, hp, ds, k, r, rd, g⟩ => ⟨env, L, Xg, hp, ds, k, r, rd, by cases ds <;> exact g⟩
theorem sIt : ∀ (it : It) (c : CC) (tg x : Expr) (X : Cx) (W : WX), GX X CA c cf n W → cIt it c tg x = true → PI X tg x (tIt X.K CA W (iv cf it))
  | .seq e, c, tg, x, X, W, G, h => by
    simp only [cIt, Bool.and_eq_true] at h
    exact snd_iseq (sE e c x X W G h.2)
  | .rng1 a, c, tg, x, X, W, G, h => by
    obtain ⟨u, p, p2, rfl, h1, h2, h3⟩ := inv_rng1 h
    exact snd_irng1 (G.gl h1) G.fx.blt h2 (sE a c u X W G h3)
  | .rng2 a b, c, tg, x, X, W, G, h => by
    obtain ⟨u, v, p, p2, rfl, h1, h2, h3, h4, h5⟩ := inv_rng2 h
    exact snd_irng2 (G.gl h1) G.fx.blt h2 h3 (sE a c u X W G h4) (sE b c v X W G h5)
  | .enum a, c, tg, x, X, W, G, h => by
    obtain ⟨u, p, p2, ts, k, p3, rfl, rfl, h1, h2, h3⟩ := inv_enum h
    exact snd_ienum (G.gl h1) G.fx.blt h2 (sE a c u X W G h3)
  | .zip a b, c, tg, x, X, W, G, h => by
    obtain ⟨u, v, p, p2, ts, k, p3, rfl, rfl, h1, h2, h3, h4, h5⟩ := inv_zip h
    exact snd_izip (G.gl h1) G.fx.blt h2 h3 (sE a c u X W G h4) (sE b c v X W G h5)
  | .txt e, c, tg, x, X, W, G, h => snd_itxt (sE e c x X W G (inv_txt h).2)
end
end
end KI

namespace KI
open PySem PySem.Spec PyProof.Rows L2
variable [LX]
/-! ## 19b. a lambda's run -/
def ccLam (pg : Pg) (li : LamI) (scope : Scope) : CC := ⟨pg, li.N, scope, fun _ => true, fun _ _ _ _ => false, false⟩
/-- of a lambda that captures -/
def ccCap (pg : Pg) (li : LamI) (scope : Scope) : CC := ⟨pg, li.N, scope, fun _ => false, fun _ _ _ _ => false, false⟩
/-- what the check of lambda j gives -/
structure LamCk (pg : Pg) (j : Nat) (params : Arguments) (body : Expr) (scope : Scope) : Prop where
  ex : ∃ li, pg.lams[j]? = some li ∧ ((li.cap = none ∧ params.defaults = [] ∧ FnScope li.N li.ps scope ∧ cE li.body (ccLam pg li scope) body = true ∧
    ∀ (q : Str) (cl : List (Str × Addr)) (doc pm cv ctv : Value) (us : List Value), us.length = li.ps.length → bindArgs (PySem.W.kdv_fn "<lambda>" q params (.expr body) scope cl .none doc pm cv ctv) ⟨us, []⟩ = pure (li.ps.zip us)) ∨
    ∃ sc, li.cap = some sc ∧ CapPar params scope ∧ CapS li.N sc scope ∧ cE li.body (ccCap pg li scope) body = true)
theorem clo_nil {cl : List (Str × Addr)} : ∀ {names : List (Str × NameKind)}, (∀ y ∈ names, y.2 ≠ .free) → cloFrom cl names [] = []
  | [], _ => rfl
  | (n, k) :: r, h => by
    have hk : (k == NameKind.free) = false := by
      have := h (n, k) List.mem_cons_self
      simpa using this
    unfold cloFrom
    rw [hk]
    exact clo_nil fun y hy => h y (List.mem_cons_of_mem _ hy)
section
variable {P : Program} {w : World} {K : PySem.W.Frag} {mg : Str → Option Value} {base : Heap} {CA : Nat → Addr} {pg : Pg} {wf : Nat}
theorem reps_start {H : Hp} {L X : List Addr} : ∀ {ds : List D} {vs : List V} (m : Nat), Reps K H L X ds vs → REnv K H L X (ds.map some ++ List.replicate m none) (vs.map some ++ List.replicate m none) := by
  intro ds vs m r
  refine ⟨by simp [r.len], fun i d e => ?_⟩
  by_cases hi : i < ds.length
  · rw [List.getElem?_append_left (by simpa using hi)] at e
    rw [List.getElem?_map] at e
    cases q : ds[i]? with
    | none => rw [q] at e; cases e
    | some d' =>
      rw [q] at e
      cases e
      obtain ⟨v, h1, h2⟩ := r.get q
      exact ⟨v, by rw [List.getElem?_append_left (by rw [List.length_map, r.len]; exact hi), List.getElem?_map, h1]; rfl, h2⟩
  · rw [List.getElem?_append_right (by simpa using hi), List.getElem?_replicate] at e
    split at e <;> cases e
theorem lam_run {n j m : Nat} (hck : ∀ params body scope, LX.ck j params body scope → LamCk pg j params body scope)
    (gx : ∀ (li : LamI) (q : Str) (scope : Scope) (a c : Addr) (A : Around) (outer : List Env) (s : Shared) (H : Hp) (E : XK), FnScope li.N li.ps scope → Room (2 * n + 3) (A.deeper (envOfC q scope s.heap.objs.size a (.ref c))) →
      GX (cxOf (L2.CX P w) P w K mg base li.N q scope a (.ref c) A outer s H E) CA (ccLam pg li scope) (run pg wf n) n (fun cls d _ H => E cls d H)) :
    LamRun P w K mg base CA (run pg wf (n + 1)) (n + 1) pg.defs.length j m := by
  intro a c q dv A outer s H us vs Q E hr e0 h1 h2 rv hsp
  obtain ⟨⟨params, body, scope, pm, ctv, doc, z, ck, hdef⟩, _, _⟩ := e0.hok a _ h1
  obtain ⟨⟨oc, vs', t, hoc, hd, hv⟩, _, _⟩ := e0.hok c _ h2
  obtain ⟨li, hj, h⟩ := (hck params body scope ck).ex
  rcases h with ⟨hcn, hds, S, hc, hb⟩ | ⟨sc, hcs, _⟩
  case inr =>
    obtain ⟨_, L, X, hp, ds, _, _, g⟩ := hsp
    have e1 : pg.defs[pg.defs.length + j]? = none := List.getElem?_eq_none_iff.mpr (Nat.le_add_right _ _)
    have e2 : pg.defs.length + j - pg.defs.length = j := by omega
    simp only [run, e1, e2, hj, hcs] at g
    exact g.elim
  obtain rfl : dv = .none := hdef.mp hds
  have hclo : cloFrom LX.CL scope.names [] = [] := clo_nil S.nofree
  rw [hclo] at z
  obtain ⟨hm, L, X, hp, ds, k, r, g⟩ := hsp
  have e1 : pg.defs[pg.defs.length + j]? = none := List.getElem?_eq_none_iff.mpr (Nat.le_add_right _ _)
  have e2 : pg.defs.length + j - pg.defs.length = j := by omega
  simp only [run, e1, e2, hj, hcn] at g
  by_cases hl : ds.length = li.ps.length
  · rw [if_pos hl] at g
    have hlv : vs.length = li.ps.length := by rw [r.len]; exact hl
    have lim : s.heap.NoLimit := e0.mod.nolimit.keeps fun b o e => (e0.bs b o e).1
    have hkind : ∀ y ∈ li.ps.zip us, scope.names.lookup y.1 = some .local ∨ (scope.names.lookup y.1 = some .cell ∧ ((cellsFrom (s.heap.objs.size + 1) scope.names []).lookup y.1).isSome = true) := fun ⟨x, u⟩ hy =>
      (S.par x (List.of_mem_zip hy).1).elim .inl fun q => .inr ⟨q, PySem.W.cellsFrom_some _ _ _ (.inl q)⟩
    refine PySem.W.kla_callFunE hr.depth z rfl S.co S.gen rfl ⟨c, oc, vs', t, rfl, hoc, hd, hv⟩ ?_
    rw [hb _ _ _ _ _ _ us (by rw [← rv.length]; exact hlv)]
    refine wpAny_pure (wpAny_newFunctionEnv_cells S.kind hkind fun env he s1 x => ?_)
    subst he
    refine ⟨lim.keeps x.toInCall.keep, ?_⟩
    show codeAny _ _ (.expr body (envOfC q scope s.heap.objs.size a (.ref c))) _ _
    have I : Inv (cxOf (L2.CX P w) P w K mg base li.N q scope a (.ref c) A outer s H E) [] (L2.start li.N vs) H s1 := inv_start S hr.hd e0 hlv rv x
    have G := gx li q scope a c A outer s H E S (hr.deeper _)
    refine PySem.W.kla_codeExpr (wpAny_mono ((sE li.body _ body _ _ G hc).run [] s1 (L2.start li.N vs) H Q I ⟨ds.map some ++ List.replicate (li.N.length - ds.length) none, L, X, hp, k, ?_, g⟩) (fun v s' hq => ?_) fun e s' hq => hq)
    · have e : L2.start li.N vs = vs.map some ++ List.replicate (li.N.length - ds.length) none := by unfold L2.start; rw [r.len]
      rw [e]
      exact reps_start _ r
    · obtain ⟨w', H', J', rv, q⟩ := hq
      exact ⟨w', H', J'.os, J'.bare, J'.base, J'.hok, rv, q⟩
  · rw [if_neg hl] at g
    exact g.elim
/-- a captured one's run, its creator being X -/
theorem cap_run {X : Cx} {n : Nat} (hck : ∀ j params body scope, LX.ck j params body scope → LamCk pg j params body scope) (hsc : ∀ (j : Nat) li sc, pg.lams[j]? = some li → li.cap = some sc → X.env.scope = sc ∧ X.N = li.N) (hcl : X.env.cells = LX.CL)
    (gx : ∀ (li : LamI) (q : Str) (scope : Scope) (a c : Addr) (A : Around) (outer : List Env) (s : Shared) (H : Hp) (E : XK), X.N = li.N → CapS X.N X.env.scope scope → Room (2 * n + 3) (A.deeper (capEnv X q scope s.heap.objs.size a c)) → A.handled = none →
      GX (capCx X A outer s H E q scope a c) CA (ccCap pg li scope) (run pg wf n) n (fun cls d _ H => E cls d H)) :
    CapRun X CA (run pg wf (n + 1)) (n + 1) (pg.defs.length + pg.lams.length) := by
  intro pins σ H0 s0 I ex a c q dv j A outer s H Q E nc hd hdep hroom e0 un h1 h2 hdv ⟨env, L, Xg, hp, k, r, g⟩
  obtain ⟨⟨params, body, scope, pm, ctv, doc, z, ck, hdef⟩, _, _⟩ := e0.hok a _ h1
  obtain ⟨⟨oc, vs', t, hoc, hdc, hv⟩, _, _⟩ := e0.hok c _ h2
  obtain ⟨li, hj, h⟩ := (hck j params body scope ck).ex
  have e1 : pg.defs[pg.defs.length + pg.lams.length + j]? = none := List.getElem?_eq_none_iff.mpr (by omega)
  have e2 : pg.lams[pg.defs.length + pg.lams.length + j - pg.defs.length]? = none := List.getElem?_eq_none_iff.mpr (by omega)
  have e3 : pg.defs.length + pg.lams.length + j - pg.defs.length - pg.lams.length = j := by omega
  rcases h with ⟨hcn, _⟩ | ⟨sc, hcs, hpar, S, hc⟩
  · simp only [run, e1, e2, e3, hj, hcn] at g
    exact g.elim
  · simp only [run, e1, e2, e3, hj, hcs, dec_enc] at g
    obtain ⟨rsc, rN⟩ := hsc j li sc hj hcs
    rw [← rN, ← rsc] at S
    rw [← hcl] at z
    have lim : s.heap.NoLimit := e0.mod.nolimit.keeps fun b o e => (e0.bs b o e).1
    obtain ⟨binds, hb, hloc⟩ := cap_bind (body := body) (q := q) (cl := cloFrom X.env.cells scope.names []) (doc := doc) (pm := pm) (ctv := ctv) (c := c) (s := s) hpar hdef hdv fun t ht => by
      obtain ⟨hz, us, rv, o, ho, hcl, m, hd⟩ := e0.hok t _ ht
      cases rv with
      | cons r1 r2 =>
        cases r2
        exact ⟨o, _, _, ho, hd⟩
    refine PySem.W.kla_callFunE hdep z rfl S.co S.gen rfl ⟨c, oc, vs', t, rfl, hoc, hdc, hv⟩ (hb _ _ _ _ ?_)
    refine wpAny_newFunctionEnv S.nocell hloc (fun h₁ hns hsb => ⟨lim.fresh _ hsb, ?_⟩) S.kind
    show codeAny _ _ (.expr body (capEnv X q scope s.heap.objs.size a c)) _ _
    have kp : ∀ b o, s.heap.get? b = some o → h₁.get? b = some o := fun b o e => hsb.extBut b o (Nat.ne_of_lt (Heap.lt_size e)) (Heap.get?_push_of_some _ e)
    have J : Inv (capCx X A outer s H E q scope a c) [] σ H { s with heap := h₁, toks := s.toks + binds.length } := cap_start I S e0 hd un nc hns kp
    have G := gx li q scope a c A outer s H E rN S (hroom _) hd
    refine PySem.W.kla_codeExpr (wpAny_mono ((sE li.body _ body _ _ G hc).run [] _ σ H Q J ⟨env, L, Xg, hp, k, r, g⟩) (fun v s' hq => ?_) fun e s' hq => hq)
    obtain ⟨w', H', J', rv, q⟩ := hq
    exact ⟨w', H', J'.os, J'.bare, J'.base, J'.hok, rv, q⟩
end
end KI

namespace KI
open PySem PySem.Spec PyProof.Rows L2
variable [LX]
/-! ## 20. soundness of statements -/
section
variable {CA : Nat → Addr} {cf : CF} {n wf : Nat} {c : CC} {X : Cx} {W : WX}
theorem inv_asg {g : G} {e : E} {x : Stmt} (h : cS (.asg g e) c x = true) : ∃ tg v p, x = .Assign [tg] v p ∧ cG g c tg = true ∧ plainE tg = true ∧ cE e c v = true ∧
    (if swC c tg v = true then setOk g e else okAsg c tg v) = true := by
  cases x <;> first | (simp [cS] at h; done) | skip
  rename_i tgs v p
  cases tgs with
  | nil => simp [cS] at h
  | cons tg r =>
    cases r with
    | cons _ _ => simp [cS] at h
    | nil =>
      rw [cS, Bool.and_eq_true, Bool.and_eq_true, Bool.and_eq_true] at h
      exact ⟨_, _, _, rfl, h.1.1.1, h.1.1.2, h.1.2, h.2⟩
theorem inv_par {i j : Nat} {a b : E} {s : Stmt} (h : cS (.par i j a b) c s = true) : ∃ x px y py k p u v k2 p2 p3, s = .Assign [.Tuple [.Name x px, .Name y py] k p] (.Tuple [u, v] k2 p2) p3 ∧ c.N[i]? = some x ∧ c.N[j]? = some y ∧ i ≠ j ∧
    c.sc.names.lookup x = some .local ∧ c.sc.names.lookup y = some .local ∧ plainE u = true ∧ plainE v = true ∧ cE a c u = true ∧ cE b c v = true ∧ swS c.sc [.Name x px, .Name y py] [u, v] = some (some [x, y]) := by
  unfold cS at h
  split at h <;> first | (cases h; done) | (rename_i heq; cases heq; done) | (rename_i heq; cases heq)
  all_goals (simp only [Bool.and_eq_true, decide_eq_true_eq] at h)
  obtain ⟨⟨⟨⟨⟨⟨⟨⟨⟨h1, h2⟩, h3⟩, h4⟩, h5⟩, h6⟩, h7⟩, h8⟩, h9⟩, h10⟩ := h
  exact ⟨_, _, _, _, _, _, _, _, _, _, _, rfl, h1, h2, h3, h4, h5, h6, h7, h8, h9, h10⟩
theorem inv_par3 {i j l : Nat} {a b d : E} {s : Stmt} (h : cS (.par3 i j l a b d) c s = true) : ∃ x px y py z pz k p u v w k2 p2 p3, s = .Assign [.Tuple [.Name x px, .Name y py, .Name z pz] k p] (.Tuple [u, v, w] k2 p2) p3 ∧ c.N[i]? = some x ∧ c.N[j]? = some y ∧ c.N[l]? = some z ∧ i ≠ j ∧ i ≠ l ∧ j ≠ l ∧
    c.sc.names.lookup x = some .local ∧ c.sc.names.lookup y = some .local ∧ c.sc.names.lookup z = some .local ∧ plainE u = true ∧ plainE v = true ∧ plainE w = true ∧ cE a c u = true ∧ cE b c v = true ∧ cE d c w = true ∧ swS c.sc [.Name x px, .Name y py, .Name z pz] [u, v, w] = some (some [x, y, z]) := by
  unfold cS at h
  split at h <;> first | (cases h; done) | (rename_i heq; cases heq; done) | (rename_i heq; cases heq)
  all_goals (simp only [Bool.and_eq_true, decide_eq_true_eq] at h)
  obtain ⟨⟨⟨⟨⟨⟨⟨⟨⟨⟨⟨⟨⟨⟨⟨h1, h2⟩, h3⟩, h4⟩, h5⟩, h6⟩, h7⟩, h8⟩, h9⟩, h10⟩, h11⟩, h12⟩, h13⟩, h14⟩, h15⟩, h16⟩ := h
  exact ⟨_, _, _, _, _, _, _, _, _, _, _, _, _, _, rfl, h1, h2, h3, h4, h5, h6, h7, h8, h9, h10, h11, h12, h13, h14, h15, h16⟩
theorem inv_aug {i : Nat} {o : Op2} {e : E} {s : Stmt} (h : cS (.aug i o e) c s = true) : ∃ x px op v p, s = .AugAssign (.Name x px) op v p ∧ c.N[i]? = some x ∧ stB c x = true ∧ cE e c v = true ∧
    ((∃ m, o = .add m ∧ op = .Add) ∨ (o = .sub ∧ op = .Sub) ∨ (∃ m, o = .mul m ∧ op = .Mult)) := by
  unfold cS at h
  split at h <;> first | (cases h; done) | (rename_i heq; cases heq; done) | (rename_i heq; cases heq)
  all_goals (simp only [Bool.and_eq_true, decide_eq_true_eq] at h)
  obtain ⟨⟨⟨h1, h2⟩, h3⟩, h4⟩ := h
  refine ⟨_, _, _, _, _, rfl, h1, h2, h3, ?_⟩
  split at h4 <;> first | (cases h4; done) | skip
  · exact .inl ⟨_, rfl, rfl⟩
  · exact .inr (.inl ⟨rfl, rfl⟩)
  · exact .inr (.inr ⟨_, rfl, rfl⟩)
theorem inv_ret {e : E} {s : Stmt} (h : cS (.ret e) c s = true) : ∃ v p, s = .Return (some v) p ∧ cE e c v = true := by
  unfold cS at h
  split at h <;> first | (cases h; done) | (rename_i heq; cases heq; done) | (rename_i heq; cases heq)
  all_goals exact ⟨_, _, rfl, h⟩
theorem inv_retN {s : Stmt} (h : cS .retN c s = true) : ∃ p, s = .Return none p := by
  unfold cS at h
  split at h <;> first | (cases h; done) | (rename_i heq; cases heq; done) | (rename_i heq; cases heq) | skip
  all_goals exact ⟨_, rfl⟩
theorem inv_raise {cl : Nat} {fs : List Str} {es : Es} {s : Stmt} (h : cS (.raise cl fs es) c s = true) : ∃ x p args p3 pos, s = .Raise (some (.Call (.Name x p) args [] p3)) none pos ∧ exNames[cl]? = some x ∧ glB c.sc x = true ∧ okN x = true ∧ (c.pg.excs.any fun p => p.1 == cl && p.2 == fs) = true ∧ cEs es c args = true ∧ args.isEmpty = false ∧
    ((fs = [] ∧ ∃ m' m j p2, es = .cons (.cst (.str m')) .nil ∧ args = [.Constant (.str m) j p2]) ∨ (fs ≠ [] ∧ args.length = fs.length)) := by
  unfold cS at h
  split at h <;> first | (cases h; done) | (rename_i heq; cases heq; done) | (rename_i heq; cases heq)
  all_goals (simp only [Bool.and_eq_true, decide_eq_true_eq, Bool.not_eq_true'] at h)
  obtain ⟨⟨⟨⟨⟨⟨h1, h2⟩, h3⟩, h4⟩, h5⟩, h6⟩, h7⟩ := h
  refine ⟨_, _, _, _, _, rfl, h1, h2, h3, h4, h5, h6, ?_⟩
  cases fs with
  | nil =>
    rw [if_pos (show ([] : List Str).isEmpty = true from rfl)] at h7
    split at h7
    · exact .inl ⟨rfl, _, _, _, _, rfl, rfl⟩
    · cases h7
  | cons f fs =>
    rw [if_neg (by simp)] at h7
    exact .inr ⟨by simp, of_decide_eq_true h7⟩
theorem inv_dput {o k e : E} {s : Stmt} (h : cS (.dput o k e) c s = true) : ∃ x y p2 v p, s = .Assign [.Subscript x y p2] v p ∧ cE o c x = true ∧ cE k c y = true ∧ plainIx y = true ∧ cE e c v = true ∧ noSC v = true ∧ isComp v = false := by
  unfold cS at h
  split at h <;> first | (cases h; done) | (rename_i heq; cases heq; done) | (rename_i heq; cases heq)
  all_goals (simp only [Bool.and_eq_true, Bool.not_eq_true'] at h)
  obtain ⟨⟨⟨⟨⟨h1, h2⟩, h3⟩, h4⟩, h5⟩, h6⟩ := h
  exact ⟨_, _, _, _, _, rfl, h1, h2, h3, h4, h5, h6⟩
theorem inv_dputT {o e : E} {ks : Es} {s : Stmt} (h : cS (.dputT o ks e) c s = true) : ∃ x ys k p3 p2 v p, s = .Assign [.Subscript x (.Tuple ys k p3) p2] v p ∧ ys.length ≤ 1000 ∧ cE o c x = true ∧ cEs ks c ys = true ∧ cE e c v = true ∧ noSC v = true ∧ isComp v = false := by
  unfold cS at h
  split at h <;> first | (cases h; done) | (rename_i heq; cases heq; done) | (rename_i heq; cases heq)
  all_goals (simp only [Bool.and_eq_true, Bool.not_eq_true', decide_eq_true_eq] at h)
  obtain ⟨⟨⟨⟨⟨h1, h2⟩, h3⟩, h4⟩, h5⟩, h6⟩ := h
  exact ⟨_, _, _, _, _, _, _, rfl, h1, h2, h3, h4, h5, h6⟩
theorem inv_fset {cl : Nat} {f : Str} {o e : E} {s : Stmt} (h : cS (.fset cl o f e) c s = true) : ∃ x p2 v p, s = .Assign [.Attribute x f p2] v p ∧ plainB x = true ∧ (cl, f) ∈ c.pg.flds ∧ cE o c x = true ∧ cE e c v = true ∧ noSC v = true ∧ isComp v = false := by
  unfold cS at h
  split at h <;> first | (cases h; done) | (rename_i heq; cases heq; done) | (rename_i heq; cases heq)
  all_goals (simp only [Bool.and_eq_true, Bool.not_eq_true', beq_iff_eq] at h)
  obtain ⟨⟨⟨⟨⟨⟨h1, h2⟩, h3⟩, h4⟩, h5⟩, h6⟩, h7⟩ := h
  subst h1
  exact ⟨_, _, _, _, rfl, h2, by simpa using h3, h4, h5, h6, h7⟩
theorem inv_faug {cl : Nat} {f : Str} {o e : E} {op : Op2} {s : Stmt} (h : cS (.faug cl o f op e) c s = true) : ∃ x p2 bop v p, s = .AugAssign (.Attribute x f p2) bop v p ∧ plainB x = true ∧ (cl, f) ∈ c.pg.flds ∧ cE o c x = true ∧ cE e c v = true ∧ (((∃ m, op = .add m) ∧ bop = .Add) ∨ (op = .sub ∧ bop = .Sub)) := by
  unfold cS at h
  split at h <;> first | (cases h; done) | (rename_i heq; cases heq; done) | (rename_i heq; cases heq)
  all_goals (simp only [Bool.and_eq_true, beq_iff_eq] at h)
  obtain ⟨⟨⟨⟨⟨h1, h2⟩, h3⟩, h4⟩, h5⟩, h6⟩ := h
  subst h1
  refine ⟨_, _, _, _, _, rfl, h2, by simpa using h3, h4, h5, ?_⟩
  split at h6 <;> first | (cases h6; done) | skip
  · exact .inl ⟨⟨_, rfl⟩, rfl⟩
  · exact .inr ⟨rfl, rfl⟩
theorem inv_whl {t : T} {b : Ss} {s : Stmt} (h : cS (.whl t b) c s = true) : ∃ x ys p, s = .While x ys [] p ∧ cT t c x = true ∧ cSs b c ys = true := by
  unfold cS at h
  split at h <;> first | (cases h; done) | (rename_i heq; cases heq; done) | (rename_i heq; cases heq)
  all_goals (simp only [Bool.and_eq_true] at h)
  exact ⟨_, _, _, rfl, h.1, h.2⟩
theorem inv_for {g : G} {it : It} {b : Ss} {s : Stmt} (h : cS (.for_ g it b) c s = true) : ∃ tg x ys p, s = .For tg x ys [] p ∧ cG g c tg = true ∧ cIt it c tg x = true ∧ plainS x = true ∧ cSs b c ys = true := by
  unfold cS at h
  split at h <;> first | (cases h; done) | (rename_i heq; cases heq; done) | (rename_i heq; cases heq)
  all_goals (simp only [Bool.and_eq_true] at h)
  exact ⟨_, _, _, _, rfl, h.1.1.1, h.1.1.2, h.1.2, h.2⟩
end
section
variable {CA : Nat → Addr} {cf : CF} {n wf : Nat}
mutual
theorem sS : ∀ (s : S) (c : CC) (x : Stmt) (X : Cx) (W : WX), GX X CA c cf n W → cS s c x = true → PS X x (tS X.K CA W (ex cf wf s))
  | .expr e, c, x, X, W, G, h => by
    cases x <;> first | (simp [cS] at h; done) | skip
    simp only [cS, Bool.and_eq_true, Bool.not_eq_true'] at h
    exact snd_expr h.1 (sE e c _ X W G h.2)
  | .asg g e, c, x, X, W, G, h => by
    obtain ⟨tg, v, p, rfl, h1, h2, h3, h4⟩ := inv_asg h
    split at h4
    · rename_i hsw
      cases e <;> first | (cases h4; done) | skip
      · rename_i m nd it v
        cases g <;> first | (cases h4; done) | skip
        rename_i i
        cases tg <;> first | (simp [cG] at h1; done) | skip
        rename_i yy py
        simp only [cG, Bool.and_eq_true, decide_eq_true_eq] at h1
        obtain ⟨y, p0, p2, p1, tg2, itx, scope, pos, rfl, g1, rfl, g3, g4, g5, g6, g7, g8⟩ := inv_kinds h3
        obtain ⟨kf, CK, KO, F, CRn⟩ := G.kd g1
        have ok : BlkOk X.N X.env.scope scope (ownP c.N [v]) := by rw [G.hN, G.hsc]; exact blkOk_by g3
        have ho : (ownP c.N [v]).map (·.2) = [v] := ownP_snd
        simp only [cE, Bool.and_eq_true, decide_eq_true_eq] at g6
        obtain ⟨⟨k1, k2⟩, k3⟩ := g6
        have hNv : X.N[v]? = some y := by rw [G.hN]; exact k1
        unfold okN at k3
        simp only [Bool.and_eq_true, Bool.not_eq_true'] at k3
        have hv : ∀ i ∈ [v], ∀ x, X.N[i]? = some x → ¬ Vis X.env.scope x := fun i hi x e z => by
          obtain rfl : i = v := by simpa using hi
          rw [hNv] at e
          cases e
          rw [G.hsc] at z
          unfold visB at g8
          rcases z with z | z | z <;> rw [z] at g8 <;> cases g8
        exact snd_setKinds (m := m) (pos := pos) G.kind G.hsc hsw (by rw [G.hN]; exact h1.1) ho KO F CRn (G.room.mono (by omega)) G.calm G.nd (cIt_plain g4) (sIt it c tg2 itx X W G g4) ok hv
          (fun s H C cl fp => sG (.name v) (blkCC c scope) tg2 (X.blk s H scope (compEnvC scope cl C X.env) fp) W0 (G.blk ok s H C cl fp) g5)
          (fun s H C cl fp => ⟨(G.blk ok s H C cl fp).gl g7, by rw [(G.blk ok s H C cl fp).hsc]; exact visB_ok k2⟩) hNv k3.1 k3.2
      · rename_i m elt g2 it t own
        cases g <;> first | (cases h4; done) | skip
        rename_i i
        cases tg <;> first | (simp [cG] at h1; done) | skip
        rename_i y py
        simp only [cG, Bool.and_eq_true, decide_eq_true_eq] at h1
        obtain ⟨u, tg2, itx, ifs, scope, p2, rfl, k1, k2, k3, k4, k5, k6, k7⟩ := inv_comp h3
        have ok : BlkOk X.N X.env.scope scope (ownP c.N own) := by rw [G.hN, G.hsc]; exact blkOk_by k1
        have ho : (ownP c.N own).map (·.2) = own := ownP_snd
        have his : ∀ i ∈ gi g2, i ∈ (ownP c.N own).map (·.2) := fun i hi => by
          rw [ho]
          simpa using List.all_eq_true.mp k5 i hi
        have q := snd_setLc (CA := CA) (W := W) (m := m) (i := i) (spos := p) G.kind G.hsc hsw G.calm G.nd (by rw [G.hN]; exact h1.1) (cIt_plain k2) (sIt it c tg2 itx X W G k2) ok his
          (fun s H C cl fp => sG g2 (blkCC c scope) tg2 (X.blk s H scope (compEnvC scope cl C X.env) fp) W0 (G.blk ok s H C cl fp) k3)
          (fun s H C cl fp => sOT t (blkCC c scope) ifs (X.blk s H scope (compEnvC scope cl C X.env) fp) (G.blk ok s H C cl fp) k6)
          (fun s H C cl fp => sE elt (blkCC c scope) u (X.blk s H scope (compEnvC scope cl C X.env) fp) W0 (G.blk ok s H C cl fp) k7)
        rw [ho] at q
        exact q
      · rename_i m elt g2 it t own g1 it1 t1 own1
        cases g <;> first | (cases h4; done) | skip
        rename_i i
        cases tg <;> first | (simp [cG] at h1; done) | skip
        rename_i y py
        simp only [cG, Bool.and_eq_true, decide_eq_true_eq] at h1
        obtain ⟨u, tg2, itx, ifs, tg1, itx1, ifs1, scope, p2, rfl, k1, k2, k3, k4, k5, k6, k7, k8, k9, k10, k11, k12⟩ := inv_comp2 h3
        have ok : BlkOk X.N X.env.scope scope (ownP c.N own) := by rw [G.hN, G.hsc]; exact blkOk_by k1
        have ho : (ownP c.N own).map (·.2) = own := ownP_snd
        have his : ∀ i ∈ gi g2, i ∈ (ownP c.N own).map (·.2) := fun i hi => by
          rw [ho]
          simpa using List.all_eq_true.mp k5 i hi
        have hv : ∀ i ∈ own1, i ∈ (ownP c.N own).map (·.2) := fun i hi => by
          rw [ho]
          simpa using List.all_eq_true.mp k12 i hi
        have his1 : ∀ i ∈ gi g1, i ∈ own1 := fun i hi => by
          simpa using List.all_eq_true.mp k10 i hi
        have q := snd_setLc2 (CA := CA) (W := W) (m := m) (i := i) (spos := p) G.kind G.hsc hsw G.calm G.nd (by rw [G.hN]; exact h1.1) (cIt_plain k2) (cIt_plain k8) (sIt it c tg2 itx X W G k2) ok his hv his1
          (fun s H C cl fp => sG g2 (blkCC c scope) tg2 (X.blk s H scope (compEnvC scope cl C X.env) fp) W0 (G.blk ok s H C cl fp) k3)
          (fun s H C cl fp => sOT t (blkCC c scope) ifs (X.blk s H scope (compEnvC scope cl C X.env) fp) (G.blk ok s H C cl fp) k6)
          (fun s H C cl fp => sIt it1 (blkCC c scope) tg1 itx1 (X.blk s H scope (compEnvC scope cl C X.env) fp) W0 (G.blk ok s H C cl fp) k8)
          (fun s H C cl fp => sG g1 (blkCC c scope) tg1 (X.blk s H scope (compEnvC scope cl C X.env) fp) W0 (G.blk ok s H C cl fp) k9)
          (fun s H C cl fp => sOT t1 (blkCC c scope) ifs1 (X.blk s H scope (compEnvC scope cl C X.env) fp) (G.blk ok s H C cl fp) k11)
          (fun s H C cl fp => sE elt (blkCC c scope) u (X.blk s H scope (compEnvC scope cl C X.env) fp) W0 (G.blk ok s H C cl fp) k7)
        rw [ho] at q
        exact q
    · exact snd_asg G.kind G.hsc h2 h4 (sE e c v X W G h3) (sG g c tg X W G h1)
  | .par3 i j l a b d, c, x, X, W, G, h => by
    obtain ⟨x, px, y, py, z, pz, k, p, u, v, w, k2, p2, p3, rfl, h1, h2, h3, h4, h5, h6, h7, h8, h9, h10, h11, h12, h13, h14, h15, h16⟩ := inv_par3 h
    exact snd_par3 G.kind G.hsc G.calm G.nd (by rw [G.hN]; exact h1) (by rw [G.hN]; exact h2) (by rw [G.hN]; exact h3) h4 h5 h6 (by rw [G.hsc]; exact h7) (by rw [G.hsc]; exact h8) (by rw [G.hsc]; exact h9) h10 h11 h12 (sE a c u X W G h13) (sE b c v X W G h14) (sE d c w X W G h15) h16
  | .par i j a b, c, x, X, W, G, h => by
    obtain ⟨x, px, y, py, k, p, u, v, k2, p2, p3, rfl, h1, h2, h3, h4, h5, h6, h7, h8, h9, h10⟩ := inv_par h
    exact snd_par G.kind G.hsc G.calm G.nd (by rw [G.hN]; exact h1) (by rw [G.hN]; exact h2) h3 (by rw [G.hsc]; exact h4) (by rw [G.hsc]; exact h5) h6 h7 (sE a c u X W G h8) (sE b c v X W G h9) h10
  | .aug i o e, c, x, X, W, G, h => by
    obtain ⟨x, px, op, v, p, rfl, h1, h2, h3, h4⟩ := inv_aug h
    have hN : X.N[i]? = some x := by rw [G.hN]; exact h1
    rcases h4 with ⟨m, rfl, rfl⟩ | ⟨rfl, rfl⟩ | ⟨m, rfl, rfl⟩
    · exact snd_aug pip_add G.nd hN (G.name h2) (sE e c v X W G h3)
    · exact snd_aug pip_sub G.nd hN (G.name h2) (sE e c v X W G h3)
    · exact snd_aug pip_mul G.nd hN (G.name h2) (sE e c v X W G h3)
  | .ret e, c, x, X, W, G, h => by
    obtain ⟨v, p, rfl, h1⟩ := inv_ret h
    exact snd_ret (sE e c v X W G h1)
  | .retN, c, x, X, W, G, h => by
    obtain ⟨p, rfl⟩ := inv_retN h
    exact snd_retN
  | .ife t a b, c, x, X, W, G, h => by
    cases x <;> first | (simp [cS] at h; done) | skip
    simp only [cS, Bool.and_eq_true] at h
    exact snd_ifs (sT t c _ X W G h.1.1) (sSs a c _ X W G h.1.2) (sSs b c _ X W G h.2)
  | .whl t b, c, x, X, W, G, h => by
    obtain ⟨u, ys, p, rfl, h1, h2⟩ := inv_whl h
    exact snd_whl G.po (sT t c u X W G h1) (sSs b c ys X W G h2)
  | .for_ g it b, c, x, X, W, G, h => by
    obtain ⟨tg, u, ys, p, rfl, h1, h2, h3, h4⟩ := inv_for h
    exact snd_for G.po G.calm h3 (sIt it c tg u X W G h2) (sG g c tg X W G h1) (sSs b c ys X W G h4)
  | .dput o k e, c, x, X, W, G, h => by
    obtain ⟨u, y, p2, v, p, rfl, h1, h2, h3, h4, h5, h6⟩ := inv_dput h
    exact snd_dput G.hu h5 h6 (sE o c u X W G h1) (sE k c y X W G h2) (sE e c v X W G h4)
  | .dputT o ks e, c, x, X, W, G, h => by
    obtain ⟨u, ys, k, p3, p2, v, p, rfl, h0, h1, h2, h4, h5, h6⟩ := inv_dputT h
    exact snd_dputT G.hu h5 h6 (sE o c u X W G h1) (sEs ks c ys X W G h2) (sE e c v X W G h4) fun env hp ds hp' q => by
      rw [evs_len ks env hp ds hp' q, ← (cEs_len ks c ys h2).1]; exact h0
  | .fset cl o f e, c, x, X, W, G, h => by
    obtain ⟨u, p2, v, p, rfl, h1, h2, h3, h4, h5, h6⟩ := inv_fset h
    obtain ⟨q1, q2⟩ := G.fx.flds cl f h2
    exact snd_fset h5 h6 q1 q2 (sE o c u X W G h3) (sE e c v X W G h4)
  | .faug cl o f op e, c, x, X, W, G, h => by
    obtain ⟨u, p2, bop, v, p, rfl, h1, h2, h3, h4, h5⟩ := inv_faug h
    obtain ⟨q1, q2⟩ := G.fx.flds cl f h2
    exact snd_faug h5 q1 q2 (sE o c u X W G h3) (sE e c v X W G h4)
  | .pass, c, x, X, W, G, h => by
    cases x <;> first | (simp [cS] at h; done) | skip
    exact snd_pass
  | .brk, c, x, X, W, G, h => by
    cases x <;> first | (simp [cS] at h; done) | skip
    exact snd_brk
  | .cont, c, x, X, W, G, h => by
    cases x <;> first | (simp [cS] at h; done) | skip
    exact snd_cont
  | .nev, c, x, X, W, G, h => snd_nev
  | .raise cl fs es, c, x, X, W, G, h => by
    obtain ⟨y, p, args, p3, pos, rfl, h1, h2, h3, h4, h5, h6, h7⟩ := inv_raise h
    have ok := G.fx.excs cl fs h4 y h1
    rcases h7 with ⟨rfl, m', m, j, p2, rfl, rfl⟩ | ⟨hf, hl⟩
    · exact snd_raise0 (m' := m') ok G.calm G.tk (G.gl h2) (okN_db h3)
    · cases args with
      | nil => simp at h6
      | cons e r =>
        exact snd_raise1 ok hf G.calm G.tk (G.room.mono (by omega)) (G.gl h2) (okN_db h3) (cEs_len es c _ h5).2 (sEs es c _ X W G h5) hl (fun env hp ds hp' q => (evs_len es env hp ds hp' q).trans (cEs_len es c _ h5).1.symm) ok.few
theorem sSs : ∀ (ss : Ss) (c : CC) (xs : List Stmt) (X : Cx) (W : WX), GX X CA c cf n W → cSs ss c xs = true → PSs X xs (tS X.K CA W (exs cf wf ss))
  | .nil, c, xs, X, W, G, h => by
    cases xs <;> first | (simp [cSs] at h; done) | skip
    exact snd_snil
  | .cons s ss, c, xs, X, W, G, h => by
    cases xs <;> first | (simp [cSs] at h; done) | skip
    simp only [cSs, Bool.and_eq_true] at h
    exact snd_scons (sS s c _ X W G h.1) (sSs ss c _ X W G h.2)
end
end
/-! ## 21. the defs -/
mutual
theorem closed_up {k : Nat} : ∀ (d : D), closed 0 d = true → closed k d = true
  | .non, _ => rfl
  | .bl _, _ => rfl
  | .int _, _ => rfl
  | .str _, _ => rfl
  | .loc n, h => by simp [closed] at h
  | .fn _, _ => rfl
  | .tup ds, h => by rw [closed] at h ⊢; exact closeds_up ds h
  | .lst ds, h => by rw [closed] at h ⊢; exact closeds_up ds h
  | .sq ds, h => by rw [closed] at h ⊢; exact closeds_up ds h
theorem closeds_up {k : Nat} : ∀ (ds : List D), closeds 0 ds = true → closeds k ds = true
  | [], _ => rfl
  | d :: ds, h => by
    rw [closeds, Bool.and_eq_true] at h
    rw [closeds, closed_up d h.1, closeds_up ds h.2]
    rfl
end
def fnScB (N P : List Str) (sc : Scope) : Bool := decide (sc.kind = .function) && !sc.isCoroutine && !sc.isGenerator && decide N.Nodup && decide (N.take P.length = P) && (P.all fun x => decide (sc.names.lookup x = some .local) || decide (sc.names.lookup x = some .cell)) && sc.names.all fun y => !decide (y.2 = .free)
theorem fnScB_ok {N P : List Str} {sc : Scope} (h : fnScB N P sc = true) : FnScope N P sc := by
  unfold fnScB at h
  simp only [Bool.and_eq_true, Bool.not_eq_true', decide_eq_true_eq, decide_eq_false_iff_not, List.all_eq_true, Bool.or_eq_true] at h
  obtain ⟨⟨⟨⟨⟨⟨h1, h2⟩, h3⟩, h4⟩, h5⟩, h6⟩, h7⟩ := h
  exact ⟨h1, h2, h3, h4, h5, h6, h7⟩
def parB (params : Arguments) (ps : List Str) : Bool := params.posonlyargs.isEmpty && params.vararg.isNone && params.kwonlyargs.isEmpty && params.kw_defaults.isEmpty && params.kwarg.isNone && params.defaults.isEmpty && params.args.map (·.arg) == ps
theorem parB_ok {params : Arguments} {ps : List Str} (h : parB params ps = true) : ∃ as : List Arg, params = ⟨[], as, none, [], [], none, []⟩ ∧ as.map (·.arg) = ps := by
  obtain ⟨a, b, c, d, e, f, g⟩ := params
  unfold parB at h
  simp only [Bool.and_eq_true, List.isEmpty_iff, Option.isNone_iff_eq_none, beq_iff_eq] at h
  obtain ⟨⟨⟨⟨⟨⟨rfl, rfl⟩, rfl⟩, rfl⟩, rfl⟩, rfl⟩, h⟩ := h
  exact ⟨b, rfl, h⟩
/-- the parameters of a lambda that captures -/
def parC (params : Arguments) (scope : Scope) : Bool := match params with
  | ⟨[], [], none, [], [], none, []⟩ => true
  | ⟨[], [a], none, [], [], none, [.Constant (.int 0) _ _]⟩ => decide (scope.names.lookup a.arg = some .local)
  | _ => false
theorem parC_ok {params : Arguments} {scope : Scope} (h : parC params scope = true) : CapPar params scope := by
  unfold parC at h
  split at h
  · exact .inl rfl
  · exact .inr ⟨_, _, _, rfl, of_decide_eq_true h⟩
  · cases h
/-- the check of lambda j -/
def lamB (pg : Pg) (j : Nat) (params : Arguments) (body : Expr) (scope : Scope) : Bool := match pg.lams[j]? with
  | some li => match li.cap with
    | none => parB params li.ps && fnScB li.N li.ps scope && cE li.body (ccLam pg li scope) body
    | some sc => parC params scope && capSB li.N sc scope && cE li.body (ccCap pg li scope) body
  | none => false
/-- the check of those that capture nothing -/
def lamB0 (pg : Pg) (j : Nat) (params : Arguments) (body : Expr) (scope : Scope) : Bool := match pg.lams[j]? with
  | some li => match li.cap with
    | none => parB params li.ps && fnScB li.N li.ps scope && cE li.body (ccLam pg li scope) body
    | some _ => false
  | none => false
theorem lamB0_B {pg : Pg} {j : Nat} {params : Arguments} {body : Expr} {scope : Scope} (h : lamB0 pg j params body scope = true) : lamB pg j params body scope = true := by
  unfold lamB0 at h
  unfold lamB
  cases e : pg.lams[j]? with
  | none => rw [e] at h; cases h
  | some li =>
    rw [e] at h
    simp only at h ⊢
    cases e2 : li.cap with
    | none => rw [e2] at h; exact h
    | some sc => rw [e2] at h; cases h
/-- a def in which lambdas are made -/
structure LSite (base : Heap) (mg : Str → Option Value) (fd : FuncData) (qual : Str) : Prop where
  ex : ∃ c P : Addr, LamX.TabB base mg c P ∧ fd.code = .ref c ∧ (P, qual ++ ".<locals>." ++ "<lambda>") ∈ LX.T ∧ ∀ p ∈ LX.T, p.1 = P → p.2 = qual ++ ".<locals>." ++ "<lambda>"
def lamOf (pg : Pg) (lm : Bool) : Nat → Arguments → Expr → Scope → Bool := if lm then lamB0 pg else fun _ _ _ _ => false
structure FD (K : PySem.W.Frag) (mg : Str → Option Value) (TBs : Heap → Prop) (pg : Pg) (di : DefI) (fa : Addr) (fd : FuncData) : Prop where
  ex : ∃ (x qual : Str) (params : Arguments) (body : List Stmt) (scope : Scope) (dvs : List V) (kws : List (Str × V)) (lm : Bool), FunD K x qual params body scope dvs kws fa fd ∧ FnScope di.N di.ps scope ∧ cSs di.body ⟨pg, di.N, scope, fun _ => true, lamOf pg lm, false⟩ body = true ∧
    (lm = true → ∀ base, TBs base → LSite base mg fd qual)
  hmg : di.meth = false → mg di.name = some (.ref fa)
  b0 : di.dfl = [] → Binds K fd di.ps []
  bA : di.dfl = [] → ∀ (s : Shared) (us : List Value), us.length = di.ps.length → BindsTo s fd ⟨us, []⟩ (di.ps.zip us)
  b1 : di.dfl ≠ [] → ∃ dvs ds, (∀ H L X, Reps K H L X (di.dfl.map (·.2)) dvs) ∧ Vals dvs ds ∧ Binds K fd di.ps ds
  b2 : di.dfl ≠ [] → KBn K fd di.ps (di.ps.length - di.dfl.length) (di.dfl.map (·.1)) (fun us ws => us ++ ws) (fun vs zs => vs ++ zs)
structure PgOk (K : PySem.W.Frag) (mg : Str → Option Value) (TBs : Heap → Prop) (CA : Nat → Addr) (pg : Pg) : Prop where
  defs : ∀ (i : Nat) (di : DefI), pg.defs[i]? = some di → ∃ fa fd, FD K mg TBs pg di fa fd
  ck : ∀ j params body scope, LX.ck j params body scope ↔ lamB pg j params body scope = true
  bind : ∀ (j : Nat) (li : LamI), pg.lams[j]? = some li → li.cap = none → ∀ as : List Arg, as.map (·.arg) = li.ps → ∀ (q : Str) (body : Expr) (scope : Scope) (cl : List (Str × Addr)) (doc pm cv ctv : Value) (us : List Value), us.length = li.ps.length → bindArgs (PySem.W.kdv_fn "<lambda>" q ⟨[], as, none, [], [], none, []⟩ (.expr body) scope cl .none doc pm cv ctv) ⟨us, []⟩ = pure (li.ps.zip us)
  consts : ∀ (x : Str) (d : D), (pg.consts.any fun p => p.1 == x && D.beq p.2 d) = true → ∃ u v, mg x = some u ∧ RelV v u ∧ ∀ H L X, Rep K H L X d v
  blt : ∀ x ∈ bltNames, mg x = none
  cl : ∀ di ∈ pg.defs, closeds 0 (di.dfl.map (·.2)) = true
  excs : ∀ (P : Program) (w : World) (base : Heap) (cl : Nat) (fs : List Str), (pg.excs.any fun p => p.1 == cl && p.2 == fs) = true → ∀ nm, exNames[cl]? = some nm → ExcOk P w K mg base (CA cl) nm fs
  clss : ∀ (c : Nat) (nm : Str) (f : Nat), pg.clss[c]? = some (nm, f) → ∃ di fa fd, pg.defs[f]? = some di ∧ FD K mg TBs pg di fa fd ∧ mg nm = some (.ref (LX.CI c)) ∧ Mk K (LX.CI c) fa
  meths : ∀ (c : Nat) (m : Str) (f : Nat), (c, m, f) ∈ pg.meths → ∃ di fa fd, pg.defs[f]? = some di ∧ FD K mg TBs pg di fa fd ∧ Cls K (LX.CI c) ∧ Meth K (LX.CI c) m fa
  flds : ∀ (c : Nat) (f : Str), (c, f) ∈ pg.flds → Cls K (LX.CI c) ∧ NoAttr K (LX.CI c) f
section
variable {P : Program} {w : World} {K : PySem.W.Frag} {mg : Str → Option Value} {base : Heap} {CA : Nat → Addr} {pg : Pg} {wf : Nat}
theorem run_fill (n i : Nat) (di : DefI) (ds : List D) (hp : HpI) (h : pg.defs[i]? = some di) (hl : ds.length + di.dfl.length = di.ps.length) : run pg wf n i ds hp = run pg wf n i (ds ++ di.dfl.map (·.2)) hp := by
  cases n with
  | zero => rfl
  | succ n =>
    have e : fillD di ds = fillD di (ds ++ di.dfl.map (·.2)) := by
      unfold fillD
      rw [if_pos (show (ds ++ di.dfl.map (·.2)).length = di.ps.length by rw [List.length_append, List.length_map]; exact hl)]
      split
      · rename_i q
        have : di.dfl = [] := List.length_eq_zero_iff.mp (by omega)
        rw [this]
        simp
      · rfl
    simp only [run, h]
    rw [e]
theorem FD.dok {TBs : Heap → Prop} {n i : Nat} {di : DefI} {fa : Addr} {fd : FuncData} (F : FD K mg TBs pg di fa fd) (ok : FnOk P w K mg base (L2.CX P w) (2 * n + 2) fa fd di.ps (spI K CA (run pg wf n) i di.ps.length)) : DefOk P w K mg base CA (run pg wf n) n i di fa fd :=
  ⟨F.hmg, by obtain ⟨_, _, _, _, _, _, _, _, f, _⟩ := F.ex; exact f.kp, ok, F.b0, F.b1, F.b2⟩
theorem PgOk.lamCk {TBs : Heap → Prop} (O : PgOk K mg TBs CA pg) {j : Nat} {params : Arguments} {body : Expr} {scope : Scope} (h : LX.ck j params body scope) : LamCk pg j params body scope := by
  have q := (O.ck _ _ _ _).mp h
  unfold lamB at q
  cases e : pg.lams[j]? with
  | none => rw [e] at q; cases q
  | some li =>
    rw [e] at q
    simp only at q
    cases e2 : li.cap with
    | none =>
      rw [e2] at q
      simp only [Bool.and_eq_true] at q
      obtain ⟨as, rfl, ha⟩ := parB_ok q.1.1
      exact ⟨li, e, .inl ⟨e2, rfl, fnScB_ok q.1.2, q.2, fun qn cl doc pm cv ctv us hl => O.bind j li e e2 as ha qn body scope cl doc pm cv ctv us hl⟩⟩
    | some sc =>
      rw [e2] at q
      simp only [Bool.and_eq_true] at q
      exact ⟨li, e, .inr ⟨sc, e2, parC_ok q.1.1, capS_by q.1.2, q.2⟩⟩
/-- a lambda that captures nothing is made -/
theorem snd_lam0 {X : Cx} {W : WX} {j : Nat} {params : Arguments} {body : Expr} {scope : Scope} {pos : Pos} (S : LamSite X) (hck : LX.ck j params body scope → LamCk pg j params body scope) (ck : LX.ck j params body scope) (q : lamB0 pg j params body scope = true) :
    PE X (.Lambda params body scope pos) (tE X.K CA W fun _ hp => .ok (.fn j) hp) := by
  unfold lamB0 at q
  obtain ⟨li, hj, h⟩ := (hck ck).ex
  rw [hj] at q
  simp only at q
  cases hcap : li.cap with
  | some sc => rw [hcap] at q; cases q
  | none =>
    rw [hcap] at q
    simp only [Bool.and_eq_true] at q
    obtain ⟨as, rfl, _⟩ := parB_ok q.1.1
    have S2 := fnScB_ok q.1.2
    exact snd_lam S ⟨rfl, .inl rfl⟩ (fun y hy e => absurd e (S2.nofree y hy)) ((clo_nil S2.nofree).trans (clo_nil S2.nofree).symm) ck
theorem both_ok {TBs : Heap → Prop} (O : PgOk K mg TBs CA pg) (hT : TBs base) : ∀ n : Nat,
    (∀ (i : Nat) (di : DefI) (fa : Addr) (fd : FuncData), pg.defs[i]? = some di → FD K mg TBs pg di fa fd → FnOk P w K mg base (L2.CX P w) (2 * n + 2) fa fd di.ps (spI K CA (run pg wf n) i di.ps.length)) ∧
      ∀ j m, LamRun P w K mg base CA (run pg wf n) n pg.defs.length j m
  | 0 => ⟨fun i di fa fd h F => ⟨fun vs H Q E q => q.1, fun A outer s H args us vs Q E hr e0 hb r ⟨_, L, X, hp, ds, k, rr, g⟩ => g.elim⟩,
      fun j m a c q dv A outer s H us vs Q E hr e0 h1 h2 rv ⟨_, L, X, hp, ds, k, rr, g⟩ => g.elim⟩
  | n + 1 => by
    obtain ⟨ih1, ih2⟩ := both_ok O hT n
    have fx : Fx P w K mg base CA pg (run pg wf n) n := ⟨fun j dj hj => by
        obtain ⟨fa, fd, F⟩ := O.defs j dj hj
        exact ⟨fa, fd, F.dok (ih1 j dj fa fd hj F)⟩, fun j dj ds hp hj hl => run_fill n j dj ds hp hj hl, O.consts, O.blt, O.excs P w base,
        fun cl nm f e => by
          obtain ⟨di, fa, fd, q1, F, q2, q3⟩ := O.clss cl nm f e
          exact ⟨di, fa, fd, q1, F.dok (ih1 f di fa fd q1 F), q2, q3⟩,
        fun cl m f e => by
          obtain ⟨di, fa, fd, q1, F, q2, q3⟩ := O.meths cl m f e
          exact ⟨di, fa, fd, q1, F.dok (ih1 f di fa fd q1 F), q2, q3⟩, O.flds⟩
    have hcl : ∀ di ∈ pg.defs, ∀ k, closeds k (di.dfl.map (·.2)) = true := fun di hdi k => closeds_up _ (O.cl di hdi)
    refine ⟨fun i di fa fd h F => ?_, fun j m => lam_run (fun params body scope q => O.lamCk q) fun li q scope a c A outer s H E S hr => ⟨rfl, rfl, rfl, S.nd, rfl, S.kind, takes_of rfl rfl rfl rfl, passes_of rfl, hr, fx, hcl, fun j params body scope pos h => (by cases h), ih2, fun h => nomatch h⟩⟩
    obtain ⟨x, qual, params, body, scope, dvs, kws, lm, f, S, hc, hs⟩ := F.ex
    obtain ⟨oc, od, dV, kV, doc, pm, an, cdv, ct, osl, rfl, lk, hcd, _, _⟩ := f.ex
    refine fn_of lk hcd S (fun vs H Q E q => q.1) (fun A outer s H vs Q E hr hsp => ?_)
    obtain ⟨hm, L, X, hp, ds, k, r, g⟩ := hsp
    refine ⟨_, sSs (CA := CA) (cf := run pg wf n) (n := n) (wf := wf) di.body ⟨pg, di.N, scope, fun _ => true, lamOf pg lm, false⟩ body _ (fun cls d _ H => E cls d H) ?_ hc, ?_⟩
    · refine ⟨rfl, rfl, rfl, S.nd, rfl, S.kind, takes_of rfl rfl rfl rfl, passes_of rfl, hr, fx, hcl, fun j params body scope2 pos q => ?_, ih2, fun h => nomatch h⟩
      cases lm with
      | false => cases q
      | true => exact snd_lam0 ⟨(hs rfl base hT).ex⟩ (fun h => O.lamCk h) ((O.ck _ _ _ _).mpr (lamB0_B q)) q
    · have hds : ds.length = di.ps.length := by rw [← r.len]; exact hm
      have ef : fillD di ds = ds := by unfold fillD; rw [if_pos hds]
      simp only [run, h, ef, if_pos hds] at g
      refine ⟨ds.map some ++ List.replicate (di.N.length - ds.length) none, L, X, hp, k, ?_, ?_⟩
      · have e : L2.start di.N vs = vs.map some ++ List.replicate (di.N.length - ds.length) none := by unfold L2.start; rw [r.len]
        rw [e]
        exact reps_start _ r
      · generalize exs (run pg wf n) wf di.body (ds.map some ++ List.replicate (di.N.length - ds.length) none) hp = o at g
        cases o with
        | nx env hp' => exact fun H' L' X' σ' p k' r' => g H' L' X' p k' .non rfl
        | rt d hp' => exact fun H' L' X' v p k' r' => g H' L' X' p k' v r'
        | bk env hp' => exact g.elim
        | ct env hp' => exact g.elim
        | exc x env hp' => exact fun cls dx H' L' X' σ' p k' r' e => g cls dx H' L' X' p k' e
        | bad => exact g.elim
/-! ## 22. the law's end -/
theorem hok0 {H : Hp} (t : LamX.Tabs LX.T H) : HOK K H [] [] [] := ⟨List.nodup_nil, rfl, fun a h => (nomatch h), fun a h => (nomatch h), fun n o e => by simp at e, t⟩
theorem sq_any {H : Hp} {a : Addr} {vs : List V} (h : SqL K H a vs) (hl : vs.length ≤ sizeLine) {ds : List D} (r : Reps K H [] [] ds vs) : Rep K H [] [] (.sq ds) (.ref a) := by
  refine ⟨a, vs, rfl, ?_, hl, r⟩
  rcases h with (h | h) | h
  · exact .inr ⟨h, fun z => nomatch z⟩
  · exact .inl (.inl h)
  · exact .inl (.inr h)
theorem reps_ints {H : Hp} {L X : List Addr} : ∀ {ns : List Int}, Reps K H L X (ns.map D.int) (ns.map V.int)
  | [] => rfl
  | _ :: _ => ⟨_, _, rfl, rfl, reps_ints⟩
end
/-- a law's promise, nothing of the lambdas said -/
def spLaw (K : PySem.W.Frag) (cs : List (Addr × Addr)) : Sp := fun vs H Q _ => vs.length = 1 ∧ ∃ (a : Addr) (ns : List Int), vs = [.ref a] ∧ ns.length ≤ 63 ∧ (∀ p ∈ cs, H p.2 = some (.tbl #[])) ∧ SqL K H a (ns.map V.int) ∧ ∀ H', Q (.bl true) H'
@[reducible] def lxOf (pg : Pg) (CL : List (Str × Addr)) (T : List (Addr × Str)) (CI : Nat → Addr) : LX := ⟨fun j a b s => lamB pg j a b s = true, CL, T, CI⟩
end KI
namespace KI
open PySem PySem.Spec PyProof.Rows L2
section
variable {P : Program} {w : World} {K : PySem.W.Frag} {mg : Str → Option Value} {base : Heap} {CA : Nat → Addr} {pg : Pg} {wf : Nat}
/-- a law: its frame's cells may be captured -/
theorem law_cap {n : Nat} {di : DefI} {px x qual : Str} {params : Arguments} {body : List Stmt} {scope : Scope} {f : Addr} {fd : FuncData} {T : List (Addr × Str)} {CI : Nat → Addr} {cs : List (Addr × Addr)} {TBs : Heap → Prop} {kd lm : Bool}
    (O : ∀ CL, @PgOk (lxOf pg CL T CI) K mg TBs CA pg) (hT : TBs base) (hcs : ∀ H : Hp, (∀ p ∈ cs, H p.2 = some (.tbl #[])) → LamX.Tabs T H)
    (F : FunD K x qual params body scope [] [] f fd) (S : FnScope di.N [px] scope) (hc : cSs di.body ⟨pg, di.N, scope, fun _ => true, if lm then lamB pg else fun _ _ _ _ => false, kd⟩ body = true)
    (hs : lm = true → ∀ CL, @LSite (lxOf pg CL T CI) base mg fd qual) (hcap : ∀ (j : Nat) (li : LamI) (sc : Scope), pg.lams[j]? = some li → li.cap = some sc → scope = sc ∧ di.N = li.N)
    (KD : kd = true → ∃ kf CK, KOk K mg kf ∧ KindFx K mg CA CK)
    (ev : ∀ ns : List Int, ns.length ≤ 63 → ∃ hp', outOf (exs (run pg wf n) wf di.body (some (.sq (ns.map D.int)) :: List.replicate (di.N.length - 1) none) []) = .ok (.bl true) hp') :
    FnOk P w K mg base (L2.CX P w) (2 * n + 4) f fd [px] (spLaw K cs) := by
  obtain ⟨oc, od, dV, kV, doc, pm, an, cdv, ct, osl, rfl, lk, hcd, _, _⟩ := F.ex
  refine fn_of lk hcd S (fun vs H Q E q => q.1) (fun A outer s H vs Q E hr hsp => ?_)
  obtain ⟨_, a, ns, rfl, hl, hH, hq, hQ⟩ := hsp
  letI : LX := lxOf pg (cellsFrom (s.heap.objs.size + 1) scope.names []) T CI
  have O := O (cellsFrom (s.heap.objs.size + 1) scope.names [])
  obtain ⟨b1, b2⟩ := both_ok (P := P) (w := w) (base := base) (wf := wf) O hT n
  have hcl : ∀ di ∈ pg.defs, ∀ k, closeds k (di.dfl.map (·.2)) = true := fun di hdi k => closeds_up _ (O.cl di hdi)
  have fxAt : ∀ m, Fx P w K mg base CA pg (run pg wf m) m := fun m => ⟨fun j dj hj => by
    obtain ⟨fa, fd, F⟩ := O.defs j dj hj
    exact ⟨fa, fd, F.dok ((both_ok (P := P) (w := w) (base := base) (wf := wf) O hT m).1 j dj fa fd hj F)⟩, fun j dj ds hp hj hl => run_fill m j dj ds hp hj hl, O.consts, O.blt, O.excs P w base,
        fun cl nm f e => by
          obtain ⟨di, fa, fd, q1, F, q2, q3⟩ := O.clss cl nm f e
          exact ⟨di, fa, fd, q1, F.dok ((both_ok (P := P) (w := w) (base := base) (wf := wf) O hT m).1 f di fa fd q1 F), q2, q3⟩,
        fun cl mm f e => by
          obtain ⟨di, fa, fd, q1, F, q2, q3⟩ := O.meths cl mm f e
          exact ⟨di, fa, fd, q1, F.dok ((both_ok (P := P) (w := w) (base := base) (wf := wf) O hT m).1 f di fa fd q1 F), q2, q3⟩, O.flds⟩
  let X := cxOf (L2.CX P w) P w K mg base di.N qual scope f cdv A outer s H E
  have crun : CapRun X CA (run pg wf n) n (pg.defs.length + pg.lams.length) := by
    cases n with
    | zero => exact fun pins σ H0 s0 I ex a c q dv j A outer s H Q E nc hd hdep hroom e0 un h1 h2 hdv ⟨env, L, Xg, hp, k, r, g⟩ => g.elim
    | succ m =>
      refine cap_run (X := X) (n := m) (fun j params body scope q => O.lamCk q) (fun j li sc h1 h2 => hcap j li sc h1 h2) rfl fun li q scope2 a2 c2 A2 outer2 s2 H2 E2 eN S2 hr2 hd2 => ?_
      exact ⟨eN, rfl, rfl, S.nd, rfl, S2.kind, takes_of rfl rfl rfl rfl, passes_of rfl, hr2, fxAt m, hcl, fun j params body scope pos h => (by cases h), (both_ok (P := P) (w := w) (base := base) (wf := wf) O hT m).2, fun h => nomatch h⟩
  refine ⟨_, sSs (CA := CA) (cf := run pg wf n) (n := n) (wf := wf) di.body ⟨pg, di.N, scope, fun _ => true, if lm then lamB pg else fun _ _ _ _ => false, kd⟩ body X (fun cls d _ H => E cls d H) ?_ hc, ?_⟩
  · refine ⟨rfl, rfl, rfl, S.nd, rfl, S.kind, takes_of rfl rfl rfl rfl, passes_of rfl, hr, fxAt n, hcl, fun j params body scope2 pos q => ?_, b2, fun h => ?_⟩
    · cases lm with
      | false => cases q
      | true =>
        have q : lamB pg j params body scope2 = true := q
        have site : LamSite X := ⟨(hs rfl (cellsFrom (s.heap.objs.size + 1) scope.names [])).ex⟩
        have ck : LX.ck j params body scope2 := q
        obtain ⟨li, hj, h⟩ := (O.lamCk ck).ex
        rcases h with ⟨hcn, hds, _⟩ | ⟨sc, hcs2, hpar, S2, _⟩
        · refine snd_lam0 site (fun h => O.lamCk h) ck ?_
          unfold lamB at q
          unfold lamB0
          rw [hj] at q ⊢
          simp only [hcn] at q ⊢
          exact q
        · obtain ⟨rfl, eN⟩ := hcap j li sc hj hcs2
          have hdf : DfOk params := by
            rcases hpar with rfl | ⟨a1, k1, p1, rfl, _⟩
            · exact ⟨rfl, .inl rfl⟩
            · exact ⟨rfl, .inr ⟨_, _, rfl⟩⟩
          refine snd_lam site hdf (fun y hy e => ?_) rfl ck
          rcases S2.free y hy e with k | k
          · exact Option.isSome_iff_exists.mp (PySem.W.cellsFrom_some _ _ _ (.inl k))
          · exact absurd rfl (S.nofree _ (PySem.mem_of_lookup k))
    · obtain ⟨kf, CK, KO, KF⟩ := KD h
      exact ⟨kf, CK, KO, KF, crun⟩
  · obtain ⟨hp', e⟩ := ev ns hl
    have g : GD K CA H [] [] (fun cls d H' => E cls d H') (outOf (exs (run pg wf n) wf di.body (some (.sq (ns.map D.int)) :: List.replicate (di.N.length - 1) none) [])) (RQ K Q) := by
      rw [e]
      exact fun H' L' X' p k v r => by rw [show v = .bl true from r]; exact hQ H'
    refine ⟨some (.sq (ns.map D.int)) :: List.replicate (di.N.length - 1) none, [], [], [], hok0 (hcs H hH), ?_, ?_⟩
    · have r : Reps K H [] [] [.sq (ns.map D.int)] [.ref a] := ⟨_, _, rfl, sq_any hq (by rw [List.length_map]; exact Nat.le_trans hl (by decide)) reps_ints, rfl⟩
      exact reps_start (di.N.length - 1) r
    · generalize exs (run pg wf n) wf di.body (some (.sq (ns.map D.int)) :: List.replicate (di.N.length - 1) none) [] = o at g
      cases o with
      | nx env hp' => exact fun H' L' X' σ' p k' r' => g H' L' X' p k' .non rfl
      | rt d hp' => exact fun H' L' X' v p k' r' => g H' L' X' p k' v r'
      | bk env hp' => exact g.elim
      | ct env hp' => exact g.elim
      | exc x env hp' => exact fun cls dx H' L' X' σ' p k' r' e => g cls dx H' L' X' p k' e
      | bad => exact g.elim
end
end KI

namespace KI
open PySem PySem.Spec PyProof.Rows L2
variable [LX]
/-! ## 36. what stands behind the top: the errors' classes, _law_kind -/
theorem visB_sc {sc : Scope} {x : Str} (hv : visB sc x = true) : Vis sc x := by
  unfold visB at hv
  split at hv
  · exact .inl (by assumption)
  · exact .inr (.inl (by assumption))
  · exact .inr (.inr (by assumption))
  · cases hv
section
variable {P : Program} {w : World} {K : PySem.W.Frag} {mg : Str → Option Value} {base : Heap} {CK C : Addr} {nm : Str}
theorem exc_own (hmg : mg nm = some (.ref C)) (kC : PySem.W.keepIn K (.ref C) = true) (ex : PySem.W.subIn K (.ref C) (.type "BaseException") = some true) (ty : PySem.W.typeIn K (.ref C) = some (.type "type"))
    (q : PySem.W.excIn K C [.type "ValueError", .type "Exception", .type "BaseException", .type "object"] "ValueError.__new__" = true) : ExcOk P w K mg base C nm [] :=
  ⟨hmg, kC, ex, ty, by decide, fun _ => ⟨_, _, _, _, PySem.F.excBase_ValueError, q⟩, fun h => absurd rfl h⟩
/-- scope of an __init__ -/
def initB (ps : List Str) (sc : Scope) : Bool := fnScB ps ps sc && decide (sc.names.lookup ("KilnError" : Str) = some .globalImplicit) && ps.all fun x => visB sc x && okN x
theorem exc_ini1 {f : Str} {st : Stmt} {fI : Addr} {nm2 qn : Str} {oc dV kV doc pm cdv ct : Value} {od an : Option Addr} {osl : Array (Option Value)} (KC : KilnOk K mg CK) (T : OexC K C) (hmg : mg nm = some (.ref C)) (n1 : PySem.W.findIn K (.ref C) f = some none) (iC : PySem.W.findIn K (.ref C) "__init__" = some (some (.ref fI))) (tI : PySem.W.typeIn K (.ref fI) = some (.type "function"))
    (lk : K.lookup fI = some ⟨oc, od, .func (PySem.W.fnOf nm2 qn (defArgs st) (defBody st) (defScope st) dV kV doc pm an cdv ct), osl⟩) (hcd : PySem.W.codeIn K cdv qn = true) (hb : Init1 f (defBody st)) (hs : initB ["self", f] (defScope st) = true)
    (hbind : ∀ us : List Value, us.length = 2 → bindArgs (PySem.W.fnOf nm2 qn (defArgs st) (defBody st) (defScope st) dV kV doc pm an cdv ct) ⟨us, []⟩ = pure ((["self", f] : List Str).zip us)) : ExcOk P w K mg base C nm [f] := by
  unfold initB at hs
  simp only [Bool.and_eq_true, decide_eq_true_eq, List.all_cons, List.all_nil, Bool.and_true, okN, Bool.not_eq_true'] at hs
  obtain ⟨⟨h1, h2⟩, ⟨v0, d0, e0⟩, v1, d1, e1⟩ := hs
  exact ⟨hmg, T.kC, T.exC, T.tyC, by show 1 ≤ 900; decide, fun h => by simp at h, fun _ => ⟨T, fI, _, ["self", f], iC, tI, Binds.all hbind, init1_ok KC T n1 hb lk hcd (fnScB_ok h1) h2 (visB_sc v0) (visB_sc v1) d1 e1⟩⟩
theorem exc_ini2 {f g : Str} {st : Stmt} {fI : Addr} {nm2 qn : Str} {oc dV kV doc pm cdv ct : Value} {od an : Option Addr} {osl : Array (Option Value)} (KC : KilnOk K mg CK) (T : OexC K C) (hmg : mg nm = some (.ref C)) (n1 : PySem.W.findIn K (.ref C) f = some none) (n2 : PySem.W.findIn K (.ref C) g = some none) (iC : PySem.W.findIn K (.ref C) "__init__" = some (some (.ref fI))) (tI : PySem.W.typeIn K (.ref fI) = some (.type "function"))
    (lk : K.lookup fI = some ⟨oc, od, .func (PySem.W.fnOf nm2 qn (defArgs st) (defBody st) (defScope st) dV kV doc pm an cdv ct), osl⟩) (hcd : PySem.W.codeIn K cdv qn = true) (hb : Init2 f g (defBody st)) (hs : initB ["self", f, g] (defScope st) = true)
    (hbind : ∀ us : List Value, us.length = 3 → bindArgs (PySem.W.fnOf nm2 qn (defArgs st) (defBody st) (defScope st) dV kV doc pm an cdv ct) ⟨us, []⟩ = pure ((["self", f, g] : List Str).zip us)) : ExcOk P w K mg base C nm [f, g] := by
  unfold initB at hs
  simp only [Bool.and_eq_true, decide_eq_true_eq, List.all_cons, List.all_nil, Bool.and_true, okN, Bool.not_eq_true'] at hs
  obtain ⟨⟨h1, h2⟩, ⟨v0, d0, e0⟩, ⟨v1, d1, e1⟩, v2, d2, e2⟩ := hs
  exact ⟨hmg, T.kC, T.exC, T.tyC, by show 2 ≤ 900; decide, fun h => by simp at h, fun _ => ⟨T, fI, _, ["self", f, g], iC, tI, Binds.all hbind, init2_ok KC T n1 n2 hb lk hcd (fnScB_ok h1) h2 (visB_sc v0) (visB_sc v1) d1 e1 (visB_sc v2) d2 e2⟩⟩
/-- the classes' facts, reckoned -/
def excCB (K : PySem.W.Frag) (D : Addr) : Bool := decide (PySem.W.findIn K (.ref D) "__getattribute__" = some (some (.builtin "BaseException.__getattribute__"))) && decide (PySem.W.findIn K (.ref D) "__getattr__" = some none) && decide (PySem.W.subIn K (.ref D) (.type "BaseException") = some true) && PySem.W.hasDictIn K D &&
  decide (PySem.W.findIn K (.ref D) "__class__" = some (some (.builtin "object.__class__"))) && decide (PySem.W.specialIn K (.builtin "object.__class__") "__get__" = some (some (.builtin "getset_descriptor.__get__"))) && decide (PySem.W.takesIn K (.builtin "object.__class__") = some true) && decide (PySem.W.mroIn K D (.type "object") = some true)
theorem excCB_ok {D : Addr} (h : excCB K D = true) : ExcC K D := by
  unfold excCB at h
  simp only [Bool.and_eq_true, decide_eq_true_eq] at h
  obtain ⟨⟨⟨⟨⟨⟨⟨h1, h2⟩, h3⟩, h4⟩, h5⟩, h6⟩, h7⟩, h8⟩ := h
  exact ⟨h1, h2, h3, h4, h5, h6, h7, h8⟩
def errFields : List Str := ["part", "number", "word", "row"]
def kfB (K : PySem.W.Frag) (cs : List Addr) (CK : Addr) : Bool :=
  decide (cs.length = 12) && (cs.all fun C => decide (PySem.W.exmOne K (.ref C) (.ref CK) = some true) && decide (PySem.W.kitOne K (.ref C) (.type "ValueError") = some true) && excCB K C && xfB K C && errFields.all fun f => decide (PySem.W.findIn K (.ref C) f = some none)) &&
    (List.range 12).all fun i => (List.range 12).all fun j => decide (PySem.W.kitOne K (.ref (cs.getD i 0)) (.ref (cs.getD j 0)) = some (decide (i = j)))
theorem kf_ok {cs : List Addr} (h : kfB K cs CK = true) (hm : ∀ p ∈ exNames.zip cs, mg p.1 = some (.ref p.2)) (hCK : mg "KilnError" = some (.ref CK)) (bI : mg "isinstance" = none) (bV : mg "ValueError" = none) : KindFx K mg (fun i => cs.getD i 0) CK := by
  unfold kfB at h
  simp only [Bool.and_eq_true, decide_eq_true_eq, List.all_eq_true, List.mem_range] at h
  obtain ⟨⟨hl, h1⟩, h2⟩ := h
  have at_ : ∀ i < 12, cs[i]? = some (cs.getD i 0) := fun i hi => by
    have hlt : i < cs.length := by omega
    rw [List.getD_eq_getElem?_getD, List.getElem?_eq_getElem hlt]
    rfl
  have mem : ∀ i < 12, cs.getD i 0 ∈ cs := fun i hi => List.mem_of_getElem? (at_ i hi)
  refine ⟨fun i nm e => ?_, hCK, fun i hi => (h1 _ (mem i hi)).1.1.1.1, fun i hi j hj => h2 i hi j hj, fun i hi => (h1 _ (mem i hi)).1.1.1.2, fun i hi => excCB_ok (h1 _ (mem i hi)).1.1.2, fun i hi => xfB_ok (h1 _ (mem i hi)).1.2, fun i hi f hf => (h1 _ (mem i hi)).2 f hf, bI, bV⟩
  have hi : i < 12 := (List.getElem?_eq_some_iff.mp e).1
  refine hm (nm, cs.getD i 0) (List.mem_of_getElem? (i := i) ?_)
  rw [List.getElem?_zip_eq_some]
  exact ⟨e, at_ i hi⟩
end
/-- the body of _law_kind -/
inductive KindBody (a0 : Str) : List Stmt → Prop where
  | mk (p1 p2 p3 p4 p5 p6 : Pos) (b0 : Stmt) (ss : List Stmt) (h : KSuite (b0 :: ss)) : KindBody a0 [.Try [.Return (some (.Call (.Name a0 p1) [] [] p2)) p3] [.ExceptHandler (some (.Name "KilnError" p4)) (some "e") (b0 :: ss) p5] [] [] p6]
def kscB (a0 : Str) (sc : Scope) : Bool := fnScB [a0, "e", "_law_kinds", "_law_words", "_law_word"] [a0] sc && (([a0, "e", "_law_kinds", "_law_words", "_law_word"] : List Str).all fun y => decide (sc.names.lookup y = some .local)) && (((["isinstance", "ValueError", "KilnError"] : List Str) ++ exNames).all fun y => decide (sc.names.lookup y = some .globalImplicit)) && okN a0
theorem kok_mk {K : PySem.W.Frag} {mg : Str → Option Value} {kf : Addr} {a0 nm qn : Str} {st : Stmt} {oc kV doc pm cdv ct : Value} {od an : Option Addr} {osl : Array (Option Value)} (hmg : mg "_law_kind" = some (.ref kf)) (kp : PySem.W.keepIn K (.ref kf) = true)
    (lk : K.lookup kf = some ⟨oc, od, .func (PySem.W.fnOf nm qn (defArgs st) (defBody st) (defScope st) .none kV doc pm an cdv ct), osl⟩) (hcd : PySem.W.codeIn K cdv qn = true) (hb : KindBody a0 (defBody st)) (hs : kscB a0 (defScope st) = true)
    (hbind : ∀ us : List Value, us.length = 1 → bindArgs (PySem.W.fnOf nm qn (defArgs st) (defBody st) (defScope st) .none kV doc pm an cdv ct) ⟨us, []⟩ = pure (([a0] : List Str).zip us)) : KOk K mg kf := by
  unfold kscB at hs
  simp only [Bool.and_eq_true, List.all_eq_true, decide_eq_true_eq] at hs
  obtain ⟨⟨⟨h1, h2⟩, h3⟩, h4⟩ := hs
  unfold okN at h4
  simp only [Bool.and_eq_true, Bool.not_eq_true'] at h4
  have S := fnScB_ok h1
  generalize defBody st = body at *
  cases hb with
  | mk p1 p2 p3 p4 p5 p6 b0 ss h =>
    exact ⟨hmg, kp, a0, nm, qn, _, defArgs st, ss, b0, defScope st, kV, doc, pm, cdv, ct, oc, an, od, osl, p1, p2, p3, p4, p5, p6, lk, hcd, S, ⟨rfl, S.nd, h2, h3⟩, h, h4.1, h4.2, Binds.all hbind⟩
end KI

namespace KI
open PySem PySem.Spec PyProof.Rows L2
variable [LX]
/-! ## 23. from what stands behind the top -/
section
variable {K : PySem.W.Frag} {mg : Str → Option Value} {TBs : Heap → Prop} {pg : Pg} {st : Stmt} {di : DefI} {f : Addr} {oc : Value} {od an : Option Addr} {sl : Array (Option Value)} {kV dc pm cd ct : Value}
theorem FD.mk0 {nm : Str} (S : FnScope di.N di.ps (defScope st)) (lm : Bool) (hc : cSs di.body ⟨pg, di.N, defScope st, fun _ => true, lamOf pg lm, false⟩ (defBody st) = true) (hd : di.dfl = []) (hm : mg di.name = some (.ref f))
    (l : K.lookup f = some ⟨oc, od, .func (PySem.W.fnOf nm nm (defArgs st) (defBody st) (defScope st) .none kV dc pm an cd ct), sl⟩) (c : PySem.W.codeIn K cd nm = true) (k : PySem.W.keepIn K (.ref f) = true)
    (hs : lm = true → ∀ base, TBs base → LSite base mg (PySem.W.fnOf nm nm (defArgs st) (defBody st) (defScope st) .none kV dc pm an cd ct) nm)
    (hb : ∀ (kV doc pm : Value) (an : Option Addr) (cdv ct : Value) (us : List Value), us.length = di.ps.length → bindArgs (PySem.W.fnOf nm nm (defArgs st) (defBody st) (defScope st) .none kV doc pm an cdv ct) ⟨us, []⟩ = pure (di.ps.zip us)) :
    ∃ fa fd, FD K mg TBs pg di fa fd := by
  have F : FunD K nm nm (defArgs st) (defBody st) (defScope st) [] [] f (PySem.W.fnOf nm nm (defArgs st) (defBody st) (defScope st) .none kV dc pm an cd ct) := ⟨⟨oc, od, _, _, dc, pm, an, cd, ct, sl, rfl, l, c, .inl ⟨rfl, rfl⟩, .inl rfl⟩, k⟩
  exact ⟨f, _, ⟨⟨_, _, _, _, _, _, _, lm, F, S, hc, hs⟩, fun _ => hm, fun _ => F.bindsN hb, fun _ => F.bindsA hb, fun z => absurd hd z, fun z => absurd hd z⟩⟩
/-- a method -/
theorem FD.mkM {nm qn : Str} (S : FnScope di.N di.ps (defScope st)) (hc : cSs di.body ⟨pg, di.N, defScope st, fun _ => true, lamOf pg false, false⟩ (defBody st) = true) (hd : di.dfl = []) (hm : di.meth = true)
    (l : K.lookup f = some ⟨oc, od, .func (PySem.W.fnOf nm qn (defArgs st) (defBody st) (defScope st) .none kV dc pm an cd ct), sl⟩) (c : PySem.W.codeIn K cd qn = true) (k : PySem.W.keepIn K (.ref f) = true)
    (hb : ∀ (kV doc pm : Value) (an : Option Addr) (cdv ct : Value) (us : List Value), us.length = di.ps.length → bindArgs (PySem.W.fnOf nm qn (defArgs st) (defBody st) (defScope st) .none kV doc pm an cdv ct) ⟨us, []⟩ = pure (di.ps.zip us)) :
    ∃ fd, FD K mg TBs pg di f fd := by
  have F : FunD K nm qn (defArgs st) (defBody st) (defScope st) [] [] f (PySem.W.fnOf nm qn (defArgs st) (defBody st) (defScope st) .none kV dc pm an cd ct) := ⟨⟨oc, od, _, _, dc, pm, an, cd, ct, sl, rfl, l, c, .inl ⟨rfl, rfl⟩, .inl rfl⟩, k⟩
  exact ⟨_, ⟨⟨_, _, _, _, _, _, _, false, F, S, hc, fun z => nomatch z⟩, fun z => (by rw [hm] at z; cases z), fun _ => F.bindsN hb, fun _ => F.bindsA hb, fun z => absurd hd z, fun z => absurd hd z⟩⟩
/-- one keyword-only parameter, its default d -/
theorem FD.mkK {nm y : Str} {D0 : Addr} {d : D} {v : V} {u : Value} (S : FnScope di.N di.ps (defScope st)) (lm : Bool) (hc : cSs di.body ⟨pg, di.N, defScope st, fun _ => true, lamOf pg lm, false⟩ (defBody st) = true) (hd : di.dfl = [(y, d)]) (rd : ∀ H L X, Rep K H L X d v) (rv : RelV v u) (hm : mg di.name = some (.ref f))
    (l : K.lookup f = some ⟨oc, od, .func (PySem.W.fnOf nm nm (defArgs st) (defBody st) (defScope st) .none (.ref D0) dc pm an cd ct), sl⟩) (c : PySem.W.codeIn K cd nm = true) (k : PySem.W.keepIn K (.ref f) = true) (q : PySem.W.nsIn K D0 y = some (some u))
    (hs : lm = true → ∀ base, TBs base → LSite base mg (PySem.W.fnOf nm nm (defArgs st) (defBody st) (defScope st) .none (.ref D0) dc pm an cd ct) nm) (n : Nat) (hn : n + 1 = di.ps.length)
    (hb : ∀ (D0 : Addr) (doc pm : Value) (an : Option Addr) (cdv ct : Value) (us ks : List Value), us.length = n → ks.length = 1 → KwChain D0 ([y].zip ks) (bindArgs (PySem.W.fnOf nm nm (defArgs st) (defBody st) (defScope st) .none (.ref D0) doc pm an cdv ct) ⟨us, []⟩) (di.ps.zip (us ++ ks)))
    (hk : ∀ (kV doc pm : Value) (an : Option Addr) (cdv ct : Value) (us ks : List Value), us.length = n → ks.length = 1 → bindArgs (PySem.W.fnOf nm nm (defArgs st) (defBody st) (defScope st) .none kV doc pm an cdv ct) ⟨us, [y].zip ks⟩ = pure (di.ps.zip (us ++ ks))) :
    ∃ fa fd, FD K mg TBs pg di fa fd := by
  have F : FunD K nm nm (defArgs st) (defBody st) (defScope st) [] [(y, v)] f (PySem.W.fnOf nm nm (defArgs st) (defBody st) (defScope st) .none (.ref D0) dc pm an cd ct) :=
    ⟨⟨oc, od, _, _, dc, pm, an, cd, ct, sl, rfl, l, c, .inl ⟨rfl, rfl⟩, .inr ⟨D0, rfl, fun p hp => by
      cases List.mem_singleton.mp hp
      exact ⟨u, q, rv⟩⟩⟩, k⟩
  refine ⟨f, _, ⟨⟨_, _, _, _, _, _, _, lm, F, S, hc, hs⟩, fun _ => hm, fun z => (by rw [hd] at z; cases z), fun z => (by rw [hd] at z; cases z), fun _ => ?_, fun _ => ?_⟩⟩
  · obtain ⟨ds, r, b⟩ := F.binds0 (ps := di.ps) n (by simp) hn hb
    exact ⟨[v], ds, fun H L X => by rw [hd]; exact ⟨v, [], rfl, rd H L X, rfl⟩, r, b⟩
  · have e : di.ps.length - di.dfl.length = n := by rw [hd]; show _ - 1 = n; omega
    rw [e, hd]
    exact ⟨fun s us ws X l1 l2 => BindsTo.of_eq (hk _ _ _ _ _ _ us ws l1 l2), fun r1 r2 => r1.append r2⟩
theorem const_ok {l : List (Str × D)} (h : ∀ p ∈ l, ∃ u v, mg p.1 = some u ∧ RelV v u ∧ ∀ H L X, Rep K H L X p.2 v) (x : Str) (d : D) (e : (l.any fun p => p.1 == x && D.beq p.2 d) = true) : ∃ u v, mg x = some u ∧ RelV v u ∧ ∀ H L X, Rep K H L X d v := by
  obtain ⟨p, hp, q⟩ := List.any_eq_true.mp e
  rw [Bool.and_eq_true, beq_iff_eq] at q
  have e2 := D.eq_of_beq _ _ q.2
  have e1 := q.1
  subst e1 e2
  exact h p hp
theorem const_int {x : Str} {i : Int} {t : Tok} (h : mg x = some (.int i t)) : ∃ u v, mg x = some u ∧ RelV v u ∧ ∀ H L X, Rep K H L X (.int i) v := ⟨.int i t, .int i, h, ⟨t, rfl⟩, fun _ _ _ => rfl⟩
theorem const_str {x : Str} {i : Str} {t : Tok} (h : mg x = some (.str i t)) : ∃ u v, mg x = some u ∧ RelV v u ∧ ∀ H L X, Rep K H L X (.str i) v := ⟨.str i t, .str i, h, ⟨t, rfl⟩, fun _ _ _ => rfl⟩
/-- texts in a tuple of the module -/
def StrsAre : List Str → List Value → Prop
  | [], [] => True
  | s :: ss, u :: us => (∃ t, u = Value.str s t) ∧ StrsAre ss us
  | _, _ => False
theorem strs_rep : ∀ {ss : List Str} {us : List Value}, StrsAre ss us → ∃ vs, Vals vs us ∧ ∀ H L X, Reps K H L X (ss.map D.str) vs
  | [], [], _ => ⟨[], .nil, fun _ _ _ => rfl⟩
  | s :: ss, u :: us, ⟨h1, h2⟩ => by
    obtain ⟨vs, a, b⟩ := strs_rep h2
    exact ⟨.str s :: vs, .cons h1 a, fun H L X => ⟨_, _, rfl, rfl, b H L X⟩⟩
  | [], _ :: _, h => h.elim
  | _ :: _, [], h => h.elim
theorem const_tupS {x : Str} {a : Addr} {ss : List Str} {us : List Value} {od : Option Addr} {n : Nat} (h : mg x = some (.ref a)) (l : K.lookup a = some ⟨.type "tuple", od, .seq us.toArray n, sl⟩) (hz : us.length ≤ sizeLine) (hs : StrsAre ss us) :
    ∃ u v, mg x = some u ∧ RelV v u ∧ ∀ H L X, Rep K H L X (.tup (ss.map D.str)) v := by
  obtain ⟨vs, r, q⟩ := strs_rep (K := K) hs
  refine ⟨.ref a, .ref a, h, rfl, fun H L X => ⟨a, vs, rfl, .inr ⟨_, us.toArray, n, l, rfl, rfl, by simpa using hz, by simpa using r⟩, ?_, q H L X⟩⟩
  rw [r.length]; exact hz
end
/-- a law's def as it stands -/
theorem law_fd {K : PySem.W.Frag} {st : Stmt} {f : Addr} {oc : Value} {od an : Option Addr} {sl : Array (Option Value)} {kV dc pm cd ct : Value} {nm : Str}
    (l : K.lookup f = some ⟨oc, od, .func (PySem.W.fnOf nm nm (defArgs st) (defBody st) (defScope st) .none kV dc pm an cd ct), sl⟩) (c : PySem.W.codeIn K cd nm = true) (k : PySem.W.keepIn K (.ref f) = true) :
    FunD K nm nm (defArgs st) (defBody st) (defScope st) [] [] f (PySem.W.fnOf nm nm (defArgs st) (defBody st) (defScope st) .none kV dc pm an cd ct) :=
  ⟨⟨oc, od, _, _, dc, pm, an, cd, ct, sl, rfl, l, c, .inl ⟨rfl, rfl⟩, .inl rfl⟩, k⟩
end KI

namespace KI
open PySem
/-! ## 24. reading the evaluator -/
def SatM {α : Type} (o : Out α) (X : Exn → HpI → Prop) (P : α → HpI → Prop) : Prop := match o with | .ok a hp => P a hp | .exc x hp => X x hp | .bad => False
/-- (a structure, so that nobody unfolds it) -/
structure Sat {α : Type} (o : Out α) (X : Exn → HpI → Prop) (P : α → HpI → Prop) : Prop where
  out : SatM o X P
structure Ds where
  nx : EnvI → HpI → Prop
  rt : D → HpI → Prop
  bk : EnvI → HpI → Prop
  ct : EnvI → HpI → Prop
  ex : Exn → EnvI → HpI → Prop
def SSatM (o : SOut) (Z : Ds) : Prop := match o with
  | .nx env hp => Z.nx env hp | .rt d hp => Z.rt d hp | .bk env hp => Z.bk env hp | .ct env hp => Z.ct env hp | .exc x env hp => Z.ex x env hp | .bad => False
structure SSat (o : SOut) (Z : Ds) : Prop where
  out : SSatM o Z
section
variable {α β : Type} {X X' : Exn → HpI → Prop} {P P' : α → HpI → Prop} {hp : HpI} {env : EnvI} {Z Z' : Ds}
@[simp] theorem sat_ok (a : α) : Sat (.ok a hp) X P = P a hp := propext ⟨fun h => h.out, fun h => ⟨h⟩⟩
@[simp] theorem sat_exc (x : Exn) : Sat (α := α) (.exc x hp) X P = X x hp := propext ⟨fun h => h.out, fun h => ⟨h⟩⟩
@[simp] theorem sat_bad : Sat (α := α) .bad X P = False := propext ⟨fun h => h.out, fun h => ⟨h⟩⟩
@[simp] theorem sat_bind {Q : β → HpI → Prop} (o : Out α) (k : α → HpI → Out β) : Sat (o.bind k) X Q = Sat o X fun a hp => Sat (k a hp) X Q := by cases o <;> simp [Out.bind]
@[simp] theorem sat_ite {c : Prop} [Decidable c] {p : α × HpI} : Sat (ofOpt (if c then some p else none)) X P = (c ∧ P p.1 p.2) := by
  obtain ⟨a, b⟩ := p
  by_cases h : c
  · rw [if_pos h]; simp [h]
  · rw [if_neg h]; simp [h, ofOpt]
@[simp] theorem sat_iteB {c : Prop} [Decidable c] {o : Out α} : Sat (if c then o else .bad) X P = (c ∧ Sat o X P) := by
  by_cases h : c <;> simp [h]
@[simp] theorem ssat_nx : SSat (.nx env hp) Z = Z.nx env hp := propext ⟨fun h => h.out, fun h => ⟨h⟩⟩
@[simp] theorem ssat_rt (d : D) : SSat (.rt d hp) Z = Z.rt d hp := propext ⟨fun h => h.out, fun h => ⟨h⟩⟩
@[simp] theorem ssat_bk : SSat (.bk env hp) Z = Z.bk env hp := propext ⟨fun h => h.out, fun h => ⟨h⟩⟩
@[simp] theorem ssat_ct : SSat (.ct env hp) Z = Z.ct env hp := propext ⟨fun h => h.out, fun h => ⟨h⟩⟩
@[simp] theorem ssat_exc (x : Exn) : SSat (.exc x env hp) Z = Z.ex x env hp := propext ⟨fun h => h.out, fun h => ⟨h⟩⟩
@[simp] theorem ssat_bad : SSat .bad Z = False := propext ⟨fun h => h.out, fun h => ⟨h⟩⟩
@[simp] theorem ssat_thenS (o : Out α) (k : α → HpI → SOut) : SSat (o.thenS env k) Z = Sat o (fun x hp => Z.ex x env hp) fun a hp => SSat (k a hp) Z := by cases o <;> simp [Out.thenS, Out.thenG]
@[simp] theorem ssat_thenG (o : Out α) (k : α → HpI → SOut) : SSat (o.thenG k) Z = Sat o (fun _ _ => False) fun a hp => SSat (k a hp) Z := by cases o <;> simp [Out.thenS, Out.thenG]
@[simp] theorem ssat_andThen (o : SOut) (k : EnvI → HpI → SOut) : SSat (o.andThen k) Z = SSat o { Z with nx := fun env hp => SSat (k env hp) Z } := by cases o <;> simp [SOut.andThen]
theorem Sat.mono {o : Out α} (h : Sat o X P) (hx : ∀ x hp, X x hp → X' x hp) (hp : ∀ a hp, P a hp → P' a hp) : Sat o X' P' := by
  cases o with
  | ok a h' => exact ⟨hp _ _ h.out⟩
  | exc x h' => exact ⟨hx _ _ h.out⟩
  | bad => exact ⟨h.out⟩
theorem Sat.imp {o : Out α} (h : Sat o X P) (hp : ∀ a hp, P a hp → P' a hp) : Sat o X P' := h.mono (fun _ _ h => h) hp
theorem Sat.noX {o : Out α} (h : Sat o (fun _ _ => False) P) (hp : ∀ a hp, P a hp → P' a hp) : Sat o X P' := h.mono (fun _ _ h => h.elim) hp
theorem SSat.imp {o : SOut} (h : SSat o Z) (h1 : ∀ env hp, Z.nx env hp → Z'.nx env hp) (h2 : ∀ d hp, Z.rt d hp → Z'.rt d hp) (h3 : ∀ env hp, Z.bk env hp → Z'.bk env hp) (h4 : ∀ env hp, Z.ct env hp → Z'.ct env hp) (h5 : ∀ x env hp, Z.ex x env hp → Z'.ex x env hp) : SSat o Z' := by
  cases o with
  | nx e h' => exact ⟨h1 _ _ h.out⟩
  | rt d h' => exact ⟨h2 _ _ h.out⟩
  | bk e h' => exact ⟨h3 _ _ h.out⟩
  | ct e h' => exact ⟨h4 _ _ h.out⟩
  | exc x e h' => exact ⟨h5 _ _ _ h.out⟩
  | bad => exact ⟨h.out⟩
def dsF (X : Exn → HpI → Prop) (P : D → HpI → Prop) : Ds := ⟨fun _ hp => P .non hp, P, fun _ _ => False, fun _ _ => False, fun x _ hp => X x hp⟩
@[simp] theorem sat_outOf {P : D → HpI → Prop} (o : SOut) : Sat (outOf o) X P = SSat o (dsF X P) := by cases o <;> simp [outOf, dsF]
@[simp] theorem dsF_nx {P : D → HpI → Prop} : (dsF X P).nx env hp = P .non hp := (rfl)
@[simp] theorem dsF_rt {P : D → HpI → Prop} {d : D} : (dsF X P).rt d hp = P d hp := (rfl)
@[simp] theorem dsF_ex {P : D → HpI → Prop} {x : Exn} : (dsF X P).ex x env hp = X x hp := (rfl)
@[simp] theorem dsF_bk {P : D → HpI → Prop} : (dsF X P).bk env hp = False := (rfl)
@[simp] theorem dsF_ct {P : D → HpI → Prop} : (dsF X P).ct env hp = False := (rfl)
theorem sat_eq {o : Out α} {a : α} {hp' : HpI} (h : o = .ok a hp') (q : P a hp') : Sat o X P := by rw [h]; exact ⟨q⟩
theorem eq_of_sat {o : Out α} {a : α} {hp' : HpI} (h : Sat o (fun _ _ => False) fun b h => b = a ∧ h = hp') : o = .ok a hp' := by
  cases o with
  | ok b h' => obtain ⟨rfl, rfl⟩ := h.out; rfl
  | exc x h' => exact h.out.elim
  | bad => exact h.out.elim
theorem ex_of_sat {o : Out α} (h : Sat o (fun _ _ => False) P) : ∃ a hp', o = .ok a hp' ∧ P a hp' := by
  cases o with
  | ok b h' => exact ⟨_, _, rfl, h.out⟩
  | exc x h' => exact h.out.elim
  | bad => exact h.out.elim
/-! loops -/
theorem ssat_for {ck : HpI → Bool} {f : D → EnvI → HpI → SOut} (I : List D → EnvI → HpI → Prop) : ∀ (ds : List D) (env : EnvI) (hp : HpI), I ds env hp →
    (∀ d ds env hp, I (d :: ds) env hp → ck hp = true ∧ SSat (f d env hp) ⟨I ds, Z.rt, Z.nx, I ds, Z.ex⟩) → (∀ env hp, I [] env hp → ck hp = true ∧ Z.nx env hp) → SSat (forL ck f ds env hp) Z
  | [], env, hp, h, _, he => by
    obtain ⟨h1, h2⟩ := he env hp h
    simp only [forL, h1, if_true]
    exact ⟨h2⟩
  | d :: ds, env, hp, h, hs, he => by
    obtain ⟨h1, h2⟩ := hs d ds env hp h
    simp only [forL, h1, if_true]
    cases q : f d env hp with
    | nx e h' => rw [q] at h2; exact ssat_for I ds e h' h2.out hs he
    | ct e h' => rw [q] at h2; exact ssat_for I ds e h' h2.out hs he
    | bk e h' => rw [q] at h2; exact ⟨h2.out⟩
    | rt d h' => rw [q] at h2; exact ⟨h2.out⟩
    | exc x e h' => rw [q] at h2; exact ⟨h2.out⟩
    | bad => rw [q] at h2; exact ⟨h2.out⟩
theorem ssat_whl {t : EnvI → HpI → Out Bool} {f : EnvI → HpI → SOut} (I : Nat → EnvI → HpI → Prop) (hs : ∀ m env hp, I m env hp → Sat (t env hp) (fun x hp => Z.ex x env hp) fun c hp1 => if c = true then SSat (f env hp1) ⟨fun e h => ∃ k, k < m ∧ I k e h, Z.rt, Z.nx, fun e h => ∃ k, k < m ∧ I k e h, Z.ex⟩ else Z.nx env hp1) :
    ∀ (n m : Nat) (env : EnvI) (hp : HpI), m < n → I m env hp → SSat (whlL t f n env hp) Z
  | 0, m, env, hp, h, _ => absurd h (Nat.not_lt_zero _)
  | n + 1, m, env, hp, h, hi => by
    have q := hs m env hp hi
    simp only [whlL]
    cases e : t env hp with
    | ok c hp1 =>
      rw [e] at q
      cases c with
      | false => exact ⟨q.out⟩
      | true =>
        have q : SSat (f env hp1) _ := q.out
        simp only
        cases e2 : f env hp1 with
        | nx e h' => rw [e2] at q; obtain ⟨k, hk, hi'⟩ := q.out; exact ssat_whl I hs n k e h' (by omega) hi'
        | ct e h' => rw [e2] at q; obtain ⟨k, hk, hi'⟩ := q.out; exact ssat_whl I hs n k e h' (by omega) hi'
        | bk e h' => rw [e2] at q; exact ⟨q.out⟩
        | rt d h' => rw [e2] at q; exact ⟨q.out⟩
        | exc x e h' => rw [e2] at q; exact ⟨q.out⟩
        | bad => rw [e2] at q; exact ⟨q.out⟩
    | exc x hp1 => rw [e] at q; exact ⟨q.out⟩
    | bad => rw [e] at q; exact ⟨q.out⟩
theorem sat_comp {ck : HpI → Bool} {f : D → HpI → Out (Option D)} {P : List D → HpI → Prop} (I : List D → List D → HpI → Prop) : ∀ (ds acc : List D) (hp : HpI), I ds acc hp →
    (∀ d ds acc hp, I (d :: ds) acc hp → ck hp = true ∧ Sat (f d hp) (fun _ _ => False) fun o hp' => I ds (match o with | some x => acc ++ [x] | none => acc) hp') → (∀ acc hp, I [] acc hp → ck hp = true ∧ P acc hp) → Sat (compL ck f ds hp acc) X P
  | [], acc, hp, h, _, he => by
    obtain ⟨h1, h2⟩ := he acc hp h
    simp only [compL, h1, if_true]
    exact ⟨h2⟩
  | d :: ds, acc, hp, h, hs, he => by
    obtain ⟨h1, h2⟩ := hs d ds acc hp h
    simp only [compL, h1, if_true]
    cases q : f d hp with
    | ok o h' =>
      rw [q] at h2
      cases o with
      | none => exact sat_comp I ds acc h' h2.out hs he
      | some x => exact sat_comp I ds (acc ++ [x]) h' h2.out hs he
    | exc x h' => rw [q] at h2; exact h2.out.elim
    | bad => rw [q] at h2; exact ⟨h2.out⟩
theorem compO_pure {ck : HpI → Bool} {f : D → HpI → List D → Out (List D)} (g : D → List D) (hc : ck hp = true) : ∀ (ds acc : List D), (∀ d ∈ ds, ∀ acc, f d hp acc = .ok (acc ++ g d) hp) → compO ck f ds hp acc = .ok (acc ++ ds.flatMap g) hp
  | [], acc, _ => by simp [compO, hc]
  | d :: ds, acc, h => by
    simp only [compO, hc, if_true, h d List.mem_cons_self]
    rw [compO_pure g hc ds _ fun d' hd => h d' (List.mem_cons_of_mem _ hd), List.flatMap_cons, List.append_assoc]
theorem comp_pure {ck : HpI → Bool} {f : D → HpI → Out (Option D)} (g : D → Option D) (hc : ck hp = true) : ∀ (ds acc : List D), (∀ d ∈ ds, f d hp = .ok (g d) hp) → compL ck f ds hp acc = .ok (acc ++ ds.filterMap g) hp
  | [], acc, _ => by simp [compL, hc]
  | d :: ds, acc, h => by
    simp only [compL, hc, if_true, h d List.mem_cons_self]
    cases q : g d with
    | none =>
      simp only
      rw [comp_pure g hc ds acc fun d' hd => h d' (List.mem_cons_of_mem _ hd), List.filterMap_cons, q]
    | some x =>
      simp only
      rw [comp_pure g hc ds _ fun d' hd => h d' (List.mem_cons_of_mem _ hd), List.filterMap_cons, q]
      simp
/-! calls -/
theorem sat_framed {cf : CF} {k f : Nat} {ds : List D} {P : D → HpI → Prop} (hk : k ≤ hp.length) (hc : closeds k ds = true) (hh : (hp.take k).all (closedO k) = true)
    (h : Sat (cf f ds (hp.take k)) (fun x hp' => (hp'.take k).all (closedO k) = true ∧ closeds 0 (x.fs.map (·.2)) = true ∧ X x (hp'.take k ++ hp.drop k)) fun d hp' => ∃ d', rb k hp' d = some d' ∧ (hp'.take k).all (closedO k) = true ∧ P d' (hp'.take k ++ hp.drop k)) : Sat (framed cf (some k) f ds hp) X P := by
  simp only [framed, hc, hh, Bool.and_self, if_true]
  cases q : cf f ds (hp.take k) with
  | ok d hp' =>
    rw [q] at h
    obtain ⟨d', h1, h2, h3⟩ := h.out
    simp only [h1, h2, hk, decide_true, Bool.and_self, if_true]
    exact ⟨h3⟩
  | exc x hp' =>
    rw [q] at h
    obtain ⟨h1, h2, h3⟩ := h.out
    simp only [h1, h2, hk, decide_true, Bool.and_self, if_true]
    exact ⟨h3⟩
  | bad => rw [q] at h; exact ⟨h.out⟩
/-- a pure call -/
theorem framed0 {cf : CF} {f : Nat} {ds : List D} {d d' : D} {hp' : HpI} (h : cf f ds [] = .ok d hp') (hc : closeds 0 ds = true) (hr : rb 0 hp' d = some d') : framed cf (some 0) f ds hp = .ok d' hp := by
  simp [framed, hc, h, hr]
end
/-! the equations, for simp -/
section
variable {cf : CF} {wf : Nat} {env : EnvI} {hp : HpI}
@[simp] theorem ev_cst (d : D) : ev cf (.cst d) env hp = .ok d hp := (rfl)
@[simp] theorem ev_glob (x : Str) (d : D) : ev cf (.glob x d) env hp = .ok d hp := (rfl)
theorem ev_var (i : Nat) : ev cf (.var i) env hp = match env[i]? with | some (some d) => .ok d hp | _ => .bad := rfl
@[simp] theorem ev_v0 (d : D) (l : EnvI) : ev cf (.var 0) (some d :: l) hp = .ok d hp := (rfl)
@[simp] theorem ev_v1 (d : D) (a : Option D) (l : EnvI) : ev cf (.var 1) (a :: some d :: l) hp = .ok d hp := (rfl)
@[simp] theorem ev_vS (i : Nat) (a : Option D) (l : EnvI) : ev cf (.var (i + 1)) (a :: l) hp = ev cf (.var i) l hp := (rfl)
@[simp] theorem ev_op1 (o : Op1) (a : E) : ev cf (.op1 o a) env hp = (ev cf a env hp).bind fun x hp => ofOpt (sem1 o x hp) := (rfl)
@[simp] theorem ev_op2 (o : Op2) (a b : E) : ev cf (.op2 o a b) env hp = (ev cf a env hp).bind fun x hp => (ev cf b env hp).bind fun y hp => ofOpt (sem2 o x y hp) := (rfl)
@[simp] theorem ev_tup (es : Es) : ev cf (.tup es) env hp = (evs cf es env hp).bind fun ds hp => if ds.length ≤ sizeLine then .ok (.tup ds) hp else .bad := (rfl)
@[simp] theorem ev_lst (m : Bool) (es : Es) : ev cf (.lst m es) env hp = (evs cf es env hp).bind fun ds hp => if ds.length ≤ sizeLine then ofOpt (some (mkL m ds hp)) else .bad := (rfl)
@[simp] theorem evs_nil : evs cf .nil env hp = .ok [] hp := (rfl)
@[simp] theorem evs_cons (e : E) (es : Es) : evs cf (.cons e es) env hp = (ev cf e env hp).bind fun x hp => (evs cf es env hp).bind fun xs hp => .ok (x :: xs) hp := (rfl)
@[simp] theorem ev_ife (t : T) (a b : E) : ev cf (.ife t a b) env hp = (tv cf t env hp).bind fun c hp => if c = true then ev cf a env hp else ev cf b env hp := (rfl)
@[simp] theorem ev_bi (b : Bi) (es : Es) : ev cf (.bi b es) env hp = (evs cf es env hp).bind fun ds hp => ofOpt (semB b ds hp) := (rfl)
@[simp] theorem ev_me (m : Me) (o : E) (es : Es) : ev cf (.me m o es) env hp = (ev cf o env hp).bind fun x hp => if tyD hp x = some (meT m) then (evs cf es env hp).bind fun ds hp => ofOpt (semM m x ds hp) else .bad := (rfl)
@[simp] theorem ev_call (k : Option Nat) (f : Nat) (es : Es) : ev cf (.call k f es) env hp = (evs cf es env hp).bind fun ds hp => framed cf k f ds hp := (rfl)
@[simp] theorem ev_callk (k : Option Nat) (f : Nat) (es ks : Es) : ev cf (.callk k f es ks) env hp = (evs cf es env hp).bind fun ds hp => (evs cf ks env hp).bind fun zs hp => framed cf k f (ds ++ zs) hp := (rfl)
@[simp] theorem ev_isi (a : E) (t : String) : ev cf (.isi a t) env hp = (ev cf a env hp).bind fun x hp => match tyD hp x with | some s => .ok (.bl (isTy s t)) hp | none => .bad := (rfl)
@[simp] theorem ev_isiT (a : E) (ts : List String) : ev cf (.isiT a ts) env hp = (ev cf a env hp).bind fun x hp => match tyD hp x with | some s => .ok (.bl (ts.any (isTy s))) hp | none => .bad := (rfl)
@[simp] theorem ev_andE (es : Es) : ev cf (.andE es) env hp = evA cf es env hp := (rfl)
@[simp] theorem ev_orE (es : Es) : ev cf (.orE es) env hp = evO cf es env hp := (rfl)
@[simp] theorem evA_one (e : E) : evA cf (.cons e .nil) env hp = ev cf e env hp := (rfl)
@[simp] theorem evA_cons (e e' : E) (es : Es) : evA cf (.cons e (.cons e' es)) env hp = (ev cf e env hp).bind fun x hp => match x with | .bl true => evA cf (.cons e' es) env hp | .bl false => .ok (.bl false) hp | _ => .bad := (rfl)
@[simp] theorem evO_one (e : E) : evO cf (.cons e .nil) env hp = ev cf e env hp := (rfl)
@[simp] theorem evO_cons (e e' : E) (es : Es) : evO cf (.cons e (.cons e' es)) env hp = (ev cf e env hp).bind fun x hp => match x with | .bl true => .ok (.bl true) hp | .bl false => evO cf (.cons e' es) env hp | _ => .bad := (rfl)
@[simp] theorem ev_sl (m : Bool) (a : E) (lo hi : OE) : ev cf (.sl m a lo hi) env hp = (ev cf a env hp).bind fun x hp => (evOE cf lo env hp).bind fun l hp => (evOE cf hi env hp).bind fun h hp => ofOpt (semSl m x l h hp) := (rfl)
@[simp] theorem ev_lrng (m : Bool) (a : E) : ev cf (.lrng m a) env hp = (ev cf a env hp).bind fun x hp => ofOpt (semLR m x hp) := (rfl)
@[simp] theorem ev_rev (a s : E) : ev cf (.rev a s) env hp = (ev cf a env hp).bind fun x hp => (ev cf s env hp).bind fun y hp => ofOpt (semRev x y hp) := (rfl)
@[simp] theorem evOE_none : evOE cf .none env hp = .ok none hp := (rfl)
@[simp] theorem evOE_some (e : E) : evOE cf (.some e) env hp = (ev cf e env hp).bind fun x hp => match x with | .int i => .ok (some i) hp | _ => .bad := (rfl)
@[simp] theorem ev_chain (o o' : Op2) (a b c : E) : ev cf (.chain o o' a b c) env hp = (ev cf a env hp).bind fun x hp => (ev cf b env hp).bind fun y hp => (ofOpt (sem2 o x y hp)).bind fun z hp =>
      match z with
      | .bl true => (ev cf c env hp).bind fun u hp => ofOpt (sem2 o' y u hp)
      | .bl false => .ok (.bl false) hp
      | _ => .bad := rfl
@[simp] theorem ev_comp (m : Bool) (elt : E) (g : G) (it : It) (c : OT) (own : List Nat) : ev cf (.comp m elt g it c own) env hp = (iv cf it env hp).bind fun w hp =>
      (compL (ckOk w.ck) (fun d hp => (asg cf g d (wipeE env own) hp).bind fun env2 hp => (evOT cf c env2 hp).bind fun b hp =>
        if b = true then (ev cf elt env2 hp).bind fun x hp => .ok (some x) hp else .ok none hp) w.ds hp []).bind fun ds hp => ofOpt (some (mkL m ds hp)) := rfl
@[simp] theorem ev_lam (j : Nat) : ev cf (.lam j) env hp = .ok (.fn j) hp := (rfl)
@[simp] theorem ev_callv (k : Option Nat) (nd i : Nat) (es : Es) : ev cf (.callv k nd i es) env hp = match env[i]? with | some (some (.fn j)) => (evs cf es env hp).bind fun ds hp => framed cf k (nd + j) ds hp | _ => .bad := (rfl)
@[simp] theorem ev_lens (a : E) : ev cf (.lens a) env hp = (ev cf a env hp).bind fun x hp => ofOpt (semLens x hp) := (rfl)
theorem ev_comp2 (m : Bool) (elt : E) (g : G) (it : It) (c : OT) (own : List Nat) (g1 : G) (it1 : It) (c1 : OT) (own1 : List Nat) : ev cf (.comp2 m elt g it c own g1 it1 c1 own1) env hp = (iv cf it env hp).bind fun w hp =>
      (compO (ckOk w.ck) (fun d hp acc => (asg cf g d (wipeE env own) hp).bind fun env2 hp => (evOT cf c env2 hp).bind fun b hp =>
        if b = true then (iv cf it1 env2 hp).bind fun w1 hp => if acc.length + w1.ds.length ≤ sizeLine then
          compL (ckOk w1.ck) (fun d hp => (asg cf g1 d (wipeE env2 own1) hp).bind fun env3 hp => (evOT cf c1 env3 hp).bind fun b hp =>
            if b = true then (ev cf elt env3 hp).bind fun x hp => .ok (some x) hp else .ok none hp) w1.ds hp acc else .bad
        else .ok acc hp) w.ds hp []).bind fun ds hp => ofOpt (some (mkL m ds hp)) := rfl
@[simp] theorem evOT_none : evOT cf .none env hp = .ok true hp := (rfl)
@[simp] theorem evOT_some (t : T) : evOT cf (.some t) env hp = tv cf t env hp := (rfl)
@[simp] theorem tv_val (e : E) : tv cf (.val e) env hp = (ev cf e env hp).bind fun x hp => match x with | .bl b => .ok b hp | _ => .bad := (rfl)
@[simp] theorem tv_cmp (o : Op2) (a b : E) : tv cf (.cmp o a b) env hp = (ev cf a env hp).bind fun x hp => (ev cf b env hp).bind fun y hp => (ofOpt (sem2 o x y hp)).bind fun z hp => match z with | .bl b => .ok b hp | _ => .bad := (rfl)
@[simp] theorem tv_chain (o o' : Op2) (a b c : E) : tv cf (.chain o o' a b c) env hp = (ev cf a env hp).bind fun x hp => (ev cf b env hp).bind fun y hp => (ofOpt (sem2 o x y hp)).bind fun z hp =>
      match z with
      | .bl true => (ev cf c env hp).bind fun u hp => (ofOpt (sem2 o' y u hp)).bind fun z hp => match z with
        | .bl b => .ok b hp
        | _ => .bad
      | .bl false => .ok false hp
      | _ => .bad := rfl
@[simp] theorem tv_isN (neg : Bool) (a : E) : tv cf (.isN neg a) env hp = (ev cf a env hp).bind fun x hp => .ok (match x with | .non => !neg | _ => neg) hp := (rfl)
@[simp] theorem tv_not (t : T) : tv cf (.not t) env hp = (tv cf t env hp).bind fun b hp => .ok (!b) hp := (rfl)
@[simp] theorem tv_and (ts : Ts) : tv cf (.and ts) env hp = tvA cf ts env hp := (rfl)
@[simp] theorem tv_or (ts : Ts) : tv cf (.or ts) env hp = tvO cf ts env hp := (rfl)
@[simp] theorem tvA_one (t : T) : tvA cf (.one t) env hp = tv cf t env hp := (rfl)
@[simp] theorem tvA_cons (t : T) (ts : Ts) : tvA cf (.cons t ts) env hp = (tv cf t env hp).bind fun b hp => if b = true then tvA cf ts env hp else .ok false hp := (rfl)
@[simp] theorem tvO_one (t : T) : tvO cf (.one t) env hp = tv cf t env hp := (rfl)
@[simp] theorem tvO_cons (t : T) (ts : Ts) : tvO cf (.cons t ts) env hp = (tv cf t env hp).bind fun b hp => if b = true then .ok true hp else tvO cf ts env hp := (rfl)
@[simp] theorem asg_name (i : Nat) (d : D) : asg cf (.name i) d env hp = .ok (env.set i (some d)) hp := (rfl)
@[simp] theorem asg_tup (gs : Gs) (d : D) : asg cf (.tup gs) d env hp = match seqOf hp d with | some ds => asgs cf gs ds env hp | none => .bad := (rfl)
@[simp] theorem asg_sub (o i : E) (d : D) : asg cf (.sub o i) d env hp = (ev cf o env hp).bind fun x hp => (ev cf i env hp).bind fun y hp => match setIx x y d hp with | some hp => .ok env hp | none => .bad := (rfl)
@[simp] theorem asgs_nil : asgs cf .nil [] env hp = .ok env hp := (rfl)
@[simp] theorem asgs_cons (g : G) (gs : Gs) (d : D) (ds : List D) : asgs cf (.cons g gs) (d :: ds) env hp = (asg cf g d env hp).bind fun env hp => asgs cf gs ds env hp := (rfl)
@[simp] theorem iv_seq (e : E) : iv cf (.seq e) env hp = (ev cf e env hp).bind fun x hp => ofOpt (ivSeq x hp) := (rfl)
@[simp] theorem iv_rng1 (a : E) : iv cf (.rng1 a) env hp = (ev cf a env hp).bind fun x hp => match x with | .int j => ofOpt (ivRng 0 j hp) | _ => .bad := (rfl)
@[simp] theorem iv_rng2 (a b : E) : iv cf (.rng2 a b) env hp = (ev cf a env hp).bind fun x hp => (ev cf b env hp).bind fun y hp => match x, y with | .int i, .int j => ofOpt (ivRng i j hp) | _, _ => .bad := (rfl)
@[simp] theorem iv_enum (e : E) : iv cf (.enum e) env hp = (ev cf e env hp).bind fun x hp => ofOpt (ivEnum x hp) := (rfl)
@[simp] theorem iv_txt (e : E) : iv cf (.txt e) env hp = (ev cf e env hp).bind fun x hp => ofOpt (ivTxt x hp) := (rfl)
@[simp] theorem iv_zip (a b : E) : iv cf (.zip a b) env hp = (ev cf a env hp).bind fun x hp => (ev cf b env hp).bind fun y hp => ofOpt (ivZip x y hp) := (rfl)
@[simp] theorem ex_expr (e : E) : ex cf wf (.expr e) env hp = (ev cf e env hp).thenS env fun _ hp => .nx env hp := (rfl)
@[simp] theorem ex_asg (g : G) (e : E) : ex cf wf (.asg g e) env hp = (ev cf e env hp).thenS env fun x hp => (asg cf g x env hp).thenG fun env' hp => .nx env' hp := (rfl)
@[simp] theorem ex_par (i j : Nat) (a b : E) : ex cf wf (.par i j a b) env hp = (ev cf a env hp).thenS env fun x hp => (ev cf b env hp).thenS env fun y hp => .nx ((env.set i (some x)).set j (some y)) hp := (rfl)
@[simp] theorem ex_par3 (i j l : Nat) (a b c : E) : ex cf wf (.par3 i j l a b c) env hp = (ev cf a env hp).thenS env fun x hp => (ev cf b env hp).thenS env fun y hp => (ev cf c env hp).thenS env fun z hp => .nx (((env.set i (some x)).set j (some y)).set l (some z)) hp := (rfl)
@[simp] theorem ex_aug (i : Nat) (o : Op2) (e : E) : ex cf wf (.aug i o e) env hp = match env[i]? with
    | some (some x) => (ev cf e env hp).thenS env fun y hp => match semAug o x y with
      | some z => .nx (env.set i (some z)) hp
      | none => .bad
    | _ => .bad := rfl
@[simp] theorem ex_ret (e : E) : ex cf wf (.ret e) env hp = (ev cf e env hp).thenS env fun x hp => .rt x hp := (rfl)
@[simp] theorem ex_retN : ex cf wf .retN env hp = .rt .non hp := (rfl)
@[simp] theorem ex_ife (t : T) (a b : Ss) : ex cf wf (.ife t a b) env hp = (tv cf t env hp).thenS env fun c hp => if c = true then exs cf wf a env hp else exs cf wf b env hp := (rfl)
@[simp] theorem ex_whl (t : T) (b : Ss) : ex cf wf (.whl t b) env hp = whlL (tv cf t) (exs cf wf b) wf env hp := (rfl)
@[simp] theorem ex_for (g : G) (it : It) (b : Ss) : ex cf wf (.for_ g it b) env hp = (iv cf it env hp).thenS env fun w hp => forL (ckOk w.ck) (fun d env hp => (asg cf g d env hp).thenG fun env' hp => exs cf wf b env' hp) w.ds env hp := (rfl)
@[simp] theorem ex_pass : ex cf wf .pass env hp = .nx env hp := (rfl)
@[simp] theorem ex_brk : ex cf wf .brk env hp = .bk env hp := (rfl)
@[simp] theorem ex_cont : ex cf wf .cont env hp = .ct env hp := (rfl)
@[simp] theorem ex_nev : ex cf wf .nev env hp = .bad := (rfl)
@[simp] theorem exs_nil : exs cf wf .nil env hp = .nx env hp := (rfl)
@[simp] theorem exs_cons (s : S) (ss : Ss) : exs cf wf (.cons s ss) env hp = (ex cf wf s env hp).andThen fun env hp => exs cf wf ss env hp := (rfl)
/-! operators at constructors -/
@[simp] theorem s1_not (b : Bool) : sem1 .not (.bl b) hp = some (.bl (!b), hp) := (rfl)
@[simp] theorem s1_neg (i : Int) : sem1 .neg (.int i) hp = some (.int (-i), hp) := (rfl)
@[simp] theorem s2_add (m : Bool) (i j : Int) : sem2 (.add m) (.int i) (.int j) hp = some (.int (i + j), hp) := (rfl)
@[simp] theorem s2_addT (m : Bool) (i j : List D) : sem2 (.add m) (.tup i) (.tup j) hp = if i.length + j.length ≤ sizeLine then some (.tup (i ++ j), hp) else none := (rfl)
@[simp] theorem s2_addL (m : Bool) (i j : List D) : sem2 (.add m) (.lst i) (.lst j) hp = if i.length + j.length ≤ sizeLine then some (mkL m (i ++ j) hp) else none := (rfl)
@[simp] theorem s2_sub (i j : Int) : sem2 .sub (.int i) (.int j) hp = some (.int (i - j), hp) := (rfl)
@[simp] theorem s2_mul (m : Bool) (i j : Int) : sem2 (.mul m) (.int i) (.int j) hp = if i.natAbs < BIG ∧ j.natAbs < BIG then some (.int (i * j), hp) else none := (rfl)
@[simp] theorem s2_fdiv (i j : Int) : sem2 .fdiv (.int i) (.int j) hp = if 0 < j ∧ j.natAbs < BIGD then some (.int (i / j), hp) else none := (rfl)
@[simp] theorem s2_mod (i j : Int) : sem2 .mod (.int i) (.int j) hp = if 0 < j then some (.int (i % j), hp) else none := (rfl)
@[simp] theorem s2_eqI (i j : Int) : sem2 .eq (.int i) (.int j) hp = some (.bl (decide (i = j)), hp) := (rfl)
@[simp] theorem s2_neI (i j : Int) : sem2 .ne (.int i) (.int j) hp = some (.bl (!decide (i = j)), hp) := (rfl)
@[simp] theorem s2_eqB (i j : Bool) : sem2 .eq (.bl i) (.bl j) hp = some (.bl (decide (i = j)), hp) := (rfl)
@[simp] theorem s2_neB (i j : Bool) : sem2 .ne (.bl i) (.bl j) hp = some (.bl (!decide (i = j)), hp) := (rfl)
@[simp] theorem s2_eqS (i j : Str) : sem2 .eq (.str i) (.str j) hp = some (.bl (decide (i = j)), hp) := (rfl)
@[simp] theorem s2_neS (i j : Str) : sem2 .ne (.str i) (.str j) hp = some (.bl (!decide (i = j)), hp) := (rfl)
@[simp] theorem s2_lt (i j : Int) : sem2 .lt (.int i) (.int j) hp = some (.bl (decide (i < j)), hp) := (rfl)
@[simp] theorem s2_le (i j : Int) : sem2 .le (.int i) (.int j) hp = some (.bl (decide (i ≤ j)), hp) := (rfl)
@[simp] theorem s2_gt (i j : Int) : sem2 .gt (.int i) (.int j) hp = some (.bl (decide (j < i)), hp) := (rfl)
@[simp] theorem s2_ge (i j : Int) : sem2 .ge (.int i) (.int j) hp = some (.bl (decide (j ≤ i)), hp) := (rfl)
theorem s2_ix (a : D) (i : Int) (h : ∀ z, a ≠ .str z) : sem2 .ix a (.int i) hp = match seqOf hp a with | some xs => (L2.atI xs i).map fun d => (d, hp) | none => none := by cases a <;> first | rfl | exact absurd rfl (h _)
theorem s2_ixX {z : Str} (i : Int) (h : z.length ≤ sizeLine) : sem2 .ix (.str z) (.int i) hp = (L2.atI z.cps.toList i).map fun c => (.str ⟨#[c]⟩, hp) := if_pos h
@[simp] theorem s2_ixT (ds : List D) (i : Int) : sem2 .ix (.tup ds) (.int i) hp = (L2.atI ds i).map fun d => (d, hp) := (rfl)
@[simp] theorem s2_ixS (ds : List D) (i : Int) : sem2 .ix (.sq ds) (.int i) hp = (L2.atI ds i).map fun d => (d, hp) := (rfl)
@[simp] theorem s2_ixL (ds : List D) (i : Int) : sem2 .ix (.lst ds) (.int i) hp = (L2.atI ds i).map fun d => (d, hp) := (rfl)
@[simp] theorem sq_tup (ds : List D) : seqOf hp (.tup ds) = some ds := (rfl)
@[simp] theorem sq_lst (ds : List D) : seqOf hp (.lst ds) = some ds := (rfl)
@[simp] theorem sq_sq (ds : List D) : seqOf hp (.sq ds) = some ds := (rfl)
@[simp] theorem iv_tup (ds : List D) : ivSeq (.tup ds) hp = some (⟨ds, none⟩, hp) := (rfl)
@[simp] theorem iv_lst (ds : List D) : ivSeq (.lst ds) hp = some (⟨ds, none⟩, hp) := (rfl)
@[simp] theorem iv_sq (ds : List D) : ivSeq (.sq ds) hp = some (⟨ds, none⟩, hp) := (rfl)
@[simp] theorem ivE_tup (ds : List D) : ivEnum (.tup ds) hp = some (⟨enumD 0 ds, none⟩, hp) := (rfl)
@[simp] theorem ivE_lst (ds : List D) : ivEnum (.lst ds) hp = some (⟨enumD 0 ds, none⟩, hp) := (rfl)
@[simp] theorem ck_none : ckOk none hp = true := (rfl)
@[simp] theorem sB_len_t (ds : List D) : semB .len [.tup ds] hp = some (.int ds.length, hp) := (rfl)
@[simp] theorem sB_len_l (ds : List D) : semB .len [.lst ds] hp = some (.int ds.length, hp) := (rfl)
@[simp] theorem sB_len_s (ds : List D) : semB .len [.sq ds] hp = some (.int ds.length, hp) := (rfl)
@[simp] theorem sB_abs (i : Int) : semB .abs [.int i] hp = some (.int (if i < 0 then -i else i), hp) := (rfl)
@[simp] theorem sB_min2 (i j : Int) : semB .min2 [.int i, .int j] hp = some (.int (if j < i then j else i), hp) := (rfl)
@[simp] theorem sB_max2 (i j : Int) : semB .max2 [.int i, .int j] hp = some (.int (if j > i then j else i), hp) := (rfl)
@[simp] theorem sB_tuple_l (ds : List D) : semB .tuple [.lst ds] hp = some (.tup ds, hp) := (rfl)
@[simp] theorem sB_tuple_t (ds : List D) : semB .tuple [.tup ds] hp = some (.tup ds, hp) := (rfl)
@[simp] theorem mkL_f (ds : List D) : mkL false ds hp = (.lst ds, hp) := (rfl)
@[simp] theorem mkL_t (ds : List D) : mkL true ds hp = (.loc hp.length, hp ++ [.lst ds]) := (rfl)
@[simp] theorem sem_rev (ds : List D) : semRev (.tup ds) (.int (-1)) hp = some (.tup ds.reverse, hp) := (rfl)
@[simp] theorem aug_add (m : Bool) (i j : Int) : semAug (.add m) (.int i) (.int j) = some (.int (i + j)) := (rfl)
@[simp] theorem aug_sub (i j : Int) : semAug .sub (.int i) (.int j) = some (.int (i - j)) := (rfl)
@[simp] theorem ty_non : tyD hp .non = some "NoneType" := (rfl)
@[simp] theorem ty_bl (b : Bool) : tyD hp (.bl b) = some "bool" := (rfl)
@[simp] theorem ty_int (b : Int) : tyD hp (.int b) = some "int" := (rfl)
@[simp] theorem ty_str (b : Str) : tyD hp (.str b) = some "str" := (rfl)
@[simp] theorem ty_tup (b : List D) : tyD hp (.tup b) = some "tuple" := (rfl)
@[simp] theorem ty_lst (b : List D) : tyD hp (.lst b) = some "list" := (rfl)
@[simp] theorem ty_sq (b : List D) : tyD hp (.sq b) = some "list" := (rfl)
@[simp] theorem then_rt (d : D) (k : EnvI → HpI → SOut) : (SOut.rt d hp).andThen k = .rt d hp := (rfl)
@[simp] theorem then_bk (k : EnvI → HpI → SOut) : (SOut.bk env hp).andThen k = .bk env hp := (rfl)
@[simp] theorem then_ct (k : EnvI → HpI → SOut) : (SOut.ct env hp).andThen k = .ct env hp := (rfl)
@[simp] theorem out_rt (d : D) : outOf (.rt d hp) = .ok d hp := (rfl)
@[simp] theorem out_nx : outOf (.nx env hp) = .ok .non hp := (rfl)
@[simp] theorem thS_ok {α : Type} (a : α) (k : α → HpI → SOut) : (Out.ok a hp).thenS env k = k a hp := (rfl)
@[simp] theorem opt_map_some {α β : Type} (f : α → β) (a : α) : Option.map f (some a) = some (f a) := (rfl)
@[simp] theorem isTy_ii : isTy "int" "int" = true := (rfl)
@[simp] theorem isTy_bi : isTy "bool" "int" = true := (rfl)
@[simp] theorem isTy_bb : isTy "bool" "bool" = true := (rfl)
@[simp] theorem isTy_ib : isTy "int" "bool" = false := by decide
@[simp] theorem isTy_tt : isTy "tuple" "tuple" = true := by decide
@[simp] theorem isTy_ll : isTy "list" "list" = true := by decide
@[simp] theorem isTy_tl : isTy "tuple" "list" = false := by decide
@[simp] theorem isTy_lt : isTy "list" "tuple" = false := by decide
@[simp] theorem isTy_ti : isTy "tuple" "int" = false := by decide
@[simp] theorem isTy_tb : isTy "tuple" "bool" = false := by decide
@[simp] theorem isTy_li : isTy "list" "int" = false := by decide
@[simp] theorem isTy_lb : isTy "list" "bool" = false := by decide
@[simp] theorem isTy_it : isTy "int" "tuple" = false := by decide
@[simp] theorem isTy_il : isTy "int" "list" = false := by decide
@[simp] theorem isTy_bt : isTy "bool" "tuple" = false := by decide
@[simp] theorem isTy_bl : isTy "bool" "list" = false := by decide
@[simp] theorem isTy_ss : isTy "str" "str" = true := by decide
@[simp] theorem isTy_si : isTy "str" "int" = false := by decide
@[simp] theorem isTy_sb : isTy "str" "bool" = false := by decide
@[simp] theorem isTy_st : isTy "str" "tuple" = false := by decide
@[simp] theorem isTy_sl : isTy "str" "list" = false := by decide
@[simp] theorem isTy_is : isTy "int" "str" = false := by decide
@[simp] theorem isTy_ts : isTy "tuple" "str" = false := by decide
@[simp] theorem isTy_ls : isTy "list" "str" = false := by decide
@[simp] theorem isTy_bs : isTy "bool" "str" = false := by decide
end
theorem small_BIG {n : Nat} (h : n < 2 ^ 250) : n < BIG := by
  rw [BIG_eq]
  exact Nat.lt_of_lt_of_le h (Nat.pow_le_pow_right (by decide) (by decide))
theorem small_BIGD {n : Nat} (h : n < 2 ^ 250) : n < BIGD := by
  rw [BIGD_eq]
  exact Nat.lt_of_lt_of_le h (Nat.pow_le_pow_right (by decide) (by decide))
theorem pg_run {pg : Pg} {wf n f : Nat} {ds : List D} {hp : HpI} {di : DefI} (h : pg.defs[f]? = some di) (hl : ds.length = di.ps.length) :
    run pg wf (n + 1) f ds hp = outOf (exs (run pg wf n) wf di.body (ds.map some ++ List.replicate (di.N.length - ds.length) none) hp) := by
  have e : fillD di ds = ds := by unfold fillD; rw [if_pos hl]
  simp only [run, h, e, if_pos hl]
mutual
theorem rb_closed {k : Nat} {hp : HpI} : ∀ (d : D), closed k d = true → rb k hp d = some d
  | .non, _ => rfl
  | .fn _, _ => rfl
  | .bl _, _ => rfl
  | .int _, _ => rfl
  | .str _, _ => rfl
  | .loc n, h => by rw [rb, if_pos (by simpa [closed] using h)]
  | .tup ds, h => by rw [closed] at h; rw [rb, rbs_closed ds h]; rfl
  | .lst ds, h => by rw [closed] at h; rw [rb, if_pos h]
  | .sq ds, h => by rw [closed] at h; rw [rb, if_pos h]
theorem rbs_closed {k : Nat} {hp : HpI} : ∀ (ds : List D), closeds k ds = true → rbs k hp ds = some ds
  | [], _ => rfl
  | d :: ds, h => by
    rw [closeds, Bool.and_eq_true] at h
    rw [rbs, rb_closed d h.1, rbs_closed ds h.2]
end
/-- a pure call of what gives closed data -/
theorem framedC {cf : CF} {f : Nat} {ds : List D} {d : D} {hp hp' : HpI} (h : cf f ds [] = .ok d hp') (hc : closeds 0 ds = true) (hd : closed 0 d = true) : framed cf (some 0) f ds hp = .ok d hp := framed0 h hc (rb_closed d hd)
/-- a pure call of what gives a fresh list -/
theorem framedL {cf : CF} {f n : Nat} {ds es : List D} {hp hp' : HpI} (h : cf f ds [] = .ok (.loc n) hp') (hn : hp'[n]? = some (.lst es)) (hc : closeds 0 ds = true) (hd : closeds 0 es = true) : framed cf (some 0) f ds hp = .ok (.lst es) hp := framed0 h hc (by simp [rb, hn, hd])
@[simp] theorem cl_non {k : Nat} : closed k .non = true := (rfl)
@[simp] theorem cl_bl {k : Nat} (b : Bool) : closed k (.bl b) = true := (rfl)
@[simp] theorem cl_int {k : Nat} (b : Int) : closed k (.int b) = true := (rfl)
@[simp] theorem cl_str {k : Nat} (b : Str) : closed k (.str b) = true := (rfl)
@[simp] theorem cl_loc {k n : Nat} : closed k (.loc n) = decide (n < k) := (rfl)
@[simp] theorem cl_tup {k : Nat} (ds : List D) : closed k (.tup ds) = closeds k ds := by rw [closed]
@[simp] theorem cl_lst {k : Nat} (ds : List D) : closed k (.lst ds) = closeds k ds := by rw [closed]
@[simp] theorem cl_sq {k : Nat} (ds : List D) : closed k (.sq ds) = closeds k ds := by rw [closed]
@[simp] theorem cls_nil {k : Nat} : closeds k [] = true := (rfl)
@[simp] theorem cls_cons {k : Nat} (d : D) (ds : List D) : closeds k (d :: ds) = (closed k d && closeds k ds) := by rw [closeds]
@[simp] theorem cls_app {k : Nat} : ∀ (ds es : List D), closeds k (ds ++ es) = (closeds k ds && closeds k es)
  | [], es => by simp
  | d :: ds, es => by rw [List.cons_append, cls_cons, cls_app ds es, cls_cons, Bool.and_assoc]
theorem cls_map {k : Nat} {α : Type} {g : α → D} (h : ∀ a, closed k (g a) = true) : ∀ (l : List α), closeds k (l.map g) = true
  | [] => rfl
  | a :: l => by rw [List.map_cons, cls_cons, h a, cls_map h l]; rfl
theorem cls_mem {k : Nat} : ∀ {ds : List D}, (∀ d ∈ ds, closed k d = true) → closeds k ds = true
  | [], _ => rfl
  | d :: ds, h => by rw [cls_cons, h d List.mem_cons_self, cls_mem fun d' hd => h d' (List.mem_cons_of_mem _ hd)]; rfl
@[simp] theorem clO {k : Nat} (ds : List D) : closedO k (.lst ds) = closeds k ds := (rfl)
end KI
namespace KI
open PySem
theorem atI_nat {ds : List D} (i : Nat) : L2.atI ds (i : Int) = ds[i]? := by
  unfold L2.atI L2.ixN
  rw [if_pos (Int.natCast_nonneg i)]
  by_cases h : (i : Int) < ds.length
  · rw [if_pos h]; rfl
  · rw [if_neg h, List.getElem?_eq_none_iff.mpr (by omega)]; rfl
@[simp] theorem atI_0 {ds : List D} : L2.atI ds 0 = ds[0]? := atI_nat 0
@[simp] theorem atI_1 {ds : List D} : L2.atI ds 1 = ds[1]? := atI_nat 1
@[simp] theorem atI_2 {ds : List D} : L2.atI ds 2 = ds[2]? := atI_nat 2
@[simp] theorem atI_3 {ds : List D} : L2.atI ds 3 = ds[3]? := atI_nat 3
@[simp] theorem atI_4 {ds : List D} : L2.atI ds 4 = ds[4]? := atI_nat 4
@[simp] theorem atI_5 {ds : List D} : L2.atI ds 5 = ds[5]? := atI_nat 5
theorem atI_int {ds : List D} {i : Int} (h0 : 0 ≤ i) : L2.atI ds i = ds[i.toNat]? := by
  obtain ⟨n, rfl⟩ := Int.eq_ofNat_of_zero_le h0
  exact atI_nat n
@[simp] theorem atI_m1 {ds : List D} : L2.atI ds (-1) = ds.getLast? := by
  unfold L2.atI L2.ixN
  rw [if_neg (by omega)]
  cases ds with
  | nil => rfl
  | cons d ds =>
    rw [if_pos (by simp only [List.length_cons]; omega), List.getLast?_eq_getElem?]
    show (d :: ds)[_]? = _
    congr 1
    simp only [List.length_cons]
    omega
end KI

namespace KI
open PySem
/-! ## 25. == of data -/
mutual
def okd : D → Nat → Bool
  | .non, _ => true
  | .bl _, _ => true
  | .int _, _ => true
  | .str s, _ => PyData.strOk s
  | .tup ds, k + 1 => okds ds k
  | .lst ds, k + 1 => okds ds k
  | .sq ds, k + 1 => okds ds k
  | _, _ => false
def okds : List D → Nat → Bool
  | [], _ => true
  | d :: ds, k => okd d k && okds ds k
end
mutual
def eqd : D → D → Bool
  | .non, .non => true
  | .bl a, .bl b => a == b
  | .bl a, .int b => (if a then 1 else 0) == b
  | .int a, .bl b => a == (if b then 1 else 0)
  | .int a, .int b => a == b
  | .str a, .str b => a == b
  | .tup a, .tup b => eqds a b
  | .lst a, .lst b => eqds a b
  | .lst a, .sq b => eqds a b
  | .sq a, .lst b => eqds a b
  | .sq a, .sq b => eqds a b
  | _, _ => false
def eqds : List D → List D → Bool
  | [], [] => true
  | a :: as, b :: bs => eqd a b && eqds as bs
  | _, _ => false
end
mutual
theorem toPy_ok : ∀ (d : D) (k : Nat), okd d k = true → ∃ p, toPy d = some p ∧ p.canLay0 = true ∧ p.depth ≤ k
  | .non, k, _ => ⟨_, rfl, rfl, Nat.zero_le _⟩
  | .bl _, k, _ => ⟨_, rfl, rfl, Nat.zero_le _⟩
  | .int _, k, _ => ⟨_, rfl, rfl, Nat.zero_le _⟩
  | .str s, k, h => ⟨_, rfl, by simpa [okd, PyData.canLay0] using h, Nat.zero_le _⟩
  | .loc n, k, h => by simp [okd] at h
  | .fn n, k, h => by simp [okd] at h
  | .tup ds, 0, h => by simp [okd] at h
  | .lst ds, 0, h => by simp [okd] at h
  | .sq ds, 0, h => by simp [okd] at h
  | .tup ds, k + 1, h => by
    obtain ⟨ps, h1, h2, h3⟩ := toPys_ok ds k (by simpa [okd] using h)
    exact ⟨.tuple ps, by rw [toPy, h1]; rfl, by simpa [PyData.canLay0] using h2, by simp only [PyData.depth]; omega⟩
  | .lst ds, k + 1, h => by
    obtain ⟨ps, h1, h2, h3⟩ := toPys_ok ds k (by simpa [okd] using h)
    exact ⟨.list ps, by rw [toPy, h1]; rfl, by simpa [PyData.canLay0] using h2, by simp only [PyData.depth]; omega⟩
  | .sq ds, k + 1, h => by
    obtain ⟨ps, h1, h2, h3⟩ := toPys_ok ds k (by simpa [okd] using h)
    exact ⟨.list ps, by rw [toPy, h1]; rfl, by simpa [PyData.canLay0] using h2, by simp only [PyData.depth]; omega⟩
theorem toPys_ok : ∀ (ds : List D) (k : Nat), okds ds k = true → ∃ ps, toPys ds = some ps ∧ PyData.canLayAll0 ps = true ∧ PyData.depthAll ps ≤ k
  | [], k, _ => ⟨[], rfl, rfl, Nat.zero_le _⟩
  | d :: ds, k, h => by
    rw [okds, Bool.and_eq_true] at h
    obtain ⟨p, h1, h2, h3⟩ := toPy_ok d k h.1
    obtain ⟨ps, g1, g2, g3⟩ := toPys_ok ds k h.2
    exact ⟨p :: ps, by rw [toPys, h1, g1], by rw [PyData.canLayAll0, h2, g2]; rfl, by simp only [PyData.depthAll]; omega⟩
end
mutual
theorem eqv_eqd : ∀ (a b : D) (p q : PyData), toPy a = some p → toPy b = some q → PyData.eqv p q = eqd a b
  | .non, b, p, q, h1, h2 => by
    cases h1
    cases b with
    | tup ds => rw [toPy, Option.map_eq_some_iff] at h2; obtain ⟨_, _, rfl⟩ := h2; rfl
    | lst ds => rw [toPy, Option.map_eq_some_iff] at h2; obtain ⟨_, _, rfl⟩ := h2; rfl
    | sq ds => rw [toPy, Option.map_eq_some_iff] at h2; obtain ⟨_, _, rfl⟩ := h2; rfl
    | _ => cases h2 <;> rfl
  | .bl x, b, p, q, h1, h2 => by
    cases h1
    cases b with
    | tup ds => rw [toPy, Option.map_eq_some_iff] at h2; obtain ⟨_, _, rfl⟩ := h2; rfl
    | lst ds => rw [toPy, Option.map_eq_some_iff] at h2; obtain ⟨_, _, rfl⟩ := h2; rfl
    | sq ds => rw [toPy, Option.map_eq_some_iff] at h2; obtain ⟨_, _, rfl⟩ := h2; rfl
    | _ => cases h2 <;> rfl
  | .int x, b, p, q, h1, h2 => by
    cases h1
    cases b with
    | tup ds => rw [toPy, Option.map_eq_some_iff] at h2; obtain ⟨_, _, rfl⟩ := h2; rfl
    | lst ds => rw [toPy, Option.map_eq_some_iff] at h2; obtain ⟨_, _, rfl⟩ := h2; rfl
    | sq ds => rw [toPy, Option.map_eq_some_iff] at h2; obtain ⟨_, _, rfl⟩ := h2; rfl
    | _ => cases h2 <;> rfl
  | .str x, b, p, q, h1, h2 => by
    cases h1
    cases b with
    | tup ds => rw [toPy, Option.map_eq_some_iff] at h2; obtain ⟨_, _, rfl⟩ := h2; rfl
    | lst ds => rw [toPy, Option.map_eq_some_iff] at h2; obtain ⟨_, _, rfl⟩ := h2; rfl
    | sq ds => rw [toPy, Option.map_eq_some_iff] at h2; obtain ⟨_, _, rfl⟩ := h2; rfl
    | _ => cases h2 <;> rfl
  | .loc n, b, p, q, h1, h2 => by cases h1
  | .fn n, b, p, q, h1, h2 => by cases h1
  | .tup xs, b, p, q, h1, h2 => by
    rw [toPy, Option.map_eq_some_iff] at h1
    obtain ⟨ps, e1, rfl⟩ := h1
    cases b with
    | tup ds =>
      rw [toPy, Option.map_eq_some_iff] at h2
      obtain ⟨qs, e2, rfl⟩ := h2
      rw [PyData.eqv, eqd]
      exact eqvs_eqds xs ds ps qs e1 e2
    | lst ds => rw [toPy, Option.map_eq_some_iff] at h2; obtain ⟨_, _, rfl⟩ := h2; rfl
    | sq ds => rw [toPy, Option.map_eq_some_iff] at h2; obtain ⟨_, _, rfl⟩ := h2; rfl
    | _ => cases h2 <;> rfl
  | .lst xs, b, p, q, h1, h2 => by
    rw [toPy, Option.map_eq_some_iff] at h1
    obtain ⟨ps, e1, rfl⟩ := h1
    cases b with
    | tup ds => rw [toPy, Option.map_eq_some_iff] at h2; obtain ⟨_, _, rfl⟩ := h2; rfl
    | lst ds =>
      rw [toPy, Option.map_eq_some_iff] at h2
      obtain ⟨qs, e2, rfl⟩ := h2
      rw [PyData.eqv, eqd]
      exact eqvs_eqds xs ds ps qs e1 e2
    | sq ds =>
      rw [toPy, Option.map_eq_some_iff] at h2
      obtain ⟨qs, e2, rfl⟩ := h2
      rw [PyData.eqv, eqd]
      exact eqvs_eqds xs ds ps qs e1 e2
    | _ => cases h2 <;> rfl
  | .sq xs, b, p, q, h1, h2 => by
    rw [toPy, Option.map_eq_some_iff] at h1
    obtain ⟨ps, e1, rfl⟩ := h1
    cases b with
    | tup ds => rw [toPy, Option.map_eq_some_iff] at h2; obtain ⟨_, _, rfl⟩ := h2; rfl
    | lst ds =>
      rw [toPy, Option.map_eq_some_iff] at h2
      obtain ⟨qs, e2, rfl⟩ := h2
      rw [PyData.eqv, eqd]
      exact eqvs_eqds xs ds ps qs e1 e2
    | sq ds =>
      rw [toPy, Option.map_eq_some_iff] at h2
      obtain ⟨qs, e2, rfl⟩ := h2
      rw [PyData.eqv, eqd]
      exact eqvs_eqds xs ds ps qs e1 e2
    | _ => cases h2 <;> rfl
theorem eqvs_eqds : ∀ (a b : List D) (p q : List PyData), toPys a = some p → toPys b = some q → PyData.eqvAll p q = eqds a b
  | [], [], p, q, h1, h2 => by cases h1; cases h2; rfl
  | [], y :: ys, p, q, h1, h2 => by
    cases h1
    rw [toPys] at h2
    split at h2 <;> cases h2
    rfl
  | x :: xs, [], p, q, h1, h2 => by
    cases h2
    rw [toPys] at h1
    split at h1 <;> cases h1
    rfl
  | x :: xs, y :: ys, p, q, h1, h2 => by
    rw [toPys] at h1 h2
    cases e1 : toPy x with
    | none => rw [e1] at h1; cases h1
    | some a =>
    cases e2 : toPys xs with
    | none => rw [e1, e2] at h1; cases h1
    | some as =>
    cases e3 : toPy y with
    | none => rw [e3] at h2; cases h2
    | some b =>
    cases e4 : toPys ys with
    | none => rw [e3, e4] at h2; cases h2
    | some bs =>
    rw [e1, e2] at h1
    rw [e3, e4] at h2
    cases h1
    cases h2
    rw [PyData.eqvAll, eqds, eqv_eqd x y _ _ e1 e3, eqvs_eqds xs ys _ _ e2 e4]
end
theorem eqD_ok {hp : HpI} {a b : D} (ha : okd a 60 = true) (hb : okd b 60 = true) : eqD hp a b = some (eqd a b) := by
  obtain ⟨p, h1, h2, h3⟩ := toPy_ok a 60 ha
  obtain ⟨q, g1, g2, g3⟩ := toPy_ok b 60 hb
  have hpa : pyD hp a = some p := by cases a <;> first | exact h1 | cases h1
  have hpb : pyD hp b = some q := by cases b <;> first | exact g1 | cases g1
  have s1 : SeqAt.shaped p = true := by unfold SeqAt.shaped; rw [h2]; simp; omega
  have s2 : SeqAt.shaped q = true := by unfold SeqAt.shaped; rw [g2]; simp; omega
  have e := eqv_eqd a b p q h1 g1
  unfold eqD
  cases hs : scalD a b with
  | none => simp only [hpa, hpb, s1, s2, and_self, if_true, e]
  | some r =>
    simp only
    rw [← e]
    cases a <;> cases b <;> simp only [scalD] at hs <;> first | (cases hs; done) | skip
    all_goals (cases h1; cases g1; cases hs; first | rfl | (simp [PyData.eqv]))
theorem s2_eq_ok {hp : HpI} {a b : D} (ha : okd a 60 = true) (hb : okd b 60 = true) : sem2 .eq a b hp = some (.bl (eqd a b), hp) := by
  show (eqD hp a b).map _ = _
  rw [eqD_ok ha hb]
  rfl
theorem s2_ne_ok {hp : HpI} {a b : D} (ha : okd a 60 = true) (hb : okd b 60 = true) : sem2 .ne a b hp = some (.bl (!eqd a b), hp) := by
  show (eqD hp a b).map _ = _
  rw [eqD_ok ha hb]
  rfl
mutual
theorem okd_up : ∀ (d : D) {k m : Nat}, okd d k = true → k ≤ m → okd d m = true
  | .non, k, m, _, _ => rfl
  | .bl _, k, m, _, _ => rfl
  | .int _, k, m, _, _ => rfl
  | .str s, k, m, h, _ => h
  | .loc n, k, m, h, _ => by simp [okd] at h
  | .fn n, k, m, h, _ => by simp [okd] at h
  | .tup ds, 0, m, h, _ => by simp [okd] at h
  | .lst ds, 0, m, h, _ => by simp [okd] at h
  | .sq ds, 0, m, h, _ => by simp [okd] at h
  | .tup ds, k + 1, m, h, hm => by
    obtain ⟨m, rfl⟩ : ∃ j, m = j + 1 := ⟨m - 1, by omega⟩
    rw [okd] at h ⊢; exact okds_up ds h (by omega)
  | .lst ds, k + 1, m, h, hm => by
    obtain ⟨m, rfl⟩ : ∃ j, m = j + 1 := ⟨m - 1, by omega⟩
    rw [okd] at h ⊢; exact okds_up ds h (by omega)
  | .sq ds, k + 1, m, h, hm => by
    obtain ⟨m, rfl⟩ : ∃ j, m = j + 1 := ⟨m - 1, by omega⟩
    rw [okd] at h ⊢; exact okds_up ds h (by omega)
theorem okds_up : ∀ (ds : List D) {k m : Nat}, okds ds k = true → k ≤ m → okds ds m = true
  | [], k, m, _, _ => rfl
  | d :: ds, k, m, h, hm => by
    rw [okds, Bool.and_eq_true] at h
    rw [okds, okd_up d h.1 hm, okds_up ds h.2 hm]
    rfl
end
theorem okds_mem {k : Nat} : ∀ {ds : List D}, (∀ d ∈ ds, okd d k = true) → okds ds k = true
  | [], _ => rfl
  | d :: ds, h => by rw [okds, h d List.mem_cons_self, okds_mem fun d' hd => h d' (List.mem_cons_of_mem _ hd)]; rfl
theorem okds_map {k : Nat} {α : Type} {g : α → D} (h : ∀ a, okd (g a) k = true) : ∀ (l : List α), okds (l.map g) k = true
  | [] => rfl
  | a :: l => by rw [List.map_cons, okds, h a, okds_map h l]; rfl
mutual
theorem eqd_self : ∀ (d : D) {k : Nat}, okd d k = true → eqd d d = true
  | .non, k, _ => rfl
  | .bl _, k, _ => by simp [eqd]
  | .int _, k, _ => by simp [eqd]
  | .str s, k, h => by simp [eqd]
  | .loc n, k, h => by simp [okd] at h
  | .fn n, k, h => by simp [okd] at h
  | .tup ds, 0, h => by simp [okd] at h
  | .lst ds, 0, h => by simp [okd] at h
  | .sq ds, 0, h => by simp [okd] at h
  | .tup ds, k + 1, h => by rw [eqd]; exact eqds_self ds (by simpa [okd] using h)
  | .lst ds, k + 1, h => by rw [eqd]; exact eqds_self ds (by simpa [okd] using h)
  | .sq ds, k + 1, h => by rw [eqd]; exact eqds_self ds (by simpa [okd] using h)
theorem eqds_self : ∀ (ds : List D) {k : Nat}, okds ds k = true → eqds ds ds = true
  | [], k, _ => rfl
  | d :: ds, k, h => by
    rw [okds, Bool.and_eq_true] at h
    rw [eqds, eqd_self d h.1, eqds_self ds h.2]
    rfl
end
@[simp] theorem okd_non {k : Nat} : okd .non k = true := (rfl)
@[simp] theorem okd_bl {k : Nat} (b : Bool) : okd (.bl b) k = true := (rfl)
@[simp] theorem okd_int {k : Nat} (b : Int) : okd (.int b) k = true := (rfl)
@[simp] theorem okd_tup {k : Nat} (ds : List D) : okd (.tup ds) (k + 1) = okds ds k := by rw [okd]
@[simp] theorem okd_lst {k : Nat} (ds : List D) : okd (.lst ds) (k + 1) = okds ds k := by rw [okd]
@[simp] theorem okd_sq {k : Nat} (ds : List D) : okd (.sq ds) (k + 1) = okds ds k := by rw [okd]
@[simp] theorem okds_nil {k : Nat} : okds [] k = true := (rfl)
@[simp] theorem okds_cons {k : Nat} (d : D) (ds : List D) : okds (d :: ds) k = (okd d k && okds ds k) := by rw [okds]
@[simp] theorem eqds_nil_nil : eqds [] [] = true := (rfl)
@[simp] theorem eqds_cons_nil (d : D) (ds : List D) : eqds (d :: ds) [] = false := (rfl)
@[simp] theorem eqds_nil_cons (d : D) (ds : List D) : eqds [] (d :: ds) = false := (rfl)
@[simp] theorem eqds_cons (d e : D) (ds es : List D) : eqds (d :: ds) (e :: es) = (eqd d e && eqds ds es) := by rw [eqds]
@[simp] theorem eqd_tup (ds es : List D) : eqd (.tup ds) (.tup es) = eqds ds es := by rw [eqd]
@[simp] theorem eqd_lst (ds es : List D) : eqd (.lst ds) (.lst es) = eqds ds es := by rw [eqd]
@[simp] theorem eqd_int (i j : Int) : eqd (.int i) (.int j) = (i == j) := by rw [eqd]
@[simp] theorem okd_str {k : Nat} (b : Str) : okd (.str b) k = PyData.strOk b := (rfl)
@[simp] theorem closed_fn {k j : Nat} : closed k (.fn j) = true := (rfl)
@[simp] theorem blsOf_nil : blsOf [] = some [] := (rfl)
@[simp] theorem blsOf_cons (b : Bool) (ds : List D) : blsOf (.bl b :: ds) = (blsOf ds).map (b :: ·) := (rfl)
@[simp] theorem blsOf_map {α : Type} (f : α → Bool) : ∀ (l : List α), blsOf (l.map fun a => D.bl (f a)) = some (l.map f)
  | [] => rfl
  | a :: l => by simp [blsOf_map f l]
@[simp] theorem semB_all (ds : List D) (hp : HpI) : semB .all [.lst ds] hp = (blsOf ds).map fun bs => (.bl (bs.all id), hp) := (rfl)
@[simp] theorem semB_any (ds : List D) (hp : HpI) : semB .any [.lst ds] hp = (blsOf ds).map fun bs => (.bl (bs.any id), hp) := (rfl)
theorem intsOf_map {α : Type} (f : α → Int) : ∀ (l : List α), intsOf (l.map fun a => D.int (f a)) = some (l.map f)
  | [] => rfl
  | a :: l => by simp only [List.map_cons, intsOf, intsOf_map f l]; rfl
theorem sum_map {α : Type} {hp : HpI} (f : α → Int) (l : List α) : semB .sum [.lst (l.map fun a => D.int (f a))] hp = some (.int (l.map f).sum, hp) := by
  simp [semB, lstOf, lst0, intsOf_map]
end KI

namespace KI
open PySem
/-! ## 26. what all the laws share -/
def bStart : Ss := (.cons (.asg (.name 1) (.cst (.int 1))) <|
  .cons (.for_ (.name 2) (.seq (.var 0)) (.cons (.asg (.name 1) (.op2 .mod (.op2 (.add false) (.op2 (.add false) (.op2 (.mul false) (.var 1) (.cst (.int 48271))) (.var 2)) (.cst (.int 7))) (.cst (.int 2147483647)))) <|
    .nil)) <|
  .cons (.ret (.lst true (.cons (.var 0) (.cons (.cst (.int 0)) (.cons (.var 1) (.cons (.cst (.int 0)) (.nil))))))) <|
  .nil)
def bDrawn : Ss := (.cons (.ife (.cmp .gt (.op2 .ix (.var 0) (.cst (.int 3))) (.cst (.int 0))) (.cons (.asg (.name 2) (.op2 .mod (.op2 .ix (.var 0) (.cst (.int 3))) (.var 1))) <|
    .cons (.asg (.sub (.var 0) (.cst (.int 3))) (.op2 .fdiv (.op2 .ix (.var 0) (.cst (.int 3))) (.var 1))) <|
    .cons (.ret (.var 2)) <|
    .nil) .nil) <|
  .cons (.asg (.sub (.var 0) (.cst (.int 1))) (.op2 (.add false) (.op2 .ix (.var 0) (.cst (.int 1))) (.cst (.int 1)))) <|
  .cons (.ife (.cmp .le (.op2 .ix (.var 0) (.cst (.int 1))) (.bi .len (.cons (.op2 .ix (.var 0) (.cst (.int 0))) (.nil)))) (.cons (.asg (.name 3) (.op2 .ix (.op2 .ix (.var 0) (.cst (.int 0))) (.op2 .sub (.op2 .ix (.var 0) (.cst (.int 1))) (.cst (.int 1))))) <|
    .cons (.asg (.sub (.var 0) (.cst (.int 3))) (.ife (.cmp .ge (.var 3) (.op2 .pow (.cst (.int 10)) (.cst (.int 18)))) (.op2 .fdiv (.var 3) (.var 1)) (.cst (.int 0)))) <|
    .cons (.ret (.op2 .mod (.var 3) (.var 1))) <|
    .nil) .nil) <|
  .cons (.asg (.sub (.var 0) (.cst (.int 2))) (.op2 .mod (.op2 (.add false) (.op2 (.mul false) (.op2 .ix (.var 0) (.cst (.int 2))) (.cst (.int 48271))) (.cst (.int 11))) (.cst (.int 2147483647)))) <|
  .cons (.ret (.op2 .mod (.op2 .fdiv (.op2 .ix (.var 0) (.cst (.int 2))) (.cst (.int 7))) (.var 1))) <|
  .nil)
/-- the law's state, an object: the script, how many are drawn, the mixed number, what is left of a great one -/
def StO (ns : List Int) (o : O) : Prop := ∃ i m l : Int, 0 ≤ i ∧ 0 ≤ m ∧ m < 2147483647 ∧ o = .lst [.sq (ns.map D.int), .int i, .int m, .int l]
theorem cls_ints {k : Nat} (ns : List Int) : closeds k (ns.map D.int) = true := cls_map (fun a => rfl) ns
theorem StO.closed {ns : List Int} {o : O} (h : StO ns o) {k : Nat} : closedO k o = true := by
  obtain ⟨i, m, l, _, _, _, rfl⟩ := h
  simp [cls_ints]
@[simp] theorem ix_loc {n : Nat} {i : Int} {hp : HpI} : sem2 .ix (.loc n) (.int i) hp = match hp[n]? with | some (.lst ds) => (L2.atI ds i).map fun d => (d, hp) | _ => none := by
  rw [s2_ix _ _ (fun z e => by cases e)]
  simp only [seqOf, lstOf, lst0]
  all_goals (rcases q : hp[n]? with _ | o)
  all_goals first | rfl | (cases o <;> rfl)
@[simp] theorem setIx_loc {n : Nat} {i : Int} {d : D} {hp : HpI} : setIx (.loc n) (.int i) d hp = match hp[n]? with | some (.lst xs) => (L2.ixN xs.length i).map fun j => hp.set n (.lst (xs.set j d)) | _ => none := by
  simp only [setIx]
  all_goals (rcases q : hp[n]? with _ | o)
  all_goals first | rfl | (cases o <;> rfl)
@[simp] theorem ixN_0 {n : Nat} : L2.ixN (n + 1) 0 = some 0 := by simp [L2.ixN] <;> omega
@[simp] theorem ixN_1 {n : Nat} : L2.ixN (n + 2) 1 = some 1 := by simp [L2.ixN]; omega
@[simp] theorem ixN_2 {n : Nat} : L2.ixN (n + 3) 2 = some 2 := by simp [L2.ixN]; omega
@[simp] theorem ixN_3 {n : Nat} : L2.ixN (n + 4) 3 = some 3 := by simp [L2.ixN]; omega
@[simp] theorem s2_powI {i j : Int} {hp : HpI} : sem2 .pow (.int i) (.int j) hp = if 0 ≤ j ∧ j ≤ 1000000 ∧ i.natAbs < 2 ^ 64 then some (.int (i ^ j.toNat), hp) else none := rfl
section
variable {pg : Pg} {wf n f : Nat}
theorem drawn_run {x : Str} {ps : List Str} {dfl : List (Str × D)} (hd : pg.defs[f]? = some ⟨x, ["_law_state", "_law_many"], ["_law_state", "_law_many", "_law_found", "_law_cell"], dfl, bDrawn, false⟩) {ns : List Int} {o : O} {many : Int} (hm : 0 < many) (hb : many < 2 ^ 200) (h : StO ns o) :
    ∃ r o', run pg wf (n + 1) f [.loc 0, .int many] [o] = .ok (.int r) [o'] ∧ 0 ≤ r ∧ r < many ∧ StO ns o' := by
  obtain ⟨i, m, l, hi, hm0, hm1, rfl⟩ := h
  have e : run pg wf (n + 1) f [.loc 0, .int many] [.lst [.sq (ns.map D.int), .int i, .int m, .int l]] = outOf (exs (run pg wf n) wf bDrawn [some (.loc 0), some (.int many), none, none] [.lst [.sq (ns.map D.int), .int i, .int m, .int l]]) := pg_run hd rfl
  rw [e]
  have hB : many.natAbs < BIGD := small_BIGD (by omega)
  have mB : m.natAbs < BIG := small_BIG (by omega)
  have cB : (48271 : Nat) < BIG := small_BIG (by omega)
  have sB : (7 : Nat) < BIGD := small_BIGD (by omega)
  have r0 := fun x : Int => Int.emod_nonneg x (b := many) (by omega)
  have r1 := fun x : Int => Int.emod_lt_of_pos x hm
  by_cases c1 : 0 < l
  · simp [bDrawn, c1, hm, hB]
    exact ⟨_, _, ⟨rfl, rfl⟩, r0 _, r1 _, i, m, _, hi, hm0, hm1, rfl⟩
  · by_cases c2 : i + 1 ≤ ns.length
    · have hj : L2.atI (ns.map D.int) i = some (.int (ns[i.toNat]'(by omega))) := by
        rw [atI_int hi, List.getElem?_map, List.getElem?_eq_getElem (by omega)]
        rfl
      generalize ns[i.toNat]'(by omega) = cell at hj
      by_cases c3 : (1000000000000000000 : Int) ≤ cell
      · simp [bDrawn, c1, c2, hm, hB, hj, c3]
        exact ⟨_, _, ⟨rfl, rfl⟩, r0 _, r1 _, i + 1, m, _, by omega, hm0, hm1, rfl⟩
      · simp [bDrawn, c1, c2, hm, hB, hj, c3]
        exact ⟨_, _, ⟨rfl, rfl⟩, r0 _, r1 _, i + 1, m, _, by omega, hm0, hm1, rfl⟩
    · simp [bDrawn, c1, c2, hm, hB, mB, cB, sB]
      exact ⟨_, _, ⟨rfl, rfl⟩, r0 _, r1 _, i + 1, _, l, by omega, Int.emod_nonneg _ (by omega), Int.emod_lt_of_pos _ (by omega), rfl⟩
/-- a draw, the state the first object -/
theorem drawn_ok {x : Str} {dfl : List (Str × D)} (hd : pg.defs[f]? = some ⟨x, ["_law_state", "_law_many"], ["_law_state", "_law_many", "_law_found", "_law_cell"], dfl, bDrawn, false⟩) {ns : List Int} {o : O} {many : Int} (hm : 0 < many) (hb : many < 2 ^ 200) (h : StO ns o) :
    ∃ r o', (∀ rest, framed (run pg wf (n + 1)) (some 1) f [.loc 0, .int many] (o :: rest) = .ok (.int r) (o' :: rest)) ∧ 0 ≤ r ∧ r < many ∧ StO ns o' := by
  obtain ⟨r, o', e, h1, h2, h3⟩ := drawn_run (wf := wf) (n := n) (ps := []) hd hm hb h
  refine ⟨r, o', fun rest => ?_, h1, h2, h3⟩
  simp [framed, e, h.closed, h3.closed, rb]
theorem start_ok {x : Str} {dfl : List (Str × D)} (hd : pg.defs[f]? = some ⟨x, ["_law_script"], ["_law_script", "_law_mixed", "_law_cell"], dfl, bStart, false⟩) (ns : List Int) :
    ∃ o, run pg wf (n + 1) f [.sq (ns.map D.int)] [] = .ok (.loc 0) [o] ∧ StO ns o := by
  have e : run pg wf (n + 1) f [.sq (ns.map D.int)] [] = outOf (exs (run pg wf n) wf bStart [some (.sq (ns.map D.int)), none, none] []) := pg_run hd rfl
  rw [e]
  have q : Sat (outOf (exs (run pg wf n) wf bStart [some (.sq (ns.map D.int)), none, none] [])) (fun _ _ => False) fun d hp => ∃ o, d = .loc 0 ∧ hp = [o] ∧ StO ns o := by
    have cB : (48271 : Nat) < BIG := small_BIG (by omega)
    simp [bStart]
    obtain ⟨I, hI⟩ : ∃ I : List D → EnvI → HpI → Prop, ∀ ds env h, I ds env h ↔ ∃ (r : List Int) (m : Int) (a : Option D), ds = r.map D.int ∧ 0 ≤ m ∧ m < 2147483647 ∧ env = [some (.sq (ns.map D.int)), some (.int m), a] ∧ h = [] := ⟨_, fun _ _ _ => Iff.rfl⟩
    refine ssat_for I _ _ _ ((hI _ _ _).mpr ⟨ns, 1, none, rfl, by omega, by omega, rfl, rfl⟩) ?_ ?_
    · intro d ds env h hh
      obtain ⟨r, m, a, e, h0, h1, rfl, rfl⟩ := (hI _ _ _).mp hh
      cases r with
      | nil => cases e
      | cons z r =>
        cases e
        have mB : m.natAbs < BIG := small_BIG (by omega)
        simp [mB, cB]
        rw [hI]
        exact ⟨r, _, _, rfl, Int.emod_nonneg _ (by omega), Int.emod_lt_of_pos _ (by omega), rfl, rfl⟩
    · intro env h hh
      obtain ⟨r, m, a, e, h0, h1, rfl, rfl⟩ := (hI _ _ _).mp hh
      simp
      exact ⟨by decide, 0, m, 0, by omega, h0, h1, rfl⟩
  obtain ⟨d, hp, e, o, rfl, rfl, h⟩ := ex_of_sat q
  exact ⟨o, e, h⟩
end
end KI

namespace KI
open PySem
/-! ## 27. the laws' comparison: of like data it tells True -/
def bSame (f : Nat) : Ss := (.cons (.ife (.val (.isiT (.var 1) ["tuple", "list"])) (.cons (.ife (.or (.cons (.not (.val (.isiT (.var 0) ["tuple", "list"]))) (.one (.cmp .ne (.isi (.var 0) "list") (.isi (.var 1) "list"))))) (.cons (.ret (.cst (.bl false))) <|
      .nil) .nil) <|
    .cons (.ife (.cmp .ne (.bi .len (.cons (.var 0) (.nil))) (.bi .len (.cons (.var 1) (.nil)))) (.cons (.ret (.cst (.bl false))) <|
      .nil) .nil) <|
    .cons (.ret (.op2 .eq (.comp false (.var 3) (.name 3) (.rng1 (.bi .len (.cons (.var 1) (.nil)))) (.some (.not (.val (.call (some 0) f (.cons (.op2 .ix (.var 0) (.var 3)) (.cons (.op2 .ix (.var 1) (.var 3)) (.nil))))))) [3]) (.lst false .nil))) <|
    .nil) .nil) <|
  .cons (.asg (.name 2) (.andE (.cons (.op2 .eq (.isi (.var 0) "bool") (.isi (.var 1) "bool")) (.cons (.op2 .eq (.isi (.var 0) "int") (.isi (.var 1) "int")) (.nil))))) <|
  .cons (.ret (.andE (.cons (.var 2) (.cons (.op2 .eq (.var 0) (.var 1)) (.nil))))) <|
  .nil)
theorem rng_mem : ∀ (n : Nat) (lo : Int) (d : D), d ∈ rngD lo n → ∃ i : Nat, i < n ∧ d = .int (lo + i)
  | 0, _, d, h => by simp [rngD] at h
  | n + 1, lo, d, h => by
    simp only [rngD, List.mem_cons] at h
    rcases h with rfl | h
    · exact ⟨0, by omega, by simp⟩
    · obtain ⟨i, hi, rfl⟩ := rng_mem n (lo + 1) d h
      exact ⟨i + 1, by omega, by congr 1; omega⟩
theorem rng_ok {m : Nat} {hp : HpI} (h : m ≤ sizeLine) : ivRng 0 (m : Int) hp = some (⟨rngD 0 m, none⟩, hp) := by
  have : m ≤ 16777216 := Nat.le_trans h (by rw [sizeLine_eq]; decide)
  unfold ivRng
  rw [if_pos ⟨⟨by omega, by omega, by omega, by omega⟩, by simpa using h⟩]
  simp
mutual
def sameOk : D → Nat → Bool
  | .non, _ => true
  | .bl _, _ => true
  | .int _, _ => true
  | .str _, _ => true
  | .tup ds, k + 1 => decide (ds.length ≤ sizeLine) && sameOks ds k
  | .lst ds, k + 1 => decide (ds.length ≤ sizeLine) && sameOks ds k
  | _, _ => false
def sameOks : List D → Nat → Bool
  | [], _ => true
  | d :: ds, k => sameOk d k && sameOks ds k
end
theorem sameOks_mem : ∀ {ds : List D} {k : Nat}, sameOks ds k = true → ∀ d ∈ ds, sameOk d k = true
  | [], k, _, d, h => by simp at h
  | e :: ds, k, h, d, hd => by
    rw [sameOks, Bool.and_eq_true] at h
    rcases List.mem_cons.mp hd with rfl | hd
    · exact h.1
    · exact sameOks_mem h.2 d hd
mutual
theorem sameOk_closed {c : Nat} : ∀ (d : D) (k : Nat), sameOk d k = true → closed c d = true
  | .non, _, _ => rfl
  | .bl _, _, _ => rfl
  | .int _, _, _ => rfl
  | .str _, _, _ => rfl
  | .tup ds, 0, h => by simp [sameOk] at h
  | .lst ds, 0, h => by simp [sameOk] at h
  | .tup ds, k + 1, h => by rw [sameOk, Bool.and_eq_true] at h; rw [closed]; exact sameOks_closed ds k h.2
  | .lst ds, k + 1, h => by rw [sameOk, Bool.and_eq_true] at h; rw [closed]; exact sameOks_closed ds k h.2
  | .sq ds, 0, h => by simp [sameOk] at h
  | .sq ds, k + 1, h => by simp [sameOk] at h
  | .loc _, _, h => by simp [sameOk] at h
  | .fn _, _, h => by simp [sameOk] at h
theorem sameOks_closed {c : Nat} : ∀ (ds : List D) (k : Nat), sameOks ds k = true → closeds c ds = true
  | [], _, _ => rfl
  | d :: ds, k, h => by
    rw [sameOks, Bool.and_eq_true] at h
    rw [closeds, sameOk_closed d k h.1, sameOks_closed ds k h.2]
    rfl
end
section
variable {pg : Pg} {wf f : Nat}
theorem same_list {cf : CF} {c : Nat} (hp : HpI) (mk : List D → D) (hmk : ∀ ds, mk ds = .tup ds ∨ mk ds = .lst ds) (ds : List D) (hz : ds.length ≤ sizeLine) (h : ∀ d ∈ ds, ∀ hp, framed cf (some 0) f [d, d] hp = .ok (.bl true) hp) :
    exs cf wf (bSame f) [some (mk ds), some (mk ds), none, none] hp = .rt (.bl true) hp := by
  have hsq : seqOf hp (mk ds) = some ds := by rcases hmk ds with e | e <;> rw [e] <;> rfl
  have hix : ∀ (i : Nat) (hi : i < ds.length), sem2 .ix (mk ds) (.int i) hp = some (ds[i], hp) := by
    intro i hi
    rw [s2_ix _ _ (fun z e => by rcases hmk ds with e2 | e2 <;> rw [e2] at e <;> cases e), hsq]
    simp only [atI_nat, List.getElem?_eq_getElem hi]
    rfl
  have hlen : semB .len [mk ds] hp = some (.int ds.length, hp) := by rcases hmk ds with e | e <;> rw [e] <;> rfl
  have hcomp : ev cf (.comp false (.var 3) (.name 3) (.rng1 (.bi .len (.cons (.var 1) (.nil)))) (.some (.not (.val (.call (some 0) f (.cons (.op2 .ix (.var 0) (.var 3)) (.cons (.op2 .ix (.var 1) (.var 3)) (.nil))))))) [3]) [some (mk ds), some (mk ds), none, none] hp = .ok (.lst []) hp := by
    rw [ev_comp]
    have e1 : iv cf (.rng1 (.bi .len (.cons (.var 1) (.nil)))) [some (mk ds), some (mk ds), none, none] hp = .ok ⟨rngD 0 ds.length, none⟩ hp := by
      simp only [iv_rng1, ev_bi, evs_cons, evs_nil, ev_v1, Out.bind_ok, hlen, ofOpt_some]
      rw [rng_ok hz, ofOpt_some]
    rw [e1, Out.bind_ok]
    rw [comp_pure (fun _ => none) rfl]
    · simp
    · intro d hd
      obtain ⟨i, hi, rfl⟩ := rng_mem _ _ _ hd
      have := h ds[i] (List.getElem_mem hi) hp
      simp [wipeE, hix i hi, this]
  have hq : sem2 .eq (.lst []) (.lst []) hp = some (.bl true, hp) := s2_eq_ok rfl rfl
  rcases hmk ds with e | e
  · rw [e] at hcomp hlen ⊢
    simp [bSame, -ev_comp, hcomp, hlen, hq]
  · rw [e] at hcomp hlen ⊢
    simp [bSame, -ev_comp, hcomp, hlen, hq]
theorem same_self {x n1 n2 n3 n4 : Str} {dfl : List (Str × D)} (hd : pg.defs[f]? = some ⟨x, [n1, n2], [n1, n2, n3, n4], dfl, bSame f, false⟩) :
    ∀ (k n : Nat) (d : D) (hp : HpI), sameOk d k = true → run pg wf (n + k + 1) f [d, d] hp = .ok (.bl true) hp := by
  intro k
  induction k with
  | zero =>
    intro n d hp h
    have e : run pg wf (n + 0 + 1) f [d, d] hp = outOf (exs (run pg wf n) wf (bSame f) [some d, some d, none, none] hp) := pg_run hd rfl
    rw [e]
    cases d <;> first | (simp [sameOk] at h; done) | skip
    all_goals simp [bSame, sem2, eqD, scalD, isTy]
  | succ k ih =>
    intro n d hp h
    have e : run pg wf (n + (k + 1) + 1) f [d, d] hp = outOf (exs (run pg wf (n + k + 1)) wf (bSame f) [some d, some d, none, none] hp) := pg_run hd rfl
    rw [e]
    have key : ∀ ds, sameOks ds k = true → ∀ d ∈ ds, ∀ hp, framed (run pg wf (n + k + 1)) (some 0) f [d, d] hp = .ok (.bl true) hp := fun ds hs d hd hp =>
      framedC (ih n d [] (sameOks_mem hs d hd)) (by have := sameOk_closed (c := 0) d k (sameOks_mem hs d hd); simp [this]) rfl
    cases d with
    | tup ds =>
      rw [sameOk, Bool.and_eq_true, decide_eq_true_eq] at h
      rw [same_list (c := 0) hp .tup (fun _ => .inl rfl) ds h.1 (key ds h.2)]
      rfl
    | lst ds =>
      rw [sameOk, Bool.and_eq_true, decide_eq_true_eq] at h
      rw [same_list (c := 0) hp .lst (fun _ => .inr rfl) ds h.1 (key ds h.2)]
      rfl
    | sq ds => simp [sameOk] at h
    | loc n => simp [sameOk] at h
    | fn n => simp [sameOk] at h
    | _ => simp [bSame, sem2, eqD, scalD, isTy]
theorem same_ok {x n1 n2 n3 n4 : Str} {dfl : List (Str × D)} (hd : pg.defs[f]? = some ⟨x, [n1, n2], [n1, n2, n3, n4], dfl, bSame f, false⟩) (k n : Nat) (d : D) (hp : HpI) (h : sameOk d k = true) :
    framed (run pg wf (n + k + 1)) (some 0) f [d, d] hp = .ok (.bl true) hp := framedC (same_self hd k n d [] h) (by simp [sameOk_closed (c := 0) d k h]) rfl
end
/-! slices, ranges -/
theorem rng_int {j : Int} {hp : HpI} (h0 : 0 ≤ j) (h1 : j ≤ 1000000) : ivRng 0 j hp = some (⟨rngD 0 j.toNat, none⟩, hp) := by
  obtain ⟨m, rfl⟩ := Int.eq_ofNat_of_zero_le h0
  exact rng_ok (Nat.le_trans (by omega : m ≤ 1000000) (by rw [sizeLine_eq]; decide))
theorem rng_int2 {i j : Int} {hp : HpI} (h0 : -1000000 ≤ i) (h2 : i ≤ 1000000) (h3 : -1000000 ≤ j) (h1 : j ≤ 1000000) : ivRng i j hp = some (⟨rngD i (j - i).toNat, none⟩, hp) := by
  unfold ivRng
  rw [if_pos ⟨⟨by omega, by omega, by omega, by omega⟩, Nat.le_trans (by omega : _ ≤ 2000000) (by rw [sizeLine_eq]; decide)⟩]
theorem cut_take {xs : List D} {r : Int} (h : 0 ≤ r) : cutD xs none (some r) = xs.take r.toNat := by
  obtain ⟨m, rfl⟩ := Int.eq_ofNat_of_zero_le h
  unfold cutD
  rw [HT.sIx_none, HT.sIx_nat]
  simp
theorem cut_drop {xs : List D} {r : Int} (h : 0 ≤ r) : cutD xs (some r) none = xs.drop r.toNat := by
  obtain ⟨m, rfl⟩ := Int.eq_ofNat_of_zero_le h
  unfold cutD
  rw [HT.sIx_none, HT.sIx_nat]
  rw [List.take_of_length_le (by rw [List.length_drop]; exact Nat.le_refl _)]
  show xs.drop (min m xs.length) = xs.drop m
  by_cases h : m ≤ xs.length
  · rw [Nat.min_eq_left h]
  · rw [Nat.min_eq_right (by omega), List.drop_eq_nil_of_le (Nat.le_refl _), List.drop_eq_nil_of_le (by omega)]
@[simp] theorem sl_tup {m : Bool} {xs : List D} {lo hi : Option Int} {hp : HpI} : semSl m (.tup xs) lo hi hp = some (.tup (cutD xs lo hi), hp) := (rfl)
@[simp] theorem sl_lst {m : Bool} {xs : List D} {lo hi : Option Int} {hp : HpI} : semSl m (.lst xs) lo hi hp = some (mkL m (cutD xs lo hi) hp) := (rfl)
end KI

namespace KI
open PySem
/-! ## 28. comprehensions over what is a map -/
section
variable {hp : HpI}
theorem compL_map {α : Type} {ck : HpI → Bool} {f : D → HpI → Out (Option D)} (u v : α → D) (hc : ck hp = true) : ∀ (l : List α) (acc : List D), (∀ a ∈ l, f (u a) hp = .ok (some (v a)) hp) → compL ck f (l.map u) hp acc = .ok (acc ++ l.map v) hp
  | [], acc, _ => by simp [compL, hc]
  | a :: l, acc, h => by
    simp only [compL, hc, if_true, List.map_cons, h a List.mem_cons_self]
    rw [compL_map u v hc l _ fun b hb => h b (List.mem_cons_of_mem _ hb)]
    simp
theorem compL_filter {α : Type} {ck : HpI → Bool} {f : D → HpI → Out (Option D)} (u v : α → D) (p : α → Bool) (hc : ck hp = true) : ∀ (l : List α) (acc : List D), (∀ a ∈ l, f (u a) hp = .ok (if p a then some (v a) else none) hp) → compL ck f (l.map u) hp acc = .ok (acc ++ (l.filter p).map v) hp
  | [], acc, _ => by simp [compL, hc]
  | a :: l, acc, h => by
    simp only [compL, hc, if_true, List.map_cons, h a List.mem_cons_self]
    have ih := fun acc => compL_filter u v p hc l acc fun b hb => h b (List.mem_cons_of_mem _ hb)
    cases hp : p a with
    | true => simp [ih, hp]
    | false => simp [ih, hp]
theorem compL_mapD {ck : HpI → Bool} {f : D → HpI → Out (Option D)} (v : D → D) (hc : ck hp = true) (l acc : List D) (h : ∀ a ∈ l, f a hp = .ok (some (v a)) hp) : compL ck f l hp acc = .ok (acc ++ l.map v) hp := by
  have := compL_map (hp := hp) (ck := ck) (f := f) (fun d : D => d) v hc l acc h
  simpa using this
theorem compL_filterD {ck : HpI → Bool} {f : D → HpI → Out (Option D)} (v : D → D) (p : D → Bool) (hc : ck hp = true) (l acc : List D) (h : ∀ a ∈ l, f a hp = .ok (if p a then some (v a) else none) hp) : compL ck f l hp acc = .ok (acc ++ (l.filter p).map v) hp := by
  have := compL_filter (hp := hp) (ck := ck) (f := f) (fun d : D => d) v p hc l acc h
  simpa using this
theorem compO_map {α : Type} {ck : HpI → Bool} {f : D → HpI → List D → Out (List D)} (u : α → D) (v : α → List D) (hc : ck hp = true) : ∀ (l : List α) (acc : List D), (∀ a ∈ l, ∀ acc, acc.length + (v a).length ≤ sizeLine → f (u a) hp acc = .ok (acc ++ v a) hp) → (acc ++ l.flatMap v).length ≤ sizeLine → compO ck f (l.map u) hp acc = .ok (acc ++ l.flatMap v) hp
  | [], acc, _, _ => by simp [compO, hc]
  | a :: l, acc, h, hz => by
    have hz' : (acc ++ v a ++ l.flatMap v).length ≤ sizeLine := by simpa [List.flatMap_cons] using hz
    have ha : acc.length + (v a).length ≤ sizeLine := by simp at hz'; omega
    simp only [compO, hc, if_true, List.map_cons, h a List.mem_cons_self acc ha]
    rw [compO_map u v hc l _ (fun b hb => h b (List.mem_cons_of_mem _ hb)) hz']
    simp
theorem zipD_map {α : Type} (u : α → D) : ∀ (l m : List α), zipD (l.map u) (m.map u) = (l.zip m).map fun p => .tup [u p.1, u p.2]
  | [], m => by cases m <;> simp [zipD]
  | a :: l, [] => by simp [zipD]
  | a :: l, b :: m => by simp [zipD, zipD_map u l m]
theorem rngD_map : ∀ (n : Nat) (lo : Int), rngD lo n = (List.range n).map fun (i : Nat) => .int (lo + i)
  | 0, _ => rfl
  | n + 1, lo => by
    rw [rngD, rngD_map n (lo + 1), List.range_succ_eq_map, List.map_cons, List.map_map]
    simp
    intro a ha
    omega
theorem eqD_loc {hp : HpI} {n : Nat} {ds : List D} {b : D} (h : hp[n]? = some (.lst ds)) : eqD hp (.loc n) b = eqD hp (.lst ds) b := by
  have e1 : scalD (.loc n) b = none := by cases b <;> rfl
  have e2 : scalD (.lst ds) b = none := by cases b <;> rfl
  have e3 : pyD hp (.loc n) = pyD hp (.lst ds) := by
    show (match hp[n]? with | some (.lst ds) => (toPys ds).map PyData.list | _ => none) = (toPys ds).map PyData.list
    rw [h]
  unfold eqD
  rw [e1, e2, e3]
theorem s2_eq_loc {hp : HpI} {n : Nat} {ds : List D} {b : D} (h : hp[n]? = some (.lst ds)) (h1 : okds ds 59 = true) (h2 : okd b 60 = true) : sem2 .eq (.loc n) b hp = some (.bl (eqd (.lst ds) b), hp) := by
  show (eqD hp (.loc n) b).map _ = _
  rw [eqD_loc h, eqD_ok (by rw [okd_lst]; exact h1) h2]
  rfl
theorem s2_ne_loc {hp : HpI} {n : Nat} {ds : List D} {b : D} (h : hp[n]? = some (.lst ds)) (h1 : okds ds 59 = true) (h2 : okd b 60 = true) : sem2 .ne (.loc n) b hp = some (.bl (!eqd (.lst ds) b), hp) := by
  show (eqD hp (.loc n) b).map _ = _
  rw [eqD_loc h, eqD_ok (by rw [okd_lst]; exact h1) h2]
  rfl
end
@[simp] theorem semB_int_bl (b : Bool) (hp : HpI) : semB .int [.bl b] hp = some (.int (if b then 1 else 0), hp) := (rfl)
@[simp] theorem semB_int_int (i : Int) (hp : HpI) : semB .int [.int i] hp = some (.int i, hp) := (rfl)
/-! how many different numbers -/
theorem dedup_len (is : List Int) : ∀ acc : List Int, acc.Nodup → ((is.foldl PyProof.Rows.step_dedup acc).length ≤ acc.length + is.length ∧ ((is.foldl PyProof.Rows.step_dedup acc).length = acc.length + is.length ↔ (acc ++ is).Nodup)) := by
  induction is with
  | nil => intro acc h; simpa using h
  | cons i is ih =>
    intro acc h
    by_cases hm : i ∈ acc
    · have e : PyProof.Rows.step_dedup acc i = acc := by
        unfold PyProof.Rows.step_dedup
        rw [if_pos (by simpa using hm)]
      rw [List.foldl_cons, e]
      obtain ⟨h1, h2⟩ := ih acc h
      refine ⟨by simp; omega, ⟨fun z => by simp at z; omega, fun z => ?_⟩⟩
      have := (List.nodup_append.mp z).2.2 i hm i List.mem_cons_self
      exact absurd rfl this
    · have e : PyProof.Rows.step_dedup acc i = acc ++ [i] := by
        unfold PyProof.Rows.step_dedup
        rw [if_neg (by simpa using hm)]
      have hn : (acc ++ [i]).Nodup := List.nodup_append.mpr ⟨h, by simp, fun a ha b hb => by
        rw [List.mem_singleton.mp hb]
        exact fun z => hm (z ▸ ha)⟩
      rw [List.foldl_cons, e]
      obtain ⟨h1, h2⟩ := ih _ hn
      rw [List.append_assoc, List.cons_append, List.nil_append, List.length_append, List.length_singleton] at h2
      rw [List.length_append, List.length_singleton] at h1
      refine ⟨by simp; omega, ?_⟩
      rw [← h2, List.length_cons]
      omega
theorem cnt_lt (is : List Int) : ((cntD is : Int) < (is.length : Int)) ↔ ¬ is.Nodup := by
  obtain ⟨h1, h2⟩ := dedup_len is [] List.nodup_nil
  simp only [List.length_nil, Nat.zero_add, List.nil_append] at h1 h2
  unfold cntD
  constructor
  · intro z hn
    have := h2.mpr hn
    omega
  · intro z
    have : ¬ (is.foldl PyProof.Rows.step_dedup []).length = is.length := fun e => z (h2.mp e)
    omega
end KI

namespace KI
open PySem PySem.Spec PyProof.Rows L2
/-! ## 30. the end of a law whose defs make lambdas -/
/-- (name, code object, table) of the defs that make lambdas -/
abbrev Maker := Str × Addr × Addr
def lamT (ms : List Maker) : List (Addr × Str) := ms.map fun m => (m.2.2, m.1 ++ ".<locals>." ++ "<lambda>")
def lamCs (ms : List Maker) : List (Addr × Addr) := ms.map fun m => m.2
theorem walkLam {l : PySem.W.OpenLaw} {k : Nat} {q : Program} {loose : List Str} {XP : (Str → Option Value) → Heap → Prop} {YP : World → Heap → Prop} {d : DefRec} {K : Params → PySem.W.Frag} {CX : World → CXT} {x : Str} (names : List Str)
    (hn : l.most = some 63) (hdf : d.params.defaults = []) (hr : Room k callerA) (hrec : ∀ nm ∈ names, ((recsOf q).any fun e => e.name == nm) = true) (hY : ∀ (w : World) (h : Heap), YP w h → (K w.params).In h)
    (F : ∀ (w : World) (mg : Str → Option Value) (fa : Addr) (h : Heap), (K w.params).In h → h.Ns mainGlobals mg → mg d.name = some (.ref fa) → (∀ nm ∈ names, ∀ fb, mg nm = some (.ref fb) → LamX.OwnTab (K w.params) fb h) → LamX.LawAtS l w (K w.params) (CX w) k 63 x mg fa h)
    (hCX : ∀ (w : World) (H : Hp) (s : Shared) (e : Value) (s' : Shared), CX w [] H s (fun _ _ _ => False) e s' → False) :
    PySem.W.WalkO q loose XP YP l.row.toRowW d [] (fun f vs => PySem.call f vs) := by
  refine Att.attach_callB hn hdf fun w s₀ s₁ mg mb fa o pm cd doc a vs ns G Y ho hd hcd hmg hobj hints hlen hbits hg => ?_
  have KX := hY w _ Y
  have own : ∀ nm ∈ names, ∀ fb, mg nm = some (.ref fb) → LamX.OwnTab (K w.params) fb s₁.heap := fun nm hnm fb hfb c P o1 fd1 e dd vs1 sl k1 k2 k3 k4 k5 => by
    obtain ⟨dL, hm, hn1⟩ := List.any_eq_true.mp (hrec nm hnm)
    have hn2 : dL.name = nm := beq_iff_eq.mp hn1
    obtain ⟨a', o', fd', c', P', h1, h2, h3, h4, h5, h6⟩ := G.T.tab dL hm
    rw [hn2, hfb] at h1
    cases h1
    have g1 := KX _ _ k1
    rw [g1] at h2
    cases h2
    rw [k2] at h3
    cases h3
    rw [k3] at h4
    cases h4
    obtain ⟨⟨oc, vc, e1, _, e3, e4⟩, hP⟩ := h6
    have g2 := KX _ _ k4
    rw [g2] at e1
    cases e1
    cases e3
    rw [k5] at e4
    cases e4
    exact hP
  obtain ⟨fd, cs, sp, hT, nT, C, hb, hsp, hF⟩ := F w mg fa _ KX G.T.g hmg own
  exact LamX.law_callTs KX G.T.g G.T.b G.T.builtins G.T.nolimit hg hT nT C G.T.bmain hobj hints (Nat.le_trans hlen (by decide)) hr hF hb (fun H hH hS => hsp H a ns hlen hbits hH hS) fun H e s' => hCX w H s₁ e s'
theorem lamT_tabs {ms : List Maker} {H : Hp} (h : ∀ p ∈ lamCs ms, H p.2 = some (.tbl #[])) : LamX.Tabs (lamT ms) H := fun p hp => by
  obtain ⟨m, hm, rfl⟩ := List.mem_map.mp hp
  refine ⟨#[], h m.2 (List.mem_map.mpr ⟨m, hm, rfl⟩), trivial, fun pos cv e => by simp [codeAmong] at e⟩
/-- a lambda of one parameter is bound -/
theorem lam_b1 {x : Str} {ps : List Str} (hp : ps = [x]) (hb : ∀ (a : Arg), a.arg = x → ∀ (q : Str) (body : Expr) (scope : Scope) (cl : List (Str × Addr)) (doc pm cv ctv : Value) (u : Value), bindArgs (PySem.W.kdv_fn "<lambda>" q ⟨[], [a], none, [], [], none, []⟩ (.expr body) scope cl .none doc pm cv ctv) ⟨[u], []⟩ = pure [(x, u)]) :
    ∀ as : List Arg, as.map (·.arg) = ps → ∀ (q : Str) (body : Expr) (scope : Scope) (cl : List (Str × Addr)) (doc pm cv ctv : Value) (us : List Value), us.length = ps.length → bindArgs (PySem.W.kdv_fn "<lambda>" q ⟨[], as, none, [], [], none, []⟩ (.expr body) scope cl .none doc pm cv ctv) ⟨us, []⟩ = pure (ps.zip us) := by
  subst hp
  intro as ea q body scope cl doc pm cv ctv us hl
  match as, us, ea, hl with
  | [a], [u], ea, _ => exact hb a (by simpa using ea) q body scope cl doc pm cv ctv u
theorem lam_row : ∀ (a : Arg), a.arg = "row" → ∀ (q : Str) (body : Expr) (scope : Scope) (cl : List (Str × Addr)) (doc pm cv ctv : Value) (u : Value), bindArgs (PySem.W.kdv_fn "<lambda>" q ⟨[], [a], none, [], [], none, []⟩ (.expr body) scope cl .none doc pm cv ctv) ⟨[u], []⟩ = pure [(("row" : Str), u)] := by
  intro a e q body scope cl doc pm cv ctv u
  obtain ⟨nm, an, ap⟩ := a
  cases e
  rfl
theorem exc_all [LX] {P : Program} {w : World} {K : PySem.W.Frag} {mg : Str → Option Value} {base : Heap} {CA : Nat → Addr} {l : List (Nat × List Str)} (h : ∀ p ∈ l, ∀ nm, exNames[p.1]? = some nm → ExcOk P w K mg base (CA p.1) nm p.2) (cl : Nat) (fs : List Str) (e : (l.any fun p => p.1 == cl && p.2 == fs) = true) (nm : Str) (hn : exNames[cl]? = some nm) : ExcOk P w K mg base (CA cl) nm fs := by
  obtain ⟨p, hp, q⟩ := List.any_eq_true.mp e
  rw [Bool.and_eq_true, beq_iff_eq, beq_iff_eq] at q
  obtain ⟨rfl, rfl⟩ := q
  exact h p hp nm hn
end KI

namespace KI
open PySem
/-! ## 37. reading what _law_kind tells -/
section
variable {pg : Pg} {wf n nd v j : Nat} {hp : HpI} {env : EnvI} {cf : CF}
theorem run_cap {li : LamI} {sc : Scope} (h1 : pg.lams[j]? = some li) (h2 : li.cap = some sc) : run pg wf (n + 1) (pg.defs.length + pg.lams.length + j) (env.map encD) hp = ev (run pg wf n) li.body env hp := by
  have e1 : pg.defs[pg.defs.length + pg.lams.length + j]? = none := List.getElem?_eq_none_iff.mpr (by omega)
  have e2 : pg.lams[pg.defs.length + pg.lams.length + j - pg.defs.length]? = none := List.getElem?_eq_none_iff.mpr (by omega)
  have e3 : pg.defs.length + pg.lams.length + j - pg.defs.length - pg.lams.length = j := by omega
  simp only [run, e1, e2, e3, h1, h2, dec_enc]
theorem ev_kind {e : E} : ev cf (.kind nd e) env hp = (ev cf e env hp).bind fun x hp => match x with
    | .fn j => kindO (cf (nd + j) (env.map encD) hp)
    | _ => .bad := (rfl)
theorem ev_kinds {m : Bool} {it : It} : ev cf (.kinds m nd it v) env hp = (iv cf it env hp).bind fun w hp =>
      (compL (ckOk w.ck) (fun d hp => (kindAt cf nd v ((wipeE env [v]).set v (some d)) hp).bind fun x hp => .ok (some x) hp) w.ds hp []).bind fun ds hp => ofOpt (some (mkL m ds hp)) := (rfl)
theorem kindAt_fn (h : env[v]? = some (some (.fn j))) : kindAt cf nd v env hp = kindO (cf (nd + j) (env.map encD) hp) := by
  unfold kindAt
  rw [h]
theorem kindO_ok {d : D} : kindO (.ok d hp) = .ok d hp := (rfl)
theorem kindO_exc {x : Exn} {d : D} (h : kindD x = some d) : kindO (.exc x hp) = .ok d hp := by
  simp only [kindO, h]
theorem run_fillK (n i : Nat) (di : DefI) (ds : List D) (hp : HpI) (h : pg.defs[i]? = some di) (hl : ds.length + di.dfl.length = di.ps.length) : run pg wf n i ds hp = run pg wf n i (ds ++ di.dfl.map (·.2)) hp :=
  @run_fill ⟨fun _ _ _ _ => False, [], [], fun _ => 0⟩ pg wf n i di ds hp h hl
/-- one item of such a comprehension -/
theorem compL_one {ck : HpI → Bool} {f : D → HpI → Out (Option D)} {d x : D} {ds acc : List D} (h : ck hp = true) (hf : f d hp = .ok (some x) hp) : compL ck f (d :: ds) hp acc = compL ck f ds hp (acc ++ [x]) := by
  simp only [compL, h, hf, if_true]
theorem compL_end {ck : HpI → Bool} {f : D → HpI → Out (Option D)} {acc : List D} (h : ck hp = true) : compL ck f [] hp acc = .ok acc hp := by
  simp only [compL, h, if_true]
/-- the kinds of a list of lambdas, each known -/
theorem kinds_all {ck : HpI → Bool} (hck : ck hp = true) (g : Nat → D) : ∀ (js : List Nat) (acc : List D), (∀ j ∈ js, kindAt cf nd v ((wipeE env [v]).set v (some (.fn j))) hp = .ok (g j) hp) →
    compL ck (fun d hp => (kindAt cf nd v ((wipeE env [v]).set v (some d)) hp).bind fun x hp => .ok (some x) hp) (js.map D.fn) hp acc = .ok (acc ++ js.map g) hp
  | [], acc, _ => by rw [List.map_nil, compL_end hck]; simp
  | j :: js, acc, h => by
    rw [List.map_cons, compL_one (x := g j) hck (by rw [h j List.mem_cons_self]; rfl), kinds_all hck g js _ fun i hi => h i (List.mem_cons_of_mem _ hi)]
    simp
/-- what leaves a callee in its own frame -/
theorem framedX {cf : CF} {f : Nat} {ds : List D} {x : Exn} (h : cf f ds [] = .exc x []) (c : closeds 0 ds = true) (c2 : closeds 0 (x.fs.map (·.2)) = true) : framed cf (some 0) f ds hp = .exc x hp := by
  simp only [framed, c, List.take_zero, List.all_nil, h, c2, Bool.and_self, if_true, Nat.zero_le, decide_true, List.nil_append, List.drop_zero]
/-! errors raised -/
@[simp] theorem ex_raise {wf : Nat} (c : Nat) (fs : List Str) (es : Es) : ex cf wf (.raise c fs es) env hp = (evs cf es env hp).thenS env fun ds hp => if ds.length = fs.length ∨ fs = [] then .exc ⟨c, (fs.zip ds).reverse⟩ env hp else .bad := (rfl)
@[simp] theorem exc_bind {α β : Type} (x : Exn) (k : α → HpI → Out β) : (Out.exc x hp : Out α).bind k = .exc x hp := (rfl)
@[simp] theorem exc_thenS {α : Type} (x : Exn) (k : α → HpI → SOut) : (Out.exc x hp : Out α).thenS env k = .exc x env hp := (rfl)
@[simp] theorem exc_andThen (x : Exn) (k : EnvI → HpI → SOut) : (SOut.exc x env hp).andThen k = .exc x env hp := (rfl)
@[simp] theorem outOf_exc (x : Exn) : outOf (.exc x env hp) = .exc x hp := (rfl)
theorem exc_of_sat {α : Type} {o : Out α} {x : Exn} {hp' : HpI} (h : Sat o (fun y h => y = x ∧ h = hp') fun _ _ => False) : o = .exc x hp' := by
  cases o with
  | ok b h' => exact h.out.elim
  | bad => exact h.out.elim
  | exc y h' => obtain ⟨rfl, rfl⟩ := h.out; rfl
@[simp] theorem isTy_NoneType_int : isTy "NoneType" "int" = false := by decide
@[simp] theorem isTy_NoneType_bool : isTy "NoneType" "bool" = false := by decide
@[simp] theorem isTy_NoneType_str : isTy "NoneType" "str" = false := by decide
@[simp] theorem isTy_NoneType_tuple : isTy "NoneType" "tuple" = false := by decide
@[simp] theorem isTy_NoneType_list : isTy "NoneType" "list" = false := by decide
end
end KI

namespace KI
open PySem
/-! ## 43. reading dicts, instances -/
section
variable {cf : CF} {hp : HpI} {env : EnvI} {wf : Nat}
@[simp] theorem ev_dct (es : Es) : ev cf (.dct es) env hp = (evs cf es env hp).bind fun ds hp => ofOpt (semDct ds hp) := (rfl)
@[simp] theorem ev_dnew (t : Bool) : ev cf (.dnew t) env hp = .ok (.loc hp.length) (hp ++ [if t then .dt [] else .dk []]) := (rfl)
@[simp] theorem ev_dix (a b : E) : ev cf (.dix a b) env hp = (ev cf a env hp).bind fun x hp => (ev cf b env hp).bind fun y hp => match atDk x y hp with
    | some (some v) => .ok v hp
    | _ => .bad := (rfl)
@[simp] theorem ev_dixT (a : E) (es : Es) : ev cf (.dixT a es) env hp = (ev cf a env hp).bind fun x hp => (evs cf es env hp).bind fun ys hp => match atDt x ys hp with
    | some (some v) => .ok v hp
    | _ => .bad := (rfl)
@[simp] theorem ev_dget (a b d : E) : ev cf (.dget a b d) env hp = (ev cf a env hp).bind fun x hp => if isDct x hp = true then (ev cf b env hp).bind fun y hp => (ev cf d env hp).bind fun z hp => match atDk x y hp with
    | some o => .ok (o.getD z) hp
    | none => .bad
    else .bad := (rfl)
@[simp] theorem ev_dsetd (a b d : E) : ev cf (.dsetd a b d) env hp = (ev cf a env hp).bind fun x hp => if isDct x hp = true then (ev cf b env hp).bind fun y hp => (ev cf d env hp).bind fun z hp => ofOpt (semSetd x y z hp) else .bad := (rfl)
@[simp] theorem ev_ras (a : E) : ev cf (.ras a) env hp = (ev cf a env hp).bind fun _ _ => .bad := (rfl)
@[simp] theorem ev_fld (c : Nat) (a : E) (f : Str) : ev cf (.fld c a f) env hp = (ev cf a env hp).bind fun x hp => match fldD c f x hp with
    | some v => .ok v hp
    | none => .bad := (rfl)
@[simp] theorem ev_new (c f : Nat) (es : Es) : ev cf (.new c f es) env hp = (evs cf es env hp).bind fun ds hp => (cf f (.loc hp.length :: ds) (hp ++ [.ins c []])).bind fun u hp' => match u with
    | .non => .ok (.loc hp.length) hp'
    | _ => .bad := (rfl)
@[simp] theorem ev_meth (c f : Nat) (m : Str) (o : E) (es : Es) : ev cf (.meth c f m o es) env hp = (ev cf o env hp).bind fun x hp => if insD c m x hp = true then (evs cf es env hp).bind fun ds hp => cf f (x :: ds) hp else .bad := (rfl)
@[simp] theorem tv_din (neg : Bool) (k d : E) : tv cf (.din neg k d) env hp = (ev cf k env hp).bind fun y hp => (ev cf d env hp).bind fun x hp => match atDk x y hp with
    | some o => .ok (if neg then !o.isSome else o.isSome) hp
    | none => .bad := (rfl)
@[simp] theorem tv_dinT (neg : Bool) (ks : Es) (d : E) : tv cf (.dinT neg ks d) env hp = (evs cf ks env hp).bind fun ys hp => (ev cf d env hp).bind fun x hp => match atDt x ys hp with
    | some o => .ok (if neg then !o.isSome else o.isSome) hp
    | none => .bad := (rfl)
@[simp] theorem ex_dput (o k e : E) : ex cf wf (.dput o k e) env hp = (ev cf e env hp).thenS env fun v hp => (ev cf o env hp).thenS env fun x hp => (ev cf k env hp).thenS env fun y hp => match toDk x y v hp with
    | some hp => .nx env hp
    | none => .bad := (rfl)
@[simp] theorem ex_dputT (o : E) (ks : Es) (e : E) : ex cf wf (.dputT o ks e) env hp = (ev cf e env hp).thenS env fun v hp => (ev cf o env hp).thenS env fun x hp => (evs cf ks env hp).thenS env fun ys hp => match toDt x ys v hp with
    | some hp => .nx env hp
    | none => .bad := (rfl)
@[simp] theorem ex_fset (c : Nat) (o : E) (f : Str) (e : E) : ex cf wf (.fset c o f e) env hp = (ev cf e env hp).thenS env fun v hp => (ev cf o env hp).thenS env fun x hp => match setFD c f x v hp with
    | some hp => .nx env hp
    | none => .bad := (rfl)
@[simp] theorem ex_faug (c : Nat) (o : E) (f : Str) (op : Op2) (e : E) : ex cf wf (.faug c o f op e) env hp = (ev cf o env hp).thenS env fun x hp => match fldD c f x hp with
    | some u => (ev cf e env hp).thenS env fun y hp => match semAug op u y with
      | some z => match setFD c f x z hp with
        | some hp => .nx env hp
        | none => .bad
      | none => .bad
    | none => .bad := (rfl)
end
@[simp] theorem keyD_int (i : Int) : keyD (.int i) = some (.inl i) := (rfl)
@[simp] theorem keyD_str (s : Str) : keyD (.str s) = some (.inr s) := (rfl)
theorem atDk_at {n : Nat} {y : D} {k : L2.Key} {kvs : List (L2.Key × D)} {hp : HpI} (h : hp[n]? = some (.dk kvs)) (hk : keyD y = some k) : atDk (.loc n) y hp = some (valD kvs k) := by
  unfold atDk
  simp only [hk, h]
theorem atDt_at {n : Nat} {ys : List D} {k : List L2.Key} {kvs : List (List L2.Key × D)} {hp : HpI} (h : hp[n]? = some (.dt kvs)) (hk : keysD ys = some k) : atDt (.loc n) ys hp = some (valD kvs k) := by
  unfold atDt
  simp only [hk, h]
theorem toDk_at {n : Nat} {y v : D} {k : L2.Key} {kvs : List (L2.Key × D)} {hp : HpI} (h : hp[n]? = some (.dk kvs)) (hk : keyD y = some k) (hz : kvs.length < sizeLine) : toDk (.loc n) y v hp = some (hp.set n (.dk (putD kvs k v))) := by
  unfold toDk
  simp only [hk, h, hz, if_true]
theorem toDt_at {n : Nat} {ys : List D} {v : D} {k : List L2.Key} {kvs : List (List L2.Key × D)} {hp : HpI} (h : hp[n]? = some (.dt kvs)) (hk : keysD ys = some k) (hz : kvs.length < sizeLine) : toDt (.loc n) ys v hp = some (hp.set n (.dt (putD kvs k v))) := by
  unfold toDt
  simp only [hk, h, hz, if_true]
theorem fldD_at {c n : Nat} {f : Str} {fs : List (Str × D)} {hp : HpI} (h : hp[n]? = some (.ins c fs)) : fldD c f (.loc n) hp = fs.lookup f := by
  unfold fldD
  simp only [h, if_true]
theorem setFD_at {c n : Nat} {f : Str} {v : D} {fs : List (Str × D)} {hp : HpI} (h : hp[n]? = some (.ins c fs)) (hz : fs.length < 1000) : setFD c f (.loc n) v hp = some (hp.set n (.ins c (putFD f v fs))) := by
  unfold setFD
  simp only [h, hz, and_self, if_true]
theorem insD_at {c n : Nat} {m : Str} {fs : List (Str × D)} {hp : HpI} (h : hp[n]? = some (.ins c fs)) (hm : fs.lookup m = none) : insD c m (.loc n) hp = true := by
  unfold insD
  simp only [h, hm]
  simp
/-- tables -/
theorem valD_put {κ : Type} [DecidableEq κ] (kvs : List (κ × D)) (k j : κ) (v : D) : valD (putD kvs k v) j = if j = k then some v else valD kvs j := by
  have key : ∀ kvs : List (κ × D), (kvs.any fun kv => decide (kv.1 = k)) = (valD kvs k).isSome := by
    intro kvs
    induction kvs with
    | nil => rfl
    | cons p r ih =>
      by_cases e : p.1 = k
      · simp [valD, List.find?_cons, e]
      · simp only [List.any_cons, e, decide_false, Bool.false_or, ih]
        simp [valD, List.find?_cons, e]
  have repl : ∀ kvs : List (κ × D), valD (kvs.map fun kv => if kv.1 = k then (kv.1, v) else kv) j = if j = k then (valD kvs j).map (fun _ => v) else valD kvs j := by
    intro kvs
    induction kvs with
    | nil => simp [valD]
    | cons p r ih =>
      obtain ⟨p1, p2⟩ := p
      by_cases e : p1 = j
      · subst e
        by_cases e2 : p1 = k
        · simp [valD, List.find?_cons, e2]
        · simp [valD, List.find?_cons, e2]
      · have e1 : valD ((p1, p2) :: r) j = valD r j := by simp [valD, List.find?_cons, e]
        rw [e1, ← ih, List.map_cons]
        by_cases e2 : p1 = k
        · simp only [e2, if_true]
          have : ¬ k = j := e2 ▸ e
          simp [valD, List.find?_cons, this]
        · simp only [e2, if_false]
          simp [valD, List.find?_cons, e]
  unfold putD
  rw [key]
  cases q : valD kvs k with
  | some x =>
    rw [if_pos (show (some x).isSome = true from rfl), repl]
    by_cases e : j = k
    · subst e; rw [if_pos rfl, if_pos rfl, q]; rfl
    · rw [if_neg e, if_neg e]
  | none =>
    rw [if_neg (by simp)]
    by_cases e : j = k
    · subst e
      rw [if_pos rfl]
      have : kvs.find? (fun kv => decide (kv.1 = j)) = none := by
        unfold valD at q
        simpa using q
      simp [valD, List.find?_append, this]
    · rw [if_neg e]
      have : ¬ k = j := fun z => e z.symm
      simp [valD, List.find?_append, List.find?_cons, this]
end KI

namespace K01
open PySem PySem.Spec PyProof.Rows L2 KI
/-! ## the trees -/
def top (i : Nat) : Stmt := PySem.Challenge.pw_kilnhouse_k01_goods_and_kilns_refused.main.body.getD i (.Pass ⟨0, 0, 0, 0⟩)
abbrev s_is_number : Stmt := top 32
def b_is_number : Ss := (.cons (.ret (.andE (.cons (.isi (.var 0) "int") (.cons (.op1 .not (.isi (.var 0) "bool")) (.cons (.chain .le .le (.var 1) (.var 0) (.var 2)) (.nil)))))) <|
  .nil)
def d_is_number : DefI := ⟨"is_number", ["thing", "low", "high"], ["thing", "low", "high"], [], b_is_number, false⟩
abbrev s_is_name : Stmt := top 33
def b_is_name : Ss := (.cons (.ife (.or (.cons (.not (.val (.isi (.var 0) "str"))) (.one (.not (.chain .le .le (.cst (.int 1)) (.bi .len (.cons (.var 0) (.nil))) (.glob "MOST_NAME" (.int 6))))))) (.cons (.ret (.cst (.bl false))) <|
    .nil) .nil) <|
  .cons (.ret (.bi .all (.cons (.comp false (.op2 .inx (.var 1) (.glob "LETTERS" (.str "abcdefghijklmnopqrstuvwxyz"))) (.name 1) (.txt (.var 0)) .none [1]) (.nil)))) <|
  .nil)
def d_is_name : DefI := ⟨"is_name", ["thing"], ["thing", "sign"], [], b_is_name, false⟩
abbrev s_is_range : Stmt := top 34
def b_is_range : Ss := (.cons (.ret (.andE (.cons (.call (some 0) 0 (.cons (.var 0) (.cons (.cst (.int 1)) (.cons (.glob "MOST_WORK" (.int 99999)) (.nil))))) (.cons (.call (some 0) 0 (.cons (.var 1) (.cons (.var 0) (.cons (.glob "MOST_WORK" (.int 99999)) (.nil))))) (.nil))))) <|
  .nil)
def d_is_range : DefI := ⟨"is_range", ["low", "high"], ["low", "high"], [], b_is_range, false⟩
abbrev s_is_clay : Stmt := top 35
def b_is_clay : Ss := (.cons (.ret (.andE (.cons (.isi (.var 0) "tuple") (.cons (.op2 .eq (.bi .len (.cons (.var 0) (.nil))) (.cst (.int 4))) (.cons (.call (some 0) 0 (.cons (.op2 .ix (.var 0) (.cst (.int 1))) (.cons (.cst (.int 1)) (.cons (.glob "MOST_RISE" (.int 999)) (.nil))))) (.cons (.call (some 0) 2 (.cons (.op2 .ix (.var 0) (.cst (.int 2))) (.cons (.op2 .ix (.var 0) (.cst (.int 3))) (.nil)))) (.nil))))))) <|
  .nil)
def d_is_clay : DefI := ⟨"is_clay", ["row"], ["row"], [], b_is_clay, false⟩
abbrev s_is_glaze : Stmt := top 36
def b_is_glaze : Ss := (.cons (.ret (.andE (.cons (.isi (.var 0) "tuple") (.cons (.op2 .eq (.bi .len (.cons (.var 0) (.nil))) (.cst (.int 3))) (.cons (.call (some 0) 2 (.cons (.op2 .ix (.var 0) (.cst (.int 1))) (.cons (.op2 .ix (.var 0) (.cst (.int 2))) (.nil)))) (.nil)))))) <|
  .nil)
def d_is_glaze : DefI := ⟨"is_glaze", ["row"], ["row"], [], b_is_glaze, false⟩
abbrev s_need_rows : Stmt := top 37
def b_need_rows : Ss := (.cons (.ife (.not (.val (.isi (.var 0) "tuple"))) (.cons (.raise 0 ["part", "number"] (.cons (.var 1) (.cons (.cst (.int 0)) (.nil)))) <|
    .nil) .nil) <|
  .cons (.for_ (.tup (.cons (.name 3) (.cons (.name 4) (.nil)))) (.enum (.var 0)) (.cons (.ife (.or (.cons (.cmp .eq (.var 3) (.glob "MOST_GOODS" (.int 6))) (.cons (.not (.val (.callv (some 0) 34 2 (.cons (.var 4) (.nil))))) (.one (.not (.val (.call (some 0) 1 (.cons (.op2 .ix (.var 4) (.cst (.int 0))) (.nil))))))))) (.cons (.raise 0 ["part", "number"] (.cons (.var 1) (.cons (.var 3) (.nil)))) <|
      .nil) .nil) <|
    .cons (.ife (.cmp .inn (.op2 .ix (.var 4) (.cst (.int 0))) (.comp false (.op2 .ix (.var 5) (.cst (.int 0))) (.name 5) (.seq (.sl false (.var 0) .none (.some (.var 3)))) .none [5])) (.cons (.raise 0 ["part", "number"] (.cons (.var 1) (.cons (.var 3) (.nil)))) <|
      .nil) .nil) <|
    .nil)) <|
  .nil)
def d_need_rows : DefI := ⟨"need_rows", ["rows", "part", "good"], ["rows", "part", "good", "number", "row", "other"], [], b_need_rows, false⟩
abbrev s_need_goods : Stmt := top 38
def b_need_goods : Ss := (.cons (.expr (.call (some 0) 5 (.cons (.var 0) (.cons (.cst (.int 0)) (.cons (.lam 1) (.nil)))))) <|
  .cons (.ife (.cmp .eq (.var 0) (.tup .nil)) (.cons (.raise 0 ["part", "number"] (.cons (.cst (.int 0)) (.cons (.cst (.int 0)) (.nil)))) <|
    .nil) .nil) <|
  .cons (.expr (.call (some 0) 5 (.cons (.var 1) (.cons (.cst (.int 1)) (.cons (.lam 0) (.nil)))))) <|
  .nil)
def d_need_goods : DefI := ⟨"need_goods", ["clays", "glazes"], ["clays", "glazes"], [], b_need_goods, false⟩
abbrev s_need_kiln : Stmt := top 39
def b_need_kiln : Ss := (.cons (.ife (.or (.cons (.not (.val (.isi (.var 0) "tuple"))) (.one (.cmp .ne (.bi .len (.cons (.var 0) (.nil))) (.cst (.int 4)))))) (.cons (.raise 1 [] (.cons (.cst (.str "no kiln")) (.nil))) <|
    .nil) .nil) <|
  .cons (.asg (.tup (.cons (.name 1) (.cons (.name 2) (.cons (.name 3) (.cons (.name 4) (.nil)))))) (.var 0)) <|
  .cons (.ife (.or (.cons (.not (.val (.call (some 0) 0 (.cons (.var 1) (.cons (.cst (.int 1)) (.cons (.glob "MOST_WIDE" (.int 40)) (.nil))))))) (.one (.not (.val (.call (some 0) 0 (.cons (.var 2) (.cons (.cst (.int 1)) (.cons (.glob "MOST_TALL" (.int 60)) (.nil)))))))))) (.cons (.raise 1 [] (.cons (.cst (.str "no size")) (.nil))) <|
    .nil) .nil) <|
  .cons (.ife (.or (.cons (.not (.val (.call (some 0) 0 (.cons (.var 3) (.cons (.cst (.int 1)) (.cons (.glob "MOST_SHELVES" (.int 6)) (.nil))))))) (.one (.not (.val (.call (some 0) 0 (.cons (.var 4) (.cons (.cst (.int 0)) (.cons (.glob "MOST_GAIN" (.int 30)) (.nil)))))))))) (.cons (.raise 1 [] (.cons (.cst (.str "no shelves")) (.nil))) <|
    .nil) .nil) <|
  .nil)
def d_need_kiln : DefI := ⟨"need_kiln", ["kiln"], ["kiln", "wide", "tall", "shelves", "gain"], [], b_need_kiln, false⟩
abbrev s_names_of : Stmt := top 40
def b_names_of : Ss := (.cons (.ret (.comp false (.op2 .ix (.var 1) (.cst (.int 0))) (.name 1) (.seq (.var 0)) .none [1])) <|
  .nil)
def d_names_of : DefI := ⟨"names_of", ["rows"], ["rows", "row"], [], b_names_of, false⟩
abbrev s_are_sizes : Stmt := top 41
def b_are_sizes : Ss := (.cons (.ife (.not (.val (.bi .all (.cons (.comp false (.call (some 0) 0 (.cons (.var 1) (.cons (.cst (.int 1)) (.cons (.glob "MOST_SIZE" (.int 20)) (.nil))))) (.name 1) (.seq (.sl false (.var 0) .none (.some (.cst (.int 2))))) .none [1]) (.nil))))) (.cons (.ret (.cst (.bl false))) <|
    .nil) .nil) <|
  .cons (.ret (.call (some 0) 0 (.cons (.op2 .ix (.var 0) (.cst (.int 2))) (.cons (.cst (.int 1)) (.cons (.glob "MOST_THICK" (.int 9)) (.nil)))))) <|
  .nil)
def d_are_sizes : DefI := ⟨"are_sizes", ["sizes"], ["sizes", "one"], [], b_are_sizes, false⟩
abbrev s_is_pot : Stmt := top 42
def b_is_pot : Ss := (.cons (.ife (.or (.cons (.not (.val (.isi (.var 2) "tuple"))) (.cons (.cmp .ne (.bi .len (.cons (.var 2) (.nil))) (.cst (.int 6))) (.one (.not (.val (.call (some 0) 9 (.cons (.sl false (.var 2) (.some (.cst (.int 1))) (.some (.cst (.int 4)))) (.nil))))))))) (.cons (.ret (.cst (.bl false))) <|
    .nil) .nil) <|
  .cons (.ife (.or (.cons (.not (.val (.isi (.op2 .ix (.var 2) (.cst (.int 4))) "str"))) (.cons (.cmp .nin (.op2 .ix (.var 2) (.cst (.int 4))) (.glob "STAGES" (.tup [.str "raw", .str "fired", .str "glazed"]))) (.one (.not (.val (.isi (.op2 .ix (.var 2) (.cst (.int 0))) "str"))))))) (.cons (.ret (.cst (.bl false))) <|
    .nil) .nil) <|
  .cons (.ife (.or (.cons (.cmp .nin (.op2 .ix (.var 2) (.cst (.int 0))) (.call (some 0) 8 (.cons (.var 0) (.nil)))) (.one (.not (.val (.isi (.op2 .ix (.var 2) (.cst (.int 5))) "str")))))) (.cons (.ret (.cst (.bl false))) <|
    .nil) .nil) <|
  .cons (.ret (.ife (.cmp .eq (.op2 .ix (.var 2) (.cst (.int 4))) (.glob "GLAZED" (.str "glazed"))) (.op2 .inn (.op2 .ix (.var 2) (.cst (.int 5))) (.call (some 0) 8 (.cons (.var 1) (.nil)))) (.op2 .eq (.op2 .ix (.var 2) (.cst (.int 5))) (.cst (.str ""))))) <|
  .nil)
def d_is_pot : DefI := ⟨"is_pot", ["clays", "glazes", "pot"], ["clays", "glazes", "pot"], [], b_is_pot, false⟩
abbrev s_need_pots : Stmt := top 43
def b_need_pots : Ss := (.cons (.ife (.not (.val (.isi (.var 2) "tuple"))) (.cons (.raise 3 ["number"] (.cons (.cst (.int 0)) (.nil))) <|
    .nil) .nil) <|
  .cons (.for_ (.tup (.cons (.name 3) (.cons (.name 4) (.nil)))) (.enum (.var 2)) (.cons (.ife (.or (.cons (.cmp .eq (.var 3) (.glob "MOST_POTS" (.int 8))) (.one (.not (.val (.call (some 0) 10 (.cons (.var 0) (.cons (.var 1) (.cons (.var 4) (.nil)))))))))) (.cons (.raise 3 ["number"] (.cons (.var 3) (.nil))) <|
      .nil) .nil) <|
    .nil)) <|
  .nil)
def d_need_pots : DefI := ⟨"need_pots", ["clays", "glazes", "pots"], ["clays", "glazes", "pots", "number", "pot"], [], b_need_pots, false⟩
abbrev s_need_firings : Stmt := top 72
def b_need_firings : Ss := (.cons (.ife (.or (.cons (.not (.val (.isi (.var 0) "tuple"))) (.one (.not (.chain .le .le (.cst (.int 1)) (.bi .len (.cons (.var 0) (.nil))) (.cst (.int 4))))))) (.cons (.raise 4 [] (.cons (.cst (.str "no firings")) (.nil))) <|
    .nil) .nil) <|
  .cons .nev <|
  .nil)
def d_need_firings : DefI := ⟨"need_firings", ["firings"], ["firings", "firing"], [], b_need_firings, false⟩
abbrev s_broken_word : Stmt := top 83
def b_broken_word : Ss := (.cons (.ife (.or (.cons (.not (.val (.isi (.var 2) "tuple"))) (.one (.not (.val (.bi .all (.cons (.comp false (.isi (.var 5) "tuple") (.name 5) (.seq (.var 2)) .none [5]) (.nil)))))))) (.cons (.ret (.glob "POT" (.str "pot"))) <|
    .nil) .nil) <|
  .cons .nev <|
  .cons .nev <|
  .cons .nev <|
  .cons .nev <|
  .cons .nev <|
  .cons .nev <|
  .cons .nev <|
  .nil)
def d_broken_word : DefI := ⟨"broken_word", ["kiln", "pots", "load"], ["kiln", "pots", "load", "numbers", "rows", "row"], [], b_broken_word, false⟩
abbrev s_judged : Stmt := top 84
def b_judged : Ss := (.cons (.expr (.call (some 0) 6 (.cons (.var 0) (.cons (.var 1) (.nil))))) <|
  .cons (.expr (.call (some 0) 7 (.cons (.var 2) (.nil)))) <|
  .cons (.expr (.call (some 0) 11 (.cons (.var 0) (.cons (.var 1) (.cons (.var 3) (.nil)))))) <|
  .cons (.ret (.call (some 0) 13 (.cons (.var 2) (.cons (.var 3) (.cons (.var 4) (.nil)))))) <|
  .nil)
def d_judged : DefI := ⟨"judged", ["clays", "glazes", "kiln", "pots", "load"], ["clays", "glazes", "kiln", "pots", "load"], [], b_judged, false⟩
abbrev s_lowest : Stmt := top 89
def b_lowest : Ss := (.cons (.expr (.call (some 0) 6 (.cons (.var 0) (.cons (.var 1) (.nil))))) <|
  .cons (.expr (.call (some 0) 7 (.cons (.var 2) (.nil)))) <|
  .cons (.expr (.call (some 0) 11 (.cons (.var 0) (.cons (.var 1) (.cons (.var 3) (.nil)))))) <|
  .cons .nev <|
  .cons .nev <|
  .cons .nev <|
  .cons .nev <|
  .nil)
def d_lowest : DefI := ⟨"lowest", ["clays", "glazes", "kiln", "pots"], ["clays", "glazes", "kiln", "pots", "packer", "found"], [], b_lowest, false⟩
abbrev s_planner : Stmt := top 92
def b_planner : Ss := (.cons (.expr (.call (some 0) 6 (.cons (.var 0) (.cons (.var 1) (.nil))))) <|
  .cons (.expr (.call (some 0) 7 (.cons (.var 2) (.nil)))) <|
  .cons (.expr (.call (some 0) 11 (.cons (.var 0) (.cons (.var 1) (.cons (.var 3) (.nil)))))) <|
  .cons (.expr (.call (some 0) 12 (.cons (.var 4) (.nil)))) <|
  .cons .nev <|
  .nil)
def d_planner : DefI := ⟨"planner", ["clays", "glazes", "kiln", "pots", "firings"], ["clays", "glazes", "kiln", "pots", "firings"], [], b_planner, false⟩
abbrev s_plan : Stmt := top 93
def b_plan : Ss := (.cons (.ret (.ras (.call (some 0) 16 (.cons (.var 0) (.cons (.var 1) (.cons (.var 2) (.cons (.var 3) (.cons (.var 4) (.nil))))))))) <|
  .nil)
def d_plan : DefI := ⟨"plan", ["clays", "glazes", "kiln", "pots", "firings"], ["clays", "glazes", "kiln", "pots", "firings"], [], b_plan, false⟩
abbrev s_together : Stmt := top 94
def b_together : Ss := (.cons (.asg (.name 5) (.call (some 0) 16 (.cons (.var 0) (.cons (.var 1) (.cons (.var 2) (.cons (.var 3) (.cons (.var 4) (.nil)))))))) <|
  .cons .nev <|
  .cons .nev <|
  .cons .nev <|
  .nil)
def d_together : DefI := ⟨"together", ["clays", "glazes", "kiln", "pots", "firings"], ["clays", "glazes", "kiln", "pots", "firings", "told", "found", "one", "other"], [], b_together, false⟩
abbrev s_apart : Stmt := top 95
def b_apart : Ss := (.cons (.asg (.name 5) (.call (some 0) 18 (.cons (.var 0) (.cons (.var 1) (.cons (.var 2) (.cons (.var 3) (.cons (.var 4) (.nil)))))))) <|
  .cons .nev <|
  .cons .nev <|
  .cons .nev <|
  .nil)
def d_apart : DefI := ⟨"apart", ["clays", "glazes", "kiln", "pots", "firings"], ["clays", "glazes", "kiln", "pots", "firings", "pairs", "lots", "number"], [], b_apart, false⟩
abbrev s__law_start : Stmt := top 103
def b__law_start : Ss := (.cons (.asg (.name 1) (.cst (.int 1))) <|
  .cons (.for_ (.name 2) (.seq (.var 0)) (.cons (.asg (.name 1) (.op2 .mod (.op2 (.add false) (.op2 (.add false) (.op2 (.mul false) (.var 1) (.cst (.int 48271))) (.var 2)) (.cst (.int 7))) (.cst (.int 2147483647)))) <|
    .nil)) <|
  .cons (.ret (.lst true (.cons (.var 0) (.cons (.cst (.int 0)) (.cons (.var 1) (.cons (.cst (.int 0)) (.nil))))))) <|
  .nil)
def d__law_start : DefI := ⟨"_law_start", ["_law_script"], ["_law_script", "_law_mixed", "_law_cell"], [], b__law_start, false⟩
abbrev s__law_drawn : Stmt := top 104
def b__law_drawn : Ss := (.cons (.ife (.cmp .gt (.op2 .ix (.var 0) (.cst (.int 3))) (.cst (.int 0))) (.cons (.asg (.name 2) (.op2 .mod (.op2 .ix (.var 0) (.cst (.int 3))) (.var 1))) <|
    .cons (.asg (.sub (.var 0) (.cst (.int 3))) (.op2 .fdiv (.op2 .ix (.var 0) (.cst (.int 3))) (.var 1))) <|
    .cons (.ret (.var 2)) <|
    .nil) .nil) <|
  .cons (.asg (.sub (.var 0) (.cst (.int 1))) (.op2 (.add false) (.op2 .ix (.var 0) (.cst (.int 1))) (.cst (.int 1)))) <|
  .cons (.ife (.cmp .le (.op2 .ix (.var 0) (.cst (.int 1))) (.bi .len (.cons (.op2 .ix (.var 0) (.cst (.int 0))) (.nil)))) (.cons (.asg (.name 3) (.op2 .ix (.op2 .ix (.var 0) (.cst (.int 0))) (.op2 .sub (.op2 .ix (.var 0) (.cst (.int 1))) (.cst (.int 1))))) <|
    .cons (.asg (.sub (.var 0) (.cst (.int 3))) (.ife (.cmp .ge (.var 3) (.op2 .pow (.cst (.int 10)) (.cst (.int 18)))) (.op2 .fdiv (.var 3) (.var 1)) (.cst (.int 0)))) <|
    .cons (.ret (.op2 .mod (.var 3) (.var 1))) <|
    .nil) .nil) <|
  .cons (.asg (.sub (.var 0) (.cst (.int 2))) (.op2 .mod (.op2 (.add false) (.op2 (.mul false) (.op2 .ix (.var 0) (.cst (.int 2))) (.cst (.int 48271))) (.cst (.int 11))) (.cst (.int 2147483647)))) <|
  .cons (.ret (.op2 .mod (.op2 .fdiv (.op2 .ix (.var 0) (.cst (.int 2))) (.cst (.int 7))) (.var 1))) <|
  .nil)
def d__law_drawn : DefI := ⟨"_law_drawn", ["_law_state", "_law_many"], ["_law_state", "_law_many", "_law_found", "_law_cell"], [], b__law_drawn, false⟩
abbrev s__law_goods : Stmt := top 106
def b__law_goods : Ss := (.cons (.par 1 2 (.lst true .nil) (.lst true .nil)) <|
  .cons (.for_ (.name 3) (.rng1 (.op2 (.add false) (.cst (.int 1)) (.call (some 1) 21 (.cons (.var 0) (.cons (.cst (.int 3)) (.nil)))))) (.cons (.asg (.name 4) (.op2 (.add false) (.cst (.int 100)) (.call (some 1) 21 (.cons (.var 0) (.cons (.cst (.int 3000)) (.nil)))))) <|
    .cons (.expr (.me .append (.var 1) (.cons (.tup (.cons (.op2 .ix (.lst false (.cons (.cst (.str "red")) (.cons (.cst (.str "white")) (.cons (.cst (.str "stone")) (.nil))))) (.var 3)) (.cons (.op2 .ix (.lst false (.cons (.cst (.int 50)) (.cons (.op2 (.add false) (.cst (.int 1)) (.call (some 1) 21 (.cons (.var 0) (.cons (.cst (.int 999)) (.nil))))) (.nil)))) (.call (some 1) 21 (.cons (.var 0) (.cons (.cst (.int 2)) (.nil))))) (.cons (.var 4) (.nil))))) (.nil)))) <|
    .cons (.asg (.sub (.var 1) (.var 3)) (.op2 (.add false) (.op2 .ix (.var 1) (.var 3)) (.tup (.cons (.op2 (.add false) (.var 4) (.call (some 1) 21 (.cons (.var 0) (.cons (.cst (.int 2000)) (.nil))))) (.nil))))) <|
    .nil)) <|
  .cons (.for_ (.name 3) (.rng1 (.op2 (.add false) (.cst (.int 1)) (.call (some 1) 21 (.cons (.var 0) (.cons (.cst (.int 2)) (.nil)))))) (.cons (.asg (.name 4) (.op2 (.add false) (.cst (.int 500)) (.call (some 1) 21 (.cons (.var 0) (.cons (.cst (.int 3000)) (.nil)))))) <|
    .cons (.expr (.me .append (.var 2) (.cons (.tup (.cons (.op2 .ix (.lst false (.cons (.cst (.str "ash")) (.cons (.cst (.str "tin")) (.nil)))) (.var 3)) (.cons (.var 4) (.cons (.op2 (.add false) (.var 4) (.call (some 1) 21 (.cons (.var 0) (.cons (.cst (.int 1500)) (.nil))))) (.nil))))) (.nil)))) <|
    .nil)) <|
  .cons (.ret (.tup (.cons (.bi .tuple (.cons (.var 1) (.nil))) (.cons (.bi .tuple (.cons (.var 2) (.nil))) (.nil))))) <|
  .nil)
def d__law_goods : DefI := ⟨"_law_goods", ["_law_state"], ["_law_state", "_law_clays", "_law_glazes", "_law_k", "_law_low"], [], b__law_goods, false⟩
abbrev s__law_pot : Stmt := top 108
def b__law_pot : Ss := (.cons (.asg (.name 3) (.op2 .ix (.lst false (.cons (.cst (.int 4)) (.cons (.cst (.int 12)) (.cons (.cst (.int 20)) (.nil))))) (.call (some 1) 21 (.cons (.var 0) (.cons (.cst (.int 3)) (.nil)))))) <|
  .cons (.asg (.name 4) (.tup (.cons (.op2 .ix (.op2 .ix (.var 1) (.call (some 1) 21 (.cons (.var 0) (.cons (.bi .len (.cons (.var 1) (.nil))) (.nil))))) (.cst (.int 0))) (.cons (.op2 (.add false) (.cst (.int 1)) (.call (some 1) 21 (.cons (.var 0) (.cons (.var 3) (.nil))))) (.cons (.op2 (.add false) (.cst (.int 1)) (.call (some 1) 21 (.cons (.var 0) (.cons (.var 3) (.nil))))) (.nil)))))) <|
  .cons (.asg (.name 5) (.call (some 1) 21 (.cons (.var 0) (.cons (.cst (.int 5)) (.nil))))) <|
  .cons (.asg (.name 6) (.ife (.cmp .gt (.var 5) (.cst (.int 2))) (.op2 .ix (.op2 .ix (.var 2) (.call (some 1) 21 (.cons (.var 0) (.cons (.bi .len (.cons (.var 2) (.nil))) (.nil))))) (.cst (.int 0))) (.cst (.str "")))) <|
  .cons (.ret (.op2 (.add false) (.var 4) (.tup (.cons (.op2 (.add false) (.cst (.int 1)) (.call (some 1) 21 (.cons (.var 0) (.cons (.cst (.int 9)) (.nil))))) (.cons (.op2 .ix (.lst false (.cons (.cst (.str "raw")) (.cons (.cst (.str "raw")) (.cons (.cst (.str "fired")) (.cons (.cst (.str "glazed")) (.cons (.cst (.str "glazed")) (.nil))))))) (.var 5)) (.cons (.var 6) (.nil))))))) <|
  .nil)
def d__law_pot : DefI := ⟨"_law_pot", ["_law_state", "_law_clays", "_law_glazes"], ["_law_state", "_law_clays", "_law_glazes", "_law_size", "_law_pot_here", "_law_way", "_law_glaze"], [], b__law_pot, false⟩
abbrev s__law_kiln : Stmt := top 109
def b__law_kiln : Ss := (.cons (.asg (.name 1) (.op2 .ix (.lst false (.cons (.cst (.int 10)) (.cons (.op2 (.add false) (.cst (.int 1)) (.call (some 1) 21 (.cons (.var 0) (.cons (.cst (.int 40)) (.nil))))) (.cons (.op2 (.add false) (.cst (.int 20)) (.call (some 1) 21 (.cons (.var 0) (.cons (.cst (.int 21)) (.nil))))) (.nil))))) (.call (some 1) 21 (.cons (.var 0) (.cons (.cst (.int 3)) (.nil)))))) <|
  .cons (.asg (.name 2) (.op2 .ix (.lst false (.cons (.cst (.int 12)) (.cons (.op2 (.add false) (.cst (.int 3)) (.call (some 1) 21 (.cons (.var 0) (.cons (.cst (.int 58)) (.nil))))) (.cons (.op2 (.add false) (.cst (.int 30)) (.call (some 1) 21 (.cons (.var 0) (.cons (.cst (.int 31)) (.nil))))) (.nil))))) (.call (some 1) 21 (.cons (.var 0) (.cons (.cst (.int 3)) (.nil)))))) <|
  .cons (.ret (.tup (.cons (.var 1) (.cons (.var 2) (.cons (.op2 (.add false) (.cst (.int 1)) (.call (some 1) 21 (.cons (.var 0) (.cons (.cst (.int 6)) (.nil))))) (.cons (.op2 .ix (.lst false (.cons (.cst (.int 0)) (.cons (.op2 (.add false) (.cst (.int 1)) (.call (some 1) 21 (.cons (.var 0) (.cons (.cst (.int 30)) (.nil))))) (.cons (.cst (.int 5)) (.nil))))) (.call (some 1) 21 (.cons (.var 0) (.cons (.cst (.int 3)) (.nil))))) (.nil))))))) <|
  .nil)
def d__law_kiln : DefI := ⟨"_law_kiln", ["_law_state"], ["_law_state", "_law_wide", "_law_tall"], [], b__law_kiln, false⟩
abbrev s__law_is : Stmt := top 110
def b__law_is : Ss := (.cons (.ret (.andE (.cons (.isi (.var 0) "int") (.cons (.op1 .not (.isi (.var 0) "bool")) (.cons (.chain .le .le (.var 1) (.var 0) (.var 2)) (.nil)))))) <|
  .nil)
def d__law_is : DefI := ⟨"_law_is", ["_law_thing", "_law_low", "_law_high"], ["_law_thing", "_law_low", "_law_high"], [], b__law_is, false⟩
abbrev s__law_is_name : Stmt := top 111
def b__law_is_name : Ss := (.cons (.ife (.or (.cons (.not (.val (.isi (.var 0) "str"))) (.one (.not (.chain .le .le (.cst (.int 1)) (.bi .len (.cons (.var 0) (.nil))) (.cst (.int 6))))))) (.cons (.ret (.cst (.bl false))) <|
    .nil) .nil) <|
  .cons (.ret (.op2 .eqE (.comp false (.var 1) (.name 1) (.txt (.var 0)) (.some (.cmp .ninx (.var 1) (.cst (.str "abcdefghijklmnopqrstuvwxyz")))) [1]) (.lst false .nil))) <|
  .nil)
def d__law_is_name : DefI := ⟨"_law_is_name", ["_law_thing"], ["_law_thing", "_law_sign"], [], b__law_is_name, false⟩
abbrev s__law_first : Stmt := top 112
def b__law_first : Ss := (.cons (.ife (.or (.cons (.not (.val (.isi (.var 0) "tuple"))) (.one (.and (.cons (.cmp .eq (.var 1) (.cst (.int 4))) (.one (.cmp .eq (.var 0) (.tup .nil)))))))) (.cons (.ret (.cst (.int 0))) <|
    .nil) .nil) <|
  .cons (.for_ (.name 2) (.rng1 (.bi .len (.cons (.var 0) (.nil)))) (.cons (.asg (.name 3) (.op2 .ix (.var 0) (.var 2))) <|
    .cons (.ife (.or (.cons (.cmp .gt (.var 2) (.cst (.int 5))) (.cons (.not (.val (.isi (.var 3) "tuple"))) (.cons (.cmp .ne (.bi .len (.cons (.var 3) (.nil))) (.var 1)) (.one (.not (.val (.call (some 0) 26 (.cons (.op2 .ix (.var 3) (.cst (.int 0))) (.nil)))))))))) (.cons (.ret (.var 2)) <|
      .nil) .nil) <|
    .cons (.asg (.tup (.cons (.name 4) (.cons (.name 5) (.nil)))) (.sl false (.var 3) (.some (.op2 .sub (.var 1) (.cst (.int 2)))) .none)) <|
    .cons (.ife (.or (.cons (.not (.val (.call (some 0) 25 (.cons (.var 4) (.cons (.cst (.int 1)) (.cons (.cst (.int 99999)) (.nil))))))) (.cons (.not (.val (.call (some 0) 25 (.cons (.var 5) (.cons (.var 4) (.cons (.cst (.int 99999)) (.nil))))))) (.one (.and (.cons (.cmp .eq (.var 1) (.cst (.int 4))) (.one (.not (.val (.call (some 0) 25 (.cons (.op2 .ix (.var 3) (.cst (.int 1))) (.cons (.cst (.int 1)) (.cons (.cst (.int 999)) (.nil)))))))))))))) (.cons (.ret (.var 2)) <|
      .nil) .nil) <|
    .cons (.ife (.cmp .inn (.op2 .ix (.var 3) (.cst (.int 0))) (.comp false (.op2 .ix (.var 6) (.cst (.int 0))) (.name 6) (.seq (.sl false (.var 0) .none (.some (.var 2)))) .none [6])) (.cons (.ret (.var 2)) <|
      .nil) .nil) <|
    .nil)) <|
  .cons (.ret (.cst (.non))) <|
  .nil)
def d__law_first : DefI := ⟨"_law_first", ["_law_rows", "_law_size"], ["_law_rows", "_law_size", "_law_k", "_law_one", "_law_low", "_law_high", "_law_other_here"], [], b__law_first, false⟩
abbrev s__law_is_kiln : Stmt := top 113
def b__law_is_kiln : Ss := (.cons (.ife (.or (.cons (.not (.val (.isi (.var 0) "tuple"))) (.cons (.cmp .ne (.bi .len (.cons (.var 0) (.nil))) (.cst (.int 4))) (.cons (.not (.val (.call (some 0) 25 (.cons (.op2 .ix (.var 0) (.cst (.int 0))) (.cons (.cst (.int 1)) (.cons (.cst (.int 40)) (.nil))))))) (.one (.not (.val (.call (some 0) 25 (.cons (.op2 .ix (.var 0) (.cst (.int 1))) (.cons (.cst (.int 1)) (.cons (.cst (.int 60)) (.nil)))))))))))) (.cons (.ret (.cst (.bl false))) <|
    .nil) .nil) <|
  .cons (.ret (.andE (.cons (.call (some 0) 25 (.cons (.op2 .ix (.var 0) (.cst (.int 2))) (.cons (.cst (.int 1)) (.cons (.cst (.int 6)) (.nil))))) (.cons (.call (some 0) 25 (.cons (.op2 .ix (.var 0) (.cst (.int 3))) (.cons (.cst (.int 0)) (.cons (.cst (.int 30)) (.nil))))) (.nil))))) <|
  .nil)
def d__law_is_kiln : DefI := ⟨"_law_is_kiln", ["_law_kiln_here"], ["_law_kiln_here"], [], b__law_is_kiln, false⟩
abbrev s__law_is_pot : Stmt := top 114
def b__law_is_pot : Ss := (.cons (.ife (.or (.cons (.not (.val (.isi (.var 2) "tuple"))) (.cons (.cmp .ne (.bi .len (.cons (.var 2) (.nil))) (.cst (.int 6))) (.one (.cmp .neE (.comp false (.var 4) (.name 4) (.seq (.sl false (.var 2) (.some (.cst (.int 1))) (.some (.cst (.int 3))))) (.some (.not (.val (.call (some 0) 25 (.cons (.var 4) (.cons (.cst (.int 1)) (.cons (.cst (.int 20)) (.nil)))))))) [4]) (.lst false .nil)))))) (.cons (.ret (.cst (.bl false))) <|
    .nil) .nil) <|
  .cons (.ife (.or (.cons (.not (.val (.call (some 0) 25 (.cons (.op2 .ix (.var 2) (.cst (.int 3))) (.cons (.cst (.int 1)) (.cons (.cst (.int 9)) (.nil))))))) (.one (.cmp .ninD (.op2 .ix (.var 2) (.cst (.int 0))) (.comp false (.op2 .ix (.var 3) (.cst (.int 0))) (.name 3) (.seq (.var 0)) .none [3]))))) (.cons (.ret (.cst (.bl false))) <|
    .nil) .nil) <|
  .cons (.ife (.cmp .eq (.op2 .ix (.var 2) (.cst (.int 4))) (.cst (.str "glazed"))) (.cons (.ret (.op2 .inD (.op2 .ix (.var 2) (.cst (.int 5))) (.comp false (.op2 .ix (.var 3) (.cst (.int 0))) (.name 3) (.seq (.var 1)) .none [3]))) <|
    .nil) .nil) <|
  .cons (.ret (.andE (.cons (.op2 .inD (.op2 .ix (.var 2) (.cst (.int 4))) (.tup (.cons (.cst (.str "raw")) (.cons (.cst (.str "fired")) (.nil))))) (.cons (.op2 .eq (.op2 .ix (.var 2) (.cst (.int 5))) (.cst (.str ""))) (.nil))))) <|
  .nil)
def d__law_is_pot : DefI := ⟨"_law_is_pot", ["_law_clays", "_law_glazes", "_law_pot_here"], ["_law_clays", "_law_glazes", "_law_pot_here", "_law_one", "_law_part"], [], b__law_is_pot, false⟩
abbrev s__law_due : Stmt := top 115
def b__law_due : Ss := (.cons (.for_ (.tup (.cons (.name 4) (.cons (.name 5) (.nil)))) (.seq (.tup (.cons (.tup (.cons (.var 0) (.cons (.cst (.int 0)) (.nil)))) (.cons (.tup (.cons (.var 1) (.cons (.cst (.int 1)) (.nil)))) (.nil))))) (.cons (.ife (.isN true (.call (some 0) 27 (.cons (.var 4) (.cons (.op2 .sub (.cst (.int 4)) (.var 5)) (.nil))))) (.cons (.ret (.tup (.cons (.cst (.str "BadGoods")) (.cons (.var 5) (.cons (.call (some 0) 27 (.cons (.var 4) (.cons (.op2 .sub (.cst (.int 4)) (.var 5)) (.nil)))) (.nil)))))) <|
      .nil) .nil) <|
    .nil)) <|
  .cons (.ife (.not (.val (.call (some 0) 28 (.cons (.var 2) (.nil))))) (.cons (.ret (.cst (.str "BadKiln"))) <|
    .nil) .nil) <|
  .cons (.ife (.not (.val (.isi (.var 3) "tuple"))) (.cons (.ret (.tup (.cons (.cst (.str "BadPots")) (.cons (.cst (.int 0)) (.nil))))) <|
    .nil) .nil) <|
  .cons (.asg (.name 6) (.comp false (.var 7) (.name 7) (.rng1 (.bi .len (.cons (.var 3) (.nil)))) (.some (.or (.cons (.cmp .gt (.var 7) (.cst (.int 7))) (.one (.not (.val (.call (some 0) 29 (.cons (.var 0) (.cons (.var 1) (.cons (.op2 .ix (.var 3) (.var 7)) (.nil))))))))))) [7])) <|
  .cons (.ret (.ife (.cmp .neE (.var 6) (.lst false .nil)) (.tup (.cons (.cst (.str "BadPots")) (.cons (.op2 .ix (.var 6) (.cst (.int 0))) (.nil)))) (.cst (.non)))) <|
  .nil)
def d__law_due : DefI := ⟨"_law_due", ["_law_clays", "_law_glazes", "_law_kiln_here", "_law_pots"], ["_law_clays", "_law_glazes", "_law_kiln_here", "_law_pots", "_law_rows", "_law_part", "_law_bad", "_law_k"], [], b__law_due, false⟩
abbrev s__law_other : Stmt := top 116
def b__law_other : Ss := (.cons (.asg (.name 2) (.lst false (.cons (.op2 .sub (.cst (.int 0)) (.cst (.int 1))) (.cons (.cst (.int 0)) (.cons (.cst (.int 1)) (.cons (.cst (.int 6)) (.cons (.cst (.int 7)) (.cons (.cst (.int 9)) (.cons (.cst (.int 10)) (.cons (.cst (.int 20)) (.cons (.cst (.int 21)) (.cons (.cst (.int 30)) (.cons (.cst (.int 31)) (.cons (.cst (.int 40)) (.cons (.cst (.int 41)) (.cons (.cst (.int 60)) (.cons (.cst (.int 61)) (.cons (.cst (.int 999)) (.cons (.cst (.int 1000)) (.cons (.cst (.int 99999)) (.cons (.cst (.int 100000)) (.cons (.cst (.bl true)) (.cons (.cst (.non)) (.cons (.cst (.str "red")) (.nil))))))))))))))))))))))))) <|
  .cons (.asg (.name 2) (.op2 (.add false) (.var 2) (.lst false (.cons (.cst (.str "")) (.cons (.cst (.str "Red")) (.cons (.cst (.str "sevenab")) (.cons (.cst (.str "raw")) (.cons (.cst (.str "glazed")) (.cons (.cst (.str "fired")) (.cons (.cst (.str "ash")) (.cons (.tup .nil) (.cons (.tup (.cons (.cst (.str "red")) (.cons (.cst (.int 1)) (.cons (.cst (.int 1)) (.cons (.cst (.int 1)) (.nil)))))) (.cons (.tup (.cons (.cst (.str "tin")) (.cons (.cst (.int 5)) (.cons (.cst (.int 5)) (.nil))))) (.cons (.lst false (.cons (.cst (.int 0)) (.nil))) (.nil))))))))))))))) <|
  .cons (.ife (.or (.cons (.not (.val (.isi (.var 1) "tuple"))) (.one (.cmp .eq (.call (some 1) 21 (.cons (.var 0) (.cons (.cst (.int 6)) (.nil)))) (.cst (.int 0)))))) (.cons (.ret (.op2 .ix (.var 2) (.call (some 1) 21 (.cons (.var 0) (.cons (.bi .len (.cons (.var 2) (.nil))) (.nil)))))) <|
    .nil) .nil) <|
  .cons (.asg (.name 3) (.call (some 1) 21 (.cons (.var 0) (.cons (.op2 (.add false) (.bi .len (.cons (.var 1) (.nil))) (.cst (.int 1))) (.nil))))) <|
  .cons (.ife (.cmp .eq (.var 3) (.bi .len (.cons (.var 1) (.nil)))) (.cons (.asg (.name 4) (.ife (.cmp .ne (.var 1) (.tup .nil)) (.op2 .ix (.var 1) (.call (some 1) 21 (.cons (.var 0) (.cons (.bi .len (.cons (.var 1) (.nil))) (.nil))))) (.cst (.non)))) <|
    .cons (.ret (.op2 .ix (.lst false (.cons (.sl false (.var 1) .none (.some (.op2 .sub (.cst (.int 0)) (.cst (.int 1))))) (.cons (.op2 (.add false) (.var 1) (.tup (.cons (.var 4) (.nil)))) (.nil)))) (.call (some 1) 21 (.cons (.var 0) (.cons (.cst (.int 2)) (.nil)))))) <|
    .nil) .nil) <|
  .cons (.ret (.op2 (.add false) (.op2 (.add false) (.sl false (.var 1) .none (.some (.var 3))) (.tup (.cons (.call (some 1) 31 (.cons (.var 0) (.cons (.op2 .ix (.var 1) (.var 3)) (.nil)))) (.nil)))) (.sl false (.var 1) (.some (.op2 (.add false) (.var 3) (.cst (.int 1)))) .none))) <|
  .nil)
def d__law_other : DefI := ⟨"_law_other", ["_law_state", "_law_thing"], ["_law_state", "_law_thing", "_law_some", "_law_k", "_law_one"], [], b__law_other, false⟩
abbrev s_House___init__ : Stmt := inClass (top 101) 0
def b_House___init__ : Ss := (.cons (.expr (.call (some 0) 6 (.cons (.var 1) (.cons (.var 2) (.nil))))) <|
  .cons (.expr (.call (some 0) 7 (.cons (.var 3) (.nil)))) <|
  .cons (.fset 0 (.var 0) "clays" (.var 1)) <|
  .cons (.fset 0 (.var 0) "glazes" (.var 2)) <|
  .cons (.fset 0 (.var 0) "kiln" (.var 3)) <|
  .cons (.fset 0 (.var 0) "today" (.cst (.int 0))) <|
  .cons (.fset 0 (.var 0) "pots" (.lst true .nil)) <|
  .cons (.fset 0 (.var 0) "done" (.lst true .nil)) <|
  .cons (.fset 0 (.var 0) "fires" (.cst (.int 0))) <|
  .cons (.fset 0 (.var 0) "busy" (.cst (.bl false))) <|
  .nil)
def d_House___init__ : DefI := ⟨"House.__init__", ["self", "clays", "glazes", "kiln"], ["self", "clays", "glazes", "kiln"], [], b_House___init__, true⟩
abbrev s_House_day : Stmt := inClass (top 101) 11
def b_House_day : Ss := (.cons (.ret (.fld 0 (.var 0) "today")) <|
  .nil)
def d_House_day : DefI := ⟨"House.day", ["self"], ["self"], [], b_House_day, true⟩
abbrev s_law : Stmt := top 117
def b_law : Ss := (.cons (.asg (.name 1) (.call .none 20 (.cons (.var 0) (.nil)))) <|
  .cons (.for_ (.name 2) (.rng1 (.cst (.int 6))) (.cons (.asg (.tup (.cons (.name 3) (.cons (.name 4) (.nil)))) (.call (some 1) 22 (.cons (.var 1) (.nil)))) <|
    .cons (.par 5 6 (.call (some 1) 24 (.cons (.var 1) (.nil))) (.bi .tuple (.cons (.comp false (.call (some 1) 23 (.cons (.var 1) (.cons (.var 3) (.cons (.var 4) (.nil))))) (.name 9) (.rng1 (.call (some 1) 21 (.cons (.var 1) (.cons (.cst (.int 4)) (.nil))))) .none [9]) (.nil)))) <|
    .cons (.ife (.cmp .eq (.call (some 1) 21 (.cons (.var 1) (.cons (.cst (.int 5)) (.nil)))) (.cst (.int 0))) (.cons (.asg (.name 3) (.comp true (.tup (.cons (.op2 .ix (.cst (.str "abcdefg")) (.var 9)) (.cons (.cst (.int 9)) (.cons (.cst (.int 5)) (.cons (.cst (.int 5)) (.nil)))))) (.name 9) (.rng1 (.op2 (.add false) (.cst (.int 5)) (.call (some 1) 21 (.cons (.var 1) (.cons (.cst (.int 3)) (.nil)))))) .none [9])) <|
      .cons (.ife (.cmp .eq (.call (some 1) 21 (.cons (.var 1) (.cons (.cst (.int 3)) (.nil)))) (.cst (.int 0))) (.cons (.asg (.sub (.var 3) (.op2 .sub (.bi .len (.cons (.var 3) (.nil))) (.cst (.int 1)))) (.tup (.cons (.op2 .ix (.cst (.str "abcd")) (.call (some 1) 21 (.cons (.var 1) (.cons (.cst (.int 4)) (.nil))))) (.cons (.cst (.int 9)) (.cons (.cst (.int 5)) (.cons (.cst (.int 5)) (.nil))))))) <|
        .nil) .nil) <|
      .cons (.asg (.name 3) (.bi .tuple (.cons (.var 3) (.nil)))) <|
      .cons (.asg (.name 6) (.op2 (.mul false) (.tup (.cons (.tup (.cons (.cst (.str "a")) (.cons (.cst (.int 1)) (.cons (.cst (.int 1)) (.cons (.cst (.int 1)) (.cons (.cst (.str "raw")) (.cons (.cst (.str "")) (.nil)))))))) (.nil))) (.op2 (.add false) (.cst (.int 7)) (.call (some 1) 21 (.cons (.var 1) (.cons (.cst (.int 3)) (.nil))))))) <|
      .nil) .nil) <|
    .cons (.ife (.cmp .eq (.call (some 1) 21 (.cons (.var 1) (.cons (.cst (.int 5)) (.nil)))) (.cst (.int 0))) (.cons (.asg (.name 5) (.tup (.cons (.op2 (.add false) (.cst (.int 40)) (.call (some 1) 21 (.cons (.var 1) (.cons (.cst (.int 2)) (.nil))))) (.cons (.op2 .sub (.cst (.int 60)) (.call (some 1) 21 (.cons (.var 1) (.cons (.cst (.int 2)) (.nil))))) (.cons (.cst (.int 6)) (.cons (.op2 (.add false) (.cst (.int 30)) (.call (some 1) 21 (.cons (.var 1) (.cons (.cst (.int 2)) (.nil))))) (.nil))))))) <|
      .nil) .nil) <|
    .cons (.asg (.name 7) (.lst true (.cons (.var 3) (.cons (.var 4) (.cons (.var 5) (.cons (.var 6) (.nil))))))) <|
    .cons (.for_ (.name 8) (.rng1 (.call (some 1) 21 (.cons (.var 1) (.cons (.cst (.int 3)) (.nil))))) (.cons (.asg (.name 9) (.call (some 1) 21 (.cons (.var 1) (.cons (.cst (.int 4)) (.nil))))) <|
      .cons (.asg (.sub (.var 7) (.var 9)) (.call (some 1) 31 (.cons (.var 1) (.cons (.op2 .ix (.var 7) (.var 9)) (.nil))))) <|
      .nil)) <|
    .cons (.asg (.name 10) (.call (some 0) 30 (.cons (.op2 .ix (.var 7) (.cst (.int 0))) (.cons (.op2 .ix (.var 7) (.cst (.int 1))) (.cons (.op2 .ix (.var 7) (.cst (.int 2))) (.cons (.op2 .ix (.var 7) (.cst (.int 3))) (.nil))))))) <|
    .cons (.asg (.tup (.cons (.name 11) (.cons (.name 12) (.cons (.name 13) (.cons (.name 14) (.nil)))))) (.var 7)) <|
    .cons (.asg (.name 15) (.lst false (.cons (.lam 7) (.cons (.lam 6) (.nil))))) <|
    .cons (.asg (.name 15) (.op2 (.add false) (.var 15) (.lst false (.cons (.lam 5) (.cons (.lam 4) (.nil)))))) <|
    .cons (.asg (.name 16) (.kinds false 42 (.seq (.var 15)) 18)) <|
    .cons (.ife (.cmp .ne (.var 16) (.ife (.isN true (.var 10)) (.op2 (.mul false) (.lst false (.cons (.var 10) (.nil))) (.cst (.int 4))) (.lst false (.cons (.cst (.str "BadCount")) (.cons (.cst (.str "pot")) (.cons (.cst (.str "BadCount")) (.cons (.cst (.str "BadCount")) (.nil)))))))) (.cons (.ret (.cst (.bl false))) <|
      .nil) .nil) <|
    .cons (.asg (.name 17) (.kind 42 (.lam 3))) <|
    .cons (.ife (.cmp .ne (.var 17) (.ife (.and (.cons (.isN true (.var 10)) (.one (.cmp .ne (.op2 .ix (.var 10) (.cst (.int 0))) (.cst (.str "BadPots")))))) (.var 10) (.cst (.int 0)))) (.cons (.ret (.cst (.bl false))) <|
      .nil) .nil) <|
    .cons (.ife (.and (.cons (.isN true (.var 10)) (.one (.cmp .ne (.kind 42 (.lam 2)) (.var 10))))) (.cons (.ret (.cst (.bl false))) <|
      .nil) .nil) <|
    .nil)) <|
  .cons (.ret (.cst (.bl true))) <|
  .nil)
def d_law : DefI := ⟨"law", ["_law_script"], ["_law_script", "_law_state", "_law_turn", "_law_clays", "_law_glazes", "_law_kiln_here", "_law_pots", "_law_rows", "_law_change_more", "_law_k", "_law_due_here", "_law_one", "_law_two", "_law_three", "_law_four", "_law_works", "_law_told", "_law_made", "_law_work"], [], b_law, false⟩
def l_0 : LamI := ⟨["row"], ["row"], .call (some 0) 4 (.cons (.var 0) (.nil)), none⟩
def l_1 : LamI := ⟨["row"], ["row"], .call (some 0) 3 (.cons (.var 0) (.nil)), none⟩
def l_2 : LamI := ⟨[], ["_law_script", "_law_state", "_law_turn", "_law_clays", "_law_glazes", "_law_kiln_here", "_law_pots", "_law_rows", "_law_change_more", "_law_k", "_law_due_here", "_law_one", "_law_two", "_law_three", "_law_four", "_law_works", "_law_told", "_law_made", "_law_work"], .call (some 0) 15 (.cons (.op2 .ix (.var 7) (.cst (.int 0))) (.cons (.op2 .ix (.var 7) (.cst (.int 1))) (.cons (.op2 .ix (.var 7) (.cst (.int 2))) (.cons (.op2 .ix (.var 7) (.cst (.int 3))) (.nil))))), some (defScope s_law)⟩
def l_3 : LamI := ⟨[], ["_law_script", "_law_state", "_law_turn", "_law_clays", "_law_glazes", "_law_kiln_here", "_law_pots", "_law_rows", "_law_change_more", "_law_k", "_law_due_here", "_law_one", "_law_two", "_law_three", "_law_four", "_law_works", "_law_told", "_law_made", "_law_work"], .meth 0 33 "day" (.new 0 32 (.cons (.op2 .ix (.var 7) (.cst (.int 0))) (.cons (.op2 .ix (.var 7) (.cst (.int 1))) (.cons (.op2 .ix (.var 7) (.cst (.int 2))) (.nil))))) .nil, some (defScope s_law)⟩
def l_4 : LamI := ⟨[], ["_law_script", "_law_state", "_law_turn", "_law_clays", "_law_glazes", "_law_kiln_here", "_law_pots", "_law_rows", "_law_change_more", "_law_k", "_law_due_here", "_law_one", "_law_two", "_law_three", "_law_four", "_law_works", "_law_told", "_law_made", "_law_work"], .call (some 0) 19 (.cons (.var 11) (.cons (.var 12) (.cons (.var 13) (.cons (.var 14) (.cons (.tup .nil) (.nil)))))), some (defScope s_law)⟩
def l_5 : LamI := ⟨[], ["_law_script", "_law_state", "_law_turn", "_law_clays", "_law_glazes", "_law_kiln_here", "_law_pots", "_law_rows", "_law_change_more", "_law_k", "_law_due_here", "_law_one", "_law_two", "_law_three", "_law_four", "_law_works", "_law_told", "_law_made", "_law_work"], .call (some 0) 18 (.cons (.var 11) (.cons (.var 12) (.cons (.var 13) (.cons (.var 14) (.cons (.tup .nil) (.nil)))))), some (defScope s_law)⟩
def l_6 : LamI := ⟨[], ["_law_script", "_law_state", "_law_turn", "_law_clays", "_law_glazes", "_law_kiln_here", "_law_pots", "_law_rows", "_law_change_more", "_law_k", "_law_due_here", "_law_one", "_law_two", "_law_three", "_law_four", "_law_works", "_law_told", "_law_made", "_law_work"], .call (some 0) 14 (.cons (.var 11) (.cons (.var 12) (.cons (.var 13) (.cons (.var 14) (.cons (.cst (.int 0)) (.nil)))))), some (defScope s_law)⟩
def l_7 : LamI := ⟨[], ["_law_script", "_law_state", "_law_turn", "_law_clays", "_law_glazes", "_law_kiln_here", "_law_pots", "_law_rows", "_law_change_more", "_law_k", "_law_due_here", "_law_one", "_law_two", "_law_three", "_law_four", "_law_works", "_law_told", "_law_made", "_law_work"], .call (some 0) 17 (.cons (.var 11) (.cons (.var 12) (.cons (.var 13) (.cons (.var 14) (.cons (.tup .nil) (.nil)))))), some (defScope s_law)⟩
def pg : Pg := ⟨[d_is_number, d_is_name, d_is_range, d_is_clay, d_is_glaze, d_need_rows, d_need_goods, d_need_kiln, d_names_of, d_are_sizes, d_is_pot, d_need_pots, d_need_firings, d_broken_word, d_judged, d_lowest, d_planner, d_plan, d_together, d_apart, d__law_start, d__law_drawn, d__law_goods, d__law_pot, d__law_kiln, d__law_is, d__law_is_name, d__law_first, d__law_is_kiln, d__law_is_pot, d__law_due, d__law_other, d_House___init__, d_House_day], [("LETTERS", .str "abcdefghijklmnopqrstuvwxyz"), ("MOST_NAME", .int 6), ("MOST_WORK", .int 99999), ("MOST_RISE", .int 999), ("MOST_GOODS", .int 6), ("MOST_SHELVES", .int 6), ("MOST_GAIN", .int 30), ("MOST_WIDE", .int 40), ("MOST_TALL", .int 60), ("MOST_THICK", .int 9), ("MOST_SIZE", .int 20), ("GLAZED", .str "glazed"), ("STAGES", .tup [.str "raw", .str "fired", .str "glazed"]), ("MOST_POTS", .int 8), ("POT", .str "pot")], [l_0, l_1, l_2, l_3, l_4, l_5, l_6, l_7], [(0, ["part", "number"]), (1, []), (3, ["number"]), (4, [])], [("House", 32)], [(0, "day", 33)], [(0, "busy"), (0, "fires"), (0, "done"), (0, "pots"), (0, "today"), (0, "kiln"), (0, "glazes"), (0, "clays")]⟩
abbrev i_is_number : Nat := 0
abbrev i_is_name : Nat := 1
abbrev i_is_range : Nat := 2
abbrev i_is_clay : Nat := 3
abbrev i_is_glaze : Nat := 4
abbrev i_need_rows : Nat := 5
abbrev i_need_goods : Nat := 6
abbrev i_need_kiln : Nat := 7
abbrev i_names_of : Nat := 8
abbrev i_are_sizes : Nat := 9
abbrev i_is_pot : Nat := 10
abbrev i_need_pots : Nat := 11
abbrev i_need_firings : Nat := 12
abbrev i_broken_word : Nat := 13
abbrev i_judged : Nat := 14
abbrev i_lowest : Nat := 15
abbrev i_planner : Nat := 16
abbrev i_plan : Nat := 17
abbrev i_together : Nat := 18
abbrev i_apart : Nat := 19
abbrev i__law_start : Nat := 20
abbrev i__law_drawn : Nat := 21
abbrev i__law_goods : Nat := 22
abbrev i__law_pot : Nat := 23
abbrev i__law_kiln : Nat := 24
abbrev i__law_is : Nat := 25
abbrev i__law_is_name : Nat := 26
abbrev i__law_first : Nat := 27
abbrev i__law_is_kiln : Nat := 28
abbrev i__law_is_pot : Nat := 29
abbrev i__law_due : Nat := 30
abbrev i__law_other : Nat := 31
abbrev i_House___init__ : Nat := 32
abbrev i_House_day : Nat := 33
/-! ## the text and the trees -/
theorem sc_is_number : FnScope d_is_number.N d_is_number.ps (defScope s_is_number) := ⟨rfl, rfl, rfl, by decide +kernel, rfl, by decide +kernel, by decide +kernel⟩
theorem ck_is_number : cSs b_is_number ⟨pg, d_is_number.N, defScope s_is_number, fun _ => true, lamOf pg false, false⟩ (defBody s_is_number) = true := by decide +kernel
theorem sc_is_name : FnScope d_is_name.N d_is_name.ps (defScope s_is_name) := ⟨rfl, rfl, rfl, by decide +kernel, rfl, by decide +kernel, by decide +kernel⟩
theorem ck_is_name : cSs b_is_name ⟨pg, d_is_name.N, defScope s_is_name, fun _ => true, lamOf pg false, false⟩ (defBody s_is_name) = true := by decide +kernel
theorem sc_is_range : FnScope d_is_range.N d_is_range.ps (defScope s_is_range) := ⟨rfl, rfl, rfl, by decide +kernel, rfl, by decide +kernel, by decide +kernel⟩
theorem ck_is_range : cSs b_is_range ⟨pg, d_is_range.N, defScope s_is_range, fun _ => true, lamOf pg false, false⟩ (defBody s_is_range) = true := by decide +kernel
theorem sc_is_clay : FnScope d_is_clay.N d_is_clay.ps (defScope s_is_clay) := ⟨rfl, rfl, rfl, by decide +kernel, rfl, by decide +kernel, by decide +kernel⟩
theorem ck_is_clay : cSs b_is_clay ⟨pg, d_is_clay.N, defScope s_is_clay, fun _ => true, lamOf pg false, false⟩ (defBody s_is_clay) = true := by decide +kernel
theorem sc_is_glaze : FnScope d_is_glaze.N d_is_glaze.ps (defScope s_is_glaze) := ⟨rfl, rfl, rfl, by decide +kernel, rfl, by decide +kernel, by decide +kernel⟩
theorem ck_is_glaze : cSs b_is_glaze ⟨pg, d_is_glaze.N, defScope s_is_glaze, fun _ => true, lamOf pg false, false⟩ (defBody s_is_glaze) = true := by decide +kernel
theorem sc_need_rows : FnScope d_need_rows.N d_need_rows.ps (defScope s_need_rows) := ⟨rfl, rfl, rfl, by decide +kernel, rfl, by decide +kernel, by decide +kernel⟩
theorem ck_need_rows : cSs b_need_rows ⟨pg, d_need_rows.N, defScope s_need_rows, fun _ => true, lamOf pg false, false⟩ (defBody s_need_rows) = true := by decide +kernel
theorem sc_need_goods : FnScope d_need_goods.N d_need_goods.ps (defScope s_need_goods) := ⟨rfl, rfl, rfl, by decide +kernel, rfl, by decide +kernel, by decide +kernel⟩
theorem ck_need_goods : cSs b_need_goods ⟨pg, d_need_goods.N, defScope s_need_goods, fun _ => true, lamOf pg true, false⟩ (defBody s_need_goods) = true := by decide +kernel
theorem sc_need_kiln : FnScope d_need_kiln.N d_need_kiln.ps (defScope s_need_kiln) := ⟨rfl, rfl, rfl, by decide +kernel, rfl, by decide +kernel, by decide +kernel⟩
theorem ck_need_kiln : cSs b_need_kiln ⟨pg, d_need_kiln.N, defScope s_need_kiln, fun _ => true, lamOf pg false, false⟩ (defBody s_need_kiln) = true := by decide +kernel
theorem sc_names_of : FnScope d_names_of.N d_names_of.ps (defScope s_names_of) := ⟨rfl, rfl, rfl, by decide +kernel, rfl, by decide +kernel, by decide +kernel⟩
theorem ck_names_of : cSs b_names_of ⟨pg, d_names_of.N, defScope s_names_of, fun _ => true, lamOf pg false, false⟩ (defBody s_names_of) = true := by decide +kernel
theorem sc_are_sizes : FnScope d_are_sizes.N d_are_sizes.ps (defScope s_are_sizes) := ⟨rfl, rfl, rfl, by decide +kernel, rfl, by decide +kernel, by decide +kernel⟩
theorem ck_are_sizes : cSs b_are_sizes ⟨pg, d_are_sizes.N, defScope s_are_sizes, fun _ => true, lamOf pg false, false⟩ (defBody s_are_sizes) = true := by decide +kernel
theorem sc_is_pot : FnScope d_is_pot.N d_is_pot.ps (defScope s_is_pot) := ⟨rfl, rfl, rfl, by decide +kernel, rfl, by decide +kernel, by decide +kernel⟩
theorem ck_is_pot : cSs b_is_pot ⟨pg, d_is_pot.N, defScope s_is_pot, fun _ => true, lamOf pg false, false⟩ (defBody s_is_pot) = true := by decide +kernel
theorem sc_need_pots : FnScope d_need_pots.N d_need_pots.ps (defScope s_need_pots) := ⟨rfl, rfl, rfl, by decide +kernel, rfl, by decide +kernel, by decide +kernel⟩
theorem ck_need_pots : cSs b_need_pots ⟨pg, d_need_pots.N, defScope s_need_pots, fun _ => true, lamOf pg false, false⟩ (defBody s_need_pots) = true := by decide +kernel
theorem sc_need_firings : FnScope d_need_firings.N d_need_firings.ps (defScope s_need_firings) := ⟨rfl, rfl, rfl, by decide +kernel, rfl, by decide +kernel, by decide +kernel⟩
theorem ck_need_firings : cSs b_need_firings ⟨pg, d_need_firings.N, defScope s_need_firings, fun _ => true, lamOf pg false, false⟩ (defBody s_need_firings) = true := by decide +kernel
theorem sc_broken_word : FnScope d_broken_word.N d_broken_word.ps (defScope s_broken_word) := ⟨rfl, rfl, rfl, by decide +kernel, rfl, by decide +kernel, by decide +kernel⟩
theorem ck_broken_word : cSs b_broken_word ⟨pg, d_broken_word.N, defScope s_broken_word, fun _ => true, lamOf pg false, false⟩ (defBody s_broken_word) = true := by decide +kernel
theorem sc_judged : FnScope d_judged.N d_judged.ps (defScope s_judged) := ⟨rfl, rfl, rfl, by decide +kernel, rfl, by decide +kernel, by decide +kernel⟩
theorem ck_judged : cSs b_judged ⟨pg, d_judged.N, defScope s_judged, fun _ => true, lamOf pg false, false⟩ (defBody s_judged) = true := by decide +kernel
theorem sc_lowest : FnScope d_lowest.N d_lowest.ps (defScope s_lowest) := ⟨rfl, rfl, rfl, by decide +kernel, rfl, by decide +kernel, by decide +kernel⟩
theorem ck_lowest : cSs b_lowest ⟨pg, d_lowest.N, defScope s_lowest, fun _ => true, lamOf pg false, false⟩ (defBody s_lowest) = true := by decide +kernel
theorem sc_planner : FnScope d_planner.N d_planner.ps (defScope s_planner) := ⟨rfl, rfl, rfl, by decide +kernel, rfl, by decide +kernel, by decide +kernel⟩
theorem ck_planner : cSs b_planner ⟨pg, d_planner.N, defScope s_planner, fun _ => true, lamOf pg false, false⟩ (defBody s_planner) = true := by decide +kernel
theorem sc_plan : FnScope d_plan.N d_plan.ps (defScope s_plan) := ⟨rfl, rfl, rfl, by decide +kernel, rfl, by decide +kernel, by decide +kernel⟩
theorem ck_plan : cSs b_plan ⟨pg, d_plan.N, defScope s_plan, fun _ => true, lamOf pg false, false⟩ (defBody s_plan) = true := by decide +kernel
theorem sc_together : FnScope d_together.N d_together.ps (defScope s_together) := ⟨rfl, rfl, rfl, by decide +kernel, rfl, by decide +kernel, by decide +kernel⟩
theorem ck_together : cSs b_together ⟨pg, d_together.N, defScope s_together, fun _ => true, lamOf pg false, false⟩ (defBody s_together) = true := by decide +kernel
theorem sc_apart : FnScope d_apart.N d_apart.ps (defScope s_apart) := ⟨rfl, rfl, rfl, by decide +kernel, rfl, by decide +kernel, by decide +kernel⟩
theorem ck_apart : cSs b_apart ⟨pg, d_apart.N, defScope s_apart, fun _ => true, lamOf pg false, false⟩ (defBody s_apart) = true := by decide +kernel
theorem sc__law_start : FnScope d__law_start.N d__law_start.ps (defScope s__law_start) := ⟨rfl, rfl, rfl, by decide +kernel, rfl, by decide +kernel, by decide +kernel⟩
theorem ck__law_start : cSs b__law_start ⟨pg, d__law_start.N, defScope s__law_start, fun _ => true, lamOf pg false, false⟩ (defBody s__law_start) = true := by decide +kernel
theorem sc__law_drawn : FnScope d__law_drawn.N d__law_drawn.ps (defScope s__law_drawn) := ⟨rfl, rfl, rfl, by decide +kernel, rfl, by decide +kernel, by decide +kernel⟩
theorem ck__law_drawn : cSs b__law_drawn ⟨pg, d__law_drawn.N, defScope s__law_drawn, fun _ => true, lamOf pg false, false⟩ (defBody s__law_drawn) = true := by decide +kernel
theorem sc__law_goods : FnScope d__law_goods.N d__law_goods.ps (defScope s__law_goods) := ⟨rfl, rfl, rfl, by decide +kernel, rfl, by decide +kernel, by decide +kernel⟩
theorem ck__law_goods : cSs b__law_goods ⟨pg, d__law_goods.N, defScope s__law_goods, fun _ => true, lamOf pg false, false⟩ (defBody s__law_goods) = true := by decide +kernel
theorem sc__law_pot : FnScope d__law_pot.N d__law_pot.ps (defScope s__law_pot) := ⟨rfl, rfl, rfl, by decide +kernel, rfl, by decide +kernel, by decide +kernel⟩
theorem ck__law_pot : cSs b__law_pot ⟨pg, d__law_pot.N, defScope s__law_pot, fun _ => true, lamOf pg false, false⟩ (defBody s__law_pot) = true := by decide +kernel
theorem sc__law_kiln : FnScope d__law_kiln.N d__law_kiln.ps (defScope s__law_kiln) := ⟨rfl, rfl, rfl, by decide +kernel, rfl, by decide +kernel, by decide +kernel⟩
theorem ck__law_kiln : cSs b__law_kiln ⟨pg, d__law_kiln.N, defScope s__law_kiln, fun _ => true, lamOf pg false, false⟩ (defBody s__law_kiln) = true := by decide +kernel
theorem sc__law_is : FnScope d__law_is.N d__law_is.ps (defScope s__law_is) := ⟨rfl, rfl, rfl, by decide +kernel, rfl, by decide +kernel, by decide +kernel⟩
theorem ck__law_is : cSs b__law_is ⟨pg, d__law_is.N, defScope s__law_is, fun _ => true, lamOf pg false, false⟩ (defBody s__law_is) = true := by decide +kernel
theorem sc__law_is_name : FnScope d__law_is_name.N d__law_is_name.ps (defScope s__law_is_name) := ⟨rfl, rfl, rfl, by decide +kernel, rfl, by decide +kernel, by decide +kernel⟩
theorem ck__law_is_name : cSs b__law_is_name ⟨pg, d__law_is_name.N, defScope s__law_is_name, fun _ => true, lamOf pg false, false⟩ (defBody s__law_is_name) = true := by decide +kernel
theorem sc__law_first : FnScope d__law_first.N d__law_first.ps (defScope s__law_first) := ⟨rfl, rfl, rfl, by decide +kernel, rfl, by decide +kernel, by decide +kernel⟩
theorem ck__law_first : cSs b__law_first ⟨pg, d__law_first.N, defScope s__law_first, fun _ => true, lamOf pg false, false⟩ (defBody s__law_first) = true := by decide +kernel
theorem sc__law_is_kiln : FnScope d__law_is_kiln.N d__law_is_kiln.ps (defScope s__law_is_kiln) := ⟨rfl, rfl, rfl, by decide +kernel, rfl, by decide +kernel, by decide +kernel⟩
theorem ck__law_is_kiln : cSs b__law_is_kiln ⟨pg, d__law_is_kiln.N, defScope s__law_is_kiln, fun _ => true, lamOf pg false, false⟩ (defBody s__law_is_kiln) = true := by decide +kernel
theorem sc__law_is_pot : FnScope d__law_is_pot.N d__law_is_pot.ps (defScope s__law_is_pot) := ⟨rfl, rfl, rfl, by decide +kernel, rfl, by decide +kernel, by decide +kernel⟩
theorem ck__law_is_pot : cSs b__law_is_pot ⟨pg, d__law_is_pot.N, defScope s__law_is_pot, fun _ => true, lamOf pg false, false⟩ (defBody s__law_is_pot) = true := by decide +kernel
theorem sc__law_due : FnScope d__law_due.N d__law_due.ps (defScope s__law_due) := ⟨rfl, rfl, rfl, by decide +kernel, rfl, by decide +kernel, by decide +kernel⟩
theorem ck__law_due : cSs b__law_due ⟨pg, d__law_due.N, defScope s__law_due, fun _ => true, lamOf pg false, false⟩ (defBody s__law_due) = true := by decide +kernel
theorem sc__law_other : FnScope d__law_other.N d__law_other.ps (defScope s__law_other) := ⟨rfl, rfl, rfl, by decide +kernel, rfl, by decide +kernel, by decide +kernel⟩
theorem ck__law_other : cSs b__law_other ⟨pg, d__law_other.N, defScope s__law_other, fun _ => true, lamOf pg false, false⟩ (defBody s__law_other) = true := by decide +kernel
theorem sc_House___init__ : FnScope d_House___init__.N d_House___init__.ps (defScope s_House___init__) := ⟨rfl, rfl, rfl, by decide +kernel, rfl, by decide +kernel, by decide +kernel⟩
theorem ck_House___init__ : cSs b_House___init__ ⟨pg, d_House___init__.N, defScope s_House___init__, fun _ => true, lamOf pg false, false⟩ (defBody s_House___init__) = true := by decide +kernel
theorem sc_House_day : FnScope d_House_day.N d_House_day.ps (defScope s_House_day) := ⟨rfl, rfl, rfl, by decide +kernel, rfl, by decide +kernel, by decide +kernel⟩
theorem ck_House_day : cSs b_House_day ⟨pg, d_House_day.N, defScope s_House_day, fun _ => true, lamOf pg false, false⟩ (defBody s_House_day) = true := by decide +kernel
theorem sc_law : FnScope d_law.N d_law.ps (defScope s_law) := ⟨rfl, rfl, rfl, by decide +kernel, rfl, by decide +kernel, by decide +kernel⟩
theorem ck_law : cSs b_law ⟨pg, d_law.N, defScope s_law, fun _ => true, if true then lamB pg else fun _ _ _ _ => false, true⟩ (defBody s_law) = true := by decide +kernel
abbrev s__law_kind : Stmt := top 105
section
variable {wf n : Nat} {hp : HpI}
theorem r_is_number (a0 a1 a2 : D) : run pg wf (n + 1) 0 [a0, a1, a2] hp = outOf (exs (run pg wf n) wf b_is_number [some a0, some a1, some a2] hp) := pg_run (di := d_is_number) rfl rfl
theorem r_is_name (a0 : D) : run pg wf (n + 1) 1 [a0] hp = outOf (exs (run pg wf n) wf b_is_name [some a0, none] hp) := pg_run (di := d_is_name) rfl rfl
theorem r_is_range (a0 a1 : D) : run pg wf (n + 1) 2 [a0, a1] hp = outOf (exs (run pg wf n) wf b_is_range [some a0, some a1] hp) := pg_run (di := d_is_range) rfl rfl
theorem r_is_clay (a0 : D) : run pg wf (n + 1) 3 [a0] hp = outOf (exs (run pg wf n) wf b_is_clay [some a0] hp) := pg_run (di := d_is_clay) rfl rfl
theorem r_is_glaze (a0 : D) : run pg wf (n + 1) 4 [a0] hp = outOf (exs (run pg wf n) wf b_is_glaze [some a0] hp) := pg_run (di := d_is_glaze) rfl rfl
theorem r_need_rows (a0 a1 a2 : D) : run pg wf (n + 1) 5 [a0, a1, a2] hp = outOf (exs (run pg wf n) wf b_need_rows [some a0, some a1, some a2, none, none, none] hp) := pg_run (di := d_need_rows) rfl rfl
theorem r_need_goods (a0 a1 : D) : run pg wf (n + 1) 6 [a0, a1] hp = outOf (exs (run pg wf n) wf b_need_goods [some a0, some a1] hp) := pg_run (di := d_need_goods) rfl rfl
theorem r_need_kiln (a0 : D) : run pg wf (n + 1) 7 [a0] hp = outOf (exs (run pg wf n) wf b_need_kiln [some a0, none, none, none, none] hp) := pg_run (di := d_need_kiln) rfl rfl
theorem r_names_of (a0 : D) : run pg wf (n + 1) 8 [a0] hp = outOf (exs (run pg wf n) wf b_names_of [some a0, none] hp) := pg_run (di := d_names_of) rfl rfl
theorem r_are_sizes (a0 : D) : run pg wf (n + 1) 9 [a0] hp = outOf (exs (run pg wf n) wf b_are_sizes [some a0, none] hp) := pg_run (di := d_are_sizes) rfl rfl
theorem r_is_pot (a0 a1 a2 : D) : run pg wf (n + 1) 10 [a0, a1, a2] hp = outOf (exs (run pg wf n) wf b_is_pot [some a0, some a1, some a2] hp) := pg_run (di := d_is_pot) rfl rfl
theorem r_need_pots (a0 a1 a2 : D) : run pg wf (n + 1) 11 [a0, a1, a2] hp = outOf (exs (run pg wf n) wf b_need_pots [some a0, some a1, some a2, none, none] hp) := pg_run (di := d_need_pots) rfl rfl
theorem r_need_firings (a0 : D) : run pg wf (n + 1) 12 [a0] hp = outOf (exs (run pg wf n) wf b_need_firings [some a0, none] hp) := pg_run (di := d_need_firings) rfl rfl
theorem r_broken_word (a0 a1 a2 : D) : run pg wf (n + 1) 13 [a0, a1, a2] hp = outOf (exs (run pg wf n) wf b_broken_word [some a0, some a1, some a2, none, none, none] hp) := pg_run (di := d_broken_word) rfl rfl
theorem r_judged (a0 a1 a2 a3 a4 : D) : run pg wf (n + 1) 14 [a0, a1, a2, a3, a4] hp = outOf (exs (run pg wf n) wf b_judged [some a0, some a1, some a2, some a3, some a4] hp) := pg_run (di := d_judged) rfl rfl
theorem r_lowest (a0 a1 a2 a3 : D) : run pg wf (n + 1) 15 [a0, a1, a2, a3] hp = outOf (exs (run pg wf n) wf b_lowest [some a0, some a1, some a2, some a3, none, none] hp) := pg_run (di := d_lowest) rfl rfl
theorem r_planner (a0 a1 a2 a3 a4 : D) : run pg wf (n + 1) 16 [a0, a1, a2, a3, a4] hp = outOf (exs (run pg wf n) wf b_planner [some a0, some a1, some a2, some a3, some a4] hp) := pg_run (di := d_planner) rfl rfl
theorem r_plan (a0 a1 a2 a3 a4 : D) : run pg wf (n + 1) 17 [a0, a1, a2, a3, a4] hp = outOf (exs (run pg wf n) wf b_plan [some a0, some a1, some a2, some a3, some a4] hp) := pg_run (di := d_plan) rfl rfl
theorem r_together (a0 a1 a2 a3 a4 : D) : run pg wf (n + 1) 18 [a0, a1, a2, a3, a4] hp = outOf (exs (run pg wf n) wf b_together [some a0, some a1, some a2, some a3, some a4, none, none, none, none] hp) := pg_run (di := d_together) rfl rfl
theorem r_apart (a0 a1 a2 a3 a4 : D) : run pg wf (n + 1) 19 [a0, a1, a2, a3, a4] hp = outOf (exs (run pg wf n) wf b_apart [some a0, some a1, some a2, some a3, some a4, none, none, none] hp) := pg_run (di := d_apart) rfl rfl
theorem r__law_start (a0 : D) : run pg wf (n + 1) 20 [a0] hp = outOf (exs (run pg wf n) wf b__law_start [some a0, none, none] hp) := pg_run (di := d__law_start) rfl rfl
theorem r__law_drawn (a0 a1 : D) : run pg wf (n + 1) 21 [a0, a1] hp = outOf (exs (run pg wf n) wf b__law_drawn [some a0, some a1, none, none] hp) := pg_run (di := d__law_drawn) rfl rfl
theorem r__law_goods (a0 : D) : run pg wf (n + 1) 22 [a0] hp = outOf (exs (run pg wf n) wf b__law_goods [some a0, none, none, none, none] hp) := pg_run (di := d__law_goods) rfl rfl
theorem r__law_pot (a0 a1 a2 : D) : run pg wf (n + 1) 23 [a0, a1, a2] hp = outOf (exs (run pg wf n) wf b__law_pot [some a0, some a1, some a2, none, none, none, none] hp) := pg_run (di := d__law_pot) rfl rfl
theorem r__law_kiln (a0 : D) : run pg wf (n + 1) 24 [a0] hp = outOf (exs (run pg wf n) wf b__law_kiln [some a0, none, none] hp) := pg_run (di := d__law_kiln) rfl rfl
theorem r__law_is (a0 a1 a2 : D) : run pg wf (n + 1) 25 [a0, a1, a2] hp = outOf (exs (run pg wf n) wf b__law_is [some a0, some a1, some a2] hp) := pg_run (di := d__law_is) rfl rfl
theorem r__law_is_name (a0 : D) : run pg wf (n + 1) 26 [a0] hp = outOf (exs (run pg wf n) wf b__law_is_name [some a0, none] hp) := pg_run (di := d__law_is_name) rfl rfl
theorem r__law_first (a0 a1 : D) : run pg wf (n + 1) 27 [a0, a1] hp = outOf (exs (run pg wf n) wf b__law_first [some a0, some a1, none, none, none, none, none] hp) := pg_run (di := d__law_first) rfl rfl
theorem r__law_is_kiln (a0 : D) : run pg wf (n + 1) 28 [a0] hp = outOf (exs (run pg wf n) wf b__law_is_kiln [some a0] hp) := pg_run (di := d__law_is_kiln) rfl rfl
theorem r__law_is_pot (a0 a1 a2 : D) : run pg wf (n + 1) 29 [a0, a1, a2] hp = outOf (exs (run pg wf n) wf b__law_is_pot [some a0, some a1, some a2, none, none] hp) := pg_run (di := d__law_is_pot) rfl rfl
theorem r__law_due (a0 a1 a2 a3 : D) : run pg wf (n + 1) 30 [a0, a1, a2, a3] hp = outOf (exs (run pg wf n) wf b__law_due [some a0, some a1, some a2, some a3, none, none, none, none] hp) := pg_run (di := d__law_due) rfl rfl
theorem r__law_other (a0 a1 : D) : run pg wf (n + 1) 31 [a0, a1] hp = outOf (exs (run pg wf n) wf b__law_other [some a0, some a1, none, none, none] hp) := pg_run (di := d__law_other) rfl rfl
theorem r_House___init__ (a0 a1 a2 a3 : D) : run pg wf (n + 1) 32 [a0, a1, a2, a3] hp = outOf (exs (run pg wf n) wf b_House___init__ [some a0, some a1, some a2, some a3] hp) := pg_run (di := d_House___init__) rfl rfl
theorem r_House_day (a0 : D) : run pg wf (n + 1) 33 [a0] hp = outOf (exs (run pg wf n) wf b_House_day [some a0] hp) := pg_run (di := d_House_day) rfl rfl
theorem rl_0 (a0 : D) : run pg wf (n + 1) 34 [a0] hp = ev (run pg wf n) l_0.body [some a0] hp := rfl
theorem rl_1 (a0 : D) : run pg wf (n + 1) 35 [a0] hp = ev (run pg wf n) l_1.body [some a0] hp := rfl
theorem rl_2 (env : EnvI) : run pg wf (n + 1) 44 (env.map encD) hp = ev (run pg wf n) l_2.body env hp := run_cap (j := 2) rfl rfl
theorem rl_3 (env : EnvI) : run pg wf (n + 1) 45 (env.map encD) hp = ev (run pg wf n) l_3.body env hp := run_cap (j := 3) rfl rfl
theorem rl_4 (env : EnvI) : run pg wf (n + 1) 46 (env.map encD) hp = ev (run pg wf n) l_4.body env hp := run_cap (j := 4) rfl rfl
theorem rl_5 (env : EnvI) : run pg wf (n + 1) 47 (env.map encD) hp = ev (run pg wf n) l_5.body env hp := run_cap (j := 5) rfl rfl
theorem rl_6 (env : EnvI) : run pg wf (n + 1) 48 (env.map encD) hp = ev (run pg wf n) l_6.body env hp := run_cap (j := 6) rfl rfl
theorem rl_7 (env : EnvI) : run pg wf (n + 1) 49 (env.map encD) hp = ev (run pg wf n) l_7.body env hp := run_cap (j := 7) rfl rfl
end
end K01

namespace K01
open PySem KI
theorem sz {n : Nat} (h : n ≤ 1000) : n ≤ sizeLine := Nat.le_trans h (by decide)
/-! ## what may be told -/
mutual
def wfD : D → Nat → Bool
  | .non, _ => true
  | .bl _, _ => true
  | .int _, _ => true
  | .str s, _ => PyData.strOk s && decide (s.length ≤ 1000)
  | .tup ds, k + 1 => decide (ds.length ≤ 100) && wfDs ds k
  | .lst ds, _ => D.beqs ds [.int 0]
  | _, _ => false
def wfDs : List D → Nat → Bool
  | [], _ => true
  | d :: ds, k => wfD d k && wfDs ds k
end
theorem wfDs_mem : ∀ {ds : List D} {k : Nat}, wfDs ds k = true → ∀ d ∈ ds, wfD d k = true
  | [], _, _, _, h => by cases h
  | e :: ds, k, h, d, hd => by
    rw [wfDs, Bool.and_eq_true] at h
    rcases List.mem_cons.mp hd with rfl | hd
    · exact h.1
    · exact wfDs_mem h.2 d hd
theorem wfDs_of : ∀ {ds : List D} {k : Nat}, (∀ d ∈ ds, wfD d k = true) → wfDs ds k = true
  | [], _, _ => rfl
  | e :: ds, k, h => by
    rw [wfDs, Bool.and_eq_true]
    exact ⟨h e List.mem_cons_self, wfDs_of fun d hd => h d (List.mem_cons_of_mem _ hd)⟩
theorem wf_lst {ds : List D} {k : Nat} (h : wfD (.lst ds) k = true) : ds = [.int 0] := by
  rw [wfD] at h
  exact D.eqs_of_beq _ _ h
theorem wf_tup {ds : List D} {k : Nat} (h : wfD (.tup ds) k = true) : ∃ j, k = j + 1 ∧ ds.length ≤ 100 ∧ ∀ d ∈ ds, wfD d j = true := by
  cases k with
  | zero => simp [wfD] at h
  | succ j =>
    rw [wfD, Bool.and_eq_true, decide_eq_true_eq] at h
    exact ⟨j, rfl, h.1, wfDs_mem h.2⟩
mutual
theorem wf_closed {m : Nat} : ∀ (d : D) (k : Nat), wfD d k = true → closed m d = true
  | .non, _, _ => rfl
  | .bl _, _, _ => rfl
  | .int _, _, _ => rfl
  | .str _, _, _ => rfl
  | .tup ds, 0, h => by simp [wfD] at h
  | .tup ds, k + 1, h => by
    rw [wfD, Bool.and_eq_true] at h
    rw [closed]
    exact wfs_closed ds k h.2
  | .lst ds, k, h => by rw [wf_lst h]; rfl
  | .sq ds, k, h => by simp [wfD] at h
  | .loc _, k, h => by simp [wfD] at h
  | .fn _, k, h => by simp [wfD] at h
theorem wfs_closed {m : Nat} : ∀ (ds : List D) (k : Nat), wfDs ds k = true → closeds m ds = true
  | [], _, _ => rfl
  | d :: ds, k, h => by
    rw [wfDs, Bool.and_eq_true] at h
    rw [closeds, wf_closed d k h.1, wfs_closed ds k h.2]
    rfl
end
mutual
theorem wf_okd : ∀ (d : D) (k m : Nat), k < m → wfD d k = true → okd d m = true
  | .non, _, m, _, _ => by cases m <;> rfl
  | .bl _, _, m, _, _ => by cases m <;> rfl
  | .int _, _, m, _, _ => by cases m <;> rfl
  | .str s, k, m, _, h => by
    rw [wfD, Bool.and_eq_true] at h
    cases m <;> exact h.1
  | .tup ds, 0, _, _, h => by simp [wfD] at h
  | .tup ds, k + 1, m, hm, h => by
    rw [wfD, Bool.and_eq_true] at h
    obtain ⟨j, rfl⟩ : ∃ j, m = j + 1 := ⟨m - 1, by omega⟩
    rw [okd]
    exact wfs_okd ds k j (by omega) h.2
  | .lst ds, k, m, hm, h => by
    rw [wf_lst h]
    obtain ⟨j, rfl⟩ : ∃ j, m = j + 1 := ⟨m - 1, by omega⟩
    rw [okd]
    cases j <;> rfl
  | .sq ds, k, _, _, h => by simp [wfD] at h
  | .loc _, k, _, _, h => by simp [wfD] at h
  | .fn _, k, _, _, h => by simp [wfD] at h
theorem wfs_okd : ∀ (ds : List D) (k m : Nat), k < m → wfDs ds k = true → okds ds m = true
  | [], _, _, _, _ => rfl
  | d :: ds, k, m, hm, h => by
    rw [wfDs, Bool.and_eq_true] at h
    rw [okds, wf_okd d k m hm h.1, wfs_okd ds k m hm h.2]
    rfl
end
/-! ## verdicts -/
def isN (lo hi : Int) : D → Bool
  | .int x => decide (lo ≤ x) && decide (x ≤ hi)
  | _ => false
def ltr (c : Nat) : Bool := decide (c ∈ (match b_is_name with | .cons _ (.cons (.ret (.bi _ (.cons (.comp _ (.op2 _ _ (.glob _ (.str s))) _ _ _ _) _))) _) => s.cps.toList | _ => []))
def nameB : D → Bool
  | .str s => decide (1 ≤ s.length ∧ s.length ≤ 6) && s.cps.toList.all ltr
  | _ => false
def rangeB (lo hi : D) : Bool := isN 1 99999 lo && (match lo with | .int l => isN l 99999 hi | _ => false)
def clayB : D → Bool
  | .tup [_, b, c, d] => isN 1 999 b && rangeB c d
  | _ => false
def glazeB : D → Bool
  | .tup [_, b, c] => rangeB b c
  | _ => false
theorem ltr_eq (c : Nat) : ltr c = decide (c ∈ ("abcdefghijklmnopqrstuvwxyz" : Str).cps.toList) := rfl
theorem len_toList (w : Str) : w.length = w.cps.toList.length := by simp [Str.length]
theorem ivTxt_ok (w : Str) (hw : w.length ≤ 1000) (hp : HpI) : ivTxt (.str w) hp = some (⟨w.cps.toList.map fun c => D.str ⟨#[c]⟩, none⟩, hp) := if_pos (sz hw)
theorem lenS (w : Str) (hw : w.length ≤ 1000) (hp : HpI) : semB .len [.str w] hp = some (.int w.length, hp) := if_pos (sz hw)
theorem eqE_lst (ds : List D) (hp : HpI) : sem2 .eqE (.lst ds) (.lst []) hp = some (.bl ds.isEmpty, hp) := rfl
theorem neE_lst (ds : List D) (hp : HpI) : sem2 .neE (.lst ds) (.lst []) hp = some (.bl (!ds.isEmpty), hp) := rfl
section
variable {wf n : Nat} {hp : HpI}
theorem is_number_ok (d : D) {k : Nat} (hd : wfD d k = true) (lo hi : Int) : run pg wf (n + 1) 0 [d, .int lo, .int hi] hp = .ok (.bl (isN lo hi d)) hp := by
  rw [r_is_number]
  cases d <;> first | (simp [wfD] at hd; done) | skip
  all_goals first | (simp [b_is_number, isN, isTy]; done) | skip
  rename_i x
  by_cases h : lo ≤ x <;> simp [b_is_number, h, isN, isTy]
theorem NUM (d : D) {k : Nat} (hd : wfD d k = true) (lo hi : Int) (hp : HpI) : framed (run pg wf (n + 1)) (some 0) 0 [d, .int lo, .int hi] hp = .ok (.bl (isN lo hi d)) hp :=
  framedC (is_number_ok d hd lo hi) (by simp [wf_closed d k hd]) rfl
theorem law_is_ok (d : D) {k : Nat} (hd : wfD d k = true) (lo hi : Int) : run pg wf (n + 1) 25 [d, .int lo, .int hi] hp = .ok (.bl (isN lo hi d)) hp := by
  rw [r__law_is]
  cases d <;> first | (simp [wfD] at hd; done) | skip
  all_goals first | (simp [b__law_is, isN, isTy]; done) | skip
  rename_i x
  by_cases h : lo ≤ x <;> simp [b__law_is, h, isN, isTy]
theorem LIS (d : D) {k : Nat} (hd : wfD d k = true) (lo hi : Int) (hp : HpI) : framed (run pg wf (n + 1)) (some 0) 25 [d, .int lo, .int hi] hp = .ok (.bl (isN lo hi d)) hp :=
  framedC (law_is_ok d hd lo hi) (by simp [wf_closed d k hd]) rfl
theorem is_name_ok (d : D) {k : Nat} (hd : wfD d k = true) : run pg wf (n + 1) 1 [d] hp = .ok (.bl (nameB d)) hp := by
  rw [r_is_name]
  cases d <;> first | (simp [wfD] at hd; done) | skip
  all_goals first | (simp [-ev_comp, b_is_name, nameB, isTy]; done) | skip
  rename_i w
  have hw : w.length ≤ 1000 := by
    rw [wfD, Bool.and_eq_true, decide_eq_true_eq] at hd
    exact hd.2
  have e1 : ∀ hp, ev (run pg wf n) (.comp false (.op2 .inx (.var 1) (.glob "LETTERS" (.str "abcdefghijklmnopqrstuvwxyz"))) (.name 1) (.txt (.var 0)) .none [1]) [some (.str w), none] hp = .ok (.lst (w.cps.toList.map fun c => D.bl (ltr c))) hp := by
    intro hp
    rw [ev_comp]
    have e3 : iv (run pg wf n) (.txt (.var 0)) [some (.str w), none] hp = .ok ⟨w.cps.toList.map fun c => D.str ⟨#[c]⟩, none⟩ hp := by simp [ivTxt_ok w hw]
    rw [e3, Out.bind_ok, compL_map (fun c => D.str ⟨#[c]⟩) (fun c => D.bl (ltr c)) rfl]
    · simp
    · intro c _
      have hn : ∀ hp, sem2 .inx (.str ⟨#[c]⟩) (.str "abcdefghijklmnopqrstuvwxyz") hp = some (.bl (ltr c), hp) := fun _ => rfl
      simp [wipeE, hn]
  have e2 := fun hp => lenS w hw hp
  rw [show nameB (.str w) = (decide (1 ≤ w.length ∧ w.length ≤ 6) && w.cps.toList.all ltr) from rfl]
  by_cases c1 : 1 ≤ w.length
  · by_cases c2 : w.length ≤ 6
    · have c1' : (1 : Int) ≤ w.length := by omega
      have c2' : (w.length : Int) ≤ 6 := by omega
      have c3' : ((w.cps.toList.map ltr).all id) = w.cps.toList.all ltr := by rw [List.all_map]; rfl
      rw [decide_eq_true ⟨c1, c2⟩]
      cases c3 : w.cps.toList.all ltr <;> simp [-ev_comp, -List.all_eq_true, -List.all_eq_false, b_is_name, isTy, e1, e2, c1', c2', c3', c3]
    · have c2' : ¬ (w.length : Int) ≤ 6 := by omega
      have c1' : (1 : Int) ≤ w.length := by omega
      simp [-ev_comp, b_is_name, isTy, e1, e2, c1', c2', c1, c2]
  · have c1' : ¬ (1 : Int) ≤ w.length := by omega
    simp [-ev_comp, b_is_name, isTy, e1, e2, c1', c1]
theorem NAME (d : D) {k : Nat} (hd : wfD d k = true) (hp : HpI) : framed (run pg wf (n + 1)) (some 0) 1 [d] hp = .ok (.bl (nameB d)) hp := framedC (is_name_ok d hd) (by simp [wf_closed d k hd]) rfl
theorem law_name_ok (d : D) {k : Nat} (hd : wfD d k = true) : run pg wf (n + 1) 26 [d] hp = .ok (.bl (nameB d)) hp := by
  rw [r__law_is_name]
  cases d <;> first | (simp [wfD] at hd; done) | skip
  all_goals first | (simp [-ev_comp, b__law_is_name, nameB, isTy]; done) | skip
  rename_i w
  have hw : w.length ≤ 1000 := by
    rw [wfD, Bool.and_eq_true, decide_eq_true_eq] at hd
    exact hd.2
  have e1 : ∀ hp, ev (run pg wf n) (.comp false (.var 1) (.name 1) (.txt (.var 0)) (.some (.cmp .ninx (.var 1) (.cst (.str "abcdefghijklmnopqrstuvwxyz")))) [1]) [some (.str w), none] hp = .ok (.lst ((w.cps.toList.filter fun c => !ltr c).map fun c => D.str ⟨#[c]⟩)) hp := by
    intro hp
    rw [ev_comp]
    have e3 : iv (run pg wf n) (.txt (.var 0)) [some (.str w), none] hp = .ok ⟨w.cps.toList.map fun c => D.str ⟨#[c]⟩, none⟩ hp := by simp [ivTxt_ok w hw]
    rw [e3, Out.bind_ok, compL_filter (fun c => D.str ⟨#[c]⟩) (fun c => D.str ⟨#[c]⟩) (fun c => !ltr c) rfl]
    · simp
    · intro c _
      have hn : ∀ hp, sem2 .ninx (.str ⟨#[c]⟩) (.str "abcdefghijklmnopqrstuvwxyz") hp = some (.bl (!ltr c), hp) := fun _ => rfl
      cases hd : ltr c <;> simp [wipeE, hn, hd]
  have e2 := fun hp => lenS w hw hp
  have e4 : ((w.cps.toList.filter fun c => !ltr c).map fun c => D.str ⟨#[c]⟩).isEmpty = w.cps.toList.all ltr := by
    generalize w.cps.toList = l
    induction l with
    | nil => rfl
    | cons c l ih =>
      rw [List.filter_cons]
      cases hd : ltr c with
      | true => simpa [hd] using ih
      | false => simp [hd]
  have e5 : ∀ hp, sem2 .eqE (.lst ((w.cps.toList.filter fun c => !ltr c).map fun c => D.str ⟨#[c]⟩)) (.lst []) hp = some (.bl (w.cps.toList.all ltr), hp) := fun hp => by rw [eqE_lst, e4]
  rw [show nameB (.str w) = (decide (1 ≤ w.length ∧ w.length ≤ 6) && w.cps.toList.all ltr) from rfl]
  by_cases c1 : 1 ≤ w.length
  · by_cases c2 : w.length ≤ 6
    · have c1' : (1 : Int) ≤ w.length := by omega
      have c2' : (w.length : Int) ≤ 6 := by omega
      rw [decide_eq_true ⟨c1, c2⟩]
      cases c3 : w.cps.toList.all ltr <;> (rw [c3] at e5; simp [-ev_comp, -List.all_eq_true, -List.all_eq_false, b__law_is_name, isTy, e1, e2, e5, c1', c2'])
    · have c2' : ¬ (w.length : Int) ≤ 6 := by omega
      have c1' : (1 : Int) ≤ w.length := by omega
      simp [-ev_comp, b__law_is_name, isTy, e1, e2, c1', c2', c1, c2]
  · have c1' : ¬ (1 : Int) ≤ w.length := by omega
    simp [-ev_comp, b__law_is_name, isTy, e1, e2, c1', c1]
theorem LNAME (d : D) {k : Nat} (hd : wfD d k = true) (hp : HpI) : framed (run pg wf (n + 1)) (some 0) 26 [d] hp = .ok (.bl (nameB d)) hp := framedC (law_name_ok d hd) (by simp [wf_closed d k hd]) rfl
theorem is_range_ok (a b : D) {k : Nat} (ha : wfD a k = true) (hb : wfD b k = true) : run pg wf (n + 2) 2 [a, b] hp = .ok (.bl (rangeB a b)) hp := by
  rw [r_is_range]
  have e1 := fun hp => NUM (wf := wf) (n := n) a ha 1 99999 hp
  unfold rangeB
  cases h : isN 1 99999 a with
  | false => simp [b_is_range, e1, h]
  | true =>
    cases a with
    | int x =>
      have e2 := fun hp => NUM (wf := wf) (n := n) b hb x 99999 hp
      simp [b_is_range, e1, h, e2]
    | _ => simp [isN] at h
theorem RANGE (a b : D) {k : Nat} (ha : wfD a k = true) (hb : wfD b k = true) (hp : HpI) : framed (run pg wf (n + 2)) (some 0) 2 [a, b] hp = .ok (.bl (rangeB a b)) hp := framedC (is_range_ok a b ha hb) (by simp [wf_closed a k ha, wf_closed b k hb]) rfl
theorem is_clay_ok (d : D) {k : Nat} (hd : wfD d k = true) : run pg wf (n + 3) 3 [d] hp = .ok (.bl (clayB d)) hp := by
  rw [r_is_clay]
  cases d <;> first | (simp [wfD] at hd; done) | skip
  all_goals first | (simp [b_is_clay, clayB, isTy]; done) | skip
  rename_i ds
  obtain ⟨j, rfl, hl, hw⟩ := wf_tup hd
  by_cases h4 : ds.length = 4
  · match ds, h4, hw with
    | [a, b, c, e], _, hw =>
      have hb := hw b (by simp)
      have hc := hw c (by simp)
      have he := hw e (by simp)
      have e1 := fun hp => NUM (wf := wf) (n := n + 1) b hb 1 999 hp
      have e2 := fun hp => RANGE (wf := wf) (n := n) c e hc he hp
      cases h : isN 1 999 b <;> simp [b_is_clay, clayB, isTy, e1, e2, h]
  · have h4' : ¬ ((ds.length : Int) = 4) := by omega
    have : clayB (.tup ds) = false := by
      unfold clayB
      split
      · rename_i e; cases e; simp at h4
      · rfl
    simp [b_is_clay, isTy, h4', this]
theorem is_glaze_ok (d : D) {k : Nat} (hd : wfD d k = true) : run pg wf (n + 3) 4 [d] hp = .ok (.bl (glazeB d)) hp := by
  rw [r_is_glaze]
  cases d <;> first | (simp [wfD] at hd; done) | skip
  all_goals first | (simp [b_is_glaze, glazeB, isTy]; done) | skip
  rename_i ds
  obtain ⟨j, rfl, hl, hw⟩ := wf_tup hd
  by_cases h4 : ds.length = 3
  · match ds, h4, hw with
    | [a, b, c], _, hw =>
      have hb := hw b (by simp)
      have hc := hw c (by simp)
      have e2 := fun hp => RANGE (wf := wf) (n := n) b c hb hc hp
      simp [b_is_glaze, glazeB, isTy, e2]
  · have h4' : ¬ ((ds.length : Int) = 3) := by omega
    have : glazeB (.tup ds) = false := by
      unfold glazeB
      split
      · rename_i e; cases e; simp at h4
      · rfl
    simp [b_is_glaze, isTy, h4', this]
end
end K01

namespace K01
open PySem KI
def headS : D → Option Str
  | .tup (.str s :: _) => some s
  | _ => none
def goodB (part : Nat) (d : D) : Bool := if part = 0 then clayB d else glazeB d
def headB : D → Bool
  | .tup (h :: _) => nameB h
  | _ => false
def rowB (part : Nat) (d : D) : Bool := goodB part d && headB d
def firstBad (part : Nat) : Nat → List Str → List D → Option Nat
  | _, _, [] => none
  | k, ns, r :: rs => if k = 6 ∨ rowB part r = false then some k else
    match headS r with
    | some s => if s ∈ ns then some k else firstBad part (k + 1) (ns ++ [s]) rs
    | none => some k
def rowsN (part : Nat) : D → Option Nat
  | .tup rs => firstBad part 0 [] rs
  | _ => some 0
def bgx (part k : Nat) : Exn := ⟨0, [("number", .int k), ("part", .int part)]⟩
def outG (hp : HpI) (part : Nat) : Option Nat → Out D
  | some k => .exc (bgx part k) hp
  | none => .ok .non hp
theorem good_shape {part : Nat} {r : D} (h : goodB part r = true) : ∃ a t, r = .tup (a :: t) := by
  unfold goodB at h
  split at h
  · unfold clayB at h
    split at h
    · exact ⟨_, _, rfl⟩
    · cases h
  · unfold glazeB at h
    split at h
    · exact ⟨_, _, rfl⟩
    · cases h
theorem head_of {a : D} {t : List D} (h : nameB a = true) : ∃ s, a = .str s ∧ headS (.tup (a :: t)) = some s := by
  cases a <;> first | (simp [nameB] at h; done) | skip
  exact ⟨_, rfl, rfl⟩
theorem inF_strs (x : Str) : ∀ (l : List Str), inF (.str x) (l.map D.str) = decide (x ∈ l)
  | [] => by simp [inF]
  | a :: l => by
    have ih := inF_strs x l
    show ((a == x) || inF (.str x) (l.map D.str)) = _
    rw [ih]
    by_cases h : x = a
    · subst h; simp
    · have : (a == x) = false := by simpa using fun e => h e.symm
      simp [h, this]
theorem flat_strs (l : List Str) : (l.map D.str).all flatD = true := by
  rw [List.all_map]
  exact List.all_eq_true.mpr fun _ _ => rfl
theorem inn_strs (x : Str) (l : List Str) (hp : HpI) : sem2 .inn (.str x) (.lst (l.map D.str)) hp = some (.bl (decide (x ∈ l)), hp) := by
  simp only [sem2, seqOf, lstOf, lst0, flat_strs, inF_strs]
  simp [flatD]
theorem nin_strs (x : Str) (l : List Str) (hp : HpI) : sem2 .nin (.str x) (.lst (l.map D.str)) hp = some (.bl (!decide (x ∈ l)), hp) := by
  simp only [sem2, seqOf, lstOf, lst0, flat_strs, inF_strs]
  simp [flatD]
theorem heads_fm {pre : List D} {ns : List Str} (h : pre.map headS = ns.map some) : pre.filterMap (fun d => (headS d).map D.str) = ns.map D.str := by
  induction pre generalizing ns with
  | nil =>
    cases ns with
    | nil => rfl
    | cons _ _ => cases h
  | cons p pre ih =>
    cases ns with
    | nil => cases h
    | cons s ns =>
      simp only [List.map_cons, List.cons.injEq] at h
      rw [List.filterMap_cons, h.1, List.map_cons, ← ih h.2]
      rfl
theorem heads_ix {pre : List D} {ns : List Str} (h : pre.map headS = ns.map some) : ∀ d ∈ pre, ∀ hp : HpI, ∃ s, headS d = some s ∧ sem2 .ix d (.int 0) hp = some (.str s, hp) := by
  intro d hd hp
  have : headS d ∈ pre.map headS := List.mem_map_of_mem hd
  rw [h] at this
  obtain ⟨s, _, e⟩ := List.mem_map.mp this
  refine ⟨s, e.symm, ?_⟩
  have e := e.symm
  unfold headS at e
  split at e
  · cases e; simp
  · cases e
section
variable {wf n : Nat} {hp : HpI}
theorem outG_of_sat {part : Nat} {o : Out D} {e : Option Nat} (h : Sat o (fun x h => ∃ k, e = some k ∧ x = bgx part k ∧ h = hp) (fun d h => e = none ∧ d = .non ∧ h = hp)) : o = outG hp part e := by
  cases o with
  | ok d h' => obtain ⟨h1, h2, h3⟩ := h.out; rw [h1, h2, h3]; rfl
  | exc x h' => obtain ⟨k, h1, h2, h3⟩ := h.out; rw [h1, h2, h3]; rfl
  | bad => exact h.out.elim
theorem need_rows_gen (part j : Nat) (hg : ∀ (d : D) (k : Nat), wfD d k = true → ∀ hp, framed (run pg wf (n + 4)) (some 0) (34 + j) [d] hp = .ok (.bl (goodB part d)) hp) (d : D) {k : Nat} (hd : wfD d k = true) :
    run pg wf (n + 5) 5 [d, .int part, .fn j] hp = outG hp part (rowsN part d) := by
  rw [r_need_rows]
  apply outG_of_sat
  cases d <;> first | (simp [wfD] at hd; done) | skip
  all_goals first | (simp [b_need_rows, isTy, rowsN, bgx]; done) | skip
  rename_i rows
  obtain ⟨m, rfl, hl, hw⟩ := wf_tup hd
  simp [-ev_comp, b_need_rows, isTy, rowsN]
  obtain ⟨I, hI⟩ : ∃ I : List D → EnvI → HpI → Prop, ∀ ds env h, I ds env h ↔ ∃ (pre post : List D) (ns : List Str) (a b : Option D), rows = pre ++ post ∧ pre.map headS = ns.map some ∧ firstBad part pre.length ns post = firstBad part 0 [] rows ∧ ds = enumD pre.length post ∧ env = [some (.tup rows), some (.int part), some (.fn j), a, b, none] ∧ h = hp := ⟨_, fun _ _ _ => Iff.rfl⟩
  refine ssat_for I _ _ _ ((hI _ _ _).mpr ⟨[], rows, [], none, none, rfl, rfl, rfl, rfl, rfl, rfl⟩) ?_ ?_
  · intro d ds env h hin
    obtain ⟨pre, post, ns, a, b, e1, hn, hf, e2, rfl, rfl⟩ := (hI _ _ _).mp hin
    cases post with
    | nil => cases e2
    | cons r post =>
      cases e2
      have hr : wfD r m = true := hw r (by rw [e1]; simp)
      have hG := hg r m hr
      rw [firstBad] at hf
      have key : (some pre.length = firstBad part 0 [] rows) → ∃ k, firstBad part 0 [] rows = some k ∧ (⟨0, [("number", .int pre.length), ("part", .int part)]⟩ : Exn) = bgx part k ∧ h = h := fun e => ⟨_, e.symm, rfl, rfl⟩
      by_cases c6 : pre.length = 6
      · have c6' : ((pre.length : Int) = 6) := by omega
        rw [if_pos (.inl c6)] at hf
        have := key hf
        rw [c6'] at this
        simp [-ev_comp, c6']
        simpa using this
      · have c6' : ¬ ((pre.length : Int) = 6) := by omega
        cases hgr : goodB part r with
        | false =>
          rw [hgr] at hG
          rw [if_pos (.inr (by simp [rowB, hgr]))] at hf
          simp [-ev_comp, c6', hG]
          simpa using key hf
        | true =>
          rw [hgr] at hG
          obtain ⟨x, t, rfl⟩ := good_shape hgr
          have hx : wfD x (m - 1) = true := by
            obtain ⟨q, e, _, h3⟩ := wf_tup hr
            rw [e]
            exact h3 x List.mem_cons_self
          have hN := fun hp => NAME (wf := wf) (n := n + 3) x hx hp
          cases hnx : nameB x with
          | false =>
            rw [hnx] at hN
            rw [if_pos (.inr (by simp [rowB, headB, hnx]))] at hf
            simp [-ev_comp, c6', hG, hN]
            simpa using key hf
          | true =>
            rw [hnx] at hN
            obtain ⟨s, rfl, hs⟩ := head_of (t := t) hnx
            rw [if_neg (by simp [c6, rowB, hgr, headB, hnx]), hs] at hf
            simp only at hf
            have hcomp : ∀ (hp : HpI), ev (run pg wf (n + 4)) (.comp false (.op2 .ix (.var 5) (.cst (.int 0))) (.name 5) (.seq (.sl false (.var 0) .none (.some (.var 3)))) .none [5]) [some (.tup rows), some (.int part), some (.fn j), some (.int pre.length), some (.tup (.str s :: t)), none] hp = .ok (.lst (ns.map D.str)) hp := by
              intro hp
              rw [ev_comp]
              have e3 : iv (run pg wf (n + 4)) (.seq (.sl false (.var 0) .none (.some (.var 3)))) [some (.tup rows), some (.int part), some (.fn j), some (.int pre.length), some (.tup (.str s :: t)), none] hp = .ok ⟨pre, none⟩ hp := by
                simp [cut_take, e1]
              rw [e3, Out.bind_ok, comp_pure (fun d => (headS d).map D.str) rfl]
              · rw [heads_fm hn]
                simp
              · intro d hd
                obtain ⟨s', e4, e5⟩ := heads_ix hn d hd hp
                simp [wipeE, e4, e5]
            have hi := fun hp => inn_strs s ns hp
            by_cases hm : s ∈ ns
            · rw [if_pos hm] at hf
              rw [decide_eq_true hm] at hi
              simp [-ev_comp, c6', hG, hN, hcomp, hi]
              simpa using key hf
            · rw [if_neg hm] at hf
              rw [decide_eq_false hm] at hi
              simp [-ev_comp, c6', hG, hN, hcomp, hi]
              rw [hI]
              exact ⟨pre ++ [.tup (.str s :: t)], post, ns ++ [s], _, _, by simp [e1], by simp [hn, hs], by simpa using hf, by simp, rfl, rfl⟩
  · intro env h hin
    obtain ⟨pre, post, ns, a, b, e1, hn, hf, e2, rfl, rfl⟩ := (hI _ _ _).mp hin
    cases post with
    | cons _ _ => cases e2
    | nil =>
      simp
      rw [← hf]
      rfl
end
end K01

namespace K01
open PySem KI
def isE : D → Bool
  | .tup [] => true
  | _ => false
def rowsV (part : Nat) (d : D) : Option Nat := if part = 0 ∧ isE d = true then some 0 else rowsN part d
def optD : Option Nat → D
  | some k => .int k
  | none => .non
theorem rowsV_ne {part : Nat} {rows : List D} (h : ¬ (part = 0 ∧ rows = [])) : rowsV part (.tup rows) = firstBad part 0 [] rows := by
  unfold rowsV
  rw [if_neg]
  · rfl
  · rintro ⟨h1, h2⟩
    cases rows with
    | nil => exact h ⟨h1, rfl⟩
    | cons _ _ => cases h2
section
variable {wf n : Nat} {hp : HpI}
theorem law_first0_ok (d : D) {k : Nat} (hk : k < 60) (hd : wfD d k = true) : run pg wf (n + 2) 27 [d, .int 4] hp = .ok (optD (rowsV 0 d)) hp := by
  rw [r__law_first]
  apply eq_of_sat
  cases d <;> first | (simp [wfD] at hd; done) | skip
  all_goals first | (simp [b__law_first, isTy, rowsV, isE, rowsN, optD]; done) | skip
  rename_i rows
  obtain ⟨m, rfl, hl, hw⟩ := wf_tup hd
  have heq : ∀ hp, sem2 .eq (.tup rows) (.tup []) hp = some (.bl rows.isEmpty, hp) := fun hp => by
    rw [s2_eq_ok (wf_okd _ _ 60 hk hd) rfl]
    cases rows <;> simp
  by_cases h0 : 0 = 0 ∧ rows = []
  · obtain ⟨h1, rfl⟩ := h0
    simp [b__law_first, isTy, heq, rowsV, isE, optD]
  · rw [rowsV_ne h0]
    have hz : rows.length ≤ sizeLine := sz (by omega)
    have hne : rows.isEmpty = false := by
      cases rows with
      | nil => exact absurd ⟨rfl, rfl⟩ h0
      | cons _ _ => rfl
    simp [-ev_comp, -s2_ixT, b__law_first, isTy, heq, hne, rng_ok hz]
    obtain ⟨I, hI⟩ : ∃ I : List D → EnvI → HpI → Prop, ∀ ds env h, I ds env h ↔ ∃ (pre post : List D) (ns : List Str) (a b c e : Option D), rows = pre ++ post ∧ pre.length ≤ 6 ∧ pre.map headS = ns.map some ∧ firstBad 0 pre.length ns post = firstBad 0 0 [] rows ∧ ds = rngD pre.length post.length ∧ env = [some (.tup rows), some (.int 4), a, b, c, e, none] ∧ h = hp := ⟨_, fun _ _ _ => Iff.rfl⟩
    refine ssat_for I _ _ _ ((hI _ _ _).mpr ⟨[], rows, [], none, none, none, none, rfl, by simp, rfl, rfl, rfl, rfl, rfl⟩) ?_ ?_
    · intro d ds env h hin
      obtain ⟨pre, post, ns, a, b, c, e, e1, hl6, hn, hf, e2, rfl, rfl⟩ := (hI _ _ _).mp hin
      cases post with
      | nil => cases e2
      | cons r post =>
        cases e2
        have hr : wfD r m = true := hw r (by rw [e1]; simp)
        have hix : ∀ hp, sem2 .ix (.tup rows) (.int pre.length) hp = some (r, hp) := fun hp => by
          rw [s2_ixT, atI_nat, e1]
          simp
        rw [firstBad] at hf
        have key : some pre.length = firstBad 0 0 [] rows → optD (firstBad 0 0 [] rows) = D.int pre.length := fun e => by rw [← e]; rfl
        by_cases c6 : pre.length = 6
        · have c6' : (5 : Int) < pre.length := by omega
          rw [if_pos (.inl c6)] at hf
          have hk := key hf
          simp [-ev_comp, -s2_ixT, hix, c6', hk]
        · have c6' : ¬ ((5 : Int) < pre.length) := by omega
          have bad : rowB 0 r = false → optD (firstBad 0 0 [] rows) = D.int pre.length := fun e => by
            rw [if_pos (.inr e)] at hf
            exact key hf
          cases r <;> first | (simp [wfD] at hr; done) | skip
          all_goals first | (have hb := bad (by rfl); simp [-ev_comp, -s2_ixT, hix, c6', isTy, hb]; done) | skip
          rename_i xs
          obtain ⟨q, rfl, hlx, hwx⟩ := wf_tup hr
          by_cases hlen : xs.length = 4
          · match xs, hlen, hwx with
            | [x, ri, lo, hi], _, hwx =>
              have wx := hwx x (by simp)
              have wlo := hwx lo (by simp)
              have whi := hwx hi (by simp)
              have hN := fun hp => LNAME (wf := wf) (n := n) x wx hp
              have i0 : ∀ hp, sem2 .ix (.tup [x, ri, lo, hi]) (.int 0) hp = some (x, hp) := fun hp => rfl
              have sl : ∀ hp, semSl false (.tup [x, ri, lo, hi]) (some 2) none hp = some (.tup [lo, hi], hp) := fun hp => rfl
              have wri := hwx ri (by simp)
              have hR := fun hp => LIS (wf := wf) (n := n) ri wri 1 999 hp
              have i1 : ∀ hp, sem2 .ix (.tup [x, ri, lo, hi]) (.int 1) hp = some (ri, hp) := fun hp => rfl
              cases hnx : nameB x with
              | false =>
                rw [hnx] at hN
                have hb := bad (by simp [rowB, headB, hnx])
                simp [-ev_comp, -s2_ixT, hix, c6', isTy, i0, hN, hb]
              | true =>
                rw [hnx] at hN
                have hL := fun hp => LIS (wf := wf) (n := n) lo wlo 1 99999 hp
                cases hlo : isN 1 99999 lo with
                | false =>
                  rw [hlo] at hL
                  have hb := bad (by simp [rowB, goodB, clayB, glazeB, rangeB, hlo])
                  simp [-ev_comp, -s2_ixT, -sl_tup, hix, c6', isTy, i0, hN, sl, hL, hb]
                | true =>
                  rw [hlo] at hL
                  obtain ⟨l, rfl⟩ : ∃ l, lo = .int l := by cases lo <;> first | exact ⟨_, rfl⟩ | (simp [isN] at hlo)
                  have hH := fun hp => LIS (wf := wf) (n := n) hi whi l 99999 hp
                  cases hhi : isN l 99999 hi with
                  | false =>
                    rw [hhi] at hH
                    have hb := bad (by simp [rowB, goodB, clayB, glazeB, rangeB, hhi])
                    simp [-ev_comp, -s2_ixT, -sl_tup, hix, c6', isTy, i0, hN, sl, hL, hH, hb]
                  | true =>
                    rw [hhi] at hH
                    cases hri : isN 1 999 ri with
                    | false =>
                      rw [hri] at hR
                      have hb := bad (by simp [rowB, goodB, clayB, hri])
                      simp [-ev_comp, -s2_ixT, -sl_tup, hix, c6', isTy, i0, i1, hN, sl, hL, hH, hR, hb]
                    | true =>
                    rw [hri] at hR
                    obtain ⟨s, rfl, hs⟩ := head_of (t := [ri, .int l, hi]) hnx
                    have hgr : rowB 0 (.tup [.str s, ri, .int l, hi]) = true := by simp [rowB, headB, hnx, goodB, clayB, glazeB, rangeB, hlo, hhi, hri]
                    rw [if_neg (by simp [c6, hgr]), hs] at hf
                    simp only at hf
                    have hcomp : ∀ (hp : HpI), ev (run pg wf (n + 1)) (.comp false (.op2 .ix (.var 6) (.cst (.int 0))) (.name 6) (.seq (.sl false (.var 0) .none (.some (.var 2)))) .none [6]) [some (.tup rows), some (.int 4), some (.int pre.length), some (.tup [.str s, ri, .int l, hi]), some (.int l), some hi, none] hp = .ok (.lst (ns.map D.str)) hp := by
                      intro hp
                      rw [ev_comp]
                      have e3 : iv (run pg wf (n + 1)) (.seq (.sl false (.var 0) .none (.some (.var 2)))) [some (.tup rows), some (.int 4), some (.int pre.length), some (.tup [.str s, ri, .int l, hi]), some (.int l), some hi, none] hp = .ok ⟨pre, none⟩ hp := by
                        simp [cut_take, e1]
                      rw [e3, Out.bind_ok, comp_pure (fun d => (headS d).map D.str) rfl]
                      · rw [heads_fm hn]
                        simp
                      · intro d hd
                        obtain ⟨s', e4, e5⟩ := heads_ix hn d hd hp
                        simp [wipeE, e4, e5]
                    have hi2 := fun hp => inn_strs s ns hp
                    by_cases hm : s ∈ ns
                    · rw [if_pos hm] at hf
                      rw [decide_eq_true hm] at hi2
                      have hb := key hf
                      simp [-ev_comp, -s2_ixT, -sl_tup, hix, c6', isTy, i0, hN, sl, hL, hH, hcomp, hi2, hb, i1, hR]
                    · rw [if_neg hm] at hf
                      rw [decide_eq_false hm] at hi2
                      simp [-ev_comp, -s2_ixT, -sl_tup, hix, c6', isTy, i0, hN, sl, hL, hH, hcomp, hi2, i1, hR]
                      rw [hI]
                      exact ⟨pre ++ [.tup [.str s, ri, .int l, hi]], post, ns ++ [s], _, _, _, _, by simp [e1], by simp; omega, by simp [hn, hs], by simpa using hf, by simp, rfl, rfl⟩
          · have hlen' : ¬ ((xs.length : Int) = 4) := by omega
            have hb := bad (by
              have : clayB (.tup xs) = false := by
                unfold clayB
                split
                · rename_i e; cases e; simp at hlen
                · rfl
              simp [rowB, goodB, this])
            simp [-ev_comp, -s2_ixT, hix, c6', isTy, hlen', hb]
    · intro env h hin
      obtain ⟨pre, post, ns, a, b, c, e, e1, hl6, hn, hf, e2, rfl, rfl⟩ := (hI _ _ _).mp hin
      cases post with
      | cons _ _ => cases e2
      | nil =>
        simp
        rw [← hf]
        rfl
theorem law_first1_ok (d : D) {k : Nat} (hk : k < 60) (hd : wfD d k = true) : run pg wf (n + 2) 27 [d, .int 3] hp = .ok (optD (rowsV 1 d)) hp := by
  rw [r__law_first]
  apply eq_of_sat
  cases d <;> first | (simp [wfD] at hd; done) | skip
  all_goals first | (simp [b__law_first, isTy, rowsV, isE, rowsN, optD]; done) | skip
  rename_i rows
  obtain ⟨m, rfl, hl, hw⟩ := wf_tup hd
  have heq : ∀ hp, sem2 .eq (.tup rows) (.tup []) hp = some (.bl rows.isEmpty, hp) := fun hp => by
    rw [s2_eq_ok (wf_okd _ _ 60 hk hd) rfl]
    cases rows <;> simp
  by_cases h0 : 1 = 0 ∧ rows = []
  · obtain ⟨h1, rfl⟩ := h0
    exact absurd h1 (by decide)
  · rw [rowsV_ne h0]
    have hz : rows.length ≤ sizeLine := sz (by omega)
    have hne : True := trivial
    simp [-ev_comp, -s2_ixT, b__law_first, isTy, heq, hne, rng_ok hz]
    obtain ⟨I, hI⟩ : ∃ I : List D → EnvI → HpI → Prop, ∀ ds env h, I ds env h ↔ ∃ (pre post : List D) (ns : List Str) (a b c e : Option D), rows = pre ++ post ∧ pre.length ≤ 6 ∧ pre.map headS = ns.map some ∧ firstBad 1 pre.length ns post = firstBad 1 0 [] rows ∧ ds = rngD pre.length post.length ∧ env = [some (.tup rows), some (.int 3), a, b, c, e, none] ∧ h = hp := ⟨_, fun _ _ _ => Iff.rfl⟩
    refine ssat_for I _ _ _ ((hI _ _ _).mpr ⟨[], rows, [], none, none, none, none, rfl, by simp, rfl, rfl, rfl, rfl, rfl⟩) ?_ ?_
    · intro d ds env h hin
      obtain ⟨pre, post, ns, a, b, c, e, e1, hl6, hn, hf, e2, rfl, rfl⟩ := (hI _ _ _).mp hin
      cases post with
      | nil => cases e2
      | cons r post =>
        cases e2
        have hr : wfD r m = true := hw r (by rw [e1]; simp)
        have hix : ∀ hp, sem2 .ix (.tup rows) (.int pre.length) hp = some (r, hp) := fun hp => by
          rw [s2_ixT, atI_nat, e1]
          simp
        rw [firstBad] at hf
        have key : some pre.length = firstBad 1 0 [] rows → optD (firstBad 1 0 [] rows) = D.int pre.length := fun e => by rw [← e]; rfl
        by_cases c6 : pre.length = 6
        · have c6' : (5 : Int) < pre.length := by omega
          rw [if_pos (.inl c6)] at hf
          have hk := key hf
          simp [-ev_comp, -s2_ixT, hix, c6', hk]
        · have c6' : ¬ ((5 : Int) < pre.length) := by omega
          have bad : rowB 1 r = false → optD (firstBad 1 0 [] rows) = D.int pre.length := fun e => by
            rw [if_pos (.inr e)] at hf
            exact key hf
          cases r <;> first | (simp [wfD] at hr; done) | skip
          all_goals first | (have hb := bad (by rfl); simp [-ev_comp, -s2_ixT, hix, c6', isTy, hb]; done) | skip
          rename_i xs
          obtain ⟨q, rfl, hlx, hwx⟩ := wf_tup hr
          by_cases hlen : xs.length = 3
          · match xs, hlen, hwx with
            | [x, lo, hi], _, hwx =>
              have wx := hwx x (by simp)
              have wlo := hwx lo (by simp)
              have whi := hwx hi (by simp)
              have hN := fun hp => LNAME (wf := wf) (n := n) x wx hp
              have i0 : ∀ hp, sem2 .ix (.tup [x, lo, hi]) (.int 0) hp = some (x, hp) := fun hp => rfl
              have sl : ∀ hp, semSl false (.tup [x, lo, hi]) (some 1) none hp = some (.tup [lo, hi], hp) := fun hp => rfl
              skip
              cases hnx : nameB x with
              | false =>
                rw [hnx] at hN
                have hb := bad (by simp [rowB, headB, hnx])
                simp [-ev_comp, -s2_ixT, hix, c6', isTy, i0, hN, hb]
              | true =>
                rw [hnx] at hN
                have hL := fun hp => LIS (wf := wf) (n := n) lo wlo 1 99999 hp
                cases hlo : isN 1 99999 lo with
                | false =>
                  rw [hlo] at hL
                  have hb := bad (by simp [rowB, goodB, clayB, glazeB, rangeB, hlo])
                  simp [-ev_comp, -s2_ixT, -sl_tup, hix, c6', isTy, i0, hN, sl, hL, hb]
                | true =>
                  rw [hlo] at hL
                  obtain ⟨l, rfl⟩ : ∃ l, lo = .int l := by cases lo <;> first | exact ⟨_, rfl⟩ | (simp [isN] at hlo)
                  have hH := fun hp => LIS (wf := wf) (n := n) hi whi l 99999 hp
                  cases hhi : isN l 99999 hi with
                  | false =>
                    rw [hhi] at hH
                    have hb := bad (by simp [rowB, goodB, clayB, glazeB, rangeB, hhi])
                    simp [-ev_comp, -s2_ixT, -sl_tup, hix, c6', isTy, i0, hN, sl, hL, hH, hb]
                  | true =>
                    rw [hhi] at hH
                    skip
                    obtain ⟨s, rfl, hs⟩ := head_of (t := [.int l, hi]) hnx
                    have hgr : rowB 1 (.tup [.str s, .int l, hi]) = true := by simp [rowB, headB, hnx, goodB, clayB, glazeB, rangeB, hlo, hhi]
                    rw [if_neg (by simp [c6, hgr]), hs] at hf
                    simp only at hf
                    have hcomp : ∀ (hp : HpI), ev (run pg wf (n + 1)) (.comp false (.op2 .ix (.var 6) (.cst (.int 0))) (.name 6) (.seq (.sl false (.var 0) .none (.some (.var 2)))) .none [6]) [some (.tup rows), some (.int 3), some (.int pre.length), some (.tup [.str s, .int l, hi]), some (.int l), some hi, none] hp = .ok (.lst (ns.map D.str)) hp := by
                      intro hp
                      rw [ev_comp]
                      have e3 : iv (run pg wf (n + 1)) (.seq (.sl false (.var 0) .none (.some (.var 2)))) [some (.tup rows), some (.int 3), some (.int pre.length), some (.tup [.str s, .int l, hi]), some (.int l), some hi, none] hp = .ok ⟨pre, none⟩ hp := by
                        simp [cut_take, e1]
                      rw [e3, Out.bind_ok, comp_pure (fun d => (headS d).map D.str) rfl]
                      · rw [heads_fm hn]
                        simp
                      · intro d hd
                        obtain ⟨s', e4, e5⟩ := heads_ix hn d hd hp
                        simp [wipeE, e4, e5]
                    have hi2 := fun hp => inn_strs s ns hp
                    by_cases hm : s ∈ ns
                    · rw [if_pos hm] at hf
                      rw [decide_eq_true hm] at hi2
                      have hb := key hf
                      simp [-ev_comp, -s2_ixT, -sl_tup, hix, c6', isTy, i0, hN, sl, hL, hH, hcomp, hi2, hb]
                    · rw [if_neg hm] at hf
                      rw [decide_eq_false hm] at hi2
                      simp [-ev_comp, -s2_ixT, -sl_tup, hix, c6', isTy, i0, hN, sl, hL, hH, hcomp, hi2]
                      rw [hI]
                      exact ⟨pre ++ [.tup [.str s, .int l, hi]], post, ns ++ [s], _, _, _, _, by simp [e1], by simp; omega, by simp [hn, hs], by simpa using hf, by simp, rfl, rfl⟩
          · have hlen' : ¬ ((xs.length : Int) = 3) := by omega
            have hb := bad (by
              have : glazeB (.tup xs) = false := by
                unfold glazeB
                split
                · rename_i e; cases e; simp at hlen
                · rfl
              simp [rowB, goodB, this])
            simp [-ev_comp, -s2_ixT, hix, c6', isTy, hlen', hb]
    · intro env h hin
      obtain ⟨pre, post, ns, a, b, c, e, e1, hl6, hn, hf, e2, rfl, rfl⟩ := (hI _ _ _).mp hin
      cases post with
      | cons _ _ => cases e2
      | nil =>
        simp
        rw [← hf]
        rfl
end
end K01

namespace K01
open PySem KI
def kilnB : D → Bool
  | .tup [a, b, c, e] => isN 1 40 a && (isN 1 60 b && (isN 1 6 c && isN 0 30 e))
  | _ => false
def bkx : Exn := ⟨1, []⟩
def outK (hp : HpI) (b : Bool) : Out D := if b = true then .ok .non hp else .exc bkx hp
def goodsV (c g : D) : Option (Nat × Nat) := match rowsV 0 c with
  | some k => some (0, k)
  | none => (rowsV 1 g).map fun k => (1, k)
def outGG (hp : HpI) : Option (Nat × Nat) → Out D
  | some (p, k) => .exc (bgx p k) hp
  | none => .ok .non hp
theorem kiln_ne {ds : List D} (h : ds.length ≠ 4) : kilnB (.tup ds) = false := by
  unfold kilnB
  split
  · rename_i e; cases e; simp at h
  · rfl
section
variable {wf n : Nat} {hp : HpI}
theorem need_kiln_ok (d : D) {k : Nat} (hd : wfD d k = true) : run pg wf (n + 2) 7 [d] hp = outK hp (kilnB d) := by
  rw [r_need_kiln]
  cases d <;> first | (simp [wfD] at hd; done) | skip
  all_goals first | (simp [b_need_kiln, isTy, kilnB, outK, bkx]; done) | skip
  rename_i ds
  obtain ⟨m, rfl, hl, hw⟩ := wf_tup hd
  by_cases h4 : ds.length = 4
  · match ds, h4, hw with
    | [a, b, c, e], _, hw =>
      have ha := fun hp => NUM (wf := wf) (n := n) a (hw a (by simp)) 1 40 hp
      have hb := fun hp => NUM (wf := wf) (n := n) b (hw b (by simp)) 1 60 hp
      have hc := fun hp => NUM (wf := wf) (n := n) c (hw c (by simp)) 1 6 hp
      have he := fun hp => NUM (wf := wf) (n := n) e (hw e (by simp)) 0 30 hp
      cases h1 : isN 1 40 a <;> cases h2 : isN 1 60 b <;> cases h3 : isN 1 6 c <;> cases h5 : isN 0 30 e <;> simp [b_need_kiln, isTy, kilnB, outK, bkx, ha, hb, hc, he, h1, h2, h3, h5]
  · have h4' : ¬ ((ds.length : Int) = 4) := by omega
    simp [b_need_kiln, isTy, kiln_ne h4, h4', outK, bkx]
theorem law_kiln_ok (d : D) {k : Nat} (hd : wfD d k = true) : run pg wf (n + 2) 28 [d] hp = .ok (.bl (kilnB d)) hp := by
  rw [r__law_is_kiln]
  cases d <;> first | (simp [wfD] at hd; done) | skip
  all_goals first | (simp [b__law_is_kiln, isTy, kilnB]; done) | skip
  rename_i ds
  obtain ⟨m, rfl, hl, hw⟩ := wf_tup hd
  by_cases h4 : ds.length = 4
  · match ds, h4, hw with
    | [a, b, c, e], _, hw =>
      have ha := fun hp => LIS (wf := wf) (n := n) a (hw a (by simp)) 1 40 hp
      have hb := fun hp => LIS (wf := wf) (n := n) b (hw b (by simp)) 1 60 hp
      have hc := fun hp => LIS (wf := wf) (n := n) c (hw c (by simp)) 1 6 hp
      have he := fun hp => LIS (wf := wf) (n := n) e (hw e (by simp)) 0 30 hp
      cases h1 : isN 1 40 a <;> cases h2 : isN 1 60 b <;> cases h3 : isN 1 6 c <;> simp [b__law_is_kiln, isTy, kilnB, ha, hb, hc, he, h1, h2, h3]
  · have h4' : ¬ ((ds.length : Int) = 4) := by omega
    simp [b__law_is_kiln, isTy, kiln_ne h4, h4']
theorem lam0_ok (d : D) (k : Nat) (hd : wfD d k = true) (hp : HpI) : framed (run pg wf (n + 4)) (some 0) (34 + 0) [d] hp = .ok (.bl (goodB 1 d)) hp := by
  have h1 := fun hp => framedC (hp := hp) (is_glaze_ok (wf := wf) (n := n) (hp := []) d hd) (by simp [wf_closed d k hd]) rfl
  refine framedC (hp' := []) ?_ (by simp [wf_closed d k hd]) rfl
  show run pg wf (n + 3 + 1) 34 [d] [] = _
  rw [rl_0]
  simp [l_0, h1, goodB]
theorem lam1_ok (d : D) (k : Nat) (hd : wfD d k = true) (hp : HpI) : framed (run pg wf (n + 4)) (some 0) (34 + 1) [d] hp = .ok (.bl (goodB 0 d)) hp := by
  have h1 := fun hp => framedC (hp := hp) (is_clay_ok (wf := wf) (n := n) (hp := []) d hd) (by simp [wf_closed d k hd]) rfl
  refine framedC (hp' := []) ?_ (by simp [wf_closed d k hd]) rfl
  show run pg wf (n + 3 + 1) 35 [d] [] = _
  rw [rl_1]
  simp [l_1, h1, goodB]
theorem outG_frame {cf : CF} {f : Nat} {ds : List D} {part : Nat} {e : Option Nat} (h : cf f ds [] = outG [] part e) (c : closeds 0 ds = true) (hp : HpI) : framed cf (some 0) f ds hp = outG hp part e := by
  cases e with
  | none => exact framedC h c rfl
  | some k => exact framedX h c rfl
theorem need_goods_ok (c g : D) {k : Nat} (hk : k < 60) (hc : wfD c k = true) (hg : wfD g k = true) : run pg wf (n + 6) 6 [c, g] hp = outGG hp (goodsV c g) := by
  have q1 : ∀ hp, framed (run pg wf (n + 5)) (some 0) 5 [c, .int 0, .fn 1] hp = outG hp 0 (rowsN 0 c) := fun hp => outG_frame (need_rows_gen (wf := wf) (n := n) (hp := []) 0 1 (fun d k hd hp => lam1_ok d k hd hp) c hc) (by simp [wf_closed c k hc]) hp
  have q2 : ∀ hp, framed (run pg wf (n + 5)) (some 0) 5 [g, .int 1, .fn 0] hp = outG hp 1 (rowsN 1 g) := fun hp => outG_frame (need_rows_gen (wf := wf) (n := n) (hp := []) 1 0 (fun d k hd hp => lam0_ok d k hd hp) g hg) (by simp [wf_closed g k hg]) hp
  rw [r_need_goods]
  unfold goodsV
  cases h1 : rowsN 0 c with
  | some j =>
    rw [h1] at q1
    have : rowsV 0 c = some j := by
      unfold rowsV
      rw [if_neg, h1]
      rintro ⟨_, h2⟩
      cases c <;> first | cases h2 | skip
      rename_i ds
      cases ds with
      | nil => cases h1
      | cons _ _ => cases h2
    rw [this]
    simp only [outG] at q1
    simp [b_need_goods, q1, outGG]
  | none =>
    rw [h1] at q1
    simp only [outG] at q1
    obtain ⟨rows, rfl⟩ : ∃ rows, c = .tup rows := by
      cases c <;> first | exact ⟨_, rfl⟩ | (simp [rowsN] at h1)
    have heq : ∀ hp, sem2 .eq (.tup rows) (.tup []) hp = some (.bl rows.isEmpty, hp) := fun hp => by
      rw [s2_eq_ok (wf_okd _ _ 60 hk hc) rfl]
      cases rows <;> simp
    cases rows with
    | nil =>
      have : rowsV 0 (.tup []) = some 0 := rfl
      rw [this]
      simp [b_need_goods, q1, heq, outGG, bgx]
    | cons r rows =>
      have : rowsV 0 (.tup (r :: rows)) = none := by
        rw [rowsV_ne (by simp)]
        exact h1
      rw [this]
      have h2 : rowsV 1 g = rowsN 1 g := by unfold rowsV; rw [if_neg (by simp)]
      rw [h2]
      cases h3 : rowsN 1 g with
      | none =>
        rw [h3] at q2
        simp only [outG] at q2
        simp [b_need_goods, q1, q2, heq, outGG]
      | some j =>
        rw [h3] at q2
        simp only [outG] at q2
        simp [b_need_goods, q1, q2, heq, outGG]
end
theorem firstBad_none {part : Nat} : ∀ (post : List D) (k : Nat) (ns : List Str), firstBad part k ns post = none → ∃ ms : List Str, post.map headS = ms.map some
  | [], _, _, _ => ⟨[], rfl⟩
  | r :: post, k, ns, h => by
    rw [firstBad] at h
    split at h
    · cases h
    · split at h
      · rename_i s hs
        split at h
        · cases h
        · obtain ⟨ms, e⟩ := firstBad_none post _ _ h
          exact ⟨s :: ms, by simp [hs, e]⟩
      · cases h
theorem rowsV_none {part : Nat} {d : D} (h : rowsV part d = none) : ∃ (rows : List D) (ns : List Str), d = .tup rows ∧ rows.map headS = ns.map some := by
  have h2 : rowsN part d = none := by
    unfold rowsV at h
    split at h
    · cases h
    · exact h
  match d, h2 with
  | .tup rows, h2 =>
    obtain ⟨ns, e⟩ := firstBad_none rows 0 [] h2
    exact ⟨rows, ns, rfl, e⟩
  | .non, h2 => cases h2
  | .bl _, h2 => cases h2
  | .int _, h2 => cases h2
  | .str _, h2 => cases h2
  | .lst _, h2 => cases h2
  | .sq _, h2 => cases h2
  | .loc _, h2 => cases h2
  | .fn _, h2 => cases h2
end K01

namespace K01
open PySem KI
/-! ## in, at any depth -/
theorem okds_toPys : ∀ (ds : List D) (k : Nat), okds ds k = true → ∃ ps, toPys ds = some ps ∧ PyData.canLayAll0 ps = true ∧ PyData.depthAll ps ≤ k := by
  intro ds k h
  obtain ⟨p, h1, h2, h3⟩ := toPy_ok (.tup ds) (k + 1) (by rw [okd]; exact h)
  rw [toPy, Option.map_eq_some_iff] at h1
  obtain ⟨ps, e, rfl⟩ := h1
  refine ⟨ps, e, h2, ?_⟩
  have : PyData.depthAll ps + 1 ≤ k + 1 := h3
  omega
theorem any_eqd (a : D) (p : PyData) (ha : toPy a = some p) : ∀ (ds : List D) (ps : List PyData), toPys ds = some ps → (ps.any fun z => PyData.eqv z p) = ds.any fun z => eqd z a
  | [], ps, h => by cases h; rfl
  | d :: ds, ps, h => by
    rw [toPys] at h
    cases q1 : toPy d with
    | none => rw [q1] at h; cases h
    | some x =>
      cases q2 : toPys ds with
      | none => rw [q1, q2] at h; cases h
      | some xs =>
        rw [q1, q2] at h
        cases h
        rw [List.any_cons, List.any_cons, eqv_eqd d a x p q1 ha, any_eqd a p ha ds xs q2]
theorem py_of_okd {a : D} {k : Nat} (h : okd a k = true) (hp : HpI) : pyD hp a = toPy a := by
  cases a <;> first | rfl | (cases k <;> simp [okd] at h)
theorem anyP_ok (a l : D) (ds : List D) (hl : l = .lst ds ∨ l = .tup ds) (ha : okd a 60 = true) (hds : okds ds 59 = true) (hp : HpI) : anyP hp a l = some (ds.any fun z => eqd z a) := by
  obtain ⟨p, h1, h2, h3⟩ := toPy_ok a 60 ha
  obtain ⟨ps, e1, e2, e3⟩ := okds_toPys ds 59 hds
  have hpa : pyD hp a = some p := by rw [py_of_okd ha, h1]
  have hs : SeqAt.shaped p = true := by
    unfold SeqAt.shaped
    rw [Bool.and_eq_true, decide_eq_true_eq]
    exact ⟨h2, by omega⟩
  unfold anyP
  rcases hl with rfl | rfl
  · have hpl : pyD hp (.lst ds) = some (.list ps) := by
      show toPy (.lst ds) = _
      rw [toPy, e1]
      rfl
    have hs2 : SeqAt.shaped (.list ps) = true := by
      unfold SeqAt.shaped
      rw [Bool.and_eq_true, decide_eq_true_eq]
      refine ⟨e2, ?_⟩
      show PyData.depthAll ps + 1 ≤ 64
      omega
    rw [hpa, hpl]
    simp only
    rw [if_pos ⟨hs, by omega, hs2⟩, any_eqd a p h1 ds ps e1]
  · have hpl : pyD hp (.tup ds) = some (.tuple ps) := by
      show toPy (.tup ds) = _
      rw [toPy, e1]
      rfl
    have hs2 : SeqAt.shaped (.tuple ps) = true := by
      unfold SeqAt.shaped
      rw [Bool.and_eq_true, decide_eq_true_eq]
      refine ⟨e2, ?_⟩
      show PyData.depthAll ps + 1 ≤ 64
      omega
    rw [hpa, hpl]
    simp only
    rw [if_pos ⟨hs, by omega, hs2⟩, any_eqd a p h1 ds ps e1]
def inS (l : List Str) : D → Bool
  | .str s => decide (s ∈ l)
  | _ => false
theorem any_strs (a : D) : ∀ (l : List Str), ((l.map D.str).any fun z => eqd z a) = inS l a
  | [] => by cases a <;> simp [inS]
  | s :: l => by
    rw [List.map_cons, List.any_cons, any_strs a l]
    cases a with
    | str t =>
      show ((s == t) || decide (t ∈ l)) = decide (t ∈ s :: l)
      by_cases h : t = s
      · subst h; simp
      · have : (s == t) = false := by simpa using fun e => h e.symm
        simp [h, this]
    | _ => rfl
theorem okds_strs {l : List Str} (h : ∀ s ∈ l, PyData.strOk s = true) (k : Nat) : okds (l.map D.str) k = true := by
  induction l with
  | nil => rfl
  | cons s l ih =>
    rw [List.map_cons, okds, ih fun t ht => h t (List.mem_cons_of_mem _ ht)]
    have : okd (.str s) k = true := by cases k <;> exact h s List.mem_cons_self
    rw [this]; rfl
theorem inD_strs (a : D) (l : List Str) (ha : okd a 60 = true) (hl : ∀ s ∈ l, PyData.strOk s = true) (hp : HpI) : sem2 .inD a (.lst (l.map D.str)) hp = some (.bl (inS l a), hp) := by
  show (anyP hp a (.lst (l.map D.str))).map (fun r => (D.bl r, hp)) = _
  rw [anyP_ok a _ _ (.inl rfl) ha (okds_strs hl 59), any_strs]
  rfl
theorem ninD_strs (a : D) (l : List Str) (ha : okd a 60 = true) (hl : ∀ s ∈ l, PyData.strOk s = true) (hp : HpI) : sem2 .ninD a (.lst (l.map D.str)) hp = some (.bl (!inS l a), hp) := by
  show (anyP hp a (.lst (l.map D.str))).map (fun r => (D.bl (!r), hp)) = _
  rw [anyP_ok a _ _ (.inl rfl) ha (okds_strs hl 59), any_strs]
  rfl
theorem inD_tup (a : D) (l : List Str) (ha : okd a 60 = true) (hl : ∀ s ∈ l, PyData.strOk s = true) (hp : HpI) : sem2 .inD a (.tup (l.map D.str)) hp = some (.bl (inS l a), hp) := by
  show (anyP hp a (.tup (l.map D.str))).map (fun r => (D.bl r, hp)) = _
  rw [anyP_ok a _ _ (.inr rfl) ha (okds_strs hl 59), any_strs]
  rfl
def isS (t : Str) : D → Bool
  | .str s => s == t
  | _ => false
theorem eq_str (a : D) (t : Str) (ha : okd a 60 = true) (ht : PyData.strOk t = true) (hp : HpI) : sem2 .eq a (.str t) hp = some (.bl (isS t a), hp) := by
  rw [s2_eq_ok ha (show okd (.str t) 60 = true from ht)]
  cases a <;> rfl
/-! ## pots -/
def stages : List Str := ["raw", "fired", "glazed"]
def stage2 : List Str := ["raw", "fired"]
theorem stages_ok : ∀ s ∈ stages, PyData.strOk s = true := by decide +kernel
theorem stage2_ok : ∀ s ∈ stage2, PyData.strOk s = true := by decide +kernel
def potB (cn gn : List Str) : D → Bool
  | .tup [c, w, h, t, s, g] => (isN 1 20 w && (isN 1 20 h && isN 1 9 t)) && (inS cn c && (if isS "glazed" s then inS gn g else inS stage2 s && isS "" g))
  | _ => false
theorem pot_ne {cn gn : List Str} {ds : List D} (h : ds.length ≠ 6) : potB cn gn (.tup ds) = false := by
  unfold potB
  split
  · rename_i e; cases e; simp at h
  · rfl
/-- names of rows that stand -/
structure Nm (rows : List D) (ns : List Str) : Prop where
  hd : rows.map headS = ns.map some
  ok : ∀ s ∈ ns, PyData.strOk s = true
  wf : ∃ k, wfDs rows k = true
theorem Nm.cl {rows : List D} {ns : List Str} (h : Nm rows ns) (m : Nat) : closeds m rows = true := by
  obtain ⟨k, e⟩ := h.wf
  exact wfs_closed rows k e
section
variable {wf n : Nat} {hp : HpI}
theorem names_comp {rows : List D} {ns : List Str} (h : Nm rows ns) {cf : CF} {f : D → HpI → Out (Option D)} (hf : ∀ d s, headS d = some s → (∀ hp : HpI, sem2 .ix d (.int 0) hp = some (.str s, hp)) → f d hp = .ok (some (.str s)) hp) : compL (ckOk none) f rows hp [] = .ok (ns.map D.str) hp := by
  rw [comp_pure (fun d => (headS d).map D.str) rfl]
  · rw [heads_fm h.hd, List.nil_append]
  · intro d hd
    obtain ⟨s, e1, _⟩ := heads_ix h.hd d hd hp
    rw [hf d s e1 (fun hp => by
      obtain ⟨s', e2, e3⟩ := heads_ix h.hd d hd hp
      rw [e1] at e2
      cases e2
      exact e3), e1]
    rfl
theorem names_of_ok {rows : List D} {ns : List Str} (h : Nm rows ns) : run pg wf (n + 1) 8 [.tup rows] hp = .ok (.lst (ns.map D.str)) hp := by
  rw [r_names_of]
  have e : ∀ hp, ev (run pg wf n) (.comp false (.op2 .ix (.var 1) (.cst (.int 0))) (.name 1) (.seq (.var 0)) .none [1]) [some (.tup rows), none] hp = .ok (.lst (ns.map D.str)) hp := by
    intro hp
    rw [ev_comp]
    have e3 : iv (run pg wf n) (.seq (.var 0)) [some (.tup rows), none] hp = .ok ⟨rows, none⟩ hp := by simp
    rw [e3, Out.bind_ok, names_comp h (cf := run pg wf n)]
    · rfl
    · intro d s _ e5
      simp [wipeE, e5]
  simp [-ev_comp, b_names_of, e]
theorem cl_strs (k : Nat) (l : List Str) : closeds k (l.map D.str) = true := cls_map (fun a => rfl) l
theorem NAMES {rows : List D} {ns : List Str} (h : Nm rows ns) (hp : HpI) : framed (run pg wf (n + 1)) (some 0) 8 [.tup rows] hp = .ok (.lst (ns.map D.str)) hp :=
  framedC (names_of_ok h) (by simp [h.cl]) (by simp [cl_strs])
theorem are_sizes_ok (a b c : D) {k : Nat} (ha : wfD a k = true) (hb : wfD b k = true) (hc : wfD c k = true) : run pg wf (n + 2) 9 [.tup [a, b, c]] hp = .ok (.bl (isN 1 20 a && (isN 1 20 b && isN 1 9 c))) hp := by
  rw [r_are_sizes]
  have ea := fun hp => NUM (wf := wf) (n := n) a ha 1 20 hp
  have eb := fun hp => NUM (wf := wf) (n := n) b hb 1 20 hp
  have ec := fun hp => NUM (wf := wf) (n := n) c hc 1 9 hp
  cases h1 : isN 1 20 a <;> cases h2 : isN 1 20 b <;> simp [b_are_sizes, cut_take (show (0 : Int) ≤ 2 by omega), compL, ckOk, wipeE, ea, eb, ec, h1, h2]
theorem cut14 (a b c d e f : D) : cutD [a, b, c, d, e, f] (some 1) (some 4) = [b, c, d] := rfl
theorem cut13 (a b c d e f : D) : cutD [a, b, c, d, e, f] (some 1) (some 3) = [b, c] := rfl
theorem nin_stage (s : Str) (hp : HpI) : sem2 .nin (.str s) (.tup [.str "raw", .str "fired", .str "glazed"]) hp = some (.bl (!decide (s ∈ stages)), hp) := by
  have : sem2 .nin (.str s) (.tup (stages.map D.str)) hp = some (.bl (!decide (s ∈ stages)), hp) := by
    simp only [sem2, seqOf, flat_strs, inF_strs]
    simp [flatD]
  exact this
theorem is_pot_ok {rc rg : List D} {cn gn : List Str} (hC : Nm rc cn) (hG : Nm rg gn) (d : D) {k : Nat} (hk : k < 60) (hd : wfD d k = true) : run pg wf (n + 3) 10 [.tup rc, .tup rg, d] hp = .ok (.bl (potB cn gn d)) hp := by
  rw [r_is_pot]
  cases d <;> first | (simp [wfD] at hd; done) | skip
  all_goals first | (simp [b_is_pot, isTy, potB]; done) | skip
  rename_i ds
  obtain ⟨m, rfl, hl, hw⟩ := wf_tup hd
  by_cases h6 : ds.length = 6
  · match ds, h6, hw with
    | [c, w, h, t, s, g], _, hw =>
      have wc := hw c (by simp)
      have ws := hw s (by simp)
      have wg := hw g (by simp)
      have q1 := fun hp => framedC (hp := hp) (are_sizes_ok (wf := wf) (n := n) (hp := []) w h t (hw w (by simp)) (hw h (by simp)) (hw t (by simp))) (by simp [wf_closed w m (hw w (by simp)), wf_closed h m (hw h (by simp)), wf_closed t m (hw t (by simp))]) rfl
      have hNc := fun hp => NAMES (wf := wf) (n := n + 1) hC hp
      have hNg := fun hp => NAMES (wf := wf) (n := n + 1) hG hp
      have i0 : ∀ hp, sem2 .ix (.tup [c, w, h, t, s, g]) (.int 0) hp = some (c, hp) := fun hp => rfl
      have i4 : ∀ hp, sem2 .ix (.tup [c, w, h, t, s, g]) (.int 4) hp = some (s, hp) := fun hp => rfl
      have i5 : ∀ hp, sem2 .ix (.tup [c, w, h, t, s, g]) (.int 5) hp = some (g, hp) := fun hp => rfl
      rw [show potB cn gn (.tup [c, w, h, t, s, g]) = ((isN 1 20 w && (isN 1 20 h && isN 1 9 t)) && (inS cn c && (if isS "glazed" s then inS gn g else inS stage2 s && isS "" g))) from rfl]
      cases hq : (isN 1 20 w && (isN 1 20 h && isN 1 9 t)) with
      | false =>
        rw [hq] at q1
        simp [b_is_pot, isTy, cut14, q1]
      | true =>
        rw [hq] at q1
        by_cases hs : ∃ s', s = .str s'
        · obtain ⟨s', rfl⟩ := hs
          by_cases hc : ∃ c', c = .str c'
          · obtain ⟨c', rfl⟩ := hc
            have n1 := fun hp => nin_stage s' hp
            have n2 := fun hp => nin_strs c' cn hp
            have eg : ∀ hp, sem2 .eq (.str s') (.str "glazed") hp = some (.bl (decide (s' = "glazed")), hp) := fun hp => rfl
            have hin : s' ∈ stages ↔ s' = "raw" ∨ s' = "fired" ∨ s' = "glazed" := by simp [stages]
            have hin2 : s' ∈ stage2 ↔ s' = "raw" ∨ s' = "fired" := by simp [stage2]
            have hsg : isS "glazed" (.str s') = decide (s' = "glazed") := by show (s' == _) = _; by_cases z : s' = ("glazed" : Str) <;> simp [z]
            by_cases m1 : s' ∈ stages
            · rw [decide_eq_true m1] at n1
              by_cases m2 : c' ∈ cn
              · rw [decide_eq_true m2] at n2
                have hcn : inS cn (.str c') = true := decide_eq_true m2
                by_cases hg : ∃ g', g = .str g'
                · obtain ⟨g', rfl⟩ := hg
                  have n3 := fun hp => inn_strs g' gn hp
                  have e5 : ∀ hp, sem2 .eq (.str g') (.str "") hp = some (.bl (decide (g' = "")), hp) := fun hp => rfl
                  have hge : isS "" (.str g') = decide (g' = "") := by show (g' == _) = _; by_cases z : g' = ("" : Str) <;> simp [z]
                  by_cases m3 : s' = "glazed"
                  · rw [decide_eq_true m3] at eg hsg
                    simp [-s2_ixT, b_is_pot, isTy, cut14, q1, i0, i4, i5, n1, n2, eg, hNc, hNg, n3, m2, hsg, inS]
                  · rw [decide_eq_false m3] at eg hsg
                    have m4 : inS stage2 (.str s') = true := decide_eq_true (hin2.mpr (by rcases hin.mp m1 with z | z | z; exact .inl z; exact .inr z; exact absurd z m3))
                    simp [-s2_ixT, b_is_pot, isTy, cut14, q1, i0, i4, i5, n1, n2, eg, hNc, e5, hcn, hsg, m4, hge]
                · have g1 : inS gn g = false := by cases g <;> first | rfl | exact absurd ⟨_, rfl⟩ hg
                  have g2 : isS "" g = false := by cases g <;> first | rfl | exact absurd ⟨_, rfl⟩ hg
                  have g3 : ∀ hp : HpI, ∃ T, tyD hp g = some T ∧ isTy T "str" = false := fun hp => by
                    cases g <;> first | exact absurd ⟨_, rfl⟩ hg | (simp [wfD] at wg; done) | exact ⟨_, rfl, rfl⟩
                  cases g <;> first | exact absurd ⟨_, rfl⟩ hg | (simp [wfD] at wg; done) | simp [-s2_ixT, b_is_pot, isTy, cut14, q1, i0, i4, i5, n1, n2, hNc, g1, g2]
              · rw [decide_eq_false m2] at n2
                have hcn : inS cn (.str c') = false := decide_eq_false m2
                simp [-s2_ixT, b_is_pot, isTy, cut14, q1, i0, i4, n1, n2, hNc, hcn]
            · rw [decide_eq_false m1] at n1
              have m3 : ¬ s' = "glazed" := fun z => m1 (hin.mpr (.inr (.inr z)))
              have m4 : inS stage2 (.str s') = false := decide_eq_false fun z => m1 (hin.mpr (by rcases hin2.mp z with z | z; exact .inl z; exact .inr (.inl z)))
              rw [decide_eq_false m3] at hsg
              simp [-s2_ixT, b_is_pot, isTy, cut14, q1, i0, i4, n1, hsg, m4]
          · have c1 : inS cn c = false := by cases c <;> first | rfl | exact absurd ⟨_, rfl⟩ hc
            have n1 := fun hp => nin_stage s' hp
            cases hst : decide (s' ∈ stages) <;> (rw [hst] at n1; cases c <;> first | exact absurd ⟨_, rfl⟩ hc | (simp [wfD] at wc; done) | simp [-s2_ixT, b_is_pot, isTy, cut14, q1, i0, i4, n1, c1])
        · have s1 : isS "glazed" s = false := by cases s <;> first | rfl | exact absurd ⟨_, rfl⟩ hs
          have s2 : inS stage2 s = false := by cases s <;> first | rfl | exact absurd ⟨_, rfl⟩ hs
          cases s <;> first | exact absurd ⟨_, rfl⟩ hs | (simp [wfD] at ws; done) | simp [-s2_ixT, b_is_pot, isTy, cut14, q1, i0, i4, s1, s2]
  · have h6' : ¬ ((ds.length : Int) = 6) := by omega
    simp [b_is_pot, isTy, h6', pot_ne h6]
end
end K01

namespace K01
open PySem KI
theorem rngD_map : ∀ (n : Nat) (lo : Int), rngD lo n = (List.range n).map fun i => D.int (lo + (i : Nat))
  | 0, _ => rfl
  | n + 1, lo => by
    rw [List.range_succ_eq_map, List.map_cons, List.map_map]
    show D.int lo :: rngD (lo + 1) n = _
    rw [rngD_map n (lo + 1)]
    have : (fun i : Nat => D.int (lo + 1 + (i : Int))) = (fun i : Nat => D.int (lo + (i : Int))) ∘ Nat.succ := by
      funext i
      show D.int _ = D.int (lo + ((i + 1 : Nat) : Int))
      congr 1
      omega
    rw [this]
    simp
section
variable {wf n : Nat} {hp : HpI}
theorem law_pot_ok {rc rg : List D} {cn gn : List Str} (hC : Nm rc cn) (hG : Nm rg gn) (d : D) {k : Nat} (hk : k < 50) (hd : wfD d k = true) : run pg wf (n + 2) 29 [.tup rc, .tup rg, d] hp = .ok (.bl (potB cn gn d)) hp := by
  rw [r__law_is_pot]
  cases d <;> first | (simp [wfD] at hd; done) | skip
  all_goals first | (simp [-ev_comp, b__law_is_pot, isTy, potB]; done) | skip
  rename_i ds
  obtain ⟨m, rfl, hl, hw⟩ := wf_tup hd
  by_cases h6 : ds.length = 6
  · match ds, h6, hw with
    | [c, w, h, t, s, g], _, hw =>
      have wc := hw c (by simp)
      have ws := hw s (by simp)
      have wg := hw g (by simp)
      have oc : okd c 60 = true := wf_okd c m 60 (by omega) wc
      have os : okd s 60 = true := wf_okd s m 60 (by omega) ws
      have og : okd g 60 = true := wf_okd g m 60 (by omega) wg
      have ew := fun hp => LIS (wf := wf) (n := n) w (hw w (by simp)) 1 20 hp
      have eh := fun hp => LIS (wf := wf) (n := n) h (hw h (by simp)) 1 20 hp
      have et := fun hp => LIS (wf := wf) (n := n) t (hw t (by simp)) 1 9 hp
      have i0 : ∀ hp, sem2 .ix (.tup [c, w, h, t, s, g]) (.int 0) hp = some (c, hp) := fun hp => rfl
      have i3 : ∀ hp, sem2 .ix (.tup [c, w, h, t, s, g]) (.int 3) hp = some (t, hp) := fun hp => rfl
      have i4 : ∀ hp, sem2 .ix (.tup [c, w, h, t, s, g]) (.int 4) hp = some (s, hp) := fun hp => rfl
      have i5 : ∀ hp, sem2 .ix (.tup [c, w, h, t, s, g]) (.int 5) hp = some (g, hp) := fun hp => rfl
      have sl : ∀ hp, semSl false (.tup [c, w, h, t, s, g]) (some 1) (some 3) hp = some (.tup [w, h], hp) := fun hp => rfl
      have cp : ∀ hp, ev (run pg wf (n + 1)) (.comp false (.var 4) (.name 4) (.seq (.sl false (.var 2) (.some (.cst (.int 1))) (.some (.cst (.int 3))))) (.some (.not (.val (.call (some 0) 25 (.cons (.var 4) (.cons (.cst (.int 1)) (.cons (.cst (.int 20)) (.nil)))))))) [4]) [some (.tup rc), some (.tup rg), some (.tup [c, w, h, t, s, g]), none, none] hp = .ok (.lst ([w, h].filter fun d => !isN 1 20 d)) hp := by
        intro hp
        rw [ev_comp]
        have e3 : iv (run pg wf (n + 1)) (.seq (.sl false (.var 2) (.some (.cst (.int 1))) (.some (.cst (.int 3))))) [some (.tup rc), some (.tup rg), some (.tup [c, w, h, t, s, g]), none, none] hp = .ok ⟨[w, h], none⟩ hp := by
          simp [-sl_tup, sl]
        rw [e3, Out.bind_ok, compL_filterD (fun d => d) (fun d => !isN 1 20 d) rfl]
        · simp
        · intro a ha
          simp only [List.mem_cons, List.not_mem_nil, or_false] at ha
          rcases ha with rfl | rfl
          · cases q : isN 1 20 a <;> (rw [q] at ew; simp [wipeE, ew, q])
          · cases q : isN 1 20 a <;> (rw [q] at eh; simp [wipeE, eh, q])
      have hNc : ∀ hp, ev (run pg wf (n + 1)) (.comp false (.op2 .ix (.var 3) (.cst (.int 0))) (.name 3) (.seq (.var 0)) .none [3]) [some (.tup rc), some (.tup rg), some (.tup [c, w, h, t, s, g]), none, none] hp = .ok (.lst (cn.map D.str)) hp := by
        intro hp
        rw [ev_comp]
        have e3 : iv (run pg wf (n + 1)) (.seq (.var 0)) [some (.tup rc), some (.tup rg), some (.tup [c, w, h, t, s, g]), none, none] hp = .ok ⟨rc, none⟩ hp := by simp
        rw [e3, Out.bind_ok, names_comp hC (cf := run pg wf (n + 1))]
        · rfl
        · intro d s _ e5
          simp [wipeE, e5]
      have hNg : ∀ hp, ev (run pg wf (n + 1)) (.comp false (.op2 .ix (.var 3) (.cst (.int 0))) (.name 3) (.seq (.var 1)) .none [3]) [some (.tup rc), some (.tup rg), some (.tup [c, w, h, t, s, g]), none, none] hp = .ok (.lst (gn.map D.str)) hp := by
        intro hp
        rw [ev_comp]
        have e3 : iv (run pg wf (n + 1)) (.seq (.var 1)) [some (.tup rc), some (.tup rg), some (.tup [c, w, h, t, s, g]), none, none] hp = .ok ⟨rg, none⟩ hp := by simp
        rw [e3, Out.bind_ok, names_comp hG (cf := run pg wf (n + 1))]
        · rfl
        · intro d s _ e5
          simp [wipeE, e5]
      have n1 := fun hp => ninD_strs c cn oc hC.ok hp
      have n2 := fun hp => inD_strs g gn og hG.ok hp
      have n3 : ∀ hp, sem2 .inD s (.tup [.str "raw", .str "fired"]) hp = some (.bl (inS stage2 s), hp) := fun hp => inD_tup s stage2 os stage2_ok hp
      have e4 := fun hp => eq_str s "glazed" os (by decide +kernel) hp
      have e5 := fun hp => eq_str g "" og (by decide +kernel) hp
      rw [show potB cn gn (.tup [c, w, h, t, s, g]) = ((isN 1 20 w && (isN 1 20 h && isN 1 9 t)) && (inS cn c && (if isS "glazed" s then inS gn g else inS stage2 s && isS "" g))) from rfl]
      cases hq1 : isN 1 20 w with
      | false =>
        have : ([w, h].filter fun d => !isN 1 20 d).isEmpty = false := by simp [hq1]
        simp [-ev_comp, -s2_ixT, b__law_is_pot, isTy, cp, neE_lst, this]
      | true =>
        cases hq2 : isN 1 20 h with
        | false =>
          have : ([w, h].filter fun d => !isN 1 20 d).isEmpty = false := by simp [hq1, hq2]
          simp [-ev_comp, -s2_ixT, b__law_is_pot, isTy, cp, neE_lst, this]
        | true =>
          have hf : ([w, h].filter fun d => !isN 1 20 d) = [] := by simp [hq1, hq2]
          rw [hf] at cp
          cases hq3 : isN 1 9 t with
          | false =>
            rw [hq3] at et
            simp [-ev_comp, -s2_ixT, b__law_is_pot, isTy, cp, neE_lst, i3, et]
          | true =>
            rw [hq3] at et
            cases hq4 : inS cn c with
            | false =>
              rw [hq4] at n1
              simp [-ev_comp, -s2_ixT, b__law_is_pot, isTy, cp, neE_lst, i0, i3, et, hNc, n1]
            | true =>
              rw [hq4] at n1
              cases hq5 : isS "glazed" s with
              | true =>
                rw [hq5] at e4
                simp [-ev_comp, -s2_ixT, b__law_is_pot, isTy, cp, neE_lst, i0, i3, i4, i5, et, hNc, hNg, n1, e4, n2]
              | false =>
                rw [hq5] at e4
                cases hq6 : inS stage2 s with
                | false =>
                  rw [hq6] at n3
                  simp [-ev_comp, -s2_ixT, b__law_is_pot, isTy, cp, neE_lst, i0, i3, i4, i5, et, hNc, n1, e4, sz, n3]
                | true =>
                  rw [hq6] at n3
                  simp [-ev_comp, -s2_ixT, b__law_is_pot, isTy, cp, neE_lst, i0, i3, i4, i5, et, hNc, n1, e4, sz, n3, e5]
  · have h6' : ¬ ((ds.length : Int) = 6) := by omega
    simp [-ev_comp, b__law_is_pot, isTy, h6', pot_ne h6]
end
/-! ## all pots -/
def badP (cn gn : List Str) : Nat → List D → Option Nat
  | _, [] => none
  | k, p :: ps => if k = 8 ∨ potB cn gn p = false then some k else badP cn gn (k + 1) ps
def potsV (cn gn : List Str) : D → Option Nat
  | .tup ps => badP cn gn 0 ps
  | _ => some 0
def bpx (k : Nat) : Exn := ⟨3, [("number", .int k)]⟩
def outP (hp : HpI) : Option Nat → Out D
  | some k => .exc (bpx k) hp
  | none => .ok .non hp
section
variable {wf n : Nat} {hp : HpI}
theorem outP_of_sat {o : Out D} {e : Option Nat} (h : Sat o (fun x h => ∃ k, e = some k ∧ x = bpx k ∧ h = hp) (fun d h => e = none ∧ d = .non ∧ h = hp)) : o = outP hp e := by
  cases o with
  | ok d h' => obtain ⟨h1, h2, h3⟩ := h.out; rw [h1, h2, h3]; rfl
  | exc x h' => obtain ⟨k, h1, h2, h3⟩ := h.out; rw [h1, h2, h3]; rfl
  | bad => exact h.out.elim
theorem need_pots_ok {rc rg : List D} {cn gn : List Str} (hC : Nm rc cn) (hG : Nm rg gn) (d : D) {k : Nat} (hk : k < 50) (hd : wfD d k = true) : run pg wf (n + 4) 11 [.tup rc, .tup rg, d] hp = outP hp (potsV cn gn d) := by
  rw [r_need_pots]
  apply outP_of_sat
  cases d <;> first | (simp [wfD] at hd; done) | skip
  all_goals first | (simp [b_need_pots, isTy, potsV, bpx]; done) | skip
  rename_i ps
  obtain ⟨m, rfl, hl, hw⟩ := wf_tup hd
  simp [b_need_pots, isTy, potsV]
  obtain ⟨I, hI⟩ : ∃ I : List D → EnvI → HpI → Prop, ∀ ds env h, I ds env h ↔ ∃ (i : Nat) (post : List D) (a b : Option D), (∀ p ∈ post, wfD p m = true) ∧ badP cn gn i post = badP cn gn 0 ps ∧ ds = enumD i post ∧ env = [some (.tup rc), some (.tup rg), some (.tup ps), a, b] ∧ h = hp := ⟨_, fun _ _ _ => Iff.rfl⟩
  refine ssat_for I _ _ _ ((hI _ _ _).mpr ⟨0, ps, none, none, hw, rfl, rfl, rfl, rfl⟩) ?_ ?_
  · intro d ds env h hin
    obtain ⟨i, post, a, b, hpw, hb, e2, rfl, rfl⟩ := (hI _ _ _).mp hin
    cases post with
    | nil => cases e2
    | cons r post =>
      cases e2
      have hr := hpw r List.mem_cons_self
      have hP := fun hp => framedC (hp := hp) (is_pot_ok (wf := wf) (n := n) (hp := []) hC hG r (by omega) hr) (by simp [hC.cl, hG.cl, wf_closed r m hr]) rfl
      rw [badP] at hb
      by_cases c8 : i = 8
      · rw [if_pos (.inl c8)] at hb
        have c8' : ((i : Int) = 8) := by omega
        simp [c8', bpx]
        exact ⟨i, hb.symm, c8'.symm⟩
      · have c8' : ¬ ((i : Int) = 8) := by omega
        cases hq : potB cn gn r with
        | false =>
          rw [hq] at hP
          rw [if_pos (.inr hq)] at hb
          simp [c8', hP, bpx]
          exact ⟨i, hb.symm, rfl⟩
        | true =>
          rw [hq] at hP
          rw [if_neg (by simp [c8, hq])] at hb
          simp [c8', hP]
          rw [hI]
          exact ⟨i + 1, post, _, _, fun p hp => hpw p (List.mem_cons_of_mem _ hp), hb, rfl, rfl, rfl⟩
  · intro env h hin
    obtain ⟨i, post, a, b, hpw, hb, e2, rfl, rfl⟩ := (hI _ _ _).mp hin
    cases post with
    | cons _ _ => cases e2
    | nil =>
      simp
      exact hb.symm
end
end K01

namespace K01
open PySem KI
def nmD : D → List Str
  | .tup rows => rows.filterMap headS
  | _ => []
theorem nm_of {part : Nat} {d : D} {k : Nat} (hd : wfD d k = true) (h : rowsV part d = none) : ∃ rows, d = .tup rows ∧ Nm rows (nmD d) := by
  obtain ⟨rows, ns, rfl, e⟩ := rowsV_none h
  obtain ⟨m, rfl, hl, hw⟩ := wf_tup hd
  have hns : nmD (.tup rows) = ns := by
    show rows.filterMap headS = ns
    clear hd h hl hw
    induction rows generalizing ns with
    | nil => cases ns with
      | nil => rfl
      | cons _ _ => cases e
    | cons r rows ih => cases ns with
      | nil => cases e
      | cons s ns =>
        simp only [List.map_cons, List.cons.injEq] at e
        rw [List.filterMap_cons, e.1, ih _ e.2]
  rw [hns]
  refine ⟨rows, rfl, e, fun s hs => ?_, m, wfDs_of hw⟩
  have : some s ∈ rows.map headS := by rw [e]; exact List.mem_map_of_mem hs
  obtain ⟨r, hr, er⟩ := List.mem_map.mp this
  have hr := hw r hr
  unfold headS at er
  split at er
  · cases er
    obtain ⟨q, _, _, hq⟩ := wf_tup hr
    have := hq _ List.mem_cons_self
    rw [wfD, Bool.and_eq_true] at this
    exact this.1
  · cases er
/-- the error that is due; none -/
def dueX (c g kl p : D) : Option Exn := match goodsV c g with
  | some (pt, k) => some (bgx pt k)
  | none => if kilnB kl = false then some bkx else (potsV (nmD c) (nmD g) p).map bpx
/-- without pots -/
def dueH (c g kl : D) : Option Exn := match goodsV c g with
  | some (pt, k) => some (bgx pt k)
  | none => if kilnB kl = false then some bkx else none
def dueD (c g kl p : D) : D := match goodsV c g with
  | some (pt, k) => .tup [.str "BadGoods", .int pt, .int k]
  | none => if kilnB kl = false then .str "BadKiln" else match potsV (nmD c) (nmD g) p with
    | some k => .tup [.str "BadPots", .int k]
    | none => .non
theorem goods_none {c g : D} (h : goodsV c g = none) : rowsV 0 c = none ∧ rowsV 1 g = none := by
  unfold goodsV at h
  cases h1 : rowsV 0 c with
  | some k => rw [h1] at h; cases h
  | none =>
    rw [h1] at h
    cases h2 : rowsV 1 g with
    | some k => rw [h2] at h; cases h
    | none => exact ⟨rfl, rfl⟩
/-! ## the law's own look at the pots -/
def idxs (f : Nat → D → Bool) : Nat → List D → List Nat
  | _, [] => []
  | k, p :: l => if f k p then k :: idxs f (k + 1) l else idxs f (k + 1) l
def atF (f : Nat → D → Bool) (ps : List D) (i : Nat) : Bool := match ps[i]? with
  | some p => f i p
  | none => false
theorem idxs_range (f : Nat → D → Bool) (ps : List D) : ∀ (l : List D) (k : Nat), ps.drop k = l → (List.range' k l.length).filter (atF f ps) = idxs f k l
  | [], _, _ => rfl
  | p :: l, k, h => by
    have h1 : ps[k]? = some p := by
      have := List.getElem?_drop (xs := ps) (i := k) (j := 0)
      rw [h] at this
      simpa using this.symm
    have h2 : ps.drop (k + 1) = l := by
      rw [← List.drop_drop, h]
      rfl
    have ih := idxs_range f ps l (k + 1) h2
    rw [List.length_cons, List.range'_succ, List.filter_cons, ih, idxs]
    have : atF f ps k = f k p := by unfold atF; rw [h1]
    rw [this]
theorem idxs_filter (f : Nat → D → Bool) (ps : List D) : (List.range ps.length).filter (atF f ps) = idxs f 0 ps := by
  rw [List.range_eq_range']
  exact idxs_range f ps ps 0 rfl
def lf (cn gn : List Str) (k : Nat) (p : D) : Bool := decide (7 < (k : Int)) || !potB cn gn p
theorem lf_head (cn gn : List Str) : ∀ (l : List D) (k : Nat), k ≤ 8 → (idxs (lf cn gn) k l).head? = badP cn gn k l
  | [], _, _ => rfl
  | p :: l, k, hk => by
    rw [idxs, badP]
    by_cases c8 : k = 8
    · have : lf cn gn k p = true := by unfold lf; rw [c8]; rfl
      rw [this, if_pos (show k = 8 ∨ potB cn gn p = false from .inl c8)]
      simp
    · have c7 : ¬ (7 : Int) < k := by omega
      have e : lf cn gn k p = !potB cn gn p := by unfold lf; rw [decide_eq_false c7]; rfl
      rw [e]
      cases hq : potB cn gn p with
      | false => simp
      | true =>
        have := lf_head cn gn l (k + 1) (by omega)
        simpa [c8] using this
theorem neE_ints (l : List Nat) (hp : HpI) : sem2 .neE (.lst (l.map fun i => D.int (i : Nat))) (.lst []) hp = some (.bl (!l.isEmpty), hp) := by
  rw [neE_lst]
  simp
section
variable {wf n : Nat} {hp : HpI}
theorem LFIRST0 (d : D) {k : Nat} (hk : k < 60) (hd : wfD d k = true) (hp : HpI) : framed (run pg wf (n + 2)) (some 0) 27 [d, .int 4] hp = .ok (optD (rowsV 0 d)) hp :=
  framedC (law_first0_ok d hk hd) (by simp [wf_closed d k hd]) (by cases rowsV 0 d <;> rfl)
theorem LFIRST1 (d : D) {k : Nat} (hk : k < 60) (hd : wfD d k = true) (hp : HpI) : framed (run pg wf (n + 2)) (some 0) 27 [d, .int 3] hp = .ok (optD (rowsV 1 d)) hp :=
  framedC (law_first1_ok d hk hd) (by simp [wf_closed d k hd]) (by cases rowsV 1 d <;> rfl)
theorem law_due_ok (c g kl p : D) {k : Nat} (hk : k < 50) (hc : wfD c k = true) (hg : wfD g k = true) (hkl : wfD kl k = true) (hpp : wfD p k = true) : run pg wf (n + 3) 30 [c, g, kl, p] hp = .ok (dueD c g kl p) hp := by
  rw [r__law_due]
  apply eq_of_sat
  have f0 := fun hp => LFIRST0 (wf := wf) (n := n) c (by omega) hc hp
  have f1 := fun hp => LFIRST1 (wf := wf) (n := n) g (by omega) hg hp
  have fk := fun hp => framedC (hp := hp) (law_kiln_ok (wf := wf) (n := n) (hp := []) kl hkl) (by simp [wf_closed kl k hkl]) rfl
  unfold dueD goodsV
  cases h0 : rowsV 0 c with
  | some j =>
    rw [h0] at f0
    simp only [optD] at f0
    simp [-ev_comp, b__law_due, sz, forL, f0]
  | none =>
    rw [h0] at f0
    simp only [optD] at f0
    cases h1 : rowsV 1 g with
    | some j =>
      rw [h1] at f1
      simp only [optD] at f1
      simp [-ev_comp, b__law_due, sz, forL, f0, f1]
    | none =>
      rw [h1] at f1
      simp only [optD] at f1
      obtain ⟨rc, rfl, hC⟩ := nm_of hc h0
      obtain ⟨rg, rfl, hG⟩ := nm_of hg h1
      generalize nmD (.tup rc) = cn at *
      generalize nmD (.tup rg) = gn at *
      cases hkb : kilnB kl with
      | false =>
        rw [hkb] at fk
        simp [-ev_comp, b__law_due, sz, forL, f0, f1, fk]
      | true =>
        rw [hkb] at fk
        cases p <;> first | (simp [wfD] at hpp; done) | skip
        all_goals first | (simp [-ev_comp, b__law_due, sz, forL, f0, f1, fk, isTy, potsV]; done) | skip
        rename_i ps
        obtain ⟨m, rfl, hl, hw⟩ := wf_tup hpp
        have hcp : ∀ (a b : Option D) hp, ev (run pg wf (n + 2)) (.comp false (.var 7) (.name 7) (.rng1 (.bi .len (.cons (.var 3) (.nil)))) (.some (.or (.cons (.cmp .gt (.var 7) (.cst (.int 7))) (.one (.not (.val (.call (some 0) 29 (.cons (.var 0) (.cons (.var 1) (.cons (.op2 .ix (.var 3) (.var 7)) (.nil))))))))))) [7]) [some (.tup rc), some (.tup rg), some kl, some (.tup ps), a, b, none, none] hp = .ok (.lst ((idxs (lf cn gn) 0 ps).map fun i => D.int (i : Nat))) hp := by
          intro a b hp
          rw [ev_comp]
          have e3 : iv (run pg wf (n + 2)) (.rng1 (.bi .len (.cons (.var 3) (.nil)))) [some (.tup rc), some (.tup rg), some kl, some (.tup ps), a, b, none, none] hp = .ok ⟨(List.range ps.length).map fun i => D.int (i : Nat), none⟩ hp := by
            have := rngD_map ps.length 0
            simp only [Int.zero_add] at this
            rw [← this]
            have hz : ps.length ≤ sizeLine := sz (by omega)
            simp [rng_ok hz]
          rw [e3, Out.bind_ok, compL_filter (fun i => D.int (i : Nat)) (fun i => D.int (i : Nat)) (atF (lf cn gn) ps) rfl]
          · rw [idxs_filter]; simp
          · intro i hi
            have hi := List.mem_range.mp hi
            have e4 : ∀ hp, sem2 .ix (.tup ps) (.int (i : Nat)) hp = some (ps[i], hp) := fun hp => by
              rw [s2_ixT, atI_nat]
              simp [hi]
            have hwi := hw ps[i] (List.getElem_mem hi)
            have hP := fun hp => framedC (hp := hp) (law_pot_ok (wf := wf) (n := n) (hp := []) hC hG ps[i] (by omega) hwi) (by simp [hC.cl, hG.cl, wf_closed _ m hwi]) rfl
            have e5 : atF (lf cn gn) ps i = lf cn gn i ps[i] := by
              unfold atF
              rw [List.getElem?_eq_getElem hi]
            rw [e5]
            unfold lf
            generalize ps[i] = q at *
            by_cases c1 : 7 < (i : Int)
            · simp [-s2_ixT, wipeE, c1]
            · cases hq : potB cn gn q <;> (rw [hq] at hP; simp [-s2_ixT, wipeE, c1, e4, hP])
        have hh := lf_head cn gn ps 0 (by omega)
        show Sat _ _ fun b h => b = (match badP cn gn 0 ps with | some k => D.tup [.str "BadPots", .int k] | none => .non) ∧ _
        rw [← hh]
        generalize idxs (lf cn gn) 0 ps = l at *
        cases l with
        | nil => simp [-ev_comp, b__law_due, sz, forL, f0, f1, fk, isTy, hcp, neE_ints, neE_lst]
        | cons j l => simp [-ev_comp, b__law_due, sz, forL, f0, f1, fk, isTy, hcp, neE_ints, neE_lst]
end
end K01

namespace K01
open PySem KI
def bcx : Exn := ⟨4, []⟩
section
variable {wf n : Nat} {hp : HpI}
theorem GOODS (c g : D) {k : Nat} (hk : k < 60) (hc : wfD c k = true) (hg : wfD g k = true) (hp : HpI) : framed (run pg wf (n + 6)) (some 0) 6 [c, g] hp = outGG hp (goodsV c g) := by
  have h := need_goods_ok (wf := wf) (n := n) (hp := []) c g hk hc hg
  have cl : closeds 0 [c, g] = true := by simp [wf_closed c k hc, wf_closed g k hg]
  cases e : goodsV c g with
  | none => rw [e] at h; exact framedC h cl rfl
  | some q => obtain ⟨a, b⟩ := q; rw [e] at h; exact framedX h cl rfl
theorem KILN (d : D) {k : Nat} (hd : wfD d k = true) (hp : HpI) : framed (run pg wf (n + 2)) (some 0) 7 [d] hp = outK hp (kilnB d) := by
  have h := need_kiln_ok (wf := wf) (n := n) (hp := []) d hd
  have cl : closeds 0 [d] = true := by simp [wf_closed d k hd]
  cases e : kilnB d with
  | true => rw [e] at h; exact framedC h cl rfl
  | false => rw [e] at h; exact framedX h cl rfl
theorem POTS {rc rg : List D} {cn gn : List Str} (hC : Nm rc cn) (hG : Nm rg gn) (d : D) {k : Nat} (hk : k < 50) (hd : wfD d k = true) (hp : HpI) : framed (run pg wf (n + 4)) (some 0) 11 [.tup rc, .tup rg, d] hp = outP hp (potsV cn gn d) := by
  have h := need_pots_ok (wf := wf) (n := n) (hp := []) hC hG d hk hd
  have cl : closeds 0 [.tup rc, .tup rg, d] = true := by simp [hC.cl, hG.cl, wf_closed d k hd]
  cases e : potsV cn gn d with
  | none => rw [e] at h; exact framedC h cl rfl
  | some j => rw [e] at h; exact framedX h cl rfl
theorem FIRE (hp : HpI) : framed (run pg wf (n + 1)) (some 0) 12 [.tup []] hp = .exc bcx hp := by
  refine framedX ?_ (by simp) rfl
  rw [r_need_firings]
  simp [b_need_firings, isTy, bcx]
theorem BROKEN (kl p : D) {k : Nat} (h1 : wfD kl k = true) (h2 : wfD p k = true) (hp : HpI) : framed (run pg wf (n + 1)) (some 0) 13 [kl, p, .int 0] hp = .ok (.str "pot") hp := by
  refine framedC (hp' := []) ?_ (by simp [wf_closed kl k h1, wf_closed p k h2]) rfl
  rw [r_broken_word]
  simp [b_broken_word, isTy]
theorem planner_ok (c g kl p : D) {k : Nat} (hk : k < 50) (hc : wfD c k = true) (hg : wfD g k = true) (hkl : wfD kl k = true) (hpp : wfD p k = true) : run pg wf (n + 7) 16 [c, g, kl, p, .tup []] hp = .exc ((dueX c g kl p).getD bcx) hp := by
  have qG := fun hp => GOODS (wf := wf) (n := n) c g (by omega) hc hg hp
  have qK := fun hp => KILN (wf := wf) (n := n + 4) kl hkl hp
  have qF := fun hp => FIRE (wf := wf) (n := n + 5) hp
  have qB := fun hp => BROKEN (wf := wf) (n := n + 5) kl p hkl hpp hp
  rw [r_planner]
  unfold dueX
  cases e : goodsV c g with
  | some q =>
    obtain ⟨a, b⟩ := q
    rw [e] at qG
    simp only [outGG] at qG
    simp [b_planner, qG]
  | none =>
    rw [e] at qG
    simp only [outGG] at qG
    obtain ⟨h0, h1⟩ := goods_none e
    obtain ⟨rc, rfl, hC⟩ := nm_of hc h0
    obtain ⟨rg, rfl, hG⟩ := nm_of hg h1
    generalize nmD (.tup rc) = cn at *
    generalize nmD (.tup rg) = gn at *
    have qP := fun hp => POTS (wf := wf) (n := n + 2) hC hG p hk hpp hp
    cases hkb : kilnB kl with
    | false =>
      rw [hkb] at qK
      simp only [outK] at qK
      simp [b_planner, qG, qK]
    | true =>
      rw [hkb] at qK
      simp only [outK] at qK
      cases hpt : potsV cn gn p with
      | some j =>
        rw [hpt] at qP
        simp only [outP] at qP
        simp [b_planner, qG, qK, qP]
      | none =>
        rw [hpt] at qP
        simp only [outP] at qP
        simp [b_planner, sz, qG, qK, qP, qF]
theorem judged_ok (c g kl p : D) {k : Nat} (hk : k < 50) (hc : wfD c k = true) (hg : wfD g k = true) (hkl : wfD kl k = true) (hpp : wfD p k = true) : run pg wf (n + 7) 14 [c, g, kl, p, .int 0] hp = (match dueX c g kl p with | some x => .exc x hp | none => .ok (.str "pot") hp) := by
  have qG := fun hp => GOODS (wf := wf) (n := n) c g (by omega) hc hg hp
  have qK := fun hp => KILN (wf := wf) (n := n + 4) kl hkl hp
  have qF := fun hp => FIRE (wf := wf) (n := n + 5) hp
  have qB := fun hp => BROKEN (wf := wf) (n := n + 5) kl p hkl hpp hp
  rw [r_judged]
  unfold dueX
  cases e : goodsV c g with
  | some q =>
    obtain ⟨a, b⟩ := q
    rw [e] at qG
    simp only [outGG] at qG
    simp [b_judged, qG]
  | none =>
    rw [e] at qG
    simp only [outGG] at qG
    obtain ⟨h0, h1⟩ := goods_none e
    obtain ⟨rc, rfl, hC⟩ := nm_of hc h0
    obtain ⟨rg, rfl, hG⟩ := nm_of hg h1
    generalize nmD (.tup rc) = cn at *
    generalize nmD (.tup rg) = gn at *
    have qP := fun hp => POTS (wf := wf) (n := n + 2) hC hG p hk hpp hp
    cases hkb : kilnB kl with
    | false =>
      rw [hkb] at qK
      simp only [outK] at qK
      simp [b_judged, qG, qK]
    | true =>
      rw [hkb] at qK
      simp only [outK] at qK
      cases hpt : potsV cn gn p with
      | some j =>
        rw [hpt] at qP
        simp only [outP] at qP
        simp [b_judged, qG, qK, qP]
      | none =>
        rw [hpt] at qP
        simp only [outP] at qP
        simp [b_judged, qG, qK, qP, qB]
theorem lowest_ok (c g kl p : D) {k : Nat} (hk : k < 50) (hc : wfD c k = true) (hg : wfD g k = true) (hkl : wfD kl k = true) (hpp : wfD p k = true) {x : Exn} (hx : dueX c g kl p = some x) : run pg wf (n + 7) 15 [c, g, kl, p] hp = .exc x hp := by
  have qG := fun hp => GOODS (wf := wf) (n := n) c g (by omega) hc hg hp
  have qK := fun hp => KILN (wf := wf) (n := n + 4) kl hkl hp
  rw [r_lowest]
  unfold dueX at hx
  cases e : goodsV c g with
  | some q =>
    obtain ⟨a, b⟩ := q
    rw [e] at qG hx
    cases hx
    simp only [outGG] at qG
    simp [b_lowest, qG]
  | none =>
    rw [e] at qG hx
    simp only [outGG] at qG
    obtain ⟨h0, h1⟩ := goods_none e
    obtain ⟨rc, rfl, hC⟩ := nm_of hc h0
    obtain ⟨rg, rfl, hG⟩ := nm_of hg h1
    generalize nmD (.tup rc) = cn at *
    generalize nmD (.tup rg) = gn at *
    have qP := fun hp => POTS (wf := wf) (n := n + 2) hC hG p hk hpp hp
    cases hkb : kilnB kl with
    | false =>
      rw [hkb] at qK
      simp only [hkb, if_true, Option.some.injEq] at hx
      subst hx
      simp only [outK] at qK
      simp [b_lowest, qG, qK]
    | true =>
      rw [hkb] at qK
      simp only [outK] at qK
      simp only [hkb, Bool.true_eq_false, if_false] at hx
      cases hpt : potsV cn gn p with
      | some j =>
        rw [hpt] at qP hx
        simp only [Option.map_some, Option.some.injEq] at hx
        subst hx
        simp only [outP] at qP
        simp [b_lowest, qG, qK, qP]
      | none => rw [hpt] at hx; cases hx
theorem due_closed {c g kl p : D} : closeds 0 (((dueX c g kl p).getD bcx).fs.map (·.2)) = true := by
  unfold dueX
  cases goodsV c g with
  | some q => obtain ⟨a, b⟩ := q; rfl
  | none =>
    simp only
    split
    · rfl
    · cases potsV (nmD c) (nmD g) p <;> rfl
theorem cl4 {c g kl p : D} {k : Nat} (hc : wfD c k = true) (hg : wfD g k = true) (hkl : wfD kl k = true) (hpp : wfD p k = true) (l : List D) (hl : closeds 0 l = true) : closeds 0 (c :: g :: kl :: p :: l) = true := by
  simp [wf_closed c k hc, wf_closed g k hg, wf_closed kl k hkl, wf_closed p k hpp, hl]
theorem PLANNER (c g kl p : D) {k : Nat} (hk : k < 50) (hc : wfD c k = true) (hg : wfD g k = true) (hkl : wfD kl k = true) (hpp : wfD p k = true) (hp : HpI) : framed (run pg wf (n + 7)) (some 0) 16 [c, g, kl, p, .tup []] hp = .exc ((dueX c g kl p).getD bcx) hp :=
  framedX (planner_ok c g kl p hk hc hg hkl hpp) (cl4 hc hg hkl hpp _ rfl) due_closed
theorem PLAN (c g kl p : D) {k : Nat} (hk : k < 50) (hc : wfD c k = true) (hg : wfD g k = true) (hkl : wfD kl k = true) (hpp : wfD p k = true) (hp : HpI) : framed (run pg wf (n + 8)) (some 0) 17 [c, g, kl, p, .tup []] hp = .exc ((dueX c g kl p).getD bcx) hp := by
  refine framedX ?_ (cl4 hc hg hkl hpp _ rfl) due_closed
  have q := fun hp => PLANNER (wf := wf) (n := n) c g kl p hk hc hg hkl hpp hp
  rw [r_plan]
  simp [b_plan, q]
theorem TOG (c g kl p : D) {k : Nat} (hk : k < 50) (hc : wfD c k = true) (hg : wfD g k = true) (hkl : wfD kl k = true) (hpp : wfD p k = true) (hp : HpI) : framed (run pg wf (n + 8)) (some 0) 18 [c, g, kl, p, .tup []] hp = .exc ((dueX c g kl p).getD bcx) hp := by
  refine framedX ?_ (cl4 hc hg hkl hpp _ rfl) due_closed
  have q := fun hp => PLANNER (wf := wf) (n := n) c g kl p hk hc hg hkl hpp hp
  rw [r_together]
  simp [b_together, q]
theorem APART (c g kl p : D) {k : Nat} (hk : k < 50) (hc : wfD c k = true) (hg : wfD g k = true) (hkl : wfD kl k = true) (hpp : wfD p k = true) (hp : HpI) : framed (run pg wf (n + 9)) (some 0) 19 [c, g, kl, p, .tup []] hp = .exc ((dueX c g kl p).getD bcx) hp := by
  refine framedX ?_ (cl4 hc hg hkl hpp _ rfl) due_closed
  have q := fun hp => TOG (wf := wf) (n := n) c g kl p hk hc hg hkl hpp hp
  rw [r_apart]
  simp [b_apart, q]
theorem JUDGED (c g kl p : D) {k : Nat} (hk : k < 50) (hc : wfD c k = true) (hg : wfD g k = true) (hkl : wfD kl k = true) (hpp : wfD p k = true) (hp : HpI) : framed (run pg wf (n + 7)) (some 0) 14 [c, g, kl, p, .int 0] hp = (match dueX c g kl p with | some x => .exc x hp | none => .ok (.str "pot") hp) := by
  have h := judged_ok (wf := wf) (n := n) (hp := []) c g kl p hk hc hg hkl hpp
  have hd := due_closed (c := c) (g := g) (kl := kl) (p := p)
  cases e : dueX c g kl p with
  | none => rw [e] at h; exact framedC h (cl4 hc hg hkl hpp _ rfl) rfl
  | some x => rw [e] at h hd; exact framedX h (cl4 hc hg hkl hpp _ rfl) hd
theorem LOWEST (c g kl p : D) {k : Nat} (hk : k < 50) (hc : wfD c k = true) (hg : wfD g k = true) (hkl : wfD kl k = true) (hpp : wfD p k = true) {x : Exn} (hx : dueX c g kl p = some x) (hp : HpI) : framed (run pg wf (n + 7)) (some 0) 15 [c, g, kl, p] hp = .exc x hp := by
  have hd := due_closed (c := c) (g := g) (kl := kl) (p := p)
  rw [hx] at hd
  exact framedX (lowest_ok c g kl p hk hc hg hkl hpp hx) (cl4 hc hg hkl hpp _ rfl) hd
/-- what the kinds tell -/
theorem kind_due {c g kl p : D} {x : Exn} (h : dueX c g kl p = some x) : kindD x = some (dueD c g kl p) := by
  unfold dueX at h
  unfold dueD
  cases e : goodsV c g with
  | some q =>
    obtain ⟨a, b⟩ := q
    rw [e] at h
    cases h
    rfl
  | none =>
    rw [e] at h
    simp only at h ⊢
    by_cases hk : kilnB kl = false
    · rw [if_pos hk] at h ⊢
      cases h
      rfl
    · rw [if_neg hk] at h ⊢
      cases e2 : potsV (nmD c) (nmD g) p with
      | some j => rw [e2] at h; cases h; rfl
      | none => rw [e2] at h; cases h
theorem due_none {c g kl p : D} (h : dueX c g kl p = none) : dueD c g kl p = .non := by
  unfold dueX at h
  unfold dueD
  cases e : goodsV c g with
  | some q =>
    obtain ⟨a, b⟩ := q
    rw [e] at h
    cases h
  | none =>
    rw [e] at h
    simp only at h ⊢
    by_cases hk : kilnB kl = false
    · rw [if_pos hk] at h; cases h
    · rw [if_neg hk] at h ⊢
      cases e2 : potsV (nmD c) (nmD g) p with
      | some j => rw [e2] at h; cases h
      | none => rfl
end
end K01

namespace K01
open PySem KI
/-! ## things told otherwise -/
mutual
def wfM (m : Nat) : D → Nat → Bool
  | .non, _ => true
  | .bl _, _ => true
  | .int _, _ => true
  | .str s, _ => PyData.strOk s && decide (s.length ≤ 1000)
  | .tup ds, k + 1 => decide (ds.length ≤ m) && wfMs m ds k
  | .lst ds, _ => D.beqs ds [.int 0]
  | _, _ => false
def wfMs (m : Nat) : List D → Nat → Bool
  | [], _ => true
  | d :: ds, k => wfM m d k && wfMs m ds k
end
theorem wfMs_mem {m : Nat} : ∀ {ds : List D} {k : Nat}, wfMs m ds k = true → ∀ d ∈ ds, wfM m d k = true
  | [], _, _, _, h => by cases h
  | e :: ds, k, h, d, hd => by
    rw [wfMs, Bool.and_eq_true] at h
    rcases List.mem_cons.mp hd with rfl | hd
    · exact h.1
    · exact wfMs_mem h.2 d hd
theorem wfMs_of {m : Nat} : ∀ {ds : List D} {k : Nat}, (∀ d ∈ ds, wfM m d k = true) → wfMs m ds k = true
  | [], _, _ => rfl
  | e :: ds, k, h => by
    rw [wfMs, Bool.and_eq_true]
    exact ⟨h e List.mem_cons_self, wfMs_of fun d hd => h d (List.mem_cons_of_mem _ hd)⟩
mutual
theorem wfM_up {m m' : Nat} (hm : m ≤ m') : ∀ (d : D) (k k' : Nat), k ≤ k' → wfM m d k = true → wfM m' d k' = true
  | .non, _, k', _, _ => by cases k' <;> rfl
  | .bl _, _, k', _, _ => by cases k' <;> rfl
  | .int _, _, k', _, _ => by cases k' <;> rfl
  | .str s, k, k', _, h => by cases k <;> cases k' <;> exact h
  | .tup ds, 0, _, _, h => by simp [wfM] at h
  | .tup ds, k + 1, k', hk, h => by
    obtain ⟨j, rfl⟩ : ∃ j, k' = j + 1 := ⟨k' - 1, by omega⟩
    rw [wfM, Bool.and_eq_true, decide_eq_true_eq] at h ⊢
    exact ⟨by omega, wfMs_up hm ds k j (by omega) h.2⟩
  | .lst ds, k, k', _, h => by cases k <;> cases k' <;> exact h
  | .sq ds, k, _, _, h => by simp [wfM] at h
  | .loc _, k, _, _, h => by simp [wfM] at h
  | .fn _, k, _, _, h => by simp [wfM] at h
theorem wfMs_up {m m' : Nat} (hm : m ≤ m') : ∀ (ds : List D) (k k' : Nat), k ≤ k' → wfMs m ds k = true → wfMs m' ds k' = true
  | [], _, _, _, _ => rfl
  | d :: ds, k, k', hk, h => by
    rw [wfMs, Bool.and_eq_true] at h ⊢
    exact ⟨wfM_up hm d k k' hk h.1, wfMs_up hm ds k k' hk h.2⟩
end
mutual
theorem wfM_wfD {m : Nat} (hm : m ≤ 100) : ∀ (d : D) (k : Nat), wfM m d k = true → wfD d k = true
  | .non, k, _ => by cases k <;> rfl
  | .bl _, k, _ => by cases k <;> rfl
  | .int _, k, _ => by cases k <;> rfl
  | .str s, k, h => by cases k <;> exact h
  | .tup ds, 0, h => by simp [wfM] at h
  | .tup ds, k + 1, h => by
    rw [wfM, Bool.and_eq_true, decide_eq_true_eq] at h
    rw [wfD, Bool.and_eq_true, decide_eq_true_eq]
    exact ⟨by omega, wfMs_wfDs hm ds k h.2⟩
  | .lst ds, k, h => by cases k <;> exact h
  | .sq ds, k, h => by simp [wfM] at h
  | .loc _, k, h => by simp [wfM] at h
  | .fn _, k, h => by simp [wfM] at h
theorem wfMs_wfDs {m : Nat} (hm : m ≤ 100) : ∀ (ds : List D) (k : Nat), wfMs m ds k = true → wfDs ds k = true
  | [], _, _ => rfl
  | d :: ds, k, h => by
    rw [wfMs, Bool.and_eq_true] at h
    rw [wfDs, Bool.and_eq_true]
    exact ⟨wfM_wfD hm d k h.1, wfMs_wfDs hm ds k h.2⟩
end
theorem wfM_tup {m : Nat} {ds : List D} {k : Nat} (h : wfM m (.tup ds) k = true) : ∃ j, k = j + 1 ∧ ds.length ≤ m ∧ ∀ d ∈ ds, wfM m d j = true := by
  cases k with
  | zero => simp [wfM] at h
  | succ j =>
    rw [wfM, Bool.and_eq_true, decide_eq_true_eq] at h
    exact ⟨j, rfl, h.1, wfMs_mem h.2⟩
theorem wfM_mk {m : Nat} {ds : List D} {k : Nat} (hl : ds.length ≤ m) (h : ∀ d ∈ ds, wfM m d k = true) : wfM m (.tup ds) (k + 1) = true := by
  rw [wfM, Bool.and_eq_true, decide_eq_true_eq]
  exact ⟨hl, wfMs_of h⟩
/-! what stands in a tree of constants -/
mutual
def csE : E → D
  | .cst d => d
  | .op2 .sub (.cst (.int a)) (.cst (.int b)) => .int (a - b)
  | .tup es => .tup (csEs es)
  | .lst _ es => .lst (csEs es)
  | _ => .non
def csEs : Es → List D
  | .nil => []
  | .cons e es => csE e :: csEs es
end
def oB : Ss := match b__law_other with
  | .cons _ (.cons _ r) => r
  | _ => .nil
def oE1 : E := match b__law_other with
  | .cons (.asg _ e) _ => e
  | _ => .cst .non
def oE2 : E := match b__law_other with
  | .cons _ (.cons (.asg _ (.op2 _ _ e)) _) => e
  | _ => .cst .non
def someA : List D := match oE1 with
  | .lst _ es => csEs es
  | _ => []
def someB : List D := match oE2 with
  | .lst _ es => csEs es
  | _ => []
theorem oth_eq : b__law_other = .cons (.asg (.name 2) oE1) (.cons (.asg (.name 2) (.op2 (.add false) (.var 2) oE2)) oB) := rfl
theorem ev_oE1 (cf : CF) (env : EnvI) (hp : HpI) : ev cf oE1 env hp = .ok (.lst someA) hp := by
  simp [oE1, b__law_other, sz, someA, csEs, csE]
theorem ev_oE2 (cf : CF) (env : EnvI) (hp : HpI) : ev cf oE2 env hp = .ok (.lst someB) hp := by
  simp [oE2, b__law_other, sz, someB, csEs, csE]
theorem some_len : someA.length = 22 ∧ someB.length = 11 := ⟨rfl, rfl⟩
theorem some_wf : ∀ d ∈ someA ++ someB, wfM 4 d 1 = true := by
  have : (someA ++ someB).all (fun d => wfM 4 d 1) = true := by decide +kernel
  exact List.all_eq_true.mp this
section
variable {wf n : Nat} {ns : List Int}
theorem DR {o : O} {many : Int} (hm : 0 < many) (hb : many < 2 ^ 200) (h : StO ns o) :
    ∃ r o', (∀ rest, framed (run pg wf (n + 1)) (some 1) 21 [.loc 0, .int many] (o :: rest) = .ok (.int r) (o' :: rest)) ∧ 0 ≤ r ∧ r < many ∧ StO ns o' :=
  drawn_ok (x := "_law_drawn") (dfl := []) rfl hm hb h
theorem framed1 {cf : CF} {f : Nat} {ds : List D} {d d' : D} {o o' : O} {rest hp2 : HpI} (h : cf f ds [o] = .ok d (o' :: hp2)) (hc : closeds 1 ds = true) (ho : closedO 1 o = true) (ho' : closedO 1 o' = true) (hr : rb 1 (o' :: hp2) d = some d') : framed cf (some 1) f ds (o :: rest) = .ok d' (o' :: rest) := by
  simp [framed, h, hc, ho, ho', hr]
theorem at_some {ds : List D} {i : Int} (h0 : 0 ≤ i) (h1 : i < ds.length) : ∃ c, L2.atI ds i = some c ∧ c ∈ ds := by
  obtain ⟨n, rfl⟩ := Int.eq_ofNat_of_zero_le h0
  have hn : n < ds.length := by omega
  exact ⟨ds[n], by rw [atI_nat]; simp [hn], List.getElem_mem hn⟩
theorem other_ok : ∀ (k n m : Nat) (d : D) {o : O}, 4 ≤ m → m ≤ 90 → k < 40 → wfM m d k = true → StO ns o → ∃ r o', wfM (m + 1) r (k + 1) = true ∧ StO ns o' ∧ run pg wf (n + k + 2) 31 [.loc 0, d] [o] = .ok r [o'] := by
  intro k
  induction k with
  | zero =>
    intro n m d o h4 hm hk hd hs
    obtain ⟨r, o1, e1, u1, v1, s1⟩ := DR (wf := wf) (n := n) (many := 33) (by omega) (by omega) hs
    obtain ⟨x, ex, hx⟩ := at_some (ds := someA ++ someB) u1 (by rw [List.length_append, some_len.1, some_len.2]; exact v1)
    refine ⟨x, o1, wfM_up (by omega) x 1 1 (by omega) (some_wf x hx), s1, ?_⟩
    have hl : ∀ hp, semB .len [.lst (someA ++ someB)] hp = some (.int 33, hp) := fun hp => by
      show some (D.int ((someA ++ someB).length : Nat), hp) = _
      rw [List.length_append, some_len.1, some_len.2]
      rfl
    have ha : ∀ hp, sem2 (.add false) (.lst someA) (.lst someB) hp = some (.lst (someA ++ someB), hp) := fun hp => by
      have z : someA.length + someB.length ≤ sizeLine := by rw [some_len.1, some_len.2]; exact sz (by omega)
      simp only [sem2, lst0, z, if_true]
      rfl
    have hix : ∀ hp, sem2 .ix (.lst (someA ++ someB)) (.int r) hp = some (x, hp) := fun hp => by rw [s2_ixL, ex]; rfl
    rw [r__law_other, oth_eq]
    cases d <;> first | (simp [wfM] at hd; done) | (simp [-s2_ixL, ev_oE1, ev_oE2, ha, hl, oB, b__law_other, isTy, e1, hix])
  | succ k ih =>
    intro n m d o h4 hm hk hd hs
    have hl : ∀ hp, semB .len [.lst (someA ++ someB)] hp = some (.int 33, hp) := fun hp => by
      show some (D.int ((someA ++ someB).length : Nat), hp) = _
      rw [List.length_append, some_len.1, some_len.2]
      rfl
    have ha : ∀ hp, sem2 (.add false) (.lst someA) (.lst someB) hp = some (.lst (someA ++ someB), hp) := fun hp => by
      have z : someA.length + someB.length ≤ sizeLine := by rw [some_len.1, some_len.2]; exact sz (by omega)
      simp only [sem2, lst0, z, if_true]
      rfl
    have pick : ∀ {o : O}, StO ns o → ∃ x r o1, wfM (m + 1) x (k + 1 + 1) = true ∧ StO ns o1 ∧ (∀ rest, framed (run pg wf (n + (k + 1) + 1)) (some 1) 21 [.loc 0, .int 33] (o :: rest) = .ok (.int r) (o1 :: rest)) ∧ ∀ hp, sem2 .ix (.lst (someA ++ someB)) (.int r) hp = some (x, hp) := fun {o} hs => by
      obtain ⟨r, o1, e1, u1, v1, s1⟩ := DR (wf := wf) (n := n + (k + 1)) (many := 33) (by omega) (by omega) hs
      obtain ⟨x, ex, hx⟩ := at_some (ds := someA ++ someB) u1 (by rw [List.length_append, some_len.1, some_len.2]; exact v1)
      exact ⟨x, r, o1, wfM_up (by omega) x 1 _ (by omega) (some_wf x hx), s1, e1, fun hp => by rw [s2_ixL, ex]; rfl⟩
    rw [r__law_other, oth_eq]
    by_cases ht : ∃ ds, d = .tup ds
    · obtain ⟨ds, rfl⟩ := ht
      obtain ⟨q, hq, hdl, hw⟩ := wfM_tup hd
      obtain rfl : k = q := by omega
      obtain ⟨w, o1, e1, u1, v1, s1⟩ := DR (wf := wf) (n := n + (k + 1)) (many := 6) (by omega) (by omega) hs
      by_cases c0 : w = 0
      · obtain ⟨x, r, o2, hx, s2, e2, hix⟩ := pick s1
        refine ⟨x, o2, hx, s2, ?_⟩
        simp [-s2_ixL, ev_oE1, ev_oE2, ha, hl, oB, b__law_other, isTy, e1, c0, e2, hix]
      · obtain ⟨j, o2, e2, u2, v2, s2⟩ := DR (wf := wf) (n := n + (k + 1)) (many := ds.length + 1) (by omega) (by omega) s1
        have hn : ∀ hp, semB .len [.tup ds] hp = some (.int ds.length, hp) := fun hp => rfl
        by_cases cj : j = ds.length
        · have hne : ∀ hp, sem2 .ne (.tup ds) (.tup []) hp = some (.bl (!ds.isEmpty), hp) := fun hp => by
            rw [s2_ne_ok (wf_okd _ _ 60 (by omega) (wfM_wfD (by omega) _ _ hd)) rfl]
            cases ds <;> simp
          have hone : ∃ one o3, wfM m one k = true ∧ StO ns o3 ∧ ∀ (a2 a3 a4 : Option D) (rest : HpI), ev (run pg wf (n + (k + 1) + 1)) (.ife (.cmp .ne (.var 1) (.tup .nil)) (.op2 .ix (.var 1) (.call (some 1) 21 (.cons (.var 0) (.cons (.bi .len (.cons (.var 1) (.nil))) (.nil))))) (.cst (.non))) [some (.loc 0), some (.tup ds), a2, a3, a4] (o2 :: rest) = .ok one (o3 :: rest) := by
            cases ds with
            | nil => exact ⟨.non, o2, by cases k <;> rfl, s2, fun _ _ _ _ => by simp [hne]⟩
            | cons d0 ds =>
              obtain ⟨r, o3, e3, u3, v3, s3⟩ := DR (wf := wf) (n := n + (k + 1)) (many := ((d0 :: ds).length : Nat)) (by simp) (by omega) s2
              obtain ⟨x, ex, hx⟩ := at_some (ds := d0 :: ds) u3 v3
              refine ⟨x, o3, hw x hx, s3, fun _ _ _ rest => ?_⟩
              have hix : ∀ hp, sem2 .ix (.tup (d0 :: ds)) (.int r) hp = some (x, hp) := fun hp => by rw [s2_ixT, ex]; rfl
              simp only [List.isEmpty_cons, Bool.not_false] at hne
              generalize hL : d0 :: ds = L at *
              simp [-s2_ixT, hne, hn, e3, hix]
          obtain ⟨one, o3, h1, s3, e3⟩ := hone
          obtain ⟨r, o4, e4, u4, v4, s4⟩ := DR (wf := wf) (n := n + (k + 1)) (many := 2) (by omega) (by omega) s3
          have hsl : ∀ hp, semSl false (.tup ds) none (some (-1)) hp = some (.tup (cutD ds none (some (-1))), hp) := fun hp => rfl
          have hadd : ∀ hp, sem2 (.add false) (.tup ds) (.tup [one]) hp = some (.tup (ds ++ [one]), hp) := fun hp => by
            rw [s2_addT, if_pos (sz (by simp; omega))]
          have hcm : ∀ d ∈ cutD ds none (some (-1)), d ∈ ds := fun d hd => List.mem_of_mem_drop (List.mem_of_mem_take hd)
          have hcl : (cutD ds none (some (-1))).length ≤ m := by
            unfold cutD
            rw [List.length_take, List.length_drop]
            omega
          generalize cutD ds none (some (-1)) = A at *
          have wA : wfM (m + 1) (.tup A) (k + 1 + 1) = true := wfM_up (by omega) _ (k + 1) _ (by omega) (wfM_mk hcl fun d hd => hw d (hcm d hd))
          have wB : wfM (m + 1) (.tup (ds ++ [one])) (k + 1 + 1) = true := by
            refine wfM_up (Nat.le_refl _) _ (k + 1) _ (by omega) (wfM_mk (by simp; omega) fun d hd => ?_)
            rcases List.mem_append.mp hd with hd | hd
            · exact wfM_up (by omega) d k k (Nat.le_refl _) (hw d hd)
            · cases List.mem_singleton.mp hd
              exact wfM_up (by omega) one k k (Nat.le_refl _) h1
          obtain ⟨x, ex, hx⟩ : ∃ x, L2.atI [D.tup A, .tup (ds ++ [one])] r = some x ∧ wfM (m + 1) x (k + 1 + 1) = true := by
            have : r = 0 ∨ r = 1 := by omega
            rcases this with rfl | rfl
            · exact ⟨_, by simp, wA⟩
            · exact ⟨_, by simp, wB⟩
          refine ⟨x, o4, hx, s4, ?_⟩
          subst cj
          simp [-ev_ife, -sl_tup, -s2_addT, ev_oE1, ev_oE2, ha, hl, oB, b__law_other, isTy, e1, c0, hn, e2, e3, hsl, sz, hadd, e4, ex]
        · have hj : j < ds.length := by omega
          obtain ⟨jn, rfl⟩ := Int.eq_ofNat_of_zero_le u2
          have hjn : jn < ds.length := by omega
          have wj := hw ds[jn] (List.getElem_mem hjn)
          obtain ⟨r, o3, hr, s3, e3⟩ := ih n m ds[jn] h4 hm (by omega) wj s2
          have cr : closed 1 r = true := wf_closed r _ (wfM_wfD (by omega) r _ hr)
          have e3' : ∀ rest, framed (run pg wf (n + (k + 1) + 1)) (some 1) 31 [.loc 0, ds[jn]] (o2 :: rest) = .ok r (o3 :: rest) := fun rest =>
            framed1 (cf := run pg wf (n + k + 2)) e3 (by simp [wf_closed (m := 1) ds[jn] k (wfM_wfD (by omega) _ _ wj)]) s2.closed s3.closed (rb_closed _ cr)
          have hix : ∀ hp, sem2 .ix (.tup ds) (.int (jn : Nat)) hp = some (ds[jn], hp) := fun hp => by
            rw [s2_ixT, atI_nat]
            simp [hjn]
          have hs1 : ∀ hp, semSl false (.tup ds) none (some (jn : Nat)) hp = some (.tup (ds.take jn), hp) := fun hp => by
            rw [sl_tup, cut_take (by omega)]; rfl
          have hs2 : ∀ hp, semSl false (.tup ds) (some ((jn : Nat) + 1)) none hp = some (.tup (ds.drop (jn + 1)), hp) := fun hp => by
            rw [sl_tup, cut_drop (by omega)]; rfl
          have a1 : ∀ hp, sem2 (.add false) (.tup (ds.take jn)) (.tup [r]) hp = some (.tup (ds.take jn ++ [r]), hp) := fun hp => by
            rw [s2_addT, if_pos (sz (by simp; omega))]
          have a2 : ∀ hp, sem2 (.add false) (.tup (ds.take jn ++ [r])) (.tup (ds.drop (jn + 1))) hp = some (.tup (ds.take jn ++ [r] ++ ds.drop (jn + 1)), hp) := fun hp => by
            rw [s2_addT, if_pos (sz (by simp; omega))]
          refine ⟨.tup (ds.take jn ++ [r] ++ ds.drop (jn + 1)), o3, ?_, s3, ?_⟩
          · refine wfM_mk (by simp; omega) fun d hd => ?_
            rcases List.mem_append.mp hd with hd | hd
            · rcases List.mem_append.mp hd with hd | hd
              · exact wfM_up (by omega) d k _ (by omega) (hw d (List.mem_of_mem_take hd))
              · cases List.mem_singleton.mp hd
                exact hr
            · exact wfM_up (by omega) d k _ (by omega) (hw d (List.mem_of_mem_drop hd))
          · generalize ds[jn] = q at *
            generalize ds.take jn ++ [r] ++ ds.drop (jn + 1) = F at *
            generalize ds.take jn ++ [r] = F1 at *
            generalize ds.take jn = F2 at *
            generalize ds.drop (jn + 1) = F3 at *
            simp [-sl_tup, -s2_addT, -s2_ixT, ev_oE1, ev_oE2, ha, hl, oB, b__law_other, isTy, e1, c0, hn, e2, cj, hs1, hix, e3', sz, a1, hs2, a2]
    · obtain ⟨x, r, o2, hx, s2, e2, hix⟩ := pick hs
      refine ⟨x, o2, hx, s2, ?_⟩
      cases d <;> first | (simp [wfM] at hd; done) | (exact absurd ⟨_, rfl⟩ ht) | (simp [-s2_ixL, ev_oE1, ev_oE2, ha, hl, oB, b__law_other, isTy, e2, hix])
end
end K01

namespace K01
open PySem KI
structure Pot where
  c : Str
  w : Int
  h : Int
  t : Int
  st : Str
  gl : Str
def potD (p : Pot) : D := .tup [.str p.c, .int p.w, .int p.h, .int p.t, .str p.st, .str p.gl]
/-- a row of goods: its name, what else it tells -/
abbrev Row := Str × List Int
def rowD (r : Row) : D := .tup (.str r.1 :: r.2.map D.int)
def names : List Str := ["red", "white", "stone", "ash", "tin"]
/-- what a clay tells behind its name -/
def clayOk (r : List Int) : Prop := ∃ a lo hi, r = [a, lo, hi] ∧ 1 ≤ a ∧ a ≤ 999 ∧ 1 ≤ lo ∧ lo ≤ hi ∧ hi ≤ 99999
def glazeOk (r : List Int) : Prop := ∃ lo hi, r = [lo, hi] ∧ 1 ≤ lo ∧ lo ≤ hi ∧ hi ≤ 99999
/-- rows of goods that stand -/
structure RowsOk (P : List Int → Prop) (rs : List Row) : Prop where
  len : rs.length ≤ 6
  nd : (rs.map (·.1)).Nodup
  nm : ∀ r ∈ rs, r.1 ∈ names
  ok : ∀ r ∈ rs, P r.2
theorem cl_row (k : Nat) (r : Row) : closed k (rowD r) = true := by
  have : closeds k (r.2.map D.int) = true := cls_map (fun a => rfl) r.2
  simp [rowD, this]
theorem cl_rows (k : Nat) (rs : List Row) : closeds k (rs.map rowD) = true := cls_map (fun r => cl_row k r) rs
structure PotOk (cs gs : List Row) (p : Pot) : Prop where
  w1 : 1 ≤ p.w
  w2 : p.w ≤ 20
  h1 : 1 ≤ p.h
  h2 : p.h ≤ 20
  t1 : 1 ≤ p.t
  t2 : p.t ≤ 9
  st : p.st = "raw" ∨ p.st = "fired" ∨ p.st = "glazed"
  c : p.c ∈ cs.map (·.1)
  g1 : p.st = "glazed" → p.gl ∈ gs.map (·.1)
  g2 : p.st ≠ "glazed" → p.gl = ""
theorem cl_pot (k : Nat) (p : Pot) : closed k (potD p) = true := by simp [potD]
theorem cl_pots (k : Nat) (ps : List Pot) : closeds k (ps.map potD) = true := cls_map (fun p => cl_pot k p) ps
theorem OTHER {wf n : Nat} {ns : List Int} (k m : Nat) (d : D) {o : O} (h4 : 4 ≤ m) (hm : m ≤ 90) (hk : k < 40) (hd : wfM m d k = true) (hs : StO ns o) : ∃ r o', wfM (m + 1) r (k + 1) = true ∧ StO ns o' ∧ ∀ rest, framed (run pg wf (n + k + 2)) (some 1) 31 [.loc 0, d] (o :: rest) = .ok r (o' :: rest) := by
  obtain ⟨r, o', h1, h2, e⟩ := other_ok (wf := wf) (ns := ns) k n m d h4 hm hk hd hs
  exact ⟨r, o', h1, h2, fun rest => framed1 e (by simp [wf_closed (m := 1) d k (wfM_wfD (by omega) d k hd)]) hs.closed h2.closed (rb_closed _ (wf_closed r _ (wfM_wfD (by omega) r _ h1)))⟩
theorem ints_wf {m : Nat} (l : List Int) (k : Nat) : ∀ d ∈ l.map D.int, wfM m d k = true := fun d hd => by
  obtain ⟨x, _, rfl⟩ := List.mem_map.mp hd
  cases k <;> rfl
theorem nm_wf {m k : Nat} {s : Str} (h : s ∈ names) : wfM m (.str s) k = true := by
  have : ∀ s ∈ names, (PyData.strOk s && decide (s.length ≤ 1000)) = true := by decide +kernel
  cases k <;> exact this s h
theorem clay_len {r : List Int} (h : clayOk r) : r.length = 3 := by obtain ⟨a, lo, hi, rfl, _⟩ := h; rfl
theorem glaze_len {r : List Int} (h : glazeOk r) : r.length = 2 := by obtain ⟨lo, hi, rfl, _⟩ := h; rfl
theorem rows_wf {P : List Int → Prop} {rs : List Row} (R : RowsOk P rs) (hP : ∀ r, P r → r.length ≤ 3) : wfM 10 (.tup (rs.map rowD)) 2 = true := by
  refine wfM_mk (by rw [List.length_map]; have := R.len; omega) fun d hd => ?_
  obtain ⟨r, hr, rfl⟩ := List.mem_map.mp hd
  refine wfM_mk (by have := hP _ (R.ok r hr); simp; omega) fun d hd => ?_
  rcases List.mem_cons.mp hd with rfl | hd
  · exact nm_wf (R.nm r hr)
  · exact ints_wf _ _ d hd
theorem pot_wf {cs gs : List Row} (hc : RowsOk clayOk cs) (hg : RowsOk glazeOk gs) {p : Pot} (h : PotOk cs gs p) : wfM 10 (potD p) 1 = true := by
  have h1 : p.c ∈ names := by
    obtain ⟨r, hr, e⟩ := List.mem_map.mp h.c
    rw [← e]; exact hc.nm r hr
  have key : ∀ s : Str, s = "raw" ∨ s = "fired" ∨ s = "glazed" ∨ s = "" → wfM 10 (.str s) 0 = true := by
    rintro s (rfl | rfl | rfl | rfl) <;> decide +kernel
  refine wfM_mk (by simp) fun d hd => ?_
  simp only [List.mem_cons, List.not_mem_nil, or_false] at hd
  rcases hd with rfl | rfl | rfl | rfl | rfl | rfl
  · exact nm_wf h1
  · rfl
  · rfl
  · rfl
  · exact key _ (by rcases h.st with e | e | e <;> simp [e])
  · by_cases e : p.st = "glazed"
    · obtain ⟨r, hr, e⟩ := List.mem_map.mp (h.g1 e)
      rw [← e]; exact nm_wf (hg.nm r hr)
    · exact key _ (by simp [h.g2 e])
theorem pick3 {a b c r : Int} (h0 : 0 ≤ r) (h1 : r < 3) : ∃ v, L2.atI [D.int a, .int b, .int c] r = some (.int v) := by
  have : r = 0 ∨ r = 1 ∨ r = 2 := by omega
  rcases this with rfl | rfl | rfl
  · exact ⟨a, by simp⟩
  · exact ⟨b, by simp⟩
  · exact ⟨c, by simp⟩
theorem kiln_ok {wf n : Nat} {ns : List Int} {o : O} (h : StO ns o) : ∃ d o', wfM 10 d 1 = true ∧ StO ns o' ∧ ∀ rest, framed (run pg wf (n + 2)) (some 1) 24 [.loc 0] (o :: rest) = .ok d (o' :: rest) := by
  obtain ⟨r1, o1, e1, u1, v1, s1⟩ := DR (wf := wf) (n := n) (many := 40) (by omega) (by omega) h
  obtain ⟨r2, o2, e2, u2, v2, s2⟩ := DR (wf := wf) (n := n) (many := 21) (by omega) (by omega) s1
  obtain ⟨r3, o3, e3, u3, v3, s3⟩ := DR (wf := wf) (n := n) (many := 3) (by omega) (by omega) s2
  obtain ⟨x1, ex1⟩ := pick3 (a := 10) (b := 1 + r1) (c := 20 + r2) u3 v3
  obtain ⟨r4, o4, e4, u4, v4, s4⟩ := DR (wf := wf) (n := n) (many := 58) (by omega) (by omega) s3
  obtain ⟨r5, o5, e5, u5, v5, s5⟩ := DR (wf := wf) (n := n) (many := 31) (by omega) (by omega) s4
  obtain ⟨r6, o6, e6, u6, v6, s6⟩ := DR (wf := wf) (n := n) (many := 3) (by omega) (by omega) s5
  obtain ⟨x2, ex2⟩ := pick3 (a := 12) (b := 3 + r4) (c := 30 + r5) u6 v6
  obtain ⟨r7, o7, e7, u7, v7, s7⟩ := DR (wf := wf) (n := n) (many := 6) (by omega) (by omega) s6
  obtain ⟨r8, o8, e8, u8, v8, s8⟩ := DR (wf := wf) (n := n) (many := 30) (by omega) (by omega) s7
  obtain ⟨r9, o9, e9, u9, v9, s9⟩ := DR (wf := wf) (n := n) (many := 3) (by omega) (by omega) s8
  obtain ⟨x3, ex3⟩ := pick3 (a := 0) (b := 1 + r8) (c := 5) u9 v9
  refine ⟨.tup [.int x1, .int x2, .int (1 + r7), .int x3], o9, rfl, s9, fun rest => framed1 (hp2 := []) (d := .tup [.int x1, .int x2, .int (1 + r7), .int x3]) ?_ rfl h.closed s9.closed (rb_closed _ rfl)⟩
  rw [r__law_kiln]
  simp [b__law_kiln, sz, e1, e2, e3, ex1, e4, e5, e6, ex2, e7, e8, e9, ex3]
end K01

namespace K01
open PySem KI
theorem szl {n : Nat} (h : n ≤ 1000) : n < sizeLine := Nat.lt_of_le_of_lt h (by decide)
def nm3 : List Str := ["red", "white", "stone"]
def nm2 : List Str := ["ash", "tin"]
section
variable {wf n : Nat} {ns : List Int}
theorem rows_named {P : List Int → Prop} {rs : List Row} {nm : List Str} (hn : nm.Nodup) (hs : ∀ s ∈ nm, s ∈ names) (hl : rs.length ≤ 6) (e : rs.map (·.1) = nm.take rs.length) (hp : ∀ r ∈ rs, P r.2) : RowsOk P rs := by
  refine ⟨hl, ?_, fun r hr => hs _ ?_, hp⟩
  · rw [e]; exact hn.sublist (List.take_sublist _ _)
  · have : r.1 ∈ nm.take rs.length := by rw [← e]; exact List.mem_map.mpr ⟨r, hr, rfl⟩
    exact List.mem_of_mem_take this
theorem goods_run {o : O} (h : StO ns o) : Sat (run pg wf (n + 2) 22 [.loc 0] [o]) (fun _ _ => False) fun d hp => ∃ cs gs o' rest, RowsOk clayOk cs ∧ RowsOk glazeOk gs ∧ cs ≠ [] ∧ gs ≠ [] ∧ cs.length ≤ 3 ∧ gs.length ≤ 2 ∧ StO ns o' ∧ d = .tup [.tup (cs.map rowD), .tup (gs.map rowD)] ∧ hp = o' :: rest := by
  rw [r__law_goods]
  obtain ⟨r1, o1, e1, u1, v1, s1⟩ := DR (wf := wf) (n := n) (many := 3) (by omega) (by omega) h
  simp [b__law_goods, mkL, sz, e1, rng_int (show (0 : Int) ≤ 1 + r1 by omega) (show 1 + r1 ≤ 1000000 by omega)]
  obtain ⟨I, hI⟩ : ∃ I : List D → EnvI → HpI → Prop, ∀ ds env h, I ds env h ↔ ∃ (cs : List Row) (o : O) (q : Nat) (a b : Option D), ds = rngD (cs.length : Int) q ∧ (cs.length : Int) + q = 1 + r1 ∧ cs.map (·.1) = nm3.take cs.length ∧ (∀ r ∈ cs, clayOk r.2) ∧ StO ns o ∧
      env = [some (.loc 0), some (.loc 1), some (.loc 2), a, b] ∧ h = [o, .lst (cs.map rowD), .lst []] := ⟨_, fun _ _ _ => Iff.rfl⟩
  refine ssat_for I _ _ _ ((hI _ _ _).mpr ⟨[], o1, (1 + r1).toNat, none, none, rfl, by simp; omega, rfl, by simp, s1, rfl, rfl⟩) ?_ ?_
  · intro d ds env h hin
    obtain ⟨cs, o, q, a, b, ed, eq, en, hc, hs, rfl, rfl⟩ := (hI _ _ _).mp hin
    cases q with
    | zero => cases ed
    | succ q =>
      cases ed
      obtain ⟨r2, o2, e2, u2, v2, s2⟩ := DR (wf := wf) (n := n) (many := 3000) (by omega) (by omega) hs
      obtain ⟨r3, o3, e3, u3, v3, s3⟩ := DR (wf := wf) (n := n) (many := 999) (by omega) (by omega) s2
      obtain ⟨r4, o4, e4, u4, v4, s4⟩ := DR (wf := wf) (n := n) (many := 2) (by omega) (by omega) s3
      obtain ⟨r5, o5, e5, u5, v5, s5⟩ := DR (wf := wf) (n := n) (many := 2000) (by omega) (by omega) s4
      have i4 : r4 = 0 ∨ r4 = 1 := by omega
      have fin : ∀ (s : Str) (rise : Int), (cs ++ [(s, [rise, 100 + r2, 100 + r2 + r5])]).map (·.1) = nm3.take (cs.length + 1) → 1 ≤ rise ∧ rise ≤ 999 → ∀ env, env = [some (.loc 0), some (.loc 1), some (.loc 2), some (.int cs.length), some (.int (100 + r2))] →
          I (rngD ((cs.length : Int) + 1) q) env [o5, .lst ((cs ++ [(s, [rise, 100 + r2, 100 + r2 + r5])]).map rowD), .lst []] := fun s rise hs hr env he => (hI _ _ _).mpr ⟨cs ++ [(s, [rise, 100 + r2, 100 + r2 + r5])], o5, q, _, _, by simp, by simp; omega, by rw [hs]; simp, fun r hr' => by
            rcases List.mem_append.mp hr' with z | z
            · exact hc r z
            · rw [List.mem_singleton.mp z]
              exact ⟨_, _, _, rfl, hr.1, hr.2, by omega, by omega, by omega⟩, s5, he, rfl⟩
      rcases cs with _ | ⟨c0, _ | ⟨c1, _ | ⟨c2, cs⟩⟩⟩
      · rcases i4 with rfl | rfl
        · have := fin "red" 50 rfl (by omega) _ rfl
          simp [e2, e3, e4, e5, sz, szl, tyD, meT, semM]
          simpa [rowD] using this
        · have := fin "red" (1 + r3) rfl (by omega) _ rfl
          simp [e2, e3, e4, e5, sz, szl, tyD, meT, semM]
          simpa [rowD] using this
      · have h0 : c0.1 = "red" := by simpa [nm3] using en
        rcases i4 with rfl | rfl
        · have := fin "white" 50 (by simp [h0, nm3]) (by omega) _ rfl
          simp [e2, e3, e4, e5, sz, szl, tyD, meT, semM]
          simpa [rowD] using this
        · have := fin "white" (1 + r3) (by simp [h0, nm3]) (by omega) _ rfl
          simp [e2, e3, e4, e5, sz, szl, tyD, meT, semM]
          simpa [rowD] using this
      · have h0 : c0.1 = "red" ∧ c1.1 = "white" := by simpa [nm3] using en
        rcases i4 with rfl | rfl
        · have := fin "stone" 50 (by simp [h0, nm3]) (by omega) _ rfl
          simp [e2, e3, e4, e5, sz, szl, tyD, meT, semM]
          simpa [rowD] using this
        · have := fin "stone" (1 + r3) (by simp [h0, nm3]) (by omega) _ rfl
          simp [e2, e3, e4, e5, sz, szl, tyD, meT, semM]
          simpa [rowD] using this
      · simp at eq; omega
  · intro env h hin
    obtain ⟨cs, o, q, a, b, ed, eq, en, hc, hs, rfl, rfl⟩ := (hI _ _ _).mp hin
    have hq : q = 0 := by cases q with
      | zero => rfl
      | succ q => cases ed
    subst hq
    obtain ⟨r2, o2, e2, u2, v2, s2⟩ := DR (wf := wf) (n := n) (many := 2) (by omega) (by omega) hs
    simp [e2, rng_int (show (0 : Int) ≤ 1 + r2 by omega) (show 1 + r2 ≤ 1000000 by omega)]
    have Rc : RowsOk clayOk cs := rows_named (nm := nm3) (by decide +kernel) (by decide +kernel) (by omega) en hc
    have Rn : cs ≠ [] := fun z => by subst z; simp at eq; omega
    obtain ⟨J, hJ⟩ : ∃ J : List D → EnvI → HpI → Prop, ∀ ds env h, J ds env h ↔ ∃ (gs : List Row) (o : O) (q : Nat) (a b : Option D), ds = rngD (gs.length : Int) q ∧ (gs.length : Int) + q = 1 + r2 ∧ gs.map (·.1) = nm2.take gs.length ∧ (∀ r ∈ gs, glazeOk r.2) ∧ StO ns o ∧
        env = [some (.loc 0), some (.loc 1), some (.loc 2), a, b] ∧ h = [o, .lst (cs.map rowD), .lst (gs.map rowD)] := ⟨_, fun _ _ _ => Iff.rfl⟩
    refine ssat_for J _ _ _ ((hJ _ _ _).mpr ⟨[], o2, (1 + r2).toNat, a, b, rfl, by simp; omega, rfl, by simp, s2, rfl, rfl⟩) ?_ ?_
    · intro d ds env h hin
      obtain ⟨gs, o, q, a, b, ed, eq, en, hc, hs, rfl, rfl⟩ := (hJ _ _ _).mp hin
      cases q with
      | zero => cases ed
      | succ q =>
        cases ed
        obtain ⟨r3, o3, e3, u3, v3, s3⟩ := DR (wf := wf) (n := n) (many := 3000) (by omega) (by omega) hs
        obtain ⟨r4, o4, e4, u4, v4, s4⟩ := DR (wf := wf) (n := n) (many := 1500) (by omega) (by omega) s3
        have fin : ∀ (s : Str), (gs ++ [(s, [500 + r3, 500 + r3 + r4])]).map (·.1) = nm2.take (gs.length + 1) → ∀ env, env = [some (.loc 0), some (.loc 1), some (.loc 2), some (.int gs.length), some (.int (500 + r3))] →
            J (rngD ((gs.length : Int) + 1) q) env [o4, .lst (cs.map rowD), .lst ((gs ++ [(s, [500 + r3, 500 + r3 + r4])]).map rowD)] := fun s hs env he => (hJ _ _ _).mpr ⟨gs ++ [(s, [500 + r3, 500 + r3 + r4])], o4, q, _, _, by simp, by simp; omega, by rw [hs]; simp, fun r hr' => by
              rcases List.mem_append.mp hr' with z | z
              · exact hc r z
              · rw [List.mem_singleton.mp z]
                exact ⟨_, _, rfl, by omega, by omega, by omega⟩, s4, he, rfl⟩
        rcases gs with _ | ⟨c0, _ | ⟨c1, gs⟩⟩
        · have := fin "ash" rfl _ rfl
          simp [e3, e4, sz, szl, tyD, meT, semM]
          simpa [rowD] using this
        · have h0 : c0.1 = "ash" := by simpa [nm2] using en
          have := fin "tin" (by simp [h0, nm2]) _ rfl
          simp [e3, e4, sz, szl, tyD, meT, semM]
          simpa [rowD] using this
        · simp at eq; omega
    · intro env h hin
      obtain ⟨gs, o, q, a, b, ed, eqg, en, hc, hs, rfl, rfl⟩ := (hJ _ _ _).mp hin
      have hq : q = 0 := by cases q with
        | zero => rfl
        | succ q => cases ed
      subst hq
      have Rg : RowsOk glazeOk gs := rows_named (nm := nm2) (by decide +kernel) (by decide +kernel) (by omega) en hc
      have Rm : gs ≠ [] := fun z => by subst z; simp at eqg; omega
      simp [semB, seqOf, lstOf, lst0, sz]
      refine ⟨cs, Rc, gs, Rg, Rn, Rm, by omega, by omega, ?_⟩
      exact ⟨hs, rfl, rfl⟩
theorem goods_ok {o : O} (h : StO ns o) : ∃ cs gs o', RowsOk clayOk cs ∧ RowsOk glazeOk gs ∧ cs ≠ [] ∧ gs ≠ [] ∧ cs.length ≤ 3 ∧ gs.length ≤ 2 ∧ StO ns o' ∧
    ∀ rest, framed (run pg wf (n + 2)) (some 1) 22 [.loc 0] (o :: rest) = .ok (.tup [.tup (cs.map rowD), .tup (gs.map rowD)]) (o' :: rest) := by
  obtain ⟨d, hp, e, cs, gs, o', rest, h1, h2, h3, h4, h5, h6, h7, rfl, rfl⟩ := ex_of_sat (goods_run (wf := wf) (n := n) h)
  refine ⟨cs, gs, o', h1, h2, h3, h4, h5, h6, h7, fun rest => framed1 e rfl h.closed h7.closed (rb_closed _ (by simp [cl_rows]))⟩
end
end K01

namespace K01
open PySem KI
section
variable {wf n : Nat} {ns : List Int}
theorem raw_ne : ¬ (("raw" : Str) = "glazed") := by decide +kernel
theorem fired_ne : ¬ (("fired" : Str) = "glazed") := by decide +kernel
theorem ix_row (rs : List Row) (r : Int) (h0 : 0 ≤ r) (h1 : r < rs.length) (hp : HpI) : ∃ q ∈ rs, sem2 .ix (.tup (rs.map rowD)) (.int r) hp = some (rowD q, hp) := by
  obtain ⟨i, rfl⟩ := Int.eq_ofNat_of_zero_le h0
  have hi : i < rs.length := by omega
  refine ⟨rs[i], List.getElem_mem hi, ?_⟩
  rw [s2_ix _ _ (fun z e => by cases e)]
  simp only [seqOf, atI_nat]
  simp [hi]
theorem ix_rowU (rs : List Row) (r : Int) (h0 : 0 ≤ r) (h1 : r < rs.length) : ∃ q ∈ rs, ∀ hp, sem2 .ix (.tup (rs.map rowD)) (.int r) hp = some (rowD q, hp) := by
  obtain ⟨i, rfl⟩ := Int.eq_ofNat_of_zero_le h0
  have hi : i < rs.length := by omega
  refine ⟨rs[i], List.getElem_mem hi, fun hp => ?_⟩
  rw [s2_ix _ _ (fun z e => by cases e)]
  simp only [seqOf, atI_nat]
  simp [hi]
theorem row_nm (q : Row) (hp : HpI) : sem2 .ix (rowD q) (.int 0) hp = some (.str q.1, hp) := by simp [rowD]
theorem pot_run (cs gs : List Row) (hc : cs ≠ []) (hg : gs ≠ []) (lc : cs.length ≤ 6) (lg : gs.length ≤ 6) {o : O} (h : StO ns o) : ∃ p o', PotOk cs gs p ∧ StO ns o' ∧ run pg wf (n + 2) 23 [.loc 0, .tup (cs.map rowD), .tup (gs.map rowD)] [o] = .ok (potD p) [o'] := by
  have c0 : 0 < cs.length := List.length_pos_iff.mpr hc
  have g0 : 0 < gs.length := List.length_pos_iff.mpr hg
  obtain ⟨r1, o1, e1, u1, v1, s1⟩ := DR (wf := wf) (n := n) (many := 3) (by omega) (by omega) h
  obtain ⟨r2, o2, e2, u2, v2, s2⟩ := DR (wf := wf) (n := n) (many := cs.length) (by omega) (by omega) s1
  obtain ⟨q, hq, eq⟩ := ix_rowU cs r2 u2 v2
  rw [r__law_pot]
  have key : ∀ size : Int, (size = 4 ∨ size = 12 ∨ size = 20) → (∀ hp, sem2 .ix (.lst [.int 4, .int 12, .int 20]) (.int r1) hp = some (.int size, hp)) → ∃ p o', PotOk cs gs p ∧ StO ns o' ∧ outOf (exs (run pg wf (n + 1)) wf b__law_pot [some (.loc 0), some (.tup (cs.map rowD)), some (.tup (gs.map rowD)), none, none, none, none] [o]) = .ok (potD p) [o'] := by
    intro size hsz ex
    obtain ⟨r3, o3, e3, u3, v3, s3⟩ := DR (wf := wf) (n := n) (many := size) (by omega) (by omega) s2
    obtain ⟨r4, o4, e4, u4, v4, s4⟩ := DR (wf := wf) (n := n) (many := size) (by omega) (by omega) s3
    obtain ⟨r5, o5, e5, u5, v5, s5⟩ := DR (wf := wf) (n := n) (many := 5) (by omega) (by omega) s4
    by_cases hw : 2 < r5
    · obtain ⟨r6, o6, e6, u6, v6, s6⟩ := DR (wf := wf) (n := n) (many := gs.length) (by omega) (by omega) s5
      obtain ⟨q2, hq2, eq2⟩ := ix_rowU gs r6 u6 v6
      obtain ⟨r7, o7, e7, u7, v7, s7⟩ := DR (wf := wf) (n := n) (many := 9) (by omega) (by omega) s6
      refine ⟨⟨q.1, 1 + r3, 1 + r4, 1 + r7, "glazed", q2.1⟩, o7, ⟨by simp only; omega, by simp only; omega, by simp only; omega, by simp only; omega, by simp only; omega, by simp only; omega, .inr (.inr rfl), List.mem_map.mpr ⟨q, hq, rfl⟩, fun _ => List.mem_map.mpr ⟨q2, hq2, rfl⟩, fun z => absurd rfl z⟩, s7, ?_⟩
      have i5 : r5 = 3 ∨ r5 = 4 := by omega
      rcases i5 with rfl | rfl <;> simp [b__law_pot, e1, e2, e3, e4, e5, e6, e7, ex, eq, eq2, row_nm, sz, potD]
    · obtain ⟨r7, o7, e7, u7, v7, s7⟩ := DR (wf := wf) (n := n) (many := 9) (by omega) (by omega) s5
      have i5 : r5 = 0 ∨ r5 = 1 ∨ r5 = 2 := by omega
      rcases i5 with rfl | rfl | rfl
      · refine ⟨⟨q.1, 1 + r3, 1 + r4, 1 + r7, "raw", ""⟩, o7, ⟨by simp only; omega, by simp only; omega, by simp only; omega, by simp only; omega, by simp only; omega, by simp only; omega, .inl rfl, List.mem_map.mpr ⟨q, hq, rfl⟩, fun z => absurd z raw_ne, fun _ => rfl⟩, s7, ?_⟩
        simp [b__law_pot, e1, e2, e3, e4, e5, e7, ex, eq, row_nm, sz, potD]
      · refine ⟨⟨q.1, 1 + r3, 1 + r4, 1 + r7, "raw", ""⟩, o7, ⟨by simp only; omega, by simp only; omega, by simp only; omega, by simp only; omega, by simp only; omega, by simp only; omega, .inl rfl, List.mem_map.mpr ⟨q, hq, rfl⟩, fun z => absurd z raw_ne, fun _ => rfl⟩, s7, ?_⟩
        simp [b__law_pot, e1, e2, e3, e4, e5, e7, ex, eq, row_nm, sz, potD]
      · refine ⟨⟨q.1, 1 + r3, 1 + r4, 1 + r7, "fired", ""⟩, o7, ⟨by simp only; omega, by simp only; omega, by simp only; omega, by simp only; omega, by simp only; omega, by simp only; omega, .inr (.inl rfl), List.mem_map.mpr ⟨q, hq, rfl⟩, fun z => absurd z fired_ne, fun _ => rfl⟩, s7, ?_⟩
        simp [b__law_pot, e1, e2, e3, e4, e5, e7, ex, eq, row_nm, sz, potD]
  have i1 : r1 = 0 ∨ r1 = 1 ∨ r1 = 2 := by omega
  rcases i1 with rfl | rfl | rfl
  · exact key 4 (by omega) fun hp => by simp
  · exact key 12 (by omega) fun hp => by simp
  · exact key 20 (by omega) fun hp => by simp
theorem pot_ok (cs gs : List Row) (hc : cs ≠ []) (hg : gs ≠ []) (lc : cs.length ≤ 6) (lg : gs.length ≤ 6) {o : O} (h : StO ns o) : ∃ p o', PotOk cs gs p ∧ StO ns o' ∧ ∀ rest, framed (run pg wf (n + 2)) (some 1) 23 [.loc 0, .tup (cs.map rowD), .tup (gs.map rowD)] (o :: rest) = .ok (potD p) (o' :: rest) := by
  obtain ⟨p, o', hp, hs, e⟩ := pot_run (wf := wf) (n := n) cs gs hc hg lc lg h
  exact ⟨p, o', hp, hs, fun rest => framed1 e (by simp [cl_rows]) h.closed hs.closed (rb_closed _ (cl_pot _ _))⟩
end
end K01

namespace K01
open PySem KI
def hsF (c g kl : D) (m : Nat) : List (Str × D) := [("clays", c), ("glazes", g), ("kiln", kl), ("today", .int 0), ("pots", .loc (m + 1)), ("done", .loc (m + 2)), ("fires", .int 0), ("busy", .bl false)]
theorem hs_today (c g kl : D) (m : Nat) : (hsF c g kl m).lookup ("today" : Str) = some (.int 0) := rfl
theorem hs_day (c g kl : D) (m : Nat) : (hsF c g kl m).lookup ("day" : Str) = none := rfl
section
variable {wf n : Nat}
theorem house_init (c g kl : D) {k : Nat} (hk : k < 50) (hc : wfD c k = true) (hg : wfD g k = true) (hkl : wfD kl k = true) (h0 : HpI) :
    run pg wf (n + 7) 32 [.loc h0.length, c, g, kl] (h0 ++ [.ins 0 []]) = (match dueH c g kl with | some x => .exc x (h0 ++ [.ins 0 []]) | none => .ok .non (h0 ++ [.ins 0 (hsF c g kl h0.length), .lst [], .lst []])) := by
  have qG := fun hp => GOODS (wf := wf) (n := n) c g (by omega) hc hg hp
  have qK := fun hp => KILN (wf := wf) (n := n + 4) kl hkl hp
  rw [r_House___init__]
  unfold dueH
  cases e : goodsV c g with
  | some q =>
    obtain ⟨a, b⟩ := q
    rw [e] at qG
    simp only [outGG] at qG
    simp [b_House___init__, qG]
  | none =>
    rw [e] at qG
    simp only [outGG] at qG
    cases hkb : kilnB kl with
    | false =>
      rw [hkb] at qK
      simp only [outK] at qK
      simp [b_House___init__, qG, qK]
    | true =>
      rw [hkb] at qK
      simp only [outK] at qK
      have st : ∀ (f : Str) (v : D) (fs : List (Str × D)) (r : HpI), fs.length < 1000 → setFD 0 f (.loc h0.length) v (h0 ++ .ins 0 fs :: r) = some (h0 ++ .ins 0 (putFD f v fs) :: r) := fun f v fs r hz => by
        rw [setFD_at (fs := fs) (by simp) hz]
        simp
      have p1 : putFD "clays" c [] = ([("clays", c)] : List (Str × D)) := rfl
      have p2 : putFD "glazes" g ([("clays", c)] : List (Str × D)) = ([("clays", c), ("glazes", g)] : List (Str × D)) := rfl
      have p3 : putFD "kiln" kl ([("clays", c), ("glazes", g)] : List (Str × D)) = ([("clays", c), ("glazes", g), ("kiln", kl)] : List (Str × D)) := rfl
      have p4 : putFD "today" (.int 0) ([("clays", c), ("glazes", g), ("kiln", kl)] : List (Str × D)) = ([("clays", c), ("glazes", g), ("kiln", kl), ("today", .int 0)] : List (Str × D)) := rfl
      have p5 : ∀ x, putFD "pots" x ([("clays", c), ("glazes", g), ("kiln", kl), ("today", .int 0)] : List (Str × D)) = ([("clays", c), ("glazes", g), ("kiln", kl), ("today", .int 0), ("pots", x)] : List (Str × D)) := fun _ => rfl
      have p6 : ∀ x y, putFD "done" y ([("clays", c), ("glazes", g), ("kiln", kl), ("today", .int 0), ("pots", x)] : List (Str × D)) = ([("clays", c), ("glazes", g), ("kiln", kl), ("today", .int 0), ("pots", x), ("done", y)] : List (Str × D)) := fun _ _ => rfl
      have p7 : ∀ x y, putFD "fires" (.int 0) ([("clays", c), ("glazes", g), ("kiln", kl), ("today", .int 0), ("pots", x), ("done", y)] : List (Str × D)) = ([("clays", c), ("glazes", g), ("kiln", kl), ("today", .int 0), ("pots", x), ("done", y), ("fires", .int 0)] : List (Str × D)) := fun _ _ => rfl
      have p8 : ∀ x y, putFD "busy" (.bl false) ([("clays", c), ("glazes", g), ("kiln", kl), ("today", .int 0), ("pots", x), ("done", y), ("fires", .int 0)] : List (Str × D)) = ([("clays", c), ("glazes", g), ("kiln", kl), ("today", .int 0), ("pots", x), ("done", y), ("fires", .int 0), ("busy", .bl false)] : List (Str × D)) := fun _ _ => rfl
      simp [b_House___init__, qG, qK, st, p1, p2, p3, p4, p5, p6, p7, p8, hsF]
theorem house_day (c g kl : D) (h0 r : HpI) : run pg wf (n + 1) 33 [.loc h0.length] (h0 ++ .ins 0 (hsF c g kl h0.length) :: r) = .ok (.int 0) (h0 ++ .ins 0 (hsF c g kl h0.length) :: r) := by
  rw [r_House_day]
  have e : fldD 0 "today" (.loc h0.length) (h0 ++ .ins 0 (hsF c g kl h0.length) :: r) = some (.int 0) := by
    rw [fldD_at (fs := hsF c g kl h0.length) (by simp), hs_today]
  simp [b_House_day, e]
def houseD (c g kl p : D) : D := if (dueH c g kl).isSome then dueD c g kl p else .int 0
theorem K3 (c g kl p : D) {k : Nat} (hk : k < 50) (hc : wfD c k = true) (hg : wfD g k = true) (hkl : wfD kl k = true) (a0 a1 a2 a3 a4 a5 a6 a8 a9 a10 a11 a12 a13 a14 a15 a16 a17 a18 : Option D) (L : Nat) (hp : HpI) (hL : hp[L]? = some (.lst [c, g, kl, p])) :
    ∃ junk, ev (run pg wf (n + 9)) (.kind 42 (.lam 3)) [a0, a1, a2, a3, a4, a5, a6, some (.loc L), a8, a9, a10, a11, a12, a13, a14, a15, a16, a17, a18] hp = .ok (houseD c g kl p) (hp ++ junk) := by
  have hi := house_init (wf := wf) (n := n + 1) c g kl hk hc hg hkl hp
  have i0 : sem2 .ix (.loc L) (.int 0) hp = some (c, hp) := by rw [ix_loc, hL]; rfl
  have i1 : sem2 .ix (.loc L) (.int 1) hp = some (g, hp) := by rw [ix_loc, hL]; rfl
  have i2 : sem2 .ix (.loc L) (.int 2) hp = some (kl, hp) := by rw [ix_loc, hL]; rfl
  rw [ev_kind]
  show ∃ junk, kindO (run pg wf (n + 8 + 1) 45 ([a0, a1, a2, a3, a4, a5, a6, some (.loc L), a8, a9, a10, a11, a12, a13, a14, a15, a16, a17, a18].map encD) hp) = _
  rw [rl_3]
  cases e : dueH c g kl with
  | some x =>
    rw [e] at hi
    refine ⟨[.ins 0 []], ?_⟩
    have hx : dueX c g kl p = some x := by
      unfold dueH at e
      unfold dueX
      cases e2 : goodsV c g with
      | some q => obtain ⟨a, b⟩ := q; rw [e2] at e; exact e
      | none =>
        rw [e2] at e
        simp only at e ⊢
        by_cases hk : kilnB kl = false
        · rw [if_pos hk] at e ⊢; exact e
        · rw [if_neg hk] at e; cases e
    simp [-ix_loc, l_3, i0, i1, i2, hi]
    rw [kindO_exc (kind_due hx)]
    simp [houseD, e]
  | none =>
    rw [e] at hi
    refine ⟨[.ins 0 (hsF c g kl hp.length), .lst [], .lst []], ?_⟩
    have hins : insD 0 "day" (.loc hp.length) (hp ++ [.ins 0 (hsF c g kl hp.length), .lst [], .lst []]) = true := insD_at (fs := hsF c g kl hp.length) (by simp) (hs_day ..)
    have hd := house_day (wf := wf) (n := n + 7) c g kl hp [.lst [], .lst []]
    simp [-ix_loc, l_3, i0, i1, i2, hi, hins, hd, kindO, houseD, e]
end
end K01

namespace K01
open PySem KI
def fourD (c g kl p : D) : List D := if (dueX c g kl p).isSome then [dueD c g kl p, dueD c g kl p, dueD c g kl p, dueD c g kl p] else [.str "BadCount", .str "pot", .str "BadCount", .str "BadCount"]
section
variable {wf n : Nat}
theorem kinds4 (c g kl p : D) {k : Nat} (hk : k < 50) (hc : wfD c k = true) (hg : wfD g k = true) (hkl : wfD kl k = true) (hpp : wfD p k = true) (a0 a1 a2 a3 a4 a5 a6 a7 a8 a9 a10 a16 a17 a18 : Option D) (hp : HpI) :
    ev (run pg wf (n + 12)) (.kinds false 42 (.seq (.var 15)) 18) [a0, a1, a2, a3, a4, a5, a6, a7, a8, a9, a10, some c, some g, some kl, some p, some (.lst [.fn 7, .fn 6, .fn 5, .fn 4]), a16, a17, a18] hp = .ok (.lst (fourD c g kl p)) hp := by
  rw [ev_kinds]
  have e1 : iv (run pg wf (n + 12)) (.seq (.var 15)) [a0, a1, a2, a3, a4, a5, a6, a7, a8, a9, a10, some c, some g, some kl, some p, some (.lst [.fn 7, .fn 6, .fn 5, .fn 4]), a16, a17, a18] hp = .ok ⟨[.fn 7, .fn 6, .fn 5, .fn 4], none⟩ hp := by simp
  rw [e1, Out.bind_ok]
  have kd := kinds_all (cf := run pg wf (n + 12)) (nd := 42) (v := 18) (hp := hp) (env := [a0, a1, a2, a3, a4, a5, a6, a7, a8, a9, a10, some c, some g, some kl, some p, some (.lst [.fn 7, .fn 6, .fn 5, .fn 4]), a16, a17, a18]) (ck := ckOk none) rfl (fun j => if (dueX c g kl p).isSome then dueD c g kl p else if j = 6 then .str "pot" else .str "BadCount") [7, 6, 5, 4] [] ?_
  · show (compL _ _ ([7, 6, 5, 4].map D.fn) hp []).bind _ = _
    rw [kd]
    unfold fourD
    cases (dueX c g kl p).isSome <;> rfl
  · intro j hj
    rw [kindAt_fn (j := j) rfl]
    have r1 := fun hp => PLAN (wf := wf) (n := n + 3) c g kl p hk hc hg hkl hpp hp
    have r2 := fun hp => JUDGED (wf := wf) (n := n + 4) c g kl p hk hc hg hkl hpp hp
    have r3 := fun hp => TOG (wf := wf) (n := n + 3) c g kl p hk hc hg hkl hpp hp
    have r4 := fun hp => APART (wf := wf) (n := n + 2) c g kl p hk hc hg hkl hpp hp
    have hkx : kindD ((dueX c g kl p).getD bcx) = some (if (dueX c g kl p).isSome then dueD c g kl p else .str "BadCount") := by
      cases e : dueX c g kl p with
      | some x => rw [show (some x).getD bcx = x from rfl, kind_due e]; rfl
      | none => rfl
    simp only [List.mem_cons, List.not_mem_nil, or_false] at hj
    rcases hj with rfl | rfl | rfl | rfl
    · show kindO (run pg wf (n + 11 + 1) 49 _ hp) = _
      rw [rl_7]
      simp [l_7, wipeE]
      rw [r1, kindO_exc hkx]
    · show kindO (run pg wf (n + 11 + 1) 48 _ hp) = _
      rw [rl_6]
      simp [l_6, wipeE]
      rw [r2]
      cases e : dueX c g kl p with
      | some x => simp only [Option.isSome_some, if_true]; exact kindO_exc (kind_due e)
      | none => rfl
    · show kindO (run pg wf (n + 11 + 1) 47 _ hp) = _
      rw [rl_5]
      simp [l_5, wipeE]
      rw [r3, kindO_exc hkx]
    · show kindO (run pg wf (n + 11 + 1) 46 _ hp) = _
      rw [rl_4]
      simp [l_4, wipeE]
      rw [r4, kindO_exc hkx]
theorem K2 (c g kl p : D) {k : Nat} (hk : k < 50) (hc : wfD c k = true) (hg : wfD g k = true) (hkl : wfD kl k = true) (hpp : wfD p k = true) {x : Exn} (hx : dueX c g kl p = some x) (a0 a1 a2 a3 a4 a5 a6 a8 a9 a10 a11 a12 a13 a14 a15 a16 a17 a18 : Option D) (L : Nat) (hp : HpI) (hL : hp[L]? = some (.lst [c, g, kl, p])) :
    ev (run pg wf (n + 9)) (.kind 42 (.lam 2)) [a0, a1, a2, a3, a4, a5, a6, some (.loc L), a8, a9, a10, a11, a12, a13, a14, a15, a16, a17, a18] hp = .ok (dueD c g kl p) hp := by
  have r1 := fun hp => LOWEST (wf := wf) (n := n + 1) c g kl p hk hc hg hkl hpp hx hp
  have i0 : sem2 .ix (.loc L) (.int 0) hp = some (c, hp) := by rw [ix_loc, hL]; rfl
  have i1 : sem2 .ix (.loc L) (.int 1) hp = some (g, hp) := by rw [ix_loc, hL]; rfl
  have i2 : sem2 .ix (.loc L) (.int 2) hp = some (kl, hp) := by rw [ix_loc, hL]; rfl
  have i3 : sem2 .ix (.loc L) (.int 3) hp = some (p, hp) := by rw [ix_loc, hL]; rfl
  rw [ev_kind]
  show kindO (run pg wf (n + 8 + 1) 44 ([a0, a1, a2, a3, a4, a5, a6, some (.loc L), a8, a9, a10, a11, a12, a13, a14, a15, a16, a17, a18].map encD) hp) = _
  rw [rl_2]
  simp [-ix_loc, l_2, i0, i1, i2, i3]
  rw [r1]
  exact kindO_exc (kind_due hx)
theorem DUE (c g kl p : D) {k : Nat} (hk : k < 50) (hc : wfD c k = true) (hg : wfD g k = true) (hkl : wfD kl k = true) (hpp : wfD p k = true) (hp : HpI) : framed (run pg wf (n + 3)) (some 0) 30 [c, g, kl, p] hp = .ok (dueD c g kl p) hp := by
  refine framedC (law_due_ok c g kl p hk hc hg hkl hpp) (cl4 hc hg hkl hpp _ rfl) ?_
  unfold dueD
  split
  · rfl
  · split
    · rfl
    · split <;> rfl
end
end K01

namespace K01
open PySem KI
/-- data that may be told, after i changes -/
def W (i : Nat) (d : D) : Prop := wfM (10 + i) d (2 + i) = true
theorem W.up {i j : Nat} {d : D} (h : W i d) (hij : i ≤ j) : W j d := wfM_up (by omega) d _ _ (by omega) h
theorem W.wf {i : Nat} {d : D} (h : W i d) (hi : i ≤ 2) : wfD d 4 = true := wfM_wfD (m := 12) (by omega) d 4 (wfM_up (by omega) d _ _ (by omega) h)
section
variable {wf : Nat} {ns : List Int}
abbrev Env19 := List (Option D)
theorem pots_go (cs gs : List Row) (hc : RowsOk clayOk cs) (hg : RowsOk glazeOk gs) (c0 : cs ≠ []) (g0 : gs ≠ []) : ∀ (m : Nat) (lo : Int) (acc : List D) {o : O} (hr : HpI) (env : EnvI) (h1 : ∀ d, ((wipeE env [9]).set 9 (some d))[1]? = some (some (.loc 0))) (h3 : ∀ d, ((wipeE env [9]).set 9 (some d))[3]? = some (some (.tup (cs.map rowD)))) (h4 : ∀ d, ((wipeE env [9]).set 9 (some d))[4]? = some (some (.tup (gs.map rowD)))), StO ns o → (∀ d ∈ acc, wfM 10 d 1 = true) →
    ∃ (ps : List D) (o' : O), compL (ckOk none) (fun d hp => (asg (run pg wf 20) (.name 9) d (wipeE env [9]) hp).bind fun env2 hp => (evOT (run pg wf 20) .none env2 hp).bind fun b hp => if b = true then (ev (run pg wf 20) (.call (some 1) 23 (.cons (.var 1) (.cons (.var 3) (.cons (.var 4) (.nil))))) env2 hp).bind fun x hp => .ok (some x) hp else .ok none hp) (rngD lo m) (o :: hr) acc = .ok ps (o' :: hr) ∧ ps.length = acc.length + m ∧ (∀ d ∈ ps, wfM 10 d 1 = true) ∧ StO ns o'
  | 0, lo, acc, o, hr, env, _, _, _, hs, ha => ⟨acc, o, by simp [rngD, compL], rfl, ha, hs⟩
  | m + 1, lo, acc, o, hr, env, h1, h3, h4, hs, ha => by
    obtain ⟨p, o1, hp, s1, e1⟩ := pot_ok (wf := wf) (n := 18) cs gs c0 g0 hc.len hg.len hs
    obtain ⟨ps, o2, e2, k1, k2, k3⟩ := pots_go cs gs hc hg c0 g0 m (lo + 1) (acc ++ [potD p]) hr env h1 h3 h4 s1 (fun d hd => by
      rcases List.mem_append.mp hd with hd | hd
      · exact ha d hd
      · cases List.mem_singleton.mp hd
        exact pot_wf hc hg hp)
    refine ⟨ps, o2, ?_, by rw [k1]; simp; omega, k2, k3⟩
    have v1 : ev (run pg wf 20) (.var 1) ((wipeE env [9]).set 9 (some (.int lo))) (o :: hr) = .ok (.loc 0) (o :: hr) := by rw [ev_var, h1]
    have v3 : ev (run pg wf 20) (.var 3) ((wipeE env [9]).set 9 (some (.int lo))) (o :: hr) = .ok (.tup (cs.map rowD)) (o :: hr) := by rw [ev_var, h3]
    have v4 : ev (run pg wf 20) (.var 4) ((wipeE env [9]).set 9 (some (.int lo))) (o :: hr) = .ok (.tup (gs.map rowD)) (o :: hr) := by rw [ev_var, h4]
    rw [rngD, compL]
    simp only [ck_none, if_true, asg_name, Out.bind_ok, evOT_none, ev_call, evs_cons, evs_nil, v1, v3, v4, e1]
    exact e2
theorem pots_ev (cs gs : List Row) (hc : RowsOk clayOk cs) (hg : RowsOk glazeOk gs) (c0 : cs ≠ []) (g0 : gs ≠ []) {o : O} (hs : StO ns o) (hr : HpI) (a0 a2 a5 a6 a7 a8 a9 a10 a11 a12 a13 a14 a15 a16 a17 a18 : Option D) :
    ∃ (ps : List D) (o' : O), W 0 (.tup ps) ∧ StO ns o' ∧ ev (run pg wf 20) (.comp false (.call (some 1) 23 (.cons (.var 1) (.cons (.var 3) (.cons (.var 4) (.nil))))) (.name 9) (.rng1 (.call (some 1) 21 (.cons (.var 1) (.cons (.cst (.int 4)) (.nil))))) .none [9]) [a0, some (.loc 0), a2, some (.tup (cs.map rowD)), some (.tup (gs.map rowD)), a5, a6, a7, a8, a9, a10, a11, a12, a13, a14, a15, a16, a17, a18] (o :: hr) = .ok (.lst ps) (o' :: hr) := by
  obtain ⟨r, o1, e1, u1, v1, s1⟩ := DR (wf := wf) (n := 19) (many := 4) (by omega) (by omega) hs
  obtain ⟨ps, o2, e2, k1, k2, k3⟩ := pots_go (wf := wf) cs gs hc hg c0 g0 r.toNat 0 [] hr [a0, some (.loc 0), a2, some (.tup (cs.map rowD)), some (.tup (gs.map rowD)), a5, a6, a7, a8, a9, a10, a11, a12, a13, a14, a15, a16, a17, a18] (fun d => rfl) (fun d => rfl) (fun d => rfl) s1 (fun d hd => by cases hd)
  refine ⟨ps, o2, wfM_mk (by rw [k1]; simp; omega) k2, k3, ?_⟩
  rw [ev_comp]
  have e3 : iv (run pg wf 20) (.rng1 (.call (some 1) 21 (.cons (.var 1) (.cons (.cst (.int 4)) (.nil))))) [a0, some (.loc 0), a2, some (.tup (cs.map rowD)), some (.tup (gs.map rowD)), a5, a6, a7, a8, a9, a10, a11, a12, a13, a14, a15, a16, a17, a18] (o :: hr) = .ok ⟨rngD 0 r.toNat, none⟩ (o1 :: hr) := by
    simp [e1, rng_int (show (0 : Int) ≤ r by omega) (show r ≤ 1000000 by omega)]
  rw [e3, Out.bind_ok]
  show (compL (ckOk none) _ (rngD 0 r.toNat) (o1 :: hr) []).bind _ = _
  rw [e2]
  rfl
end
end K01

namespace K01
open PySem KI
def ch (i : Nat) : Str := ⟨#[97 + i]⟩
def rowX (s : Str) : D := .tup [.str s, .int 9, .int 5, .int 5]
def potX : D := .tup [.str "a", .int 1, .int 1, .int 1, .str "raw", .str ""]
theorem rowX_wf (i : Nat) (h : i < 7) : wfM 10 (rowX (ch i)) 1 = true := by
  have : i = 0 ∨ i = 1 ∨ i = 2 ∨ i = 3 ∨ i = 4 ∨ i = 5 ∨ i = 6 := by omega
  rcases this with rfl | rfl | rfl | rfl | rfl | rfl | rfl <;> decide +kernel
theorem potX_wf : wfM 10 potX 1 = true := by decide +kernel
theorem ix7 (i : Nat) (h : i < 7) (hp : HpI) : sem2 .ix (.str "abcdefg") (.int (i : Nat)) hp = some (.str (ch i), hp) := by
  rw [s2_ixX _ (sz (by decide))]
  have : i = 0 ∨ i = 1 ∨ i = 2 ∨ i = 3 ∨ i = 4 ∨ i = 5 ∨ i = 6 := by omega
  rcases this with rfl | rfl | rfl | rfl | rfl | rfl | rfl <;> rfl
theorem ix4 (i : Nat) (h : i < 4) (hp : HpI) : sem2 .ix (.str "abcd") (.int (i : Nat)) hp = some (.str (ch i), hp) := by
  rw [s2_ixX _ (sz (by decide))]
  have : i = 0 ∨ i = 1 ∨ i = 2 ∨ i = 3 := by omega
  rcases this with rfl | rfl | rfl | rfl <;> rfl
theorem mulX (k : Int) (h0 : 7 ≤ k) (h1 : k ≤ 9) (hp : HpI) : sem2 (.mul false) (.tup [potX]) (.int k) hp = some (.tup (List.replicate k.toNat [potX]).flatten, hp) := by
  show (if [potX].isEmpty = false ∧ (0 : Int) ≤ k ∧ k ≤ 1000 ∧ [potX].length ≤ 1000 ∧ [potX].length * k.toNat ≤ sizeLine then some (D.tup (List.replicate k.toNat [potX]).flatten, hp) else none) = _
  rw [if_pos ⟨rfl, by omega, by omega, by simp, sz (by simp; omega)⟩]
theorem mulX_W (k : Int) (h0 : 7 ≤ k) (h1 : k ≤ 9) : W 0 (.tup (List.replicate k.toNat [potX]).flatten) := by
  refine wfM_mk (by simp; omega) fun d hd => ?_
  obtain ⟨l, hl, hd⟩ := List.mem_flatten.mp hd
  rw [(List.mem_replicate.mp hl).2] at hd
  cases List.mem_singleton.mp hd
  exact potX_wf
section
variable {wf : Nat} {ns : List Int}
def spB : S := match b_law with
  | .cons _ (.cons (.for_ _ _ (.cons _ (.cons _ (.cons s _)))) _) => s
  | _ => .pass
theorem special (c p : D) (hc : W 0 c) (hp0 : W 0 p) {o : O} (hs : StO ns o) (hr : HpI) (a0 a2 a4 a5 a7 a8 a9 a10 a11 a12 a13 a14 a15 a16 a17 a18 : Option D) :
    ∃ (c' p' : D) (o' : O) (hr' : HpI), W 0 c' ∧ W 0 p' ∧ StO ns o' ∧ ex (run pg wf 20) wf spB [a0, some (.loc 0), a2, some c, a4, a5, some p, a7, a8, a9, a10, a11, a12, a13, a14, a15, a16, a17, a18] (o :: hr) = .nx [a0, some (.loc 0), a2, some c', a4, a5, some p', a7, a8, a9, a10, a11, a12, a13, a14, a15, a16, a17, a18] (o' :: hr') := by
  obtain ⟨r0, o1, e1, u1, v1, s1⟩ := DR (wf := wf) (n := 19) (many := 5) (by omega) (by omega) hs
  by_cases c0 : r0 = 0
  · obtain ⟨r, o2, e2, u2, v2, s2⟩ := DR (wf := wf) (n := 19) (many := 3) (by omega) (by omega) s1
    obtain ⟨q, rfl⟩ := Int.eq_ofNat_of_zero_le u2
    have hcp : ∀ (b3 b6 : Option D), ev (run pg wf 20) (.comp true (.tup (.cons (.op2 .ix (.cst (.str "abcdefg")) (.var 9)) (.cons (.cst (.int 9)) (.cons (.cst (.int 5)) (.cons (.cst (.int 5)) (.nil)))))) (.name 9) (.rng1 (.op2 (.add false) (.cst (.int 5)) (.call (some 1) 21 (.cons (.var 1) (.cons (.cst (.int 3)) (.nil)))))) .none [9]) [a0, some (.loc 0), a2, b3, a4, a5, b6, a7, a8, a9, a10, a11, a12, a13, a14, a15, a16, a17, a18] (o1 :: hr) = .ok (.loc (hr.length + 1)) (o2 :: (hr ++ [.lst ((List.range (5 + q)).map fun i => rowX (ch i))])) := by
      intro b3 b6
      rw [ev_comp]
      have e3 : iv (run pg wf 20) (.rng1 (.op2 (.add false) (.cst (.int 5)) (.call (some 1) 21 (.cons (.var 1) (.cons (.cst (.int 3)) (.nil)))))) [a0, some (.loc 0), a2, b3, a4, a5, b6, a7, a8, a9, a10, a11, a12, a13, a14, a15, a16, a17, a18] (o1 :: hr) = .ok ⟨(List.range (5 + q)).map fun i => D.int (i : Nat), none⟩ (o2 :: hr) := by
        have := rngD_map (5 + q) 0
        simp only [Int.zero_add] at this
        rw [← this]
        have h5 : ((5 : Int) + (q : Int)).toNat = 5 + q := by omega
        simp [e2, rng_int (show (0 : Int) ≤ 5 + (q : Int) by omega) (show 5 + (q : Int) ≤ 1000000 by omega), h5]
      rw [e3, Out.bind_ok, compL_map (fun i => D.int (i : Nat)) (fun i => rowX (ch i)) rfl]
      · simp [mkL]
      · intro i hi
        have hi := List.mem_range.mp hi
        have := fun hp => ix7 i (by omega) hp
        simp [wipeE, this, sz, rowX]
    generalize hds : (List.range (5 + q)).map (fun i => rowX (ch i)) = ds at *
    have hdl : ds.length = 5 + q := by rw [← hds]; simp
    have hdw : ∀ d ∈ ds, wfM 10 d 1 = true := by
      rw [← hds]
      intro d hd
      obtain ⟨i, hi, rfl⟩ := List.mem_map.mp hd
      have := List.mem_range.mp hi
      exact rowX_wf i (by omega)
    obtain ⟨r3, o3, e3, u3, v3, s3⟩ := DR (wf := wf) (n := 19) (many := 3) (by omega) (by omega) s2
    have tup : ∀ (o : O) (L : List D), semB .tuple [.loc (hr.length + 1)] (o :: (hr ++ [.lst L])) = some (.tup L, o :: (hr ++ [.lst L])) := fun o L => by
      have e : (o :: (hr ++ [O.lst L]))[hr.length + 1]? = some (.lst L) := by simp
      simp [semB, seqOf, lstOf, lst0, e]
    have eX : D.tup [.str "a", .int 1, .int 1, .int 1, .str "raw", .str ""] = potX := rfl
    by_cases c3 : r3 = 0
    · obtain ⟨r4, o4, e4, u4, v4, s4⟩ := DR (wf := wf) (n := 19) (many := 4) (by omega) (by omega) s3
      obtain ⟨r5, o5, e5, u5, v5, s5⟩ := DR (wf := wf) (n := 19) (many := 3) (by omega) (by omega) s4
      obtain ⟨w, rfl⟩ := Int.eq_ofNat_of_zero_le u4
      have i4 := fun hp => ix4 w (by omega) hp
      have hlen : ∀ o : O, semB .len [.loc (hr.length + 1)] (o :: (hr ++ [.lst ds])) = some (.int ds.length, o :: (hr ++ [.lst ds])) := fun o => by
        have e : (o :: (hr ++ [O.lst ds]))[hr.length + 1]? = some (.lst ds) := by simp
        simp [semB, seqOf, lstOf, lst0, e]
      have hset : ∀ (o : O) (x : D), setIx (.loc (hr.length + 1)) (.int ((ds.length : Int) - 1)) x (o :: (hr ++ [.lst ds])) = some (o :: (hr ++ [.lst (ds.set (ds.length - 1) x)])) := fun o x => by
        have e : (o :: (hr ++ [O.lst ds]))[hr.length + 1]? = some (.lst ds) := by simp
        have hi : L2.ixN ds.length ((ds.length : Int) - 1) = some (ds.length - 1) := by
          unfold L2.ixN
          rw [if_pos (by omega), if_pos (by omega)]
          congr 1
          omega
        rw [setIx_loc, e]
        simp only [hi]
        simp
      refine ⟨.tup (ds.set (ds.length - 1) (rowX (ch w))), _, o5, hr ++ [.lst (ds.set (ds.length - 1) (rowX (ch w)))], ?_, mulX_W (7 + r5) (by omega) (by omega), s5, ?_⟩
      · refine wfM_mk (by rw [List.length_set]; omega) fun d hd => ?_
        rcases List.mem_or_eq_of_mem_set hd with hd | hd
        · exact hdw d hd
        · rw [hd]; exact rowX_wf w (by omega)
      · have m := fun hp => mulX (7 + r5) (by omega) (by omega) hp
        have eR : D.tup [.str (ch w), .int 9, .int 5, .int 5] = rowX (ch w) := rfl
        have hset' := fun o => hset o (rowX (ch w))
        generalize ds.set (ds.length - 1) (rowX (ch w)) = ds2 at *
        simp [-ev_comp, -setIx_loc, spB, b_law, e1, c0, hcp, e3, c3, e4, i4, eR, hlen, hset', tup, sz, eX, e5, m]
    · obtain ⟨r5, o5, e5, u5, v5, s5⟩ := DR (wf := wf) (n := 19) (many := 3) (by omega) (by omega) s3
      refine ⟨.tup ds, _, o5, hr ++ [.lst ds], wfM_mk (by omega) hdw, mulX_W (7 + r5) (by omega) (by omega), s5, ?_⟩
      have m := fun hp => mulX (7 + r5) (by omega) (by omega) hp
      simp [-ev_comp, spB, b_law, e1, c0, hcp, e3, c3, tup, sz, eX, e5, m]
  · exact ⟨c, p, o1, hr, hc, hp0, s1, by simp [-ev_comp, spB, b_law, e1, c0]⟩
end
end K01

namespace K01
open PySem KI
section
variable {wf : Nat} {ns : List Int}
def kbB : S := match b_law with
  | .cons _ (.cons (.for_ _ _ (.cons _ (.cons _ (.cons _ (.cons s _))))) _) => s
  | _ => .pass
theorem kiln_if (kl : D) (hk : W 0 kl) {o : O} (hs : StO ns o) (hr : HpI) (a0 a2 a3 a4 a6 a7 a8 a9 a10 a11 a12 a13 a14 a15 a16 a17 a18 : Option D) :
    ∃ (kl' : D) (o' : O), W 0 kl' ∧ StO ns o' ∧ ex (run pg wf 20) wf kbB [a0, some (.loc 0), a2, a3, a4, some kl, a6, a7, a8, a9, a10, a11, a12, a13, a14, a15, a16, a17, a18] (o :: hr) = .nx [a0, some (.loc 0), a2, a3, a4, some kl', a6, a7, a8, a9, a10, a11, a12, a13, a14, a15, a16, a17, a18] (o' :: hr) := by
  obtain ⟨r0, o1, e1, u1, v1, s1⟩ := DR (wf := wf) (n := 19) (many := 5) (by omega) (by omega) hs
  by_cases c0 : r0 = 0
  · obtain ⟨r2, o2, e2, u2, v2, s2⟩ := DR (wf := wf) (n := 19) (many := 2) (by omega) (by omega) s1
    obtain ⟨r3, o3, e3, u3, v3, s3⟩ := DR (wf := wf) (n := 19) (many := 2) (by omega) (by omega) s2
    obtain ⟨r4, o4, e4, u4, v4, s4⟩ := DR (wf := wf) (n := 19) (many := 2) (by omega) (by omega) s3
    exact ⟨.tup [.int (40 + r2), .int (60 - r3), .int 6, .int (30 + r4)], o4, rfl, s4, by simp [kbB, b_law, e1, c0, e2, e3, e4, sz]⟩
  · exact ⟨kl, o1, hk, s1, by simp [kbB, b_law, e1, c0]⟩
/-- one change among the four -/
theorem change (i : Nat) (hi : i ≤ 1) (c g kl p : D) (hc : W i c) (hg : W i g) (hk : W i kl) (hp : W i p) (j : Int) (j0 : 0 ≤ j) (j4 : j < 4) {o : O} (hs : StO ns o) (hr : HpI) :
    ∃ (d r c' g' kl' p' : D) (o' : O), W (i + 1) c' ∧ W (i + 1) g' ∧ W (i + 1) kl' ∧ W (i + 1) p' ∧ StO ns o' ∧
      (∀ o : O, sem2 .ix (.loc (hr.length + 1)) (.int j) (o :: (hr ++ [.lst [c, g, kl, p]])) = some (d, o :: (hr ++ [.lst [c, g, kl, p]]))) ∧
      (∀ rest, framed (run pg wf 20) (some 1) 31 [.loc 0, d] (o :: rest) = .ok r (o' :: rest)) ∧
      (∀ o : O, setIx (.loc (hr.length + 1)) (.int j) r (o :: (hr ++ [.lst [c, g, kl, p]])) = some (o :: (hr ++ [.lst [c', g', kl', p']]))) := by
  have key : ∀ d, W i d → ∃ r o', W (i + 1) r ∧ StO ns o' ∧ ∀ rest, framed (run pg wf 20) (some 1) 31 [.loc 0, d] (o :: rest) = .ok r (o' :: rest) := fun d hd => by
    obtain ⟨r, o', h1, h2, h3⟩ := OTHER (wf := wf) (ns := ns) (n := 16 - i) (2 + i) (10 + i) d (by omega) (by omega) (by omega) hd hs
    have e : 16 - i + (2 + i) + 2 = 20 := by omega
    rw [e] at h3
    exact ⟨r, o', h1, h2, h3⟩
  have hg1 : ∀ (o : O) (L : List D), (o :: (hr ++ [O.lst L]))[hr.length + 1]? = some (.lst L) := fun o L => by simp
  have : j = 0 ∨ j = 1 ∨ j = 2 ∨ j = 3 := by omega
  rcases this with rfl | rfl | rfl | rfl
  · obtain ⟨r, o', h1, h2, h3⟩ := key c hc
    exact ⟨c, r, r, g, kl, p, o', h1, hg.up (by omega), hk.up (by omega), hp.up (by omega), h2, fun o => by rw [ix_loc, hg1]; rfl, h3, fun o => by rw [setIx_loc, hg1]; simp [L2.ixN]⟩
  · obtain ⟨r, o', h1, h2, h3⟩ := key g hg
    exact ⟨g, r, c, r, kl, p, o', hc.up (by omega), h1, hk.up (by omega), hp.up (by omega), h2, fun o => by rw [ix_loc, hg1]; rfl, h3, fun o => by rw [setIx_loc, hg1]; simp [L2.ixN]⟩
  · obtain ⟨r, o', h1, h2, h3⟩ := key kl hk
    exact ⟨kl, r, c, g, r, p, o', hc.up (by omega), hg.up (by omega), h1, hp.up (by omega), h2, fun o => by rw [ix_loc, hg1]; rfl, h3, fun o => by rw [setIx_loc, hg1]; simp [L2.ixN]⟩
  · obtain ⟨r, o', h1, h2, h3⟩ := key p hp
    exact ⟨p, r, c, g, kl, r, o', hc.up (by omega), hg.up (by omega), hk.up (by omega), h1, h2, fun o => by rw [ix_loc, hg1]; rfl, h3, fun o => by rw [setIx_loc, hg1]; simp [L2.ixN]⟩
end
end K01

namespace K01
open PySem KI
theorem okd_due (c g kl p : D) : okd (dueD c g kl p) 50 = true := by
  unfold dueD
  split
  · simp; decide +kernel
  · split
    · decide +kernel
    · split
      · simp; decide +kernel
      · rfl
theorem ne_self (d : D) (h : okd d 60 = true) (hp : HpI) : sem2 .ne d d hp = some (.bl false, hp) := by
  rw [s2_ne_ok h h, eqd_self _ h]
  rfl
theorem okd_four (c g kl p : D) : okd (.lst (fourD c g kl p)) 60 = true := by
  have h : okd (dueD c g kl p) 59 = true := okd_up _ (okd_due c g kl p) (by omega)
  unfold fourD
  split
  · simp [h]
  · decide +kernel
theorem due_shape (c g kl p : D) : (∃ x pt k, dueX c g kl p = some x ∧ dueD c g kl p = .tup [.str "BadGoods", .int pt, .int k] ∧ houseD c g kl p = .tup [.str "BadGoods", .int pt, .int k]) ∨ (∃ x, dueX c g kl p = some x ∧ dueD c g kl p = .str "BadKiln" ∧ houseD c g kl p = .str "BadKiln") ∨ (∃ x k, dueX c g kl p = some x ∧ dueD c g kl p = .tup [.str "BadPots", .int k] ∧ houseD c g kl p = .int 0) ∨ (dueX c g kl p = none ∧ dueD c g kl p = .non ∧ houseD c g kl p = .int 0) := by
  unfold houseD dueH dueX dueD
  cases goodsV c g with
  | some q => obtain ⟨a, b⟩ := q; exact .inl ⟨_, _, _, rfl, rfl, rfl⟩
  | none =>
    cases kilnB kl with
    | false => exact .inr (.inl ⟨_, rfl, rfl, rfl⟩)
    | true =>
      cases potsV (nmD c) (nmD g) p with
      | some k => exact .inr (.inr (.inl ⟨_, _, rfl, rfl, rfl⟩))
      | none => exact .inr (.inr (.inr ⟨rfl, rfl, rfl⟩))
theorem mul4 (d : D) (hp : HpI) : sem2 (.mul false) (.lst [d]) (.int 4) hp = some (.lst [d, d, d, d], hp) := by
  have z : 1 * (4 : Int).toNat ≤ sizeLine := sz (by decide)
  show (if -(2 ^ 63) ≤ (4 : Int) ∧ (4 : Int) < 2 ^ 63 ∧ 1 * (4 : Int).toNat ≤ sizeLine then some (mkL false (List.replicate (4 : Int).toNat [d]).flatten hp) else none) = _
  rw [if_pos ⟨by decide, by decide, z⟩]
  rfl
theorem ixK (hp : HpI) : sem2 .ix (.str "BadKiln") (.int 0) hp = some (.str ⟨#[66]⟩, hp) := by
  rw [s2_ixX _ (sz (by decide))]
  rfl
theorem neG1 : ¬ (("BadGoods" : Str) = "BadPots") := by decide +kernel
theorem neK1 : ¬ ((⟨#[66]⟩ : Str) = "BadPots") := by decide +kernel
section
variable {wf : Nat} {ns : List Int}
theorem law_run (hf : 2 ^ 200 ≤ wf) : Sat (outOf (exs (run pg wf 20) wf b_law (some (.sq (ns.map D.int)) :: List.replicate 18 none) [])) (fun _ _ => False) fun d _ => d = .bl true := by
  obtain ⟨o0, e0, s0⟩ := start_ok (pg := pg) (wf := wf) (n := 19) (f := 20) (x := "_law_start") (dfl := []) rfl ns
  have e0' : framed (run pg wf 20) none 20 [.sq (ns.map D.int)] [] = .ok (.loc 0) [o0] := e0
  simp [-ev_comp, -ev_ife, -ex_ife, b_law, e0', rng_int (show (0 : Int) ≤ 6 by omega) (show (6 : Int) ≤ 1000000 by omega)]
  obtain ⟨I, hI⟩ : ∃ I : List D → EnvI → HpI → Prop, ∀ ds env h, I ds env h ↔ ∃ (rest : EnvI) (o : O) (hr : HpI), rest.length = 17 ∧ env = some (.sq (ns.map D.int)) :: some (.loc 0) :: rest ∧ h = o :: hr ∧ StO ns o := ⟨_, fun _ _ _ => Iff.rfl⟩
  refine ssat_for I _ _ _ ((hI _ _ _).mpr ⟨List.replicate 17 none, o0, [], rfl, rfl, rfl, s0⟩) ?_ ?_
  · intro dd ds env hh hinv
    obtain ⟨rest, o, hr, hrl, rfl, rfl, hs⟩ := (hI _ _ _).mp hinv
    rcases rest with _ | ⟨a2, _ | ⟨a3, _ | ⟨a4, _ | ⟨a5, _ | ⟨a6, _ | ⟨a7, _ | ⟨a8, _ | ⟨a9, _ | ⟨a10, _ | ⟨a11, _ | ⟨a12, _ | ⟨a13, _ | ⟨a14, _ | ⟨a15, _ | ⟨a16, _ | ⟨a17, _ | ⟨a18, _ | ⟨_, _⟩⟩⟩⟩⟩⟩⟩⟩⟩⟩⟩⟩⟩⟩⟩⟩⟩⟩ <;> simp at hrl
    obtain ⟨cs, gs, o1, hC, hG, n1, m1, _, _, s1, e1⟩ := goods_ok (wf := wf) (n := 18) hs
    obtain ⟨kl, o2, hkl, s2, e2⟩ := kiln_ok (wf := wf) (n := 18) s1
    have hkl : W 0 kl := wfM_up (by omega) kl 1 2 (by omega) hkl
    obtain ⟨ps, o3, hps, s3, e3⟩ := pots_ev (wf := wf) cs gs hC hG n1 m1 s2 hr (some (.sq (ns.map D.int))) (some dd) a5 a6 a7 a8 a9 a10 a11 a12 a13 a14 a15 a16 a17 a18
    have hcs : W 0 (.tup (cs.map rowD)) := rows_wf hC fun r h => by rw [clay_len h]; omega
    have hgs : W 0 (.tup (gs.map rowD)) := rows_wf hG fun r h => by rw [glaze_len h]; omega
    obtain ⟨c, p, o4, hr4, hc, hp, s4, e4⟩ := special (wf := wf) _ _ hcs hps s3 hr (some (.sq (ns.map D.int))) (some dd) (some (.tup (gs.map rowD))) (some kl) a7 a8 a9 a10 a11 a12 a13 a14 a15 a16 a17 a18
    obtain ⟨kl5, o5, hk5, s5, e5⟩ := kiln_if (wf := wf) kl hkl s4 hr4 (some (.sq (ns.map D.int))) (some dd) (some c) (some (.tup (gs.map rowD))) (some p) a7 a8 a9 a10 a11 a12 a13 a14 a15 a16 a17 a18
    obtain ⟨q, o6, e6, u6, v6, s6⟩ := DR (wf := wf) (n := 19) (many := 3) (by omega) (by omega) s5
    simp only [spB, b_law] at e4
    simp only [kbB, b_law] at e5
    generalize D.tup (gs.map rowD) = g at *
    generalize D.tup (cs.map rowD) = c00 at *
    simp [-ev_comp, -ev_ife, -ex_ife, e1, e2, e3, e4, e5, e6, sz, rng_int (show (0 : Int) ≤ q by omega) (show q ≤ 1000000 by omega)]
    obtain ⟨J, hJ⟩ : ∃ J : List D → EnvI → HpI → Prop, ∀ ds env h, J ds env h ↔ ∃ (i : Nat) (c g kl p : D) (o : O) (x8 x9 : Option D), i + ds.length ≤ 2 ∧ W i c ∧ W i g ∧ W i kl ∧ W i p ∧ StO ns o ∧ (∃ b3 b4 b5 b6, env = [some (.sq (ns.map D.int)), some (.loc 0), some dd, b3, b4, b5, b6, some (.loc (hr4.length + 1)), x8, x9, a10, a11, a12, a13, a14, a15, a16, a17, a18]) ∧ h = o :: (hr4 ++ [.lst [c, g, kl, p]]) := ⟨_, fun _ _ _ => Iff.rfl⟩
    refine ssat_for J _ _ _ ((hJ _ _ _).mpr ⟨0, c, g, kl5, p, o6, a8, a9, ?_, hc, hgs, hk5, hp, s6, ⟨_, _, _, _, rfl⟩, rfl⟩) ?_ ?_
    · have : ∀ (n : Nat) (i : Int), (rngD i n).length = n := fun n => by
        induction n with
        | zero => exact fun _ => rfl
        | succ n ih => exact fun i => by rw [rngD, List.length_cons, ih]
      rw [this]
      omega
    · intro d2 ds2 env hh hinv
      obtain ⟨i, c, g, kl, p, o, x8, x9, hi, hc, hg, hk, hp, hs, ⟨b3, b4, b5, b6, rfl⟩, rfl⟩ := (hJ _ _ _).mp hinv
      simp only [List.length_cons] at hi
      obtain ⟨j, o7, e7, u7, v7, s7⟩ := DR (wf := wf) (n := 19) (many := 4) (by omega) (by omega) hs
      obtain ⟨d, r, c', g', kl', p', o8, h1, h2, h3, h4, s8, q1, q2, q3⟩ := change (wf := wf) i (by omega) c g kl p hc hg hk hp j u7 v7 s7 hr4
      simp [-ix_loc, -setIx_loc, e7, q1, q2, q3]
      rw [hJ]
      exact ⟨i + 1, c', g', kl', p', o8, _, _, by omega, h1, h2, h3, h4, s8, ⟨_, _, _, _, rfl⟩, rfl⟩
    · intro env hh hinv
      obtain ⟨i, c, g, kl, p, o, x8, x9, hi, hc, hg, hk, hp, hs, ⟨b3, b4, b5, b6, rfl⟩, rfl⟩ := (hJ _ _ _).mp hinv
      have hi2 : i ≤ 2 := by simp at hi; omega
      have wc := hc.wf hi2
      have wg := hg.wf hi2
      have wk := hk.wf hi2
      have wp := hp.wf hi2
      have hL : (o :: (hr4 ++ [O.lst [c, g, kl, p]]))[hr4.length + 1]? = some (.lst [c, g, kl, p]) := by simp
      have i0 : sem2 .ix (.loc (hr4.length + 1)) (.int 0) (o :: (hr4 ++ [O.lst [c, g, kl, p]])) = some (c, o :: (hr4 ++ [O.lst [c, g, kl, p]])) := by rw [ix_loc, hL]; rfl
      have i1 : sem2 .ix (.loc (hr4.length + 1)) (.int 1) (o :: (hr4 ++ [O.lst [c, g, kl, p]])) = some (g, o :: (hr4 ++ [O.lst [c, g, kl, p]])) := by rw [ix_loc, hL]; rfl
      have i2 : sem2 .ix (.loc (hr4.length + 1)) (.int 2) (o :: (hr4 ++ [O.lst [c, g, kl, p]])) = some (kl, o :: (hr4 ++ [O.lst [c, g, kl, p]])) := by rw [ix_loc, hL]; rfl
      have i3 : sem2 .ix (.loc (hr4.length + 1)) (.int 3) (o :: (hr4 ++ [O.lst [c, g, kl, p]])) = some (p, o :: (hr4 ++ [O.lst [c, g, kl, p]])) := by rw [ix_loc, hL]; rfl
      have sq : seqOf (o :: (hr4 ++ [O.lst [c, g, kl, p]])) (.loc (hr4.length + 1)) = some [c, g, kl, p] := by simp only [seqOf, lstOf, lst0, hL]
      have hD := fun hp => DUE (wf := wf) (n := 17) c g kl p (by omega) wc wg wk wp hp
      have hK := kinds4 (wf := wf) (n := 8) c g kl p (by omega) wc wg wk wp
      have hK3 := fun a0 a1 a2 a3 a4 a5 a6 a8 a9 a10 a11 a12 a13 a14 a15 a16 a17 a18 => K3 (wf := wf) (n := 11) c g kl p (k := 4) (by omega) wc wg wk a0 a1 a2 a3 a4 a5 a6 a8 a9 a10 a11 a12 a13 a14 a15 a16 a17 a18 _ _ hL
      have n4 := fun hp => ne_self _ (okd_four c g kl p) hp
      simp [-ix_loc, -ev_ife, -ex_ife, i0, i1, i2, i3, hD, sq, sz, hK]
      obtain ⟨junk, ek⟩ := hK3 (some (.sq (ns.map D.int))) (some (.loc 0)) (some dd) b3 b4 b5 b6 x8 x9 (some (dueD c g kl p)) (some c) (some g) (some kl) (some p) (some (.lst [.fn 7, .fn 6, .fn 5, .fn 4])) (some (.lst (fourD c g kl p))) a17 a18
      have hL2 : ((o :: (hr4 ++ [O.lst [c, g, kl, p]])) ++ junk)[hr4.length + 1]? = some (.lst [c, g, kl, p]) := by simp
      have hK2 := fun (x : Exn) (hx : dueX c g kl p = some x) => K2 (wf := wf) (n := 11) c g kl p (k := 4) (by omega) wc wg wk wp hx (some (.sq (ns.map D.int))) (some (.loc 0)) (some dd) b3 b4 b5 b6 x8 x9 (some (dueD c g kl p)) (some c) (some g) (some kl) (some p) (some (.lst [.fn 7, .fn 6, .fn 5, .fn 4])) (some (.lst (fourD c g kl p))) (some (houseD c g kl p)) a18 _ _ hL2
      have nd := fun hp => ne_self _ (okd_up _ (okd_due c g kl p) (by omega : 50 ≤ 60)) hp
      have fin : ∀ a b : Option D, I ds [some (.sq (ns.map D.int)), some (.loc 0), some dd, b3, b4, b5, b6, some (.loc (hr4.length + 1)), x8, x9, some (dueD c g kl p), some c, some g, some kl, some p, some (.lst [.fn 7, .fn 6, .fn 5, .fn 4]), some (.lst (fourD c g kl p)), a, b] ((o :: (hr4 ++ [O.lst [c, g, kl, p]])) ++ junk) := fun a b => (hI _ _ _).mpr ⟨_, o, _, rfl, rfl, rfl, hs⟩
      rcases due_shape c g kl p with ⟨x, pt, k, hx, hd, hh⟩ | ⟨x, hx, hd, hh⟩ | ⟨x, k, hx, hd, hh⟩ | ⟨hx, hd, hh⟩
      · have hf4 : fourD c g kl p = [dueD c g kl p, dueD c g kl p, dueD c g kl p, dueD c g kl p] := by unfold fourD; rw [hx]; rfl
        have hk2 := hK2 x hx
        rw [hf4] at n4 ek hk2 fin ⊢
        rw [hd, hh] at ek hk2
        rw [hd] at n4 nd fin ⊢
        simp at ek hk2 fin
        simp [mul4, n4, ek, neG1, nd, hk2, fin, sz]
      · have hf4 : fourD c g kl p = [dueD c g kl p, dueD c g kl p, dueD c g kl p, dueD c g kl p] := by unfold fourD; rw [hx]; rfl
        have hk2 := hK2 x hx
        rw [hf4] at n4 ek hk2 fin ⊢
        rw [hd, hh] at ek hk2
        rw [hd] at n4 nd fin ⊢
        simp at ek hk2 fin
        simp [mul4, n4, ek, ixK, neK1, nd, hk2, fin, sz]
      · have hf4 : fourD c g kl p = [dueD c g kl p, dueD c g kl p, dueD c g kl p, dueD c g kl p] := by unfold fourD; rw [hx]; rfl
        have hk2 := hK2 x hx
        rw [hf4] at n4 ek hk2 fin ⊢
        rw [hd, hh] at ek hk2
        rw [hd] at n4 nd fin ⊢
        simp at ek hk2 fin
        simp [mul4, n4, ek, nd, hk2, fin, sz]
      · have hf4 : fourD c g kl p = [.str "BadCount", .str "pot", .str "BadCount", .str "BadCount"] := by unfold fourD; rw [hx]; rfl
        rw [hf4] at n4 ek fin ⊢
        rw [hd, hh] at ek
        rw [hd] at fin ⊢
        simp at ek fin
        simp [sz, n4, ek, fin]
  · intro env hh hinv
    obtain ⟨rest, o, hr, hrl, rfl, rfl, hs⟩ := (hI _ _ _).mp hinv
    simp
end
theorem law_true (ns : List Int) (hl : ns.length ≤ 63) : ∃ hp, outOf (exs (run pg (10 ^ 100) 20) (10 ^ 100) b_law (some (.sq (ns.map D.int)) :: List.replicate (d_law.N.length - 1) none) []) = .ok (.bl true) hp := by
  obtain ⟨d, hp, e, rfl⟩ := ex_of_sat (law_run (wf := 10 ^ 100) (ns := ns) (by decide +kernel))
  exact ⟨hp, e⟩
end K01

namespace K01
open PySem PySem.Spec PyProof.Rows L2 KI
theorem kind_body : KindBody "_law_work" (defBody s__law_kind) :=
  .mk _ _ _ _ _ _ _ _ (.mk _ _ _ _ _ _ _ _ _ _ _ _ _ _ _ _ _ _ _ _ _ _ _ _ _ _ _ _ _ _ _ _ _ _ _ _ _ _ _ _ _ _ _ _ _ _ _ _ _ _ _ _ _ _ _ _ _ _ _ _ _ _ _ _ _ _ _ _ _ _ _ _ _ _ _ _ _ _ _ _ _ _ _ _ _ _ _ _ _ _ _ _ _ _ _ _ _ _ _ _ _ _ _ _ _ _ _ _ _ _ _ _ _ _ _ _ _ _ _ _ _ _ _ _ _ _ _ _ _ _ _ _ _ rfl rfl rfl (by decide +kernel))
theorem all_mk {l : PySem.W.OpenLaw} {w : World} {K : PySem.W.Frag} {h : Heap} {mg : Str → Option Value} {fa : Addr} (X : K.In h) (G : h.Ns mainGlobals mg) (hfa : mg "law" = some (.ref fa)) (hOwn : ∀ nm ∈ (["need_goods", "law"] : List Str), ∀ fb, mg nm = some (.ref fb) → LamX.OwnTab K fb h)
    {CL0 : Addr}
    {f0 : Addr} {oc0 dc0 pm0 ct0 : Value} {od0 an0 : Option Addr} {sl0 : Array (Option Value)}
    {cd0 : Value}
    {kV0 : Value}
    {f1 : Addr} {oc1 dc1 pm1 ct1 : Value} {od1 an1 : Option Addr} {sl1 : Array (Option Value)}
    {cd1 : Value}
    {kV1 : Value}
    {f2 : Addr} {oc2 dc2 pm2 ct2 : Value} {od2 an2 : Option Addr} {sl2 : Array (Option Value)}
    {cd2 : Value}
    {kV2 : Value}
    {f3 : Addr} {oc3 dc3 pm3 ct3 : Value} {od3 an3 : Option Addr} {sl3 : Array (Option Value)}
    {cd3 : Value}
    {kV3 : Value}
    {f4 : Addr} {oc4 dc4 pm4 ct4 : Value} {od4 an4 : Option Addr} {sl4 : Array (Option Value)}
    {cd4 : Value}
    {kV4 : Value}
    {f5 : Addr} {oc5 dc5 pm5 ct5 : Value} {od5 an5 : Option Addr} {sl5 : Array (Option Value)}
    {cd5 : Value}
    {kV5 : Value}
    {f6 : Addr} {oc6 dc6 pm6 ct6 : Value} {od6 an6 : Option Addr} {sl6 : Array (Option Value)}
    {C6 P6 : Addr} {je6 : Value} {jd6 : Option Addr} {jv6 : Array Value} {js6 : Array (Option Value)}
    {kV6 : Value}
    {f7 : Addr} {oc7 dc7 pm7 ct7 : Value} {od7 an7 : Option Addr} {sl7 : Array (Option Value)}
    {cd7 : Value}
    {kV7 : Value}
    {f8 : Addr} {oc8 dc8 pm8 ct8 : Value} {od8 an8 : Option Addr} {sl8 : Array (Option Value)}
    {cd8 : Value}
    {kV8 : Value}
    {f9 : Addr} {oc9 dc9 pm9 ct9 : Value} {od9 an9 : Option Addr} {sl9 : Array (Option Value)}
    {cd9 : Value}
    {kV9 : Value}
    {f10 : Addr} {oc10 dc10 pm10 ct10 : Value} {od10 an10 : Option Addr} {sl10 : Array (Option Value)}
    {cd10 : Value}
    {kV10 : Value}
    {f11 : Addr} {oc11 dc11 pm11 ct11 : Value} {od11 an11 : Option Addr} {sl11 : Array (Option Value)}
    {cd11 : Value}
    {kV11 : Value}
    {f12 : Addr} {oc12 dc12 pm12 ct12 : Value} {od12 an12 : Option Addr} {sl12 : Array (Option Value)}
    {cd12 : Value}
    {kV12 : Value}
    {f13 : Addr} {oc13 dc13 pm13 ct13 : Value} {od13 an13 : Option Addr} {sl13 : Array (Option Value)}
    {cd13 : Value}
    {kV13 : Value}
    {f14 : Addr} {oc14 dc14 pm14 ct14 : Value} {od14 an14 : Option Addr} {sl14 : Array (Option Value)}
    {cd14 : Value}
    {kV14 : Value}
    {f15 : Addr} {oc15 dc15 pm15 ct15 : Value} {od15 an15 : Option Addr} {sl15 : Array (Option Value)}
    {cd15 : Value}
    {kV15 : Value}
    {f16 : Addr} {oc16 dc16 pm16 ct16 : Value} {od16 an16 : Option Addr} {sl16 : Array (Option Value)}
    {cd16 : Value}
    {kV16 : Value}
    {f17 : Addr} {oc17 dc17 pm17 ct17 : Value} {od17 an17 : Option Addr} {sl17 : Array (Option Value)}
    {cd17 : Value}
    {kV17 : Value}
    {f18 : Addr} {oc18 dc18 pm18 ct18 : Value} {od18 an18 : Option Addr} {sl18 : Array (Option Value)}
    {cd18 : Value}
    {kV18 : Value}
    {f19 : Addr} {oc19 dc19 pm19 ct19 : Value} {od19 an19 : Option Addr} {sl19 : Array (Option Value)}
    {cd19 : Value}
    {kV19 : Value}
    {f20 : Addr} {oc20 dc20 pm20 ct20 : Value} {od20 an20 : Option Addr} {sl20 : Array (Option Value)}
    {cd20 : Value}
    {kV20 : Value}
    {f21 : Addr} {oc21 dc21 pm21 ct21 : Value} {od21 an21 : Option Addr} {sl21 : Array (Option Value)}
    {cd21 : Value}
    {kV21 : Value}
    {f22 : Addr} {oc22 dc22 pm22 ct22 : Value} {od22 an22 : Option Addr} {sl22 : Array (Option Value)}
    {cd22 : Value}
    {kV22 : Value}
    {f23 : Addr} {oc23 dc23 pm23 ct23 : Value} {od23 an23 : Option Addr} {sl23 : Array (Option Value)}
    {cd23 : Value}
    {kV23 : Value}
    {f24 : Addr} {oc24 dc24 pm24 ct24 : Value} {od24 an24 : Option Addr} {sl24 : Array (Option Value)}
    {cd24 : Value}
    {kV24 : Value}
    {f25 : Addr} {oc25 dc25 pm25 ct25 : Value} {od25 an25 : Option Addr} {sl25 : Array (Option Value)}
    {cd25 : Value}
    {kV25 : Value}
    {f26 : Addr} {oc26 dc26 pm26 ct26 : Value} {od26 an26 : Option Addr} {sl26 : Array (Option Value)}
    {cd26 : Value}
    {kV26 : Value}
    {f27 : Addr} {oc27 dc27 pm27 ct27 : Value} {od27 an27 : Option Addr} {sl27 : Array (Option Value)}
    {cd27 : Value}
    {kV27 : Value}
    {f28 : Addr} {oc28 dc28 pm28 ct28 : Value} {od28 an28 : Option Addr} {sl28 : Array (Option Value)}
    {cd28 : Value}
    {kV28 : Value}
    {f29 : Addr} {oc29 dc29 pm29 ct29 : Value} {od29 an29 : Option Addr} {sl29 : Array (Option Value)}
    {cd29 : Value}
    {kV29 : Value}
    {f30 : Addr} {oc30 dc30 pm30 ct30 : Value} {od30 an30 : Option Addr} {sl30 : Array (Option Value)}
    {cd30 : Value}
    {kV30 : Value}
    {f31 : Addr} {oc31 dc31 pm31 ct31 : Value} {od31 an31 : Option Addr} {sl31 : Array (Option Value)}
    {cd31 : Value}
    {kV31 : Value}
    {f32 : Addr} {oc32 dc32 pm32 ct32 : Value} {od32 an32 : Option Addr} {sl32 : Array (Option Value)}
    {cd32 : Value}
    {kV32 : Value}
    {f33 : Addr} {oc33 dc33 pm33 ct33 : Value} {od33 an33 : Option Addr} {sl33 : Array (Option Value)}
    {cd33 : Value}
    {kV33 : Value}
    {f34 : Addr} {oc34 dc34 pm34 ct34 : Value} {od34 an34 : Option Addr} {sl34 : Array (Option Value)}
    {C34 P34 : Addr} {je34 : Value} {jd34 : Option Addr} {jv34 : Array Value} {js34 : Array (Option Value)}
    {kV34 : Value}
    {X12 : Addr} {X0 X1 X2 X3 X4 X5 X6 X7 X8 X9 X10 X11 : Addr}
    {nmE0 qE0 : Str} {NE0 : Addr} {bsE0 bmE0 : List Value} {snE0 : List Str} {sbE0 : List Value} {abE0 : Bool} {coE0 : Option Bool} {ddE0 : Option Addr} {m0E0 m1E0 m2E0 m3E0 m5E0 : Option Value} {fiE0 : Addr} {focE0 fkVE0 fdocE0 fpmE0 fcdE0 fctE0 : Value} {fodE0 fanE0 : Option Addr} {fslE0 : Array (Option Value)} {fnmE0 fqnE0 : Str}
    {nmE3 qE3 : Str} {NE3 : Addr} {bsE3 bmE3 : List Value} {snE3 : List Str} {sbE3 : List Value} {abE3 : Bool} {coE3 : Option Bool} {ddE3 : Option Addr} {m0E3 m1E3 m2E3 m3E3 m5E3 : Option Value} {fiE3 : Addr} {focE3 fkVE3 fdocE3 fpmE3 fcdE3 fctE3 : Value} {fodE3 fanE3 : Option Addr} {fslE3 : Array (Option Value)} {fnmE3 fqnE3 : Str}
    {kf : Addr} {koc kkV kdc kpm kcd kct : Value} {kod kan : Option Addr} {ksl : Array (Option Value)}
    {g0 : Tok}
    {g1 : Tok}
    {g2 : Tok}
    {g3 : Tok}
    {g4 : Tok}
    {g5 : Tok}
    {g6 : Tok}
    {g7 : Tok}
    {g8 : Tok}
    {g9 : Tok}
    {g10 : Tok}
    {g11 : Tok}
    {A12 : Addr} {ad12 : Option Addr} {aN12 : Nat} {aS12 : Array (Option Value)} {g12_0 g12_1 g12_2 : Tok}
    {g13 : Tok}
    {g14 : Tok}
    (cA0 : PySem.W.nsIn K mainGlobals "House" = some (some (.ref CL0)))
    (cB0 : PySem.W.plainGet K CL0 Str.empty = true)
    (cC0 : PySem.W.hasDictIn K CL0 = true)
    (cD0 : PySem.W.plainOver K CL0 = true)
    (cE0 : PySem.W.findIn K (.ref CL0) "__setattr__" = some (some (.builtin "object.__setattr__")))
    (cF0 : PySem.W.makesIn K CL0 = true)
    (cG0 : PySem.W.keepIn K (.ref CL0) = true)
    (nA0 : PySem.W.findIn K (.ref CL0) "busy" = some none)
    (nA1 : PySem.W.findIn K (.ref CL0) "fires" = some none)
    (nA2 : PySem.W.findIn K (.ref CL0) "done" = some none)
    (nA3 : PySem.W.findIn K (.ref CL0) "pots" = some none)
    (nA4 : PySem.W.findIn K (.ref CL0) "today" = some none)
    (nA5 : PySem.W.findIn K (.ref CL0) "kiln" = some none)
    (nA6 : PySem.W.findIn K (.ref CL0) "glazes" = some none)
    (nA7 : PySem.W.findIn K (.ref CL0) "clays" = some none)
    (a0 : PySem.W.nsIn K mainGlobals "is_number" = some (some (.ref f0)))
    (l0 : K.lookup f0 = some ⟨oc0, od0, .func (PySem.W.fnOf "is_number" "is_number" (defArgs s_is_number) (defBody s_is_number) (defScope s_is_number) .none kV0 dc0 pm0 an0 cd0 ct0), sl0⟩)
    (c0 : PySem.W.codeIn K cd0 "is_number" = true)
    (k0 : PySem.W.keepIn K (.ref f0) = true)
    (a1 : PySem.W.nsIn K mainGlobals "is_name" = some (some (.ref f1)))
    (l1 : K.lookup f1 = some ⟨oc1, od1, .func (PySem.W.fnOf "is_name" "is_name" (defArgs s_is_name) (defBody s_is_name) (defScope s_is_name) .none kV1 dc1 pm1 an1 cd1 ct1), sl1⟩)
    (c1 : PySem.W.codeIn K cd1 "is_name" = true)
    (k1 : PySem.W.keepIn K (.ref f1) = true)
    (a2 : PySem.W.nsIn K mainGlobals "is_range" = some (some (.ref f2)))
    (l2 : K.lookup f2 = some ⟨oc2, od2, .func (PySem.W.fnOf "is_range" "is_range" (defArgs s_is_range) (defBody s_is_range) (defScope s_is_range) .none kV2 dc2 pm2 an2 cd2 ct2), sl2⟩)
    (c2 : PySem.W.codeIn K cd2 "is_range" = true)
    (k2 : PySem.W.keepIn K (.ref f2) = true)
    (a3 : PySem.W.nsIn K mainGlobals "is_clay" = some (some (.ref f3)))
    (l3 : K.lookup f3 = some ⟨oc3, od3, .func (PySem.W.fnOf "is_clay" "is_clay" (defArgs s_is_clay) (defBody s_is_clay) (defScope s_is_clay) .none kV3 dc3 pm3 an3 cd3 ct3), sl3⟩)
    (c3 : PySem.W.codeIn K cd3 "is_clay" = true)
    (k3 : PySem.W.keepIn K (.ref f3) = true)
    (a4 : PySem.W.nsIn K mainGlobals "is_glaze" = some (some (.ref f4)))
    (l4 : K.lookup f4 = some ⟨oc4, od4, .func (PySem.W.fnOf "is_glaze" "is_glaze" (defArgs s_is_glaze) (defBody s_is_glaze) (defScope s_is_glaze) .none kV4 dc4 pm4 an4 cd4 ct4), sl4⟩)
    (c4 : PySem.W.codeIn K cd4 "is_glaze" = true)
    (k4 : PySem.W.keepIn K (.ref f4) = true)
    (a5 : PySem.W.nsIn K mainGlobals "need_rows" = some (some (.ref f5)))
    (l5 : K.lookup f5 = some ⟨oc5, od5, .func (PySem.W.fnOf "need_rows" "need_rows" (defArgs s_need_rows) (defBody s_need_rows) (defScope s_need_rows) .none kV5 dc5 pm5 an5 cd5 ct5), sl5⟩)
    (c5 : PySem.W.codeIn K cd5 "need_rows" = true)
    (k5 : PySem.W.keepIn K (.ref f5) = true)
    (a6 : PySem.W.nsIn K mainGlobals "need_goods" = some (some (.ref f6)))
    (l6 : K.lookup f6 = some ⟨oc6, od6, .func (PySem.W.fnOf "need_goods" "need_goods" (defArgs s_need_goods) (defBody s_need_goods) (defScope s_need_goods) .none kV6 dc6 pm6 an6 (.ref C6) ct6), sl6⟩)
    (c6 : PySem.W.codeIn K (.ref C6) "need_goods" = true)
    (k6 : PySem.W.keepIn K (.ref f6) = true)
    (j6 : K.lookup C6 = some ⟨je6, jd6, .fields jv6, js6⟩)
    (m6 : jv6[11]? = some (.ref P6))
    (o6 : PySem.W.codeHdIn K C6 P6 = true)
    (p6 : K.lookup P6 = none)
    (a7 : PySem.W.nsIn K mainGlobals "need_kiln" = some (some (.ref f7)))
    (l7 : K.lookup f7 = some ⟨oc7, od7, .func (PySem.W.fnOf "need_kiln" "need_kiln" (defArgs s_need_kiln) (defBody s_need_kiln) (defScope s_need_kiln) .none kV7 dc7 pm7 an7 cd7 ct7), sl7⟩)
    (c7 : PySem.W.codeIn K cd7 "need_kiln" = true)
    (k7 : PySem.W.keepIn K (.ref f7) = true)
    (a8 : PySem.W.nsIn K mainGlobals "names_of" = some (some (.ref f8)))
    (l8 : K.lookup f8 = some ⟨oc8, od8, .func (PySem.W.fnOf "names_of" "names_of" (defArgs s_names_of) (defBody s_names_of) (defScope s_names_of) .none kV8 dc8 pm8 an8 cd8 ct8), sl8⟩)
    (c8 : PySem.W.codeIn K cd8 "names_of" = true)
    (k8 : PySem.W.keepIn K (.ref f8) = true)
    (a9 : PySem.W.nsIn K mainGlobals "are_sizes" = some (some (.ref f9)))
    (l9 : K.lookup f9 = some ⟨oc9, od9, .func (PySem.W.fnOf "are_sizes" "are_sizes" (defArgs s_are_sizes) (defBody s_are_sizes) (defScope s_are_sizes) .none kV9 dc9 pm9 an9 cd9 ct9), sl9⟩)
    (c9 : PySem.W.codeIn K cd9 "are_sizes" = true)
    (k9 : PySem.W.keepIn K (.ref f9) = true)
    (a10 : PySem.W.nsIn K mainGlobals "is_pot" = some (some (.ref f10)))
    (l10 : K.lookup f10 = some ⟨oc10, od10, .func (PySem.W.fnOf "is_pot" "is_pot" (defArgs s_is_pot) (defBody s_is_pot) (defScope s_is_pot) .none kV10 dc10 pm10 an10 cd10 ct10), sl10⟩)
    (c10 : PySem.W.codeIn K cd10 "is_pot" = true)
    (k10 : PySem.W.keepIn K (.ref f10) = true)
    (a11 : PySem.W.nsIn K mainGlobals "need_pots" = some (some (.ref f11)))
    (l11 : K.lookup f11 = some ⟨oc11, od11, .func (PySem.W.fnOf "need_pots" "need_pots" (defArgs s_need_pots) (defBody s_need_pots) (defScope s_need_pots) .none kV11 dc11 pm11 an11 cd11 ct11), sl11⟩)
    (c11 : PySem.W.codeIn K cd11 "need_pots" = true)
    (k11 : PySem.W.keepIn K (.ref f11) = true)
    (a12 : PySem.W.nsIn K mainGlobals "need_firings" = some (some (.ref f12)))
    (l12 : K.lookup f12 = some ⟨oc12, od12, .func (PySem.W.fnOf "need_firings" "need_firings" (defArgs s_need_firings) (defBody s_need_firings) (defScope s_need_firings) .none kV12 dc12 pm12 an12 cd12 ct12), sl12⟩)
    (c12 : PySem.W.codeIn K cd12 "need_firings" = true)
    (k12 : PySem.W.keepIn K (.ref f12) = true)
    (a13 : PySem.W.nsIn K mainGlobals "broken_word" = some (some (.ref f13)))
    (l13 : K.lookup f13 = some ⟨oc13, od13, .func (PySem.W.fnOf "broken_word" "broken_word" (defArgs s_broken_word) (defBody s_broken_word) (defScope s_broken_word) .none kV13 dc13 pm13 an13 cd13 ct13), sl13⟩)
    (c13 : PySem.W.codeIn K cd13 "broken_word" = true)
    (k13 : PySem.W.keepIn K (.ref f13) = true)
    (a14 : PySem.W.nsIn K mainGlobals "judged" = some (some (.ref f14)))
    (l14 : K.lookup f14 = some ⟨oc14, od14, .func (PySem.W.fnOf "judged" "judged" (defArgs s_judged) (defBody s_judged) (defScope s_judged) .none kV14 dc14 pm14 an14 cd14 ct14), sl14⟩)
    (c14 : PySem.W.codeIn K cd14 "judged" = true)
    (k14 : PySem.W.keepIn K (.ref f14) = true)
    (a15 : PySem.W.nsIn K mainGlobals "lowest" = some (some (.ref f15)))
    (l15 : K.lookup f15 = some ⟨oc15, od15, .func (PySem.W.fnOf "lowest" "lowest" (defArgs s_lowest) (defBody s_lowest) (defScope s_lowest) .none kV15 dc15 pm15 an15 cd15 ct15), sl15⟩)
    (c15 : PySem.W.codeIn K cd15 "lowest" = true)
    (k15 : PySem.W.keepIn K (.ref f15) = true)
    (a16 : PySem.W.nsIn K mainGlobals "planner" = some (some (.ref f16)))
    (l16 : K.lookup f16 = some ⟨oc16, od16, .func (PySem.W.fnOf "planner" "planner" (defArgs s_planner) (defBody s_planner) (defScope s_planner) .none kV16 dc16 pm16 an16 cd16 ct16), sl16⟩)
    (c16 : PySem.W.codeIn K cd16 "planner" = true)
    (k16 : PySem.W.keepIn K (.ref f16) = true)
    (a17 : PySem.W.nsIn K mainGlobals "plan" = some (some (.ref f17)))
    (l17 : K.lookup f17 = some ⟨oc17, od17, .func (PySem.W.fnOf "plan" "plan" (defArgs s_plan) (defBody s_plan) (defScope s_plan) .none kV17 dc17 pm17 an17 cd17 ct17), sl17⟩)
    (c17 : PySem.W.codeIn K cd17 "plan" = true)
    (k17 : PySem.W.keepIn K (.ref f17) = true)
    (a18 : PySem.W.nsIn K mainGlobals "together" = some (some (.ref f18)))
    (l18 : K.lookup f18 = some ⟨oc18, od18, .func (PySem.W.fnOf "together" "together" (defArgs s_together) (defBody s_together) (defScope s_together) .none kV18 dc18 pm18 an18 cd18 ct18), sl18⟩)
    (c18 : PySem.W.codeIn K cd18 "together" = true)
    (k18 : PySem.W.keepIn K (.ref f18) = true)
    (a19 : PySem.W.nsIn K mainGlobals "apart" = some (some (.ref f19)))
    (l19 : K.lookup f19 = some ⟨oc19, od19, .func (PySem.W.fnOf "apart" "apart" (defArgs s_apart) (defBody s_apart) (defScope s_apart) .none kV19 dc19 pm19 an19 cd19 ct19), sl19⟩)
    (c19 : PySem.W.codeIn K cd19 "apart" = true)
    (k19 : PySem.W.keepIn K (.ref f19) = true)
    (a20 : PySem.W.nsIn K mainGlobals "_law_start" = some (some (.ref f20)))
    (l20 : K.lookup f20 = some ⟨oc20, od20, .func (PySem.W.fnOf "_law_start" "_law_start" (defArgs s__law_start) (defBody s__law_start) (defScope s__law_start) .none kV20 dc20 pm20 an20 cd20 ct20), sl20⟩)
    (c20 : PySem.W.codeIn K cd20 "_law_start" = true)
    (k20 : PySem.W.keepIn K (.ref f20) = true)
    (a21 : PySem.W.nsIn K mainGlobals "_law_drawn" = some (some (.ref f21)))
    (l21 : K.lookup f21 = some ⟨oc21, od21, .func (PySem.W.fnOf "_law_drawn" "_law_drawn" (defArgs s__law_drawn) (defBody s__law_drawn) (defScope s__law_drawn) .none kV21 dc21 pm21 an21 cd21 ct21), sl21⟩)
    (c21 : PySem.W.codeIn K cd21 "_law_drawn" = true)
    (k21 : PySem.W.keepIn K (.ref f21) = true)
    (a22 : PySem.W.nsIn K mainGlobals "_law_goods" = some (some (.ref f22)))
    (l22 : K.lookup f22 = some ⟨oc22, od22, .func (PySem.W.fnOf "_law_goods" "_law_goods" (defArgs s__law_goods) (defBody s__law_goods) (defScope s__law_goods) .none kV22 dc22 pm22 an22 cd22 ct22), sl22⟩)
    (c22 : PySem.W.codeIn K cd22 "_law_goods" = true)
    (k22 : PySem.W.keepIn K (.ref f22) = true)
    (a23 : PySem.W.nsIn K mainGlobals "_law_pot" = some (some (.ref f23)))
    (l23 : K.lookup f23 = some ⟨oc23, od23, .func (PySem.W.fnOf "_law_pot" "_law_pot" (defArgs s__law_pot) (defBody s__law_pot) (defScope s__law_pot) .none kV23 dc23 pm23 an23 cd23 ct23), sl23⟩)
    (c23 : PySem.W.codeIn K cd23 "_law_pot" = true)
    (k23 : PySem.W.keepIn K (.ref f23) = true)
    (a24 : PySem.W.nsIn K mainGlobals "_law_kiln" = some (some (.ref f24)))
    (l24 : K.lookup f24 = some ⟨oc24, od24, .func (PySem.W.fnOf "_law_kiln" "_law_kiln" (defArgs s__law_kiln) (defBody s__law_kiln) (defScope s__law_kiln) .none kV24 dc24 pm24 an24 cd24 ct24), sl24⟩)
    (c24 : PySem.W.codeIn K cd24 "_law_kiln" = true)
    (k24 : PySem.W.keepIn K (.ref f24) = true)
    (a25 : PySem.W.nsIn K mainGlobals "_law_is" = some (some (.ref f25)))
    (l25 : K.lookup f25 = some ⟨oc25, od25, .func (PySem.W.fnOf "_law_is" "_law_is" (defArgs s__law_is) (defBody s__law_is) (defScope s__law_is) .none kV25 dc25 pm25 an25 cd25 ct25), sl25⟩)
    (c25 : PySem.W.codeIn K cd25 "_law_is" = true)
    (k25 : PySem.W.keepIn K (.ref f25) = true)
    (a26 : PySem.W.nsIn K mainGlobals "_law_is_name" = some (some (.ref f26)))
    (l26 : K.lookup f26 = some ⟨oc26, od26, .func (PySem.W.fnOf "_law_is_name" "_law_is_name" (defArgs s__law_is_name) (defBody s__law_is_name) (defScope s__law_is_name) .none kV26 dc26 pm26 an26 cd26 ct26), sl26⟩)
    (c26 : PySem.W.codeIn K cd26 "_law_is_name" = true)
    (k26 : PySem.W.keepIn K (.ref f26) = true)
    (a27 : PySem.W.nsIn K mainGlobals "_law_first" = some (some (.ref f27)))
    (l27 : K.lookup f27 = some ⟨oc27, od27, .func (PySem.W.fnOf "_law_first" "_law_first" (defArgs s__law_first) (defBody s__law_first) (defScope s__law_first) .none kV27 dc27 pm27 an27 cd27 ct27), sl27⟩)
    (c27 : PySem.W.codeIn K cd27 "_law_first" = true)
    (k27 : PySem.W.keepIn K (.ref f27) = true)
    (a28 : PySem.W.nsIn K mainGlobals "_law_is_kiln" = some (some (.ref f28)))
    (l28 : K.lookup f28 = some ⟨oc28, od28, .func (PySem.W.fnOf "_law_is_kiln" "_law_is_kiln" (defArgs s__law_is_kiln) (defBody s__law_is_kiln) (defScope s__law_is_kiln) .none kV28 dc28 pm28 an28 cd28 ct28), sl28⟩)
    (c28 : PySem.W.codeIn K cd28 "_law_is_kiln" = true)
    (k28 : PySem.W.keepIn K (.ref f28) = true)
    (a29 : PySem.W.nsIn K mainGlobals "_law_is_pot" = some (some (.ref f29)))
    (l29 : K.lookup f29 = some ⟨oc29, od29, .func (PySem.W.fnOf "_law_is_pot" "_law_is_pot" (defArgs s__law_is_pot) (defBody s__law_is_pot) (defScope s__law_is_pot) .none kV29 dc29 pm29 an29 cd29 ct29), sl29⟩)
    (c29 : PySem.W.codeIn K cd29 "_law_is_pot" = true)
    (k29 : PySem.W.keepIn K (.ref f29) = true)
    (a30 : PySem.W.nsIn K mainGlobals "_law_due" = some (some (.ref f30)))
    (l30 : K.lookup f30 = some ⟨oc30, od30, .func (PySem.W.fnOf "_law_due" "_law_due" (defArgs s__law_due) (defBody s__law_due) (defScope s__law_due) .none kV30 dc30 pm30 an30 cd30 ct30), sl30⟩)
    (c30 : PySem.W.codeIn K cd30 "_law_due" = true)
    (k30 : PySem.W.keepIn K (.ref f30) = true)
    (a31 : PySem.W.nsIn K mainGlobals "_law_other" = some (some (.ref f31)))
    (l31 : K.lookup f31 = some ⟨oc31, od31, .func (PySem.W.fnOf "_law_other" "_law_other" (defArgs s__law_other) (defBody s__law_other) (defScope s__law_other) .none kV31 dc31 pm31 an31 cd31 ct31), sl31⟩)
    (c31 : PySem.W.codeIn K cd31 "_law_other" = true)
    (k31 : PySem.W.keepIn K (.ref f31) = true)
    (h32 : PySem.W.findIn K (.ref CL0) "__init__" = some (some (.ref f32)))
    (t32 : PySem.W.isFn K (.ref f32) = true)
    (l32 : K.lookup f32 = some ⟨oc32, od32, .func (PySem.W.fnOf "__init__" "House.__init__" (defArgs s_House___init__) (defBody s_House___init__) (defScope s_House___init__) .none kV32 dc32 pm32 an32 cd32 ct32), sl32⟩)
    (c32 : PySem.W.codeIn K cd32 "House.__init__" = true)
    (k32 : PySem.W.keepIn K (.ref f32) = true)
    (h33 : PySem.W.findIn K (.ref CL0) "day" = some (some (.ref f33)))
    (t33 : PySem.W.isFn K (.ref f33) = true)
    (l33 : K.lookup f33 = some ⟨oc33, od33, .func (PySem.W.fnOf "day" "House.day" (defArgs s_House_day) (defBody s_House_day) (defScope s_House_day) .none kV33 dc33 pm33 an33 cd33 ct33), sl33⟩)
    (c33 : PySem.W.codeIn K cd33 "House.day" = true)
    (k33 : PySem.W.keepIn K (.ref f33) = true)
    (a34 : PySem.W.nsIn K mainGlobals "law" = some (some (.ref f34)))
    (l34 : K.lookup f34 = some ⟨oc34, od34, .func (PySem.W.fnOf "law" "law" (defArgs s_law) (defBody s_law) (defScope s_law) .none kV34 dc34 pm34 an34 (.ref C34) ct34), sl34⟩)
    (c34 : PySem.W.codeIn K (.ref C34) "law" = true)
    (k34 : PySem.W.keepIn K (.ref f34) = true)
    (j34 : K.lookup C34 = some ⟨je34, jd34, .fields jv34, js34⟩)
    (m34 : jv34[11]? = some (.ref P34))
    (o34 : PySem.W.codeHdIn K C34 P34 = true)
    (p34 : K.lookup P34 = none)
    (x0 : PySem.W.nsIn K mainGlobals "BadGoods" = some (some (.ref X0)))
    (x1 : PySem.W.nsIn K mainGlobals "BadKiln" = some (some (.ref X1)))
    (x2 : PySem.W.nsIn K mainGlobals "BadFiring" = some (some (.ref X2)))
    (x3 : PySem.W.nsIn K mainGlobals "BadPots" = some (some (.ref X3)))
    (x4 : PySem.W.nsIn K mainGlobals "BadCount" = some (some (.ref X4)))
    (x5 : PySem.W.nsIn K mainGlobals "BadLoad" = some (some (.ref X5)))
    (x6 : PySem.W.nsIn K mainGlobals "NoPot" = some (some (.ref X6)))
    (x7 : PySem.W.nsIn K mainGlobals "NoClay" = some (some (.ref X7)))
    (x8 : PySem.W.nsIn K mainGlobals "NoGlaze" = some (some (.ref X8)))
    (x9 : PySem.W.nsIn K mainGlobals "BadDay" = some (some (.ref X9)))
    (x10 : PySem.W.nsIn K mainGlobals "BadDeed" = some (some (.ref X10)))
    (x11 : PySem.W.nsIn K mainGlobals "BadText" = some (some (.ref X11)))
    (x12 : PySem.W.nsIn K mainGlobals "KilnError" = some (some (.ref X12)))
    (y0 : PySem.W.specialIn K (.ref X12) "__getattribute__" = some (some (.builtin "type.__getattribute__")))
    (y1 : PySem.W.readsIn K X12 (.type "type") = true)
    (y2 : PySem.W.findCls K (.ref X12) (.type "type") "__init__" = some (.val (.builtin "ValueError.__init__")))
    (ek0 : PySem.W.keepIn K (.ref X0) = true)
    (es0 : PySem.W.subIn K (.ref X0) (.type "BaseException") = some true)
    (et0 : PySem.W.typeIn K (.ref X0) = some (.type "type"))
    (el0 : K.lookup X0 = some (excClassObj nmE0 qE0 X0 NE0 bsE0 bmE0 true snE0 sbE0 abE0 coE0 ddE0 m0E0 m1E0 m2E0 m3E0 m5E0 "ValueError.__new__"))
    (er0 : PySem.HandSPX.refsVE bmE0 = true)
    (ea0 : PySem.W.findIn K (.ref X0) "__setattr__" = some (some (.builtin "object.__setattr__")))
    (en0 : PySem.W.findIn K (.ref X0) "__init__" = some (some (.ref fiE0)))
    (ef0 : PySem.W.typeIn K (.ref fiE0) = some (.type "function"))
    (eg0 : K.lookup fiE0 = some ⟨focE0, fodE0, .func (PySem.W.fnOf fnmE0 fqnE0 (defArgs (inClass (top 3) 0)) (defBody (inClass (top 3) 0)) (defScope (inClass (top 3) 0)) .none fkVE0 fdocE0 fpmE0 fanE0 fcdE0 fctE0), fslE0⟩)
    (eh0 : PySem.W.codeIn K fcdE0 fqnE0 = true)
    (epart0 : PySem.W.findIn K (.ref X0) "part" = some none)
    (enumber0 : PySem.W.findIn K (.ref X0) "number" = some none)
    (ek1 : PySem.W.keepIn K (.ref X1) = true)
    (es1 : PySem.W.subIn K (.ref X1) (.type "BaseException") = some true)
    (et1 : PySem.W.typeIn K (.ref X1) = some (.type "type"))
    (ei1 : PySem.W.excIn K X1 [.type "ValueError", .type "Exception", .type "BaseException", .type "object"] "ValueError.__new__" = true)
    (ek3 : PySem.W.keepIn K (.ref X3) = true)
    (es3 : PySem.W.subIn K (.ref X3) (.type "BaseException") = some true)
    (et3 : PySem.W.typeIn K (.ref X3) = some (.type "type"))
    (el3 : K.lookup X3 = some (excClassObj nmE3 qE3 X3 NE3 bsE3 bmE3 true snE3 sbE3 abE3 coE3 ddE3 m0E3 m1E3 m2E3 m3E3 m5E3 "ValueError.__new__"))
    (er3 : PySem.HandSPX.refsVE bmE3 = true)
    (ea3 : PySem.W.findIn K (.ref X3) "__setattr__" = some (some (.builtin "object.__setattr__")))
    (en3 : PySem.W.findIn K (.ref X3) "__init__" = some (some (.ref fiE3)))
    (ef3 : PySem.W.typeIn K (.ref fiE3) = some (.type "function"))
    (eg3 : K.lookup fiE3 = some ⟨focE3, fodE3, .func (PySem.W.fnOf fnmE3 fqnE3 (defArgs (inClass (top 6) 0)) (defBody (inClass (top 6) 0)) (defScope (inClass (top 6) 0)) .none fkVE3 fdocE3 fpmE3 fanE3 fcdE3 fctE3), fslE3⟩)
    (eh3 : PySem.W.codeIn K fcdE3 fqnE3 = true)
    (enumber3 : PySem.W.findIn K (.ref X3) "number" = some none)
    (ek4 : PySem.W.keepIn K (.ref X4) = true)
    (es4 : PySem.W.subIn K (.ref X4) (.type "BaseException") = some true)
    (et4 : PySem.W.typeIn K (.ref X4) = some (.type "type"))
    (ei4 : PySem.W.excIn K X4 [.type "ValueError", .type "Exception", .type "BaseException", .type "object"] "ValueError.__new__" = true)
    (kb : kfB K [X0, X1, X2, X3, X4, X5, X6, X7, X8, X9, X10, X11] X12 = true)
    (kv : PySem.W.nsIn K mainGlobals "ValueError" = some none)
    (ka : PySem.W.nsIn K mainGlobals "_law_kind" = some (some (.ref kf)))
    (kl : K.lookup kf = some ⟨koc, kod, .func (PySem.W.fnOf "_law_kind" "_law_kind" (defArgs s__law_kind) (defBody s__law_kind) (defScope s__law_kind) .none kkV kdc kpm kan kcd kct), ksl⟩)
    (kc : PySem.W.codeIn K kcd "_law_kind" = true)
    (kk : PySem.W.keepIn K (.ref kf) = true)
    (v0 : PySem.W.nsIn K mainGlobals "LETTERS" = some (some (.str "abcdefghijklmnopqrstuvwxyz" g0)))
    (v1 : PySem.W.nsIn K mainGlobals "MOST_NAME" = some (some (.int 6 g1)))
    (v2 : PySem.W.nsIn K mainGlobals "MOST_WORK" = some (some (.int 99999 g2)))
    (v3 : PySem.W.nsIn K mainGlobals "MOST_RISE" = some (some (.int 999 g3)))
    (v4 : PySem.W.nsIn K mainGlobals "MOST_GOODS" = some (some (.int 6 g4)))
    (v5 : PySem.W.nsIn K mainGlobals "MOST_SHELVES" = some (some (.int 6 g5)))
    (v6 : PySem.W.nsIn K mainGlobals "MOST_GAIN" = some (some (.int 30 g6)))
    (v7 : PySem.W.nsIn K mainGlobals "MOST_WIDE" = some (some (.int 40 g7)))
    (v8 : PySem.W.nsIn K mainGlobals "MOST_TALL" = some (some (.int 60 g8)))
    (v9 : PySem.W.nsIn K mainGlobals "MOST_THICK" = some (some (.int 9 g9)))
    (v10 : PySem.W.nsIn K mainGlobals "MOST_SIZE" = some (some (.int 20 g10)))
    (v11 : PySem.W.nsIn K mainGlobals "GLAZED" = some (some (.str "glazed" g11)))
    (v12 : PySem.W.nsIn K mainGlobals "STAGES" = some (some (.ref A12)))
    (w12 : K.lookup A12 = some ⟨.type "tuple", ad12, .seq #[.str "raw" g12_0, .str "fired" g12_1, .str "glazed" g12_2] aN12, aS12⟩)
    (v13 : PySem.W.nsIn K mainGlobals "MOST_POTS" = some (some (.int 8 g13)))
    (v14 : PySem.W.nsIn K mainGlobals "POT" = some (some (.str "pot" g14)))
    (z0 : PySem.W.nsIn K mainGlobals "isinstance" = some none)
    (z1 : PySem.W.nsIn K mainGlobals "int" = some none)
    (z2 : PySem.W.nsIn K mainGlobals "bool" = some none)
    (z3 : PySem.W.nsIn K mainGlobals "str" = some none)
    (z4 : PySem.W.nsIn K mainGlobals "tuple" = some none)
    (z5 : PySem.W.nsIn K mainGlobals "list" = some none)
    (z6 : PySem.W.nsIn K mainGlobals "len" = some none)
    (z7 : PySem.W.nsIn K mainGlobals "range" = some none)
    (z8 : PySem.W.nsIn K mainGlobals "enumerate" = some none)
    (z9 : PySem.W.nsIn K mainGlobals "zip" = some none)
    (z10 : PySem.W.nsIn K mainGlobals "abs" = some none)
    (z11 : PySem.W.nsIn K mainGlobals "min" = some none)
    (z12 : PySem.W.nsIn K mainGlobals "max" = some none)
    (z13 : PySem.W.nsIn K mainGlobals "sum" = some none)
    (z14 : PySem.W.nsIn K mainGlobals "all" = some none)
    (z15 : PySem.W.nsIn K mainGlobals "any" = some none)
    (z16 : PySem.W.nsIn K mainGlobals "set" = some none)
    (z17 : PySem.W.nsIn K mainGlobals "sorted" = some none)
    (u0_1 : (P6 == P34) = false)
    : LamX.LawAtS l w K (L2.CX l.prog w) (2 * 20 + 4) 63 "_law_script" mg fa h := by
  have efa := hfa.symm.trans (PySem.W.mg_of X G a34)
  cases efa
  let ms : List KI.Maker := [(("need_goods" : Str), C6, P6), (("law" : Str), C34, P34)]
  let CA : Nat → Addr := fun i => ([X0, X1, X2, X3, X4, X5, X6, X7, X8, X9, X10, X11] : List Addr).getD i 0
  let CI : Nat → Addr := fun i => ([CL0] : List Addr).getD i 0
  let TBs : Heap → Prop := fun base => ∀ p ∈ lamCs ms, LamX.TabB base mg p.1 p.2
  have hU6 : ∀ p ∈ lamT ms, p.1 = P6 → p.2 = ("need_goods" : Str) ++ ".<locals>." ++ "<lambda>" := by
    intro p hp e
    simp only [lamT, ms, List.map_cons, List.map_nil, List.mem_cons, List.not_mem_nil, or_false] at hp
    rcases hp with rfl | rfl
    · rfl
    · exact absurd e (fun z => by have u := u0_1; rw [show P6 = P34 from z.symm] at u; simp at u)
  have hU34 : ∀ p ∈ lamT ms, p.1 = P34 → p.2 = ("law" : Str) ++ ".<locals>." ++ "<lambda>" := by
    intro p hp e
    simp only [lamT, ms, List.map_cons, List.map_nil, List.mem_cons, List.not_mem_nil, or_false] at hp
    rcases hp with rfl | rfl
    · exact absurd e (fun z => by have u := u0_1; rw [show P6 = P34 from z] at u; simp at u)
    · rfl
  have O : ∀ CL, @PgOk (lxOf pg CL (lamT ms) CI) K mg TBs CA pg := by
    intro CL
    letI : LX := lxOf pg CL (lamT ms) CI
    have M32 : ∃ fd, FD K mg TBs pg d_House___init__ f32 fd := FD.mkM sc_House___init__ ck_House___init__ rfl rfl l32 c32 k32 (fun _ _ _ _ _ _ us h1 => match us, h1 with | [_, _, _, _], _ => rfl)
    have M33 : ∃ fd, FD K mg TBs pg d_House_day f33 fd := FD.mkM sc_House_day ck_House_day rfl rfl l33 c33 k33 (fun _ _ _ _ _ _ us h1 => match us, h1 with | [_], _ => rfl)
    have K0 : Cls K (LX.CI 0) := ⟨cB0, cC0, cD0, cE0⟩
    have hCl : ∀ (c : Nat) (nm : Str) (f : Nat), pg.clss[c]? = some (nm, f) → ∃ di fa fd, pg.defs[f]? = some di ∧ FD K mg TBs pg di fa fd ∧ mg nm = some (.ref (LX.CI c)) ∧ Mk K (LX.CI c) fa := by
      intro c nm f e
      match c, e with
      | 0, e => cases e; obtain ⟨fd, F⟩ := M32; exact ⟨_, _, fd, rfl, F, PySem.W.mg_of X G cA0, ⟨cF0, h32, t32, cG0⟩⟩
      | _ + 1, e => exact nomatch e
    have hMe : ∀ p ∈ pg.meths, ∃ di fa fd, pg.defs[p.2.2]? = some di ∧ FD K mg TBs pg di fa fd ∧ Cls K (LX.CI p.1) ∧ Meth K (LX.CI p.1) p.2.1 fa := by
      show ∀ p ∈ ([(0, "day", 33)] : List (Nat × Str × Nat)), ∃ di fa fd, pg.defs[p.2.2]? = some di ∧ FD K mg TBs pg di fa fd ∧ Cls K (LX.CI p.1) ∧ Meth K (LX.CI p.1) p.2.1 fa
      exact List.forall_mem_cons.mpr ⟨(by obtain ⟨fd, F⟩ := M33; exact ⟨_, _, fd, rfl, F, K0, ⟨h33, t33, k33⟩⟩),
    List.forall_mem_nil _⟩
    have hFl : ∀ p ∈ pg.flds, Cls K (LX.CI p.1) ∧ NoAttr K (LX.CI p.1) p.2 := by
      show ∀ p ∈ ([(0, "busy"), (0, "fires"), (0, "done"), (0, "pots"), (0, "today"), (0, "kiln"), (0, "glazes"), (0, "clays")] : List (Nat × Str)), Cls K (LX.CI p.1) ∧ NoAttr K (LX.CI p.1) p.2
      exact List.forall_mem_cons.mpr ⟨⟨K0, nA0⟩,
    List.forall_mem_cons.mpr ⟨⟨K0, nA1⟩,
    List.forall_mem_cons.mpr ⟨⟨K0, nA2⟩,
    List.forall_mem_cons.mpr ⟨⟨K0, nA3⟩,
    List.forall_mem_cons.mpr ⟨⟨K0, nA4⟩,
    List.forall_mem_cons.mpr ⟨⟨K0, nA5⟩,
    List.forall_mem_cons.mpr ⟨⟨K0, nA6⟩,
    List.forall_mem_cons.mpr ⟨⟨K0, nA7⟩,
    List.forall_mem_nil _⟩⟩⟩⟩⟩⟩⟩⟩
    have hDf : ∀ di ∈ pg.defs, ∃ fa fd, FD K mg TBs pg di fa fd := by
      show ∀ di ∈ [d_is_number, d_is_name, d_is_range, d_is_clay, d_is_glaze, d_need_rows, d_need_goods, d_need_kiln, d_names_of, d_are_sizes, d_is_pot, d_need_pots, d_need_firings, d_broken_word, d_judged, d_lowest, d_planner, d_plan, d_together, d_apart, d__law_start, d__law_drawn, d__law_goods, d__law_pot, d__law_kiln, d__law_is, d__law_is_name, d__law_first, d__law_is_kiln, d__law_is_pot, d__law_due, d__law_other, d_House___init__, d_House_day], ∃ fa fd, FD K mg TBs pg di fa fd
      exact List.forall_mem_cons.mpr ⟨FD.mk0 sc_is_number false ck_is_number rfl (PySem.W.mg_of X G a0) l0 c0 k0 (fun z => nomatch z) (fun _ _ _ _ _ _ us h1 => match us, h1 with | [_, _, _], _ => rfl),
    List.forall_mem_cons.mpr ⟨FD.mk0 sc_is_name false ck_is_name rfl (PySem.W.mg_of X G a1) l1 c1 k1 (fun z => nomatch z) (fun _ _ _ _ _ _ us h1 => match us, h1 with | [_], _ => rfl),
    List.forall_mem_cons.mpr ⟨FD.mk0 sc_is_range false ck_is_range rfl (PySem.W.mg_of X G a2) l2 c2 k2 (fun z => nomatch z) (fun _ _ _ _ _ _ us h1 => match us, h1 with | [_, _], _ => rfl),
    List.forall_mem_cons.mpr ⟨FD.mk0 sc_is_clay false ck_is_clay rfl (PySem.W.mg_of X G a3) l3 c3 k3 (fun z => nomatch z) (fun _ _ _ _ _ _ us h1 => match us, h1 with | [_], _ => rfl),
    List.forall_mem_cons.mpr ⟨FD.mk0 sc_is_glaze false ck_is_glaze rfl (PySem.W.mg_of X G a4) l4 c4 k4 (fun z => nomatch z) (fun _ _ _ _ _ _ us h1 => match us, h1 with | [_], _ => rfl),
    List.forall_mem_cons.mpr ⟨FD.mk0 sc_need_rows false ck_need_rows rfl (PySem.W.mg_of X G a5) l5 c5 k5 (fun z => nomatch z) (fun _ _ _ _ _ _ us h1 => match us, h1 with | [_, _, _], _ => rfl),
    List.forall_mem_cons.mpr ⟨FD.mk0 sc_need_goods true ck_need_goods rfl (PySem.W.mg_of X G a6) l6 c6 k6 (fun _ base hT => ⟨⟨C6, P6, hT (C6, P6) (by simp [lamCs, ms]), rfl, (by show _ ∈ lamT ms; simp [lamT, ms]), hU6⟩⟩) (fun _ _ _ _ _ _ us h1 => match us, h1 with | [_, _], _ => rfl),
    List.forall_mem_cons.mpr ⟨FD.mk0 sc_need_kiln false ck_need_kiln rfl (PySem.W.mg_of X G a7) l7 c7 k7 (fun z => nomatch z) (fun _ _ _ _ _ _ us h1 => match us, h1 with | [_], _ => rfl),
    List.forall_mem_cons.mpr ⟨FD.mk0 sc_names_of false ck_names_of rfl (PySem.W.mg_of X G a8) l8 c8 k8 (fun z => nomatch z) (fun _ _ _ _ _ _ us h1 => match us, h1 with | [_], _ => rfl),
    List.forall_mem_cons.mpr ⟨FD.mk0 sc_are_sizes false ck_are_sizes rfl (PySem.W.mg_of X G a9) l9 c9 k9 (fun z => nomatch z) (fun _ _ _ _ _ _ us h1 => match us, h1 with | [_], _ => rfl),
    List.forall_mem_cons.mpr ⟨FD.mk0 sc_is_pot false ck_is_pot rfl (PySem.W.mg_of X G a10) l10 c10 k10 (fun z => nomatch z) (fun _ _ _ _ _ _ us h1 => match us, h1 with | [_, _, _], _ => rfl),
    List.forall_mem_cons.mpr ⟨FD.mk0 sc_need_pots false ck_need_pots rfl (PySem.W.mg_of X G a11) l11 c11 k11 (fun z => nomatch z) (fun _ _ _ _ _ _ us h1 => match us, h1 with | [_, _, _], _ => rfl),
    List.forall_mem_cons.mpr ⟨FD.mk0 sc_need_firings false ck_need_firings rfl (PySem.W.mg_of X G a12) l12 c12 k12 (fun z => nomatch z) (fun _ _ _ _ _ _ us h1 => match us, h1 with | [_], _ => rfl),
    List.forall_mem_cons.mpr ⟨FD.mk0 sc_broken_word false ck_broken_word rfl (PySem.W.mg_of X G a13) l13 c13 k13 (fun z => nomatch z) (fun _ _ _ _ _ _ us h1 => match us, h1 with | [_, _, _], _ => rfl),
    List.forall_mem_cons.mpr ⟨FD.mk0 sc_judged false ck_judged rfl (PySem.W.mg_of X G a14) l14 c14 k14 (fun z => nomatch z) (fun _ _ _ _ _ _ us h1 => match us, h1 with | [_, _, _, _, _], _ => rfl),
    List.forall_mem_cons.mpr ⟨FD.mk0 sc_lowest false ck_lowest rfl (PySem.W.mg_of X G a15) l15 c15 k15 (fun z => nomatch z) (fun _ _ _ _ _ _ us h1 => match us, h1 with | [_, _, _, _], _ => rfl),
    List.forall_mem_cons.mpr ⟨FD.mk0 sc_planner false ck_planner rfl (PySem.W.mg_of X G a16) l16 c16 k16 (fun z => nomatch z) (fun _ _ _ _ _ _ us h1 => match us, h1 with | [_, _, _, _, _], _ => rfl),
    List.forall_mem_cons.mpr ⟨FD.mk0 sc_plan false ck_plan rfl (PySem.W.mg_of X G a17) l17 c17 k17 (fun z => nomatch z) (fun _ _ _ _ _ _ us h1 => match us, h1 with | [_, _, _, _, _], _ => rfl),
    List.forall_mem_cons.mpr ⟨FD.mk0 sc_together false ck_together rfl (PySem.W.mg_of X G a18) l18 c18 k18 (fun z => nomatch z) (fun _ _ _ _ _ _ us h1 => match us, h1 with | [_, _, _, _, _], _ => rfl),
    List.forall_mem_cons.mpr ⟨FD.mk0 sc_apart false ck_apart rfl (PySem.W.mg_of X G a19) l19 c19 k19 (fun z => nomatch z) (fun _ _ _ _ _ _ us h1 => match us, h1 with | [_, _, _, _, _], _ => rfl),
    List.forall_mem_cons.mpr ⟨FD.mk0 sc__law_start false ck__law_start rfl (PySem.W.mg_of X G a20) l20 c20 k20 (fun z => nomatch z) (fun _ _ _ _ _ _ us h1 => match us, h1 with | [_], _ => rfl),
    List.forall_mem_cons.mpr ⟨FD.mk0 sc__law_drawn false ck__law_drawn rfl (PySem.W.mg_of X G a21) l21 c21 k21 (fun z => nomatch z) (fun _ _ _ _ _ _ us h1 => match us, h1 with | [_, _], _ => rfl),
    List.forall_mem_cons.mpr ⟨FD.mk0 sc__law_goods false ck__law_goods rfl (PySem.W.mg_of X G a22) l22 c22 k22 (fun z => nomatch z) (fun _ _ _ _ _ _ us h1 => match us, h1 with | [_], _ => rfl),
    List.forall_mem_cons.mpr ⟨FD.mk0 sc__law_pot false ck__law_pot rfl (PySem.W.mg_of X G a23) l23 c23 k23 (fun z => nomatch z) (fun _ _ _ _ _ _ us h1 => match us, h1 with | [_, _, _], _ => rfl),
    List.forall_mem_cons.mpr ⟨FD.mk0 sc__law_kiln false ck__law_kiln rfl (PySem.W.mg_of X G a24) l24 c24 k24 (fun z => nomatch z) (fun _ _ _ _ _ _ us h1 => match us, h1 with | [_], _ => rfl),
    List.forall_mem_cons.mpr ⟨FD.mk0 sc__law_is false ck__law_is rfl (PySem.W.mg_of X G a25) l25 c25 k25 (fun z => nomatch z) (fun _ _ _ _ _ _ us h1 => match us, h1 with | [_, _, _], _ => rfl),
    List.forall_mem_cons.mpr ⟨FD.mk0 sc__law_is_name false ck__law_is_name rfl (PySem.W.mg_of X G a26) l26 c26 k26 (fun z => nomatch z) (fun _ _ _ _ _ _ us h1 => match us, h1 with | [_], _ => rfl),
    List.forall_mem_cons.mpr ⟨FD.mk0 sc__law_first false ck__law_first rfl (PySem.W.mg_of X G a27) l27 c27 k27 (fun z => nomatch z) (fun _ _ _ _ _ _ us h1 => match us, h1 with | [_, _], _ => rfl),
    List.forall_mem_cons.mpr ⟨FD.mk0 sc__law_is_kiln false ck__law_is_kiln rfl (PySem.W.mg_of X G a28) l28 c28 k28 (fun z => nomatch z) (fun _ _ _ _ _ _ us h1 => match us, h1 with | [_], _ => rfl),
    List.forall_mem_cons.mpr ⟨FD.mk0 sc__law_is_pot false ck__law_is_pot rfl (PySem.W.mg_of X G a29) l29 c29 k29 (fun z => nomatch z) (fun _ _ _ _ _ _ us h1 => match us, h1 with | [_, _, _], _ => rfl),
    List.forall_mem_cons.mpr ⟨FD.mk0 sc__law_due false ck__law_due rfl (PySem.W.mg_of X G a30) l30 c30 k30 (fun z => nomatch z) (fun _ _ _ _ _ _ us h1 => match us, h1 with | [_, _, _, _], _ => rfl),
    List.forall_mem_cons.mpr ⟨FD.mk0 sc__law_other false ck__law_other rfl (PySem.W.mg_of X G a31) l31 c31 k31 (fun z => nomatch z) (fun _ _ _ _ _ _ us h1 => match us, h1 with | [_, _], _ => rfl),
    List.forall_mem_cons.mpr ⟨⟨f32, M32⟩,
    List.forall_mem_cons.mpr ⟨⟨f33, M33⟩,
    List.forall_mem_nil _⟩⟩⟩⟩⟩⟩⟩⟩⟩⟩⟩⟩⟩⟩⟩⟩⟩⟩⟩⟩⟩⟩⟩⟩⟩⟩⟩⟩⟩⟩⟩⟩⟩⟩
    have hCo : ∀ p ∈ pg.consts, ∃ u v, mg p.1 = some u ∧ RelV v u ∧ ∀ H L X, Rep K H L X p.2 v := by
      show ∀ p ∈ [((("LETTERS" : Str), (.str "abcdefghijklmnopqrstuvwxyz" : KI.D)) : Str × KI.D), ((("MOST_NAME" : Str), (.int 6 : KI.D)) : Str × KI.D), ((("MOST_WORK" : Str), (.int 99999 : KI.D)) : Str × KI.D), ((("MOST_RISE" : Str), (.int 999 : KI.D)) : Str × KI.D), ((("MOST_GOODS" : Str), (.int 6 : KI.D)) : Str × KI.D), ((("MOST_SHELVES" : Str), (.int 6 : KI.D)) : Str × KI.D), ((("MOST_GAIN" : Str), (.int 30 : KI.D)) : Str × KI.D), ((("MOST_WIDE" : Str), (.int 40 : KI.D)) : Str × KI.D), ((("MOST_TALL" : Str), (.int 60 : KI.D)) : Str × KI.D), ((("MOST_THICK" : Str), (.int 9 : KI.D)) : Str × KI.D), ((("MOST_SIZE" : Str), (.int 20 : KI.D)) : Str × KI.D), ((("GLAZED" : Str), (.str "glazed" : KI.D)) : Str × KI.D), ((("STAGES" : Str), (.tup [.str "raw", .str "fired", .str "glazed"] : KI.D)) : Str × KI.D), ((("MOST_POTS" : Str), (.int 8 : KI.D)) : Str × KI.D), ((("POT" : Str), (.str "pot" : KI.D)) : Str × KI.D)], ∃ u v, mg p.1 = some u ∧ RelV v u ∧ ∀ H L X, Rep K H L X p.2 v
      exact List.forall_mem_cons.mpr ⟨const_str (PySem.W.mg_of X G v0),
    List.forall_mem_cons.mpr ⟨const_int (PySem.W.mg_of X G v1),
    List.forall_mem_cons.mpr ⟨const_int (PySem.W.mg_of X G v2),
    List.forall_mem_cons.mpr ⟨const_int (PySem.W.mg_of X G v3),
    List.forall_mem_cons.mpr ⟨const_int (PySem.W.mg_of X G v4),
    List.forall_mem_cons.mpr ⟨const_int (PySem.W.mg_of X G v5),
    List.forall_mem_cons.mpr ⟨const_int (PySem.W.mg_of X G v6),
    List.forall_mem_cons.mpr ⟨const_int (PySem.W.mg_of X G v7),
    List.forall_mem_cons.mpr ⟨const_int (PySem.W.mg_of X G v8),
    List.forall_mem_cons.mpr ⟨const_int (PySem.W.mg_of X G v9),
    List.forall_mem_cons.mpr ⟨const_int (PySem.W.mg_of X G v10),
    List.forall_mem_cons.mpr ⟨const_str (PySem.W.mg_of X G v11),
    List.forall_mem_cons.mpr ⟨const_tupS (us := [.str "raw" g12_0, .str "fired" g12_1, .str "glazed" g12_2]) (ss := ["raw", "fired", "glazed"]) (PySem.W.mg_of X G v12) w12 (by show 3 ≤ sizeLine; decide) ⟨⟨_, rfl⟩, ⟨_, rfl⟩, ⟨_, rfl⟩, trivial⟩,
    List.forall_mem_cons.mpr ⟨const_int (PySem.W.mg_of X G v13),
    List.forall_mem_cons.mpr ⟨const_str (PySem.W.mg_of X G v14),
    List.forall_mem_nil _⟩⟩⟩⟩⟩⟩⟩⟩⟩⟩⟩⟩⟩⟩⟩
    have hBl : ∀ x ∈ bltNames, mg x = none := by
      show ∀ x ∈ (["isinstance", "int", "bool", "str", "tuple", "list", "len", "range", "enumerate", "zip", "abs", "min", "max", "sum", "all", "any", "set", "sorted"] : List Str), mg x = none
      exact List.forall_mem_cons.mpr ⟨PySem.W.mg_none_of X G z0,
    List.forall_mem_cons.mpr ⟨PySem.W.mg_none_of X G z1,
    List.forall_mem_cons.mpr ⟨PySem.W.mg_none_of X G z2,
    List.forall_mem_cons.mpr ⟨PySem.W.mg_none_of X G z3,
    List.forall_mem_cons.mpr ⟨PySem.W.mg_none_of X G z4,
    List.forall_mem_cons.mpr ⟨PySem.W.mg_none_of X G z5,
    List.forall_mem_cons.mpr ⟨PySem.W.mg_none_of X G z6,
    List.forall_mem_cons.mpr ⟨PySem.W.mg_none_of X G z7,
    List.forall_mem_cons.mpr ⟨PySem.W.mg_none_of X G z8,
    List.forall_mem_cons.mpr ⟨PySem.W.mg_none_of X G z9,
    List.forall_mem_cons.mpr ⟨PySem.W.mg_none_of X G z10,
    List.forall_mem_cons.mpr ⟨PySem.W.mg_none_of X G z11,
    List.forall_mem_cons.mpr ⟨PySem.W.mg_none_of X G z12,
    List.forall_mem_cons.mpr ⟨PySem.W.mg_none_of X G z13,
    List.forall_mem_cons.mpr ⟨PySem.W.mg_none_of X G z14,
    List.forall_mem_cons.mpr ⟨PySem.W.mg_none_of X G z15,
    List.forall_mem_cons.mpr ⟨PySem.W.mg_none_of X G z16,
    List.forall_mem_cons.mpr ⟨PySem.W.mg_none_of X G z17,
    List.forall_mem_nil _⟩⟩⟩⟩⟩⟩⟩⟩⟩⟩⟩⟩⟩⟩⟩⟩⟩⟩
    have hBi : ∀ (j : Nat) (li : LamI), pg.lams[j]? = some li → li.cap = none → ∀ as : List Arg, as.map (·.arg) = li.ps → ∀ (q : Str) (body : Expr) (scope : Scope) (cl : List (Str × Addr)) (doc pm cv ctv : Value) (us : List Value), us.length = li.ps.length → bindArgs (PySem.W.kdv_fn "<lambda>" q ⟨[], as, none, [], [], none, []⟩ (.expr body) scope cl .none doc pm cv ctv) ⟨us, []⟩ = pure (li.ps.zip us) := by
      intro j li e hn
      match j, e with
      | 0, e => cases e; exact lam_b1 rfl lam_row
      | 1, e => cases e; exact lam_b1 rfl lam_row
      | 2, e => cases e; exact nomatch hn
      | 3, e => cases e; exact nomatch hn
      | 4, e => cases e; exact nomatch hn
      | 5, e => cases e; exact nomatch hn
      | 6, e => cases e; exact nomatch hn
      | 7, e => cases e; exact nomatch hn
      | _ + 8, e => exact nomatch e
    have hEx : ∀ (P : Program) (w : World) (base : Heap), ∀ p ∈ pg.excs, ∀ nm, exNames[p.1]? = some nm → ExcOk P w K mg base (CA p.1) nm p.2 := by
      intro P w base
      show ∀ p ∈ ([(0, ["part", "number"]), (1, []), (3, ["number"]), (4, [])] : List (Nat × List Str)), ∀ nm, exNames[p.1]? = some nm → ExcOk P w K mg base (CA p.1) nm p.2
      exact List.forall_mem_cons.mpr ⟨fun nm e => by cases e; exact exc_ini2 (st := (inClass (top 3) 0)) ⟨PySem.W.mg_of X G x12, y0, y1, y2⟩ ⟨⟨nmE0, qE0, NE0, bsE0, bmE0, snE0, sbE0, abE0, coE0, ddE0, m0E0, m1E0, m2E0, m3E0, m5E0, el0, er0⟩, ea0, es0, et0, ek0⟩ (PySem.W.mg_of X G x0) epart0 enumber0 en0 ef0 eg0 eh0 (⟨_, _, _, _, _, _, _, _, _, _, _, _, _, _, _, rfl, rfl⟩ : Init2 "part" "number" (defBody (inClass (top 3) 0))) (by decide +kernel) (fun us h1 => match us, h1 with | [_, _, _], _ => rfl),
    List.forall_mem_cons.mpr ⟨fun nm e => by cases e; exact exc_own (PySem.W.mg_of X G x1) ek1 es1 et1 ei1,
    List.forall_mem_cons.mpr ⟨fun nm e => by cases e; exact exc_ini1 (st := (inClass (top 6) 0)) ⟨PySem.W.mg_of X G x12, y0, y1, y2⟩ ⟨⟨nmE3, qE3, NE3, bsE3, bmE3, snE3, sbE3, abE3, coE3, ddE3, m0E3, m1E3, m2E3, m3E3, m5E3, el3, er3⟩, ea3, es3, et3, ek3⟩ (PySem.W.mg_of X G x3) enumber3 en3 ef3 eg3 eh3 (⟨_, _, _, _, _, _, _, _, _, _, _, rfl, rfl⟩ : Init1 "number" (defBody (inClass (top 6) 0))) (by decide +kernel) (fun us h1 => match us, h1 with | [_, _], _ => rfl),
    List.forall_mem_cons.mpr ⟨fun nm e => by cases e; exact exc_own (PySem.W.mg_of X G x4) ek4 es4 et4 ei4,
    List.forall_mem_nil _⟩⟩⟩⟩
    exact ⟨fun i di e => hDf di (List.mem_of_getElem? e), fun _ _ _ _ => Iff.rfl, hBi, fun x d e => const_ok hCo x d e, hBl, by decide +kernel, fun P w base => exc_all (hEx P w base), hCl, fun c m f e => hMe (c, m, f) e, fun c f e => hFl (c, f) e⟩
  letI : LX := lxOf pg [] (lamT ms) CI
  refine ⟨_, lamCs ms, spLaw K (lamCs ms), ?_, ?_, ?_, ?_, fun H a ns hl hbits hH hS => ⟨rfl, a, ns, rfl, hl, hH, hS, fun _ => rfl⟩, fun base hK hN hT => law_cap (wf := (10 ^ 100)) (n := 20) (kd := true) (lm := true) O hT (fun H h => lamT_tabs h) (law_fd l34 c34 k34) sc_law ck_law ?_ ?_ ?_ law_true⟩
  · exact List.forall_mem_cons.mpr ⟨hOwn "need_goods" (by simp) _ (PySem.W.mg_of X G a6) C6 P6 _ _ _ _ _ _ l6 rfl rfl j6 m6,
    List.forall_mem_cons.mpr ⟨hOwn "law" (by simp) _ (PySem.W.mg_of X G a34) C34 P34 _ _ _ _ _ _ l34 rfl rfl j34 m34,
    List.forall_mem_nil _⟩⟩
  · exact List.forall_mem_cons.mpr ⟨p6,
    List.forall_mem_cons.mpr ⟨p34,
    List.forall_mem_nil _⟩⟩
  · exact List.forall_mem_cons.mpr ⟨PySem.W.codeHd_of_K X o6,
    List.forall_mem_cons.mpr ⟨PySem.W.codeHd_of_K X o34,
    List.forall_mem_nil _⟩⟩
  · exact fun s u => .of_eq rfl
  · intro _ CL
    letI : LX := lxOf pg CL (lamT ms) CI
    exact ⟨⟨C34, P34, hT (C34, P34) (by simp [lamCs, ms]), rfl, (by show _ ∈ lamT ms; simp [lamT, ms]), hU34⟩⟩
  · intro j li sc e hc
    match j, e with
    | 0, e => cases e; exact nomatch hc
    | 1, e => cases e; exact nomatch hc
    | 2, e => cases e; cases hc; exact ⟨rfl, rfl⟩
    | 3, e => cases e; cases hc; exact ⟨rfl, rfl⟩
    | 4, e => cases e; cases hc; exact ⟨rfl, rfl⟩
    | 5, e => cases e; cases hc; exact ⟨rfl, rfl⟩
    | 6, e => cases e; cases hc; exact ⟨rfl, rfl⟩
    | 7, e => cases e; cases hc; exact ⟨rfl, rfl⟩
    | _ + 8, e => exact nomatch e
  · intro _
    refine ⟨kf, X12, kok_mk (PySem.W.mg_of X G ka) kk kl kc kind_body (by decide +kernel) (fun us h1 => match us, h1 with | [_], _ => rfl), kf_ok kb ?_ (PySem.W.mg_of X G x12) (PySem.W.mg_none_of X G z0) (PySem.W.mg_none_of X G kv)⟩
    show ∀ p ∈ ([("BadGoods", X0), ("BadKiln", X1), ("BadFiring", X2), ("BadPots", X3), ("BadCount", X4), ("BadLoad", X5), ("NoPot", X6), ("NoClay", X7), ("NoGlaze", X8), ("BadDay", X9), ("BadDeed", X10), ("BadText", X11)] : List (Str × Addr)), mg p.1 = some (.ref p.2)
    exact List.forall_mem_cons.mpr ⟨PySem.W.mg_of X G x0,
    List.forall_mem_cons.mpr ⟨PySem.W.mg_of X G x1,
    List.forall_mem_cons.mpr ⟨PySem.W.mg_of X G x2,
    List.forall_mem_cons.mpr ⟨PySem.W.mg_of X G x3,
    List.forall_mem_cons.mpr ⟨PySem.W.mg_of X G x4,
    List.forall_mem_cons.mpr ⟨PySem.W.mg_of X G x5,
    List.forall_mem_cons.mpr ⟨PySem.W.mg_of X G x6,
    List.forall_mem_cons.mpr ⟨PySem.W.mg_of X G x7,
    List.forall_mem_cons.mpr ⟨PySem.W.mg_of X G x8,
    List.forall_mem_cons.mpr ⟨PySem.W.mg_of X G x9,
    List.forall_mem_cons.mpr ⟨PySem.W.mg_of X G x10,
    List.forall_mem_cons.mpr ⟨PySem.W.mg_of X G x11,
    List.forall_mem_nil _⟩⟩⟩⟩⟩⟩⟩⟩⟩⟩⟩⟩
theorem walk {l : PySem.W.OpenLaw} {q : Program} {loose : List Str} {XP : (Str → Option Value) → Heap → Prop} {YP : World → Heap → Prop} {d : DefRec} {K : Params → PySem.W.Frag} (hn : l.most = some 63) (hdf : d.params.defaults = []) (hrec : ∀ nm ∈ (["need_goods", "law"] : List Str), ((recsOf q).any fun e => e.name == nm) = true)
    (hY : ∀ (w : World) (h : Heap), YP w h → (K w.params).In h)
    (F : ∀ (w : World) (mg : Str → Option Value) (fa : Addr) (h : Heap), (K w.params).In h → h.Ns mainGlobals mg → mg d.name = some (.ref fa) → (∀ nm ∈ (["need_goods", "law"] : List Str), ∀ fb, mg nm = some (.ref fb) → LamX.OwnTab (K w.params) fb h) →
      LamX.LawAtS l w (K w.params) (L2.CX l.prog w) (2 * 20 + 4) 63 "_law_script" mg fa h) :
    PySem.W.WalkO q loose XP YP l.row.toRowW d [] (fun f vs => PySem.call f vs) :=
  walkLam (CX := fun w => L2.CX l.prog w) _ hn hdf ⟨rfl, by decide, by decide⟩ hrec hY F
    fun _ _ _ _ _ h => (by obtain ⟨_, _, _, _, _, _, _, _, _, _, _, _, z⟩ := h; exact z)
end K01

open PySem PySem.W PyProof.Rows
set_option maxRecDepth 100000 in
set_option maxHeartbeats 0 in
theorem PySem.Challenge.cw_kilnhouse_k01_goods_and_kilns_refused_holds : PySem.Challenge.rw_kilnhouse_k01_goods_and_kilns_refused.Holds := by
  w_on; o_law; k_head; (case hw => w_witness2)
  k_fill
  refine K01.walk (l := PySem.Challenge.rw_kilnhouse_k01_goods_and_kilns_refused) rfl rfl (by decide +kernel) (fun w h Y => by first | exact PySem.W.kIn_of Y | exact PySem.W.km_in_of Y) ?F
  case F =>
    intro w mg fa h KX G hmg hOwn
    refine' K01.all_mk KX G hmg hOwn ?cA0 ?cB0 ?cC0 ?cD0 ?cE0 ?cF0 ?cG0 ?nA0 ?nA1 ?nA2 ?nA3 ?nA4 ?nA5 ?nA6 ?nA7 ?a0 ?l0 ?c0 ?k0 ?a1 ?l1 ?c1 ?k1 ?a2 ?l2 ?c2 ?k2 ?a3 ?l3 ?c3 ?k3 ?a4 ?l4 ?c4 ?k4 ?a5 ?l5 ?c5 ?k5 ?a6 ?l6 ?c6 ?k6 ?j6 ?m6 ?o6 ?p6 ?a7 ?l7 ?c7 ?k7 ?a8 ?l8 ?c8 ?k8 ?a9 ?l9 ?c9 ?k9 ?a10 ?l10 ?c10 ?k10 ?a11 ?l11 ?c11 ?k11 ?a12 ?l12 ?c12 ?k12 ?a13 ?l13 ?c13 ?k13 ?a14 ?l14 ?c14 ?k14 ?a15 ?l15 ?c15 ?k15 ?a16 ?l16 ?c16 ?k16 ?a17 ?l17 ?c17 ?k17 ?a18 ?l18 ?c18 ?k18 ?a19 ?l19 ?c19 ?k19 ?a20 ?l20 ?c20 ?k20 ?a21 ?l21 ?c21 ?k21 ?a22 ?l22 ?c22 ?k22 ?a23 ?l23 ?c23 ?k23 ?a24 ?l24 ?c24 ?k24 ?a25 ?l25 ?c25 ?k25 ?a26 ?l26 ?c26 ?k26 ?a27 ?l27 ?c27 ?k27 ?a28 ?l28 ?c28 ?k28 ?a29 ?l29 ?c29 ?k29 ?a30 ?l30 ?c30 ?k30 ?a31 ?l31 ?c31 ?k31 ?h32 ?t32 ?l32 ?c32 ?k32 ?h33 ?t33 ?l33 ?c33 ?k33 ?a34 ?l34 ?c34 ?k34 ?j34 ?m34 ?o34 ?p34 ?x0 ?x1 ?x2 ?x3 ?x4 ?x5 ?x6 ?x7 ?x8 ?x9 ?x10 ?x11 ?x12 ?y0 ?y1 ?y2 ?ek0 ?es0 ?et0 ?el0 ?er0 ?ea0 ?en0 ?ef0 ?eg0 ?eh0 ?epart0 ?enumber0 ?ek1 ?es1 ?et1 ?ei1 ?ek3 ?es3 ?et3 ?el3 ?er3 ?ea3 ?en3 ?ef3 ?eg3 ?eh3 ?enumber3 ?ek4 ?es4 ?et4 ?ei4 ?kb ?kv ?ka ?kl ?kc ?kk ?v0 ?v1 ?v2 ?v3 ?v4 ?v5 ?v6 ?v7 ?v8 ?v9 ?v10 ?v11 ?v12 ?w12 ?v13 ?v14 ?z0 ?z1 ?z2 ?z3 ?z4 ?z5 ?z6 ?z7 ?z8 ?z9 ?z10 ?z11 ?z12 ?z13 ?z14 ?z15 ?z16 ?z17 ?u0_1
    (case cA0 => k_is)
    (case cB0 => k_is)
    (case cC0 => k_is)
    (case cD0 => k_is)
    (case cE0 => k_is)
    (case cF0 => k_is)
    (case cG0 => k_is)
    (case nA0 => k_is)
    (case nA1 => k_is)
    (case nA2 => k_is)
    (case nA3 => k_is)
    (case nA4 => k_is)
    (case nA5 => k_is)
    (case nA6 => k_is)
    (case nA7 => k_is)
    (case a0 => k_is)
    (case l0 => k_is)
    (case c0 => k_is)
    (case k0 => k_is)
    (case a1 => k_is)
    (case l1 => k_is)
    (case c1 => k_is)
    (case k1 => k_is)
    (case a2 => k_is)
    (case l2 => k_is)
    (case c2 => k_is)
    (case k2 => k_is)
    (case a3 => k_is)
    (case l3 => k_is)
    (case c3 => k_is)
    (case k3 => k_is)
    (case a4 => k_is)
    (case l4 => k_is)
    (case c4 => k_is)
    (case k4 => k_is)
    (case a5 => k_is)
    (case l5 => k_is)
    (case c5 => k_is)
    (case k5 => k_is)
    (case a6 => k_is)
    (case l6 => k_is)
    (case c6 => k_is)
    (case k6 => k_is)
    (case j6 => k_is)
    (case m6 => rfl)
    (case o6 => kernel_rfl)
    (case p6 => kernel_rfl)
    (case a7 => k_is)
    (case l7 => k_is)
    (case c7 => k_is)
    (case k7 => k_is)
    (case a8 => k_is)
    (case l8 => k_is)
    (case c8 => k_is)
    (case k8 => k_is)
    (case a9 => k_is)
    (case l9 => k_is)
    (case c9 => k_is)
    (case k9 => k_is)
    (case a10 => k_is)
    (case l10 => k_is)
    (case c10 => k_is)
    (case k10 => k_is)
    (case a11 => k_is)
    (case l11 => k_is)
    (case c11 => k_is)
    (case k11 => k_is)
    (case a12 => k_is)
    (case l12 => k_is)
    (case c12 => k_is)
    (case k12 => k_is)
    (case a13 => k_is)
    (case l13 => k_is)
    (case c13 => k_is)
    (case k13 => k_is)
    (case a14 => k_is)
    (case l14 => k_is)
    (case c14 => k_is)
    (case k14 => k_is)
    (case a15 => k_is)
    (case l15 => k_is)
    (case c15 => k_is)
    (case k15 => k_is)
    (case a16 => k_is)
    (case l16 => k_is)
    (case c16 => k_is)
    (case k16 => k_is)
    (case a17 => k_is)
    (case l17 => k_is)
    (case c17 => k_is)
    (case k17 => k_is)
    (case a18 => k_is)
    (case l18 => k_is)
    (case c18 => k_is)
    (case k18 => k_is)
    (case a19 => k_is)
    (case l19 => k_is)
    (case c19 => k_is)
    (case k19 => k_is)
    (case a20 => k_is)
    (case l20 => k_is)
    (case c20 => k_is)
    (case k20 => k_is)
    (case a21 => k_is)
    (case l21 => k_is)
    (case c21 => k_is)
    (case k21 => k_is)
    (case a22 => k_is)
    (case l22 => k_is)
    (case c22 => k_is)
    (case k22 => k_is)
    (case a23 => k_is)
    (case l23 => k_is)
    (case c23 => k_is)
    (case k23 => k_is)
    (case a24 => k_is)
    (case l24 => k_is)
    (case c24 => k_is)
    (case k24 => k_is)
    (case a25 => k_is)
    (case l25 => k_is)
    (case c25 => k_is)
    (case k25 => k_is)
    (case a26 => k_is)
    (case l26 => k_is)
    (case c26 => k_is)
    (case k26 => k_is)
    (case a27 => k_is)
    (case l27 => k_is)
    (case c27 => k_is)
    (case k27 => k_is)
    (case a28 => k_is)
    (case l28 => k_is)
    (case c28 => k_is)
    (case k28 => k_is)
    (case a29 => k_is)
    (case l29 => k_is)
    (case c29 => k_is)
    (case k29 => k_is)
    (case a30 => k_is)
    (case l30 => k_is)
    (case c30 => k_is)
    (case k30 => k_is)
    (case a31 => k_is)
    (case l31 => k_is)
    (case c31 => k_is)
    (case k31 => k_is)
    (case h32 => k_is)
    (case t32 => k_is)
    (case l32 => k_is)
    (case c32 => k_is)
    (case k32 => k_is)
    (case h33 => k_is)
    (case t33 => k_is)
    (case l33 => k_is)
    (case c33 => k_is)
    (case k33 => k_is)
    (case a34 => k_is)
    (case l34 => k_is)
    (case c34 => k_is)
    (case k34 => k_is)
    (case j34 => k_is)
    (case m34 => rfl)
    (case o34 => kernel_rfl)
    (case p34 => kernel_rfl)
    (case x0 => k_is)
    (case x1 => k_is)
    (case x2 => k_is)
    (case x3 => k_is)
    (case x4 => k_is)
    (case x5 => k_is)
    (case x6 => k_is)
    (case x7 => k_is)
    (case x8 => k_is)
    (case x9 => k_is)
    (case x10 => k_is)
    (case x11 => k_is)
    (case x12 => k_is)
    (case y0 => k_is)
    (case y1 => k_is)
    (case y2 => k_is)
    (case ek0 => k_is)
    (case es0 => k_is)
    (case et0 => k_is)
    (case el0 => k_is)
    (case er0 => kernel_rfl)
    (case ea0 => k_is)
    (case en0 => k_is)
    (case ef0 => k_is)
    (case eg0 => k_is)
    (case eh0 => k_is)
    (case epart0 => k_is)
    (case enumber0 => k_is)
    (case ek1 => k_is)
    (case es1 => k_is)
    (case et1 => k_is)
    (case ei1 => k_exc)
    (case ek3 => k_is)
    (case es3 => k_is)
    (case et3 => k_is)
    (case el3 => k_is)
    (case er3 => kernel_rfl)
    (case ea3 => k_is)
    (case en3 => k_is)
    (case ef3 => k_is)
    (case eg3 => k_is)
    (case eh3 => k_is)
    (case enumber3 => k_is)
    (case ek4 => k_is)
    (case es4 => k_is)
    (case et4 => k_is)
    (case ei4 => k_exc)
    (case kb => kernel_rfl)
    (case kv => k_is)
    (case ka => k_is)
    (case kl => k_is)
    (case kc => k_is)
    (case kk => k_is)
    (case v0 => k_is)
    (case v1 => k_is)
    (case v2 => k_is)
    (case v3 => k_is)
    (case v4 => k_is)
    (case v5 => k_is)
    (case v6 => k_is)
    (case v7 => k_is)
    (case v8 => k_is)
    (case v9 => k_is)
    (case v10 => k_is)
    (case v11 => k_is)
    (case v12 => k_is)
    (case w12 => k_is)
    (case v13 => k_is)
    (case v14 => k_is)
    (case z0 => k_is)
    (case z1 => k_is)
    (case z2 => k_is)
    (case z3 => k_is)
    (case z4 => k_is)
    (case z5 => k_is)
    (case z6 => k_is)
    (case z7 => k_is)
    (case z8 => k_is)
    (case z9 => k_is)
    (case z10 => k_is)
    (case z11 => k_is)
    (case z12 => k_is)
    (case z13 => k_is)
    (case z14 => k_is)
    (case z15 => k_is)
    (case z16 => k_is)
    (case z17 => k_is)
    (case u0_1 => rfl)
#print axioms PySem.Challenge.cw_kilnhouse_k01_goods_and_kilns_refused_holds
