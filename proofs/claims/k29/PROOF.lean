import PyProof.Rows.All
import HandS.Deep
import HandS.Defaults
import HandS.Dict
import HandS.EndTab
import HandS.ExcCtx
import HandS.ExcIs
import HandS.ExcOwn
import HandS.Flow
import HandS.ForExc
import HandS.ForMost
import HandS.Head0
import HandS.Head1
import HandS.Head2
import HandS.HeadEnd
import HandS.HeadHook1
import HandS.HeadHook2
import HandS.HeadHook4
import HandS.HotCalls
import HandS.IsInst
import HandS.Lambda
import HandS.More
import HandS.RaiseMore
import HandS.SetFor
import HandS.Text
import HandS.Wide
import KE.IntTextLaws
import KE.KDictDisplayH
import KE.KDictKeyed
import KE.KStateDown
import OpenK.AllK
import PySem.Challenge.RW_soundwell_k29_whole_unfolded_to_the_end
import Wide.All
import Wide.FinOn
/-! part RfCore -/
set_option autoImplicit false
set_option linter.all false
/-! RfCore: data trees, the small language, its evaluator. No program, no model in sight. -/
namespace Rf

abbrev Tx := List Nat

inductive D where
  | non | bl (b : Bool) | int (i : Int) | str (s : Tx) | tup (xs : List D) | lst (xs : List D)
  | dic (t : Bool) (kvs : List (D × D)) | obj (c : Nat) (fs : List D) | exn (c : Nat) (fs : List D)
  deriving Inhabited

inductive Out (α : Type) where
  | ok (a : α) | exc (c : Nat) (fs : List D) | bad

namespace Out
variable {α β : Type}
def bind (x : Out α) (f : α → Out β) : Out β :=
  match x with
  | ok a => f a
  | exc c fs => exc c fs
  | bad => bad
@[simp] theorem bind_ok (a : α) (f : α → Out β) : (ok a).bind f = f a := rfl
@[simp] theorem bind_exc (c : Nat) (fs : List D) (f : α → Out β) : (exc c fs : Out α).bind f = exc c fs := rfl
@[simp] theorem bind_bad (f : α → Out β) : (bad : Out α).bind f = bad := rfl
def map (f : α → β) (x : Out α) : Out β := x.bind fun a => ok (f a)
@[simp] theorem map_ok (a : α) (f : α → β) : (ok a).map f = ok (f a) := rfl
def ofOpt (x : Option α) : Out α := match x with | some a => ok a | none => bad
@[simp] theorem ofOpt_some (a : α) : ofOpt (some a) = ok a := rfl
@[simp] theorem ofOpt_none : ofOpt (none : Option α) = bad := rfl
end Out
open Out

/-! ### data -/
mutual
def D.dep : D → Nat
  | .tup xs => depL xs + 1
  | .lst xs => depL xs + 1
  | .non => 0 | .bl _ => 0 | .int _ => 0 | .str _ => 0 | .dic _ _ => 0 | .obj _ _ => 0 | .exn _ _ => 0
def depL : List D → Nat
  | [] => 0
  | x :: xs => max x.dep (depL xs)
end
mutual
/-- none, truths, intsD, texts, lists, tuples alone -/
def D.plain : D → Bool
  | .tup xs => plainL xs
  | .lst xs => plainL xs
  | .non => true | .bl _ => true | .int _ => true | .str _ => true | .dic _ _ => false | .obj _ _ => false | .exn _ _ => false
def plainL : List D → Bool
  | [] => true
  | x :: xs => x.plain && plainL xs
end
mutual
/-- no list, no dict in it -/
def D.flat : D → Bool
  | .tup xs => flatL xs
  | .obj _ xs => flatL xs
  | .exn _ xs => flatL xs
  | .non => true | .bl _ => true | .int _ => true | .str _ => true | .dic _ _ => false | .lst _ => false
def flatL : List D → Bool
  | [] => true
  | x :: xs => x.flat && flatL xs
end
mutual
/-- Python's == on such data -/
def D.eqv : D → D → Bool
  | .non, y => match y with | .non => true | _ => false
  | .bl a, y => match y with | .bl b => a == b | .int j => (if a then 1 else 0) == j | _ => false
  | .int i, y => match y with | .int j => i == j | .bl b => i == (if b then 1 else 0) | _ => false
  | .str x, y => match y with | .str z => x == z | _ => false
  | .lst xs, y => match y with | .lst ys => eqvL xs ys | _ => false
  | .tup xs, y => match y with | .tup ys => eqvL xs ys | _ => false
  | .dic _ _, _ => false
  | .obj _ _, _ => false
  | .exn _ _, _ => false
def eqvL : List D → List D → Bool
  | [], ys => match ys with | [] => true | _ => false
  | x :: xs, ys => match ys with | [] => false | y :: ys => x.eqv y && eqvL xs ys
end
/-! ### keys, dicts -/
mutual
def D.hsh : D → Bool
  | .int _ => true | .str _ => true | .tup xs => hshL xs
  | .non => false | .bl _ => false | .lst _ => false | .dic _ _ => false | .obj _ _ => false | .exn _ _ => false
def hshL : List D → Bool
  | [] => true
  | x :: xs => x.hsh && hshL xs
end
/-- a key of a dict of tuples (t), of whole numbers and texts -/
def keyB (t : Bool) (k : D) : Bool := match k with
  | .tup _ => t && (k.hsh && decide (k.dep ≤ 8))
  | .int _ => !t
  | .str _ => !t
  | _ => false
def dgetD (kvs : List (D × D)) (k : D) : Option D := (kvs.find? fun p => p.1.eqv k).map (·.2)
def dputD (kvs : List (D × D)) (k v : D) : List (D × D) := if kvs.any (fun p => p.1.eqv k) then kvs.map (fun p => if p.1.eqv k then (p.1, v) else p) else kvs ++ [(k, v)]
/-- == may be asked -/
def eqOk (x y : D) : Bool := x.plain && y.plain && decide (min x.dep y.dep ≤ 64)
def eqD (x y : D) : Out Bool := if eqOk x y then ok (x.eqv y) else bad
/-- x in ys -/
def memD (x : D) (ys : List D) : Out Bool := if x.plain && plainL ys && decide (min (depL ys) x.dep ≤ 64) then ok (ys.any fun y => y.eqv x) else bad

def truthy : D → Out Bool
  | .non => ok false
  | .bl b => ok b
  | .int i => ok (i != 0)
  | .str s => ok (!s.isEmpty)
  | .tup xs => ok (!xs.isEmpty)
  | .lst xs => ok (!xs.isEmpty)
  | .dic _ _ => bad
  | .obj _ _ => bad
  | .exn _ _ => bad

/-- the most of a size -/
def SZ : Nat := 16000000

inductive Bop where | add | sub | mul | fdiv | mod | pow | shl
  deriving DecidableEq
inductive Cop where | eq | ne | lt | le | gt | ge | is | isn | inn | nin
  deriving DecidableEq
inductive Ty where | int | bool | str | tuple | list | dict | cls (c : Nat)
  deriving DecidableEq
inductive Bi where | len | all | sum | max | min | int | str | list | tuple | dict | sorted
  deriving DecidableEq
inductive Me where | join | split | partition | strip | count | get | items
  deriving DecidableEq

/-- a product may be asked: a factor of 64 bits, or two of 500,000 at most -/
def mulOk (i j : Int) : Bool := decide (i.natAbs < 2 ^ 64) || decide (j.natAbs < 2 ^ 64) || (decide (i.natAbs < 2 ^ 500000) && decide (j.natAbs < 2 ^ 500000))
def bopD : Bop → D → D → Out D
  | .add, x, y => match x, y with
    | .int i, .int j => ok (.int (i + j))
    | .str a, .str b => if a.length + b.length ≤ SZ then ok (.str (a ++ b)) else bad
    | .lst a, .lst b => if a.length + b.length ≤ SZ then ok (.lst (a ++ b)) else bad
    | .tup a, .tup b => if a.length + b.length ≤ SZ then ok (.tup (a ++ b)) else bad
    | _, _ => bad
  | .sub, x, y => match x, y with
    | .int i, .int j => ok (.int (i - j))
    | _, _ => bad
  | .mul, x, y => match x, y with
    | .int i, .int j => if mulOk i j then ok (.int (i * j)) else bad
    | .lst a, .int n => if n < 2 ^ 32 ∧ -(2 ^ 32) < n ∧ a.length * n.toNat ≤ SZ then ok (.lst (List.replicate n.toNat a).flatten) else bad
    | .str a, .int n => if n < 2 ^ 32 ∧ -(2 ^ 32) < n ∧ a.length * n.toNat ≤ SZ then ok (.str (List.replicate n.toNat a).flatten) else bad
    | _, _ => bad
  | .fdiv, x, y => match x, y with
    | .int i, .int j => if 0 < j ∧ j < 2 ^ 8000 then ok (.int (i / j)) else bad
    | _, _ => bad
  | .mod, x, y => match x, y with
    | .int i, .int j => if 0 < j then ok (.int (i % j)) else bad
    | _, _ => bad
  | .pow, x, y => match x, y with
    | .int i, .int j => if 0 ≤ j ∧ j ≤ 1000000 ∧ i.natAbs < 2 ^ 64 then ok (.int (i ^ j.toNat)) else bad
    | _, _ => bad
  | .shl, x, y => match x, y with
    | .int i, .int j => if 0 ≤ j ∧ j ≤ 1000000 ∧ i.natAbs < 2 ^ 64 then ok (.int (i * 2 ^ j.toNat)) else bad
    | _, _ => bad

def intCmp (p : Int → Int → Bool) (x y : D) : Out D := match x, y with
  | .int i, .int j => ok (.bl (p i j))
  | _, _ => bad
def inD (x y : D) : Out Bool := match y with
  | .lst ys => memD x ys
  | .tup ys => memD x ys
  | .str s => match x with
    | .str [c] => ok (decide (c ∈ s))
    | _ => bad
  | .dic t kvs => if keyB t x then ok (dgetD kvs x).isSome else bad
  | _ => bad
def cmpD : Cop → D → D → Out D
  | .eq, x, y => (eqD x y).map .bl
  | .ne, x, y => (eqD x y).map fun b => .bl (!b)
  | .lt, x, y => intCmp (fun i j => decide (i < j)) x y
  | .le, x, y => intCmp (fun i j => decide (i ≤ j)) x y
  | .gt, x, y => intCmp (fun i j => decide (j < i)) x y
  | .ge, x, y => intCmp (fun i j => decide (j ≤ i)) x y
  | .is, x, y => match y with | .non => (match x with | .non => ok (.bl true) | _ => ok (.bl false)) | _ => bad
  | .isn, x, y => match y with | .non => (match x with | .non => ok (.bl false) | _ => ok (.bl true)) | _ => bad
  | .inn, x, y => (inD x y).map .bl
  | .nin, x, y => (inD x y).map fun b => .bl (!b)

/-- an index as Python has it -/
def ixn (n : Nat) (i : Int) : Option Nat := if 0 ≤ i then (if i < n then some i.toNat else none) else if -(n : Int) ≤ i then some (i + n).toNat else none
def atD {α : Type} (xs : List α) (i : Int) : Out α := ofOpt ((ixn xs.length i).bind fun j => xs[j]?)
def subD : D → D → Out D
  | x, y => match x, y with
    | .tup xs, .int i => atD xs i
    | .lst xs, .int i => atD xs i
    | .str s, .int i => (atD s i).map fun c => .str [c]
    | .dic t kvs, k => if keyB t k then ofOpt (dgetD kvs k) else bad
    | _, _ => bad
/-- a slice's bound -/
def six (n d : Nat) : Option Int → Nat
  | none => d
  | some v => if v < 0 then (v + n).toNat else min v.toNat n
def cut {α : Type} (xs : List α) (lo hi : Option Int) : List α := (xs.drop (six xs.length 0 lo)).take (six xs.length xs.length hi - six xs.length 0 lo)
def boundD : D → Out (Option Int)
  | .non => ok none
  | .int i => ok (some i)
  | _ => bad
def sliceD (x : D) (lo hi : Option Int) : Out D := match x with
  | .str s => ok (.str (cut s lo hi))
  | .lst xs => ok (.lst (cut xs lo hi))
  | _ => bad

/-- which class stands under which: 0 NoRule 1 TooGreat 2 Untrue 3 BadText 4 BadRow 5 NoSuch 6 WellError 7 ValueError 8 Sentence -/
def subC (c d : Nat) : Bool := c == d || (decide (c < 6) && (d == 6 || d == 7)) || (c == 6 && d == 7)
def instD (x : D) : Ty → Bool
  | .int => match x with | .int _ => true | .bl _ => true | _ => false
  | .bool => match x with | .bl _ => true | _ => false
  | .str => match x with | .str _ => true | _ => false
  | .tuple => match x with | .tup _ => true | _ => false
  | .list => match x with | .lst _ => true | _ => false
  | .dict => match x with | .dic _ _ => true | _ => false
  | .cls c => match x with | .obj d _ => subC d c | .exn d _ => subC d c | _ => false

/-- isinstance may be asked -/
def instOk (x : D) (t : Ty) : Bool := match t with
  | .cls c => (match x with | .obj d _ => d == c | _ => false)
  | _ => (match x with | .obj _ _ => false | .exn _ _ => false | _ => true)
def boolsD : List D → Out (List Bool)
  | [] => ok []
  | x :: xs => match x with
    | .bl b => (boolsD xs).map fun bs => b :: bs
    | _ => bad
def intsD : List D → Out (List Int)
  | [] => ok []
  | x :: xs => match x with
    | .int i => (intsD xs).map fun is => i :: is
    | _ => bad
/-- a number's figures, and back -/
def numTx (n : Nat) : Tx := (Nat.toDigits 10 n).map Char.toNat
def digB (s : Tx) : Bool := !s.isEmpty && s.all (fun c => decide (48 ≤ c) && decide (c ≤ 57))
def digV (s : Tx) : Nat := s.foldl (fun acc c => acc * 10 + (c - 48)) 0
/-- a text of figures may be made -/
def numOk (i : Int) : Bool := decide (0 ≤ i) && (decide (i < 2 ^ 1900) && (decide ((numTx i.toNat).length ≤ 1000) && (numTx i.toNat).all fun c => decide (c < 0x110000)))
/-- texts in their order -/
def ltT : Tx → Tx → Bool
  | [], [] => false
  | [], _ :: _ => true
  | _ :: _, [] => false
  | a :: x, b :: y => decide (a < b) || (decide (a = b) && ltT x y)
def insT (x : Tx) : List Tx → List Tx
  | [] => [x]
  | y :: ys => if ltT y x then y :: insT x ys else x :: y :: ys
def sortT : List Tx → List Tx
  | [] => []
  | x :: xs => insT x (sortT xs)
def txsK : List (D × D) → Out (List Tx)
  | [] => ok []
  | p :: ps => match p.1 with
    | .str s => (txsK ps).map fun ss => s :: ss
    | _ => bad
def biD : Bi → List D → Out D
  | .len, as => match as with
    | [.tup xs] => ok (.int xs.length)
    | [.lst xs] => ok (.int xs.length)
    | [.str s] => ok (.int s.length)
    | [.dic _ kvs] => ok (.int kvs.length)
    | _ => bad
  | .all, as => match as with
    | [.lst xs] => (boolsD xs).map fun bs => .bl (bs.all id)
    | _ => bad
  | .sum, as => match as with
    | [.lst xs] => (intsD xs).map fun is => .int is.sum
    | _ => bad
  | .max, as => match as with
    | [.int i, .int j] => ok (.int (if j > i then j else i))
    | _ => bad
  | .min, as => match as with
    | [.int i, .int j] => ok (.int (if j < i then j else i))
    | _ => bad
  | .int, as => match as with
    | [.int i] => ok (.int i)
    | [.bl b] => ok (.int (if b then 1 else 0))
    | [.str s] => if digB s && decide (s.length ≤ 640) then ok (.int (digV s)) else bad
    | _ => bad
  | .list, as => match as with
    | [.lst xs] => ok (.lst xs)
    | [.tup xs] => ok (.lst xs)
    | _ => bad
  | .tuple, as => match as with
    | [.lst xs] => ok (.tup xs)
    | [.tup xs] => ok (.tup xs)
    | _ => bad
  | .str, as => match as with
    | [.str s] => ok (.str s)
    | [.int i] => if numOk i then ok (.str (numTx i.toNat)) else bad
    | _ => bad
  | .dict, _ => bad
  | .sorted, as => match as with
    | [.dic false kvs] => (txsK kvs).bind fun ts => if ts.length < 64 then ok (.lst ((sortT ts).map .str)) else bad
    | _ => bad
/-- the texts of a list of texts -/
def txsD : List D → Out (List Tx)
  | [] => ok []
  | x :: xs => match x with
    | .str s => (txsD xs).map fun ss => s :: ss
    | _ => bad
/-- with a text between -/
def joinT (sep : Tx) : List Tx → Tx
  | [] => []
  | [x] => x
  | x :: xs => x ++ (sep ++ joinT sep xs)
def meOk : Me → D → Bool
  | .get, x => (match x with | .dic _ _ => true | _ => false)
  | _, x => (match x with | .str _ => true | _ => false)
def meD : Me → D → List D → Out D
  | .get, x, as => match x, as with
    | .dic t kvs, [k, d] => if keyB t k then ok ((dgetD kvs k).getD d) else bad
    | _, _ => bad
  | .join, x, as => match x, as with
    | .str s, [.lst xs] => (txsD xs).bind fun ts => if (ts.map (·.length)).sum + ts.length * s.length ≤ SZ then ok (.str (joinT s ts)) else bad
    | _, _ => bad
  | _, _, _ => bad

/-- lo, lo + st, .. : n of them -/
def rngL (lo st : Int) (n : Nat) : List D := (List.range n).map fun (k : Nat) => D.int (lo + (k : Int) * st)
def small62 (i : Int) : Bool := decide (-(2 ^ 60) ≤ i) && decide (i < 2 ^ 60)
def rngSz (a b c : Int) : Int :=
  if c > 0 then (if a < b then (b - a - 1) / c + 1 else 0) else (if a > b then (a - b - 1) / (-c) + 1 else 0)
def rngD (as : List D) : Out (List D) := match as with
    | [.int n] => if small62 n then ok (rngL 0 1 n.toNat) else bad
    | [.int a, .int b] => if small62 a && small62 b then ok (rngL a 1 (b - a).toNat) else bad
    | [.int a, .int b, .int c] => if small62 a && small62 b && decide (c ≠ 0) && decide (c.natAbs < 2 ^ 29) then ok (rngL a c (rngSz a b c).toNat) else bad
    | _ => bad

/-! ### the language -/
mutual
inductive E where
  | var (i : Nat) | const (d : D) | tup (es : List E) | lst (es : List E)
  | bop (o : Bop) (a b : E) | neg (a : E) | not (a : E) | cmp (o : Cop) (a b : E) | cmp2 (o o' : Cop) (a b c : E)
  | and (a b : E) | or (a b : E) | ite (c a b : E)
  | call (f : Nat) (es : List E) | bi (b : Bi) (es : List E) | inst (a : E) (t : Ty) | me (m : Me) (a : E) (es : List E)
  | sub (a i : E) | slice (a lo hi : E) | fld (a : E) (f : Nat)
  | comp (x : Nat) (elt : E) (it : Src) (c : E) | dct (t : Bool) (ks vs : List E) | mk (c : Nat) (es : List E)
  | thk (c : Nat) (md : Option Tx) (e : E)
inductive Src where
  | of (e : E) | rng (es : List E) | rev (e : E)
end
inductive S where
  | set (i : Nat) (e : E) | own (i : Nat) (e : E) | unp (is : List Nat) (e : E) | app (i : Nat) (e : E)
  | ret (e : E) | retN | ite (c : E) (a b : List S)
  | for (i : Nat) (it : Src) (body : List S) | forT (is : List Nat) (it : Src) (body : List S) | whl (c : E) (body : List S)
  | raise (c : Nat) | try (body : List S) (c : Nat) (i : Option Nat) (h : List S)
  | brk | cnt | pass | expr (e : E) | frz (i : Nat) (s : S) | tryH (body : List S) (c : Nat) (i : Nat) (d : D) | put (i : Nat) (k v : E) | retF (e : E) | tryC (body : List S) (c : Nat) (cs : List Nat) (j : Nat) (d : D)

/-- a slot -/
inductive Sl where
  | no | val (d : D) | own (d : D)
abbrev Env := List Sl

def getV (ρ : Env) (i : Nat) : Out D := match ρ[i]? with
  | some (.val d) => ok d
  | some (.own d) => ok d
  | _ => bad
/-- a name whose object may be changed yet -/
def E.ownV : E → Env → Bool
  | .var i, ρ => match ρ[i]? with | some (.own _) => true | _ => false
  | _, _ => false
def Src.ownV : Src → Env → Bool
  | .of e, ρ => e.ownV ρ
  | .rng _, _ => false
  | .rev e, ρ => e.ownV ρ
def ownL (es : List E) (ρ : Env) : Bool := es.any fun e => e.ownV ρ

/-- the items that are walked -/
def itemsD : D → Out (List D)
  | .lst xs => ok xs
  | .tup xs => ok xs
  | .str s => ok (s.map fun c => .str [c])
  | _ => bad
/-- within a comprehension nothing may be raised -/
def Out.calm {α : Type} (x : Out α) : Out α := match x with
  | .exc _ _ => bad
  | y => y
@[simp] theorem calm_ok {α : Type} (a : α) : (ok a).calm = ok a := rfl
@[simp] theorem calm_exc {α : Type} (c : Nat) (fs : List D) : (exc c fs : Out α).calm = bad := rfl
@[simp] theorem calm_bad {α : Type} : (bad : Out α).calm = bad := rfl
/-- a comprehension, item by item -/
def compGo (elt c : Env → Out D) (x : Nat) (ρ : Env) : List D → Out (List D)
  | [] => ok []
  | d :: ds => ((c (ρ.set x (.val d))).bind truthy).calm.bind fun t =>
      if t then (elt (ρ.set x (.val d))).calm.bind fun y => (compGo elt c x ρ ds).bind fun ys => ok (y :: ys)
      else compGo elt c x ρ ds
/-- pairs, put one after another -/
def zipPut (t : Bool) : List D → List D → List (D × D) → Out (List (D × D))
  | [], vs, acc => match vs with | [] => ok acc | _ => bad
  | k :: ks, vs, acc => match vs with
    | [] => bad
    | v :: vs => if keyB t k then zipPut t ks vs (dputD acc k v) else bad
/-- a class of exceptions whose instances bear nothing -/
def plainC (c : Nat) : Bool := decide (c < 6) && c != 2
/-- a part that is asked by a def within try: which class it is refused by -/
def thkO (c : Nat) (md : Option Tx) (o : Out D) : Out D := match o with
  | .ok d => (match md with | some _ => if d.flat then .ok d else .bad | none => .ok (.bl false))
  | .exc c' fs => if plainC c' then (if subC c' c then .ok (match md with | some s => .str s | none => .bl true) else .exc c' fs) else .bad
  | .bad => .bad
mutual
def evE (call : Nat → List D → Out D) : E → Env → Out D
  | .var i, ρ => getV ρ i
  | .const d, _ => ok d
  | .tup es, ρ => if ownL es ρ then bad else (evEs call es ρ).map .tup
  | .lst es, ρ => if ownL es ρ then bad else (evEs call es ρ).map .lst
  | .bop o a b, ρ => (evE call a ρ).bind fun x => (evE call b ρ).bind fun y => bopD o x y
  | .neg a, ρ => (evE call a ρ).bind fun x => match x with | .int i => ok (.int (-i)) | _ => bad
  | .not a, ρ => (evE call a ρ).bind fun x => (truthy x).bind fun t => ok (.bl (!t))
  | .cmp o a b, ρ => (evE call a ρ).bind fun x => (evE call b ρ).bind fun y => cmpD o x y
  | .cmp2 o o' a b c, ρ => (evE call a ρ).bind fun x => (evE call b ρ).bind fun y => (cmpD o x y).bind fun z => (truthy z).bind fun t =>
      if t then (evE call c ρ).bind fun u => cmpD o' y u else ok z
  | .and a b, ρ => if a.ownV ρ || b.ownV ρ then bad else (evE call a ρ).bind fun x => (truthy x).bind fun t => if t then evE call b ρ else ok x
  | .or a b, ρ => if a.ownV ρ || b.ownV ρ then bad else (evE call a ρ).bind fun x => (truthy x).bind fun t => if t then ok x else evE call b ρ
  | .ite c a b, ρ => if a.ownV ρ || b.ownV ρ then bad else (evE call c ρ).bind fun x => (truthy x).bind fun t => if t then evE call a ρ else evE call b ρ
  | .call f es, ρ => (evEs call es ρ).bind fun ds => (call f ds).bind fun d => if ownL es ρ && !d.flat then bad else ok d
  | .bi b es, ρ => (evEs call es ρ).bind fun ds => biD b ds
  | .inst a t, ρ => (evE call a ρ).bind fun x => if instOk x t then ok (.bl (instD x t)) else bad
  | .me m a es, ρ => if ownL es ρ then bad else (evE call a ρ).bind fun x => if meOk m x then (evEs call es ρ).bind fun ds => meD m x ds else bad
  | .sub a i, ρ => (evE call a ρ).bind fun x => (evE call i ρ).bind fun y => subD x y
  | .slice a lo hi, ρ => (evE call a ρ).bind fun x => ((evE call lo ρ).bind boundD).bind fun l => ((evE call hi ρ).bind boundD).bind fun h => sliceD x l h
  | .fld a f, ρ => (evE call a ρ).bind fun x => match x with | .obj c fs => if c == 8 then ofOpt fs[f]? else bad | _ => bad
  | .comp x elt it c, ρ => (evIt call it ρ).bind fun ds => if elt.ownV ρ then bad else (compGo (fun ρ' => evE call elt ρ') (fun ρ' => evE call c ρ') x ρ ds).bind fun ys => if ys.length ≤ SZ then ok (.lst ys) else bad
  | .dct t ks vs, ρ => if ownL ks ρ || ownL vs ρ then bad else (evEs call ks ρ).bind fun kds => (evEs call vs ρ).bind fun vds => (zipPut t kds vds []).bind fun kvs => ok (.dic t kvs)
  | .mk c es, ρ => if ownL es ρ then bad else (evEs call es ρ).bind fun ds => ok (.obj c ds)
  | .thk c md e, ρ => if e.ownV ρ then bad else thkO c md (evE call e ρ)
def evEs (call : Nat → List D → Out D) : List E → Env → Out (List D)
  | [], _ => ok []
  | e :: es, ρ => (evE call e ρ).bind fun x => (evEs call es ρ).bind fun xs => ok (x :: xs)
def evIt (call : Nat → List D → Out D) : Src → Env → Out (List D)
  | .of e, ρ => (evE call e ρ).bind itemsD
  | .rng es, ρ => (evEs call es ρ).bind rngD
  | .rev e, ρ => (evE call e ρ).bind fun x => match x with | .lst xs => ok xs.reverse | _ => bad
end

/-- how a statement ends -/
inductive Fl where
  | nxt (ρ : Env) | ret (d : D) | brk (ρ : Env) | cnt (ρ : Env) | exc (c : Nat) (fs : List D) (ρ : Env) | bad
def Out.fl {α : Type} (x : Out α) (ρ : Env) (f : α → Fl) : Fl := match x with
  | .ok a => f a
  | .exc c fs => .exc c fs ρ
  | .bad => .bad
@[simp] theorem fl_ok {α : Type} (a : α) (ρ : Env) (f : α → Fl) : (Out.ok a).fl ρ f = f a := rfl
@[simp] theorem fl_exc {α : Type} (c : Nat) (fs : List D) (ρ : Env) (f : α → Fl) : (Out.exc c fs : Out α).fl ρ f = .exc c fs ρ := rfl
@[simp] theorem fl_bad {α : Type} (ρ : Env) (f : α → Fl) : (Out.bad : Out α).fl ρ f = .bad := rfl
def Fl.seq (x : Fl) (f : Env → Fl) : Fl := match x with
  | .nxt ρ => f ρ
  | y => y
@[simp] theorem seq_nxt (ρ : Env) (f : Env → Fl) : (Fl.nxt ρ).seq f = f ρ := rfl
@[simp] theorem seq_ret (d : D) (f : Env → Fl) : (Fl.ret d).seq f = .ret d := rfl
@[simp] theorem seq_brk (ρ : Env) (f : Env → Fl) : (Fl.brk ρ).seq f = .brk ρ := rfl
@[simp] theorem seq_cnt (ρ : Env) (f : Env → Fl) : (Fl.cnt ρ).seq f = .cnt ρ := rfl
@[simp] theorem seq_exc (c : Nat) (fs : List D) (ρ : Env) (f : Env → Fl) : (Fl.exc c fs ρ).seq f = .exc c fs ρ := rfl
@[simp] theorem seq_bad (f : Env → Fl) : (Fl.bad).seq f = .bad := rfl

/-- names stored one after another -/
def setAll (ρ : Env) : List Nat → List D → Option Env
  | [], ds => match ds with | [] => some ρ | _ => none
  | i :: is, ds => match ds with | [] => none | d :: ds => setAll (ρ.set i (.val d)) is ds
def unpackD (ρ : Env) (is : List Nat) : D → Option Env
  | .tup xs => setAll ρ is xs
  | _ => none
def forGo (body : Env → Fl) (bind : Env → D → Option Env) : List D → Env → Fl
  | [], ρ => .nxt ρ
  | d :: ds, ρ => match bind ρ d with
    | none => .bad
    | some ρ1 => match body ρ1 with
      | .nxt ρ2 => forGo body bind ds ρ2
      | .cnt ρ2 => forGo body bind ds ρ2
      | .brk ρ2 => .nxt ρ2
      | y => y
def whlGo (c : Env → Out Bool) (body : Env → Fl) : Nat → Env → Fl
  | 0, _ => .bad
  | n + 1, ρ => (c ρ).fl ρ fun t => if t then (match body ρ with
      | .nxt ρ2 => whlGo c body n ρ2
      | .cnt ρ2 => whlGo c body n ρ2
      | .brk ρ2 => .nxt ρ2
      | y => y) else .nxt ρ
/-- an expression that makes a new list -/
def E.fresh : E → Bool
  | .lst _ => true
  | .comp _ _ _ _ => true
  | .bi .list _ => true
  | .dct _ _ _ => true
  | .call _ _ => true
  | .bop o _ _ => (match o with | .add => true | _ => false)
  | _ => false
/-- a list, a dict -/
def D.cell : D → Bool
  | .lst _ => true
  | .dic _ _ => true
  | _ => false
/-- from here on the name's list is not changed any more -/
def frzE (ρ : Env) (j : Nat) : Env := match ρ[j]? with
  | some (.own d) => ρ.set j (.val d)
  | _ => ρ
mutual
def evS (call : Nat → List D → Out D) (w : Nat) : S → Env → Fl
  | .set i e, ρ => if e.ownV ρ then .bad else (evE call e ρ).fl ρ fun d => .nxt (ρ.set i (.val d))
  | .own i e, ρ => if e.fresh then (evE call e ρ).fl ρ fun d => (match d with | .lst xs => .nxt (ρ.set i (.own (.lst xs))) | .dic t kvs => .nxt (ρ.set i (.own (.dic t kvs))) | _ => .bad) else .bad
  | .unp is e, ρ => if e.ownV ρ then .bad else (evE call e ρ).fl ρ fun d => match unpackD ρ is d with | some ρ' => .nxt ρ' | none => .bad
  | .app i e, ρ => if e.ownV ρ then .bad else (match ρ[i]? with
      | some (.own (.lst xs)) => (evE call e ρ).fl ρ fun d => if xs.length < SZ then .nxt (ρ.set i (.own (.lst (xs ++ [d])))) else .bad
      | _ => .bad)
  | .ret e, ρ => (evE call e ρ).fl ρ fun d => .ret d
  | .retN, _ => .ret .non
  | .retF e, ρ => if e.fresh then (evE call e ρ).fl ρ fun d => if d.cell then .ret d else .bad else .bad
  | .ite c a b, ρ => ((evE call c ρ).bind truthy).fl ρ fun t => if t then evSs call w a ρ else evSs call w b ρ
  | .for i it body, ρ => if it.ownV ρ then .bad else (evIt call it ρ).fl ρ fun ds => forGo (fun ρ' => evSs call w body ρ') (fun ρ' d => some (ρ'.set i (.val d))) ds ρ
  | .forT is it body, ρ => if it.ownV ρ then .bad else (evIt call it ρ).fl ρ fun ds => forGo (fun ρ' => evSs call w body ρ') (fun ρ' d => unpackD ρ' is d) ds ρ
  | .whl c body, ρ => whlGo (fun ρ' => (evE call c ρ').bind truthy) (fun ρ' => evSs call w body ρ') w ρ
  | .raise c, ρ => .exc c [] ρ
  | .try body c i h, ρ => match evSs call w body ρ with
    | .exc c' fs ρ' => if subC c' c then (match i with
        | none => evSs call w h ρ'
        | some i => match evSs call w h (ρ'.set i (.val (.exn c' fs))) with
          | .nxt ρ2 => .nxt (ρ2.set i .no)
          | .brk ρ2 => .brk (ρ2.set i .no)
          | .cnt ρ2 => .cnt (ρ2.set i .no)
          | .exc c2 fs2 ρ2 => .exc c2 fs2 (ρ2.set i .no)
          | y => y) else .exc c' fs ρ'
    | y => y
  | .brk, ρ => .brk ρ
  | .cnt, ρ => .cnt ρ
  | .pass, ρ => .nxt ρ
  | .expr e, ρ => (evE call e ρ).fl ρ fun _ => .nxt ρ
  | .frz j s, ρ => evS call w s (frzE ρ j)
  | .put i ke ve, ρ => if ke.ownV ρ || ve.ownV ρ then .bad else (evE call ve ρ).fl ρ fun v => (match ρ[i]? with
      | some (.own (.dic t kvs)) => (evE call ke ρ).fl ρ fun k => if keyB t k && decide (kvs.length < SZ) then .nxt (ρ.set i (.own (.dic t (dputD kvs k v)))) else .bad
      | some (.own (.lst xs)) => (evE call ke ρ).fl ρ fun k => (match k with
        | .int j => (match ixn xs.length j with
          | some n => .nxt (ρ.set i (.own (.lst (xs.set n v))))
          | none => .bad)
        | _ => .bad)
      | _ => .bad)
  | .tryC body c cs j d, ρ => match evSs call w body ρ with
    | .exc c' fs ρ' => if c' ∈ cs then (if subC c' c then .nxt (ρ'.set j (.val d)) else .exc c' fs ρ') else .bad
    | y => y
  | .tryH body c i d, ρ => match evSs call w body ρ with
    | .exc c' fs ρ' => if plainC c' then (if subC c' c then (if i < ρ'.length then .ret d else .bad) else .exc c' fs ρ') else .bad
    | y => y
def evSs (call : Nat → List D → Out D) (w : Nat) : List S → Env → Fl
  | [], ρ => .nxt ρ
  | s :: ss, ρ => (evS call w s ρ).seq fun ρ' => evSs call w ss ρ'
end

structure Fn where
  params : Nat
  slots : Nat
  body : List S
def Fl.out : Fl → Out D
  | .nxt _ => ok .non
  | .ret d => ok d
  | .exc c fs _ => Out.exc c fs
  | _ => Out.bad
def start (fn : Fn) (args : List D) : Env := args.map Sl.val ++ List.replicate (fn.slots - fn.params) Sl.no
def run (Φ : Nat → Option Fn) (w : Nat) : Nat → Nat → List D → Out D
  | 0, _, _ => bad
  | n + 1, f, args => match Φ f with
    | none => bad
    | some fn => if args.length = fn.params then (evSs (run Φ w n) w fn.body (start fn args)).out else bad

/-- a def called two calls further down -/
def wrapF (k p : Nat) : Fn := ⟨p, p, [.ret (.call k ((List.range p).map .var))]⟩
theorem bindSome {α β : Type} {o : Option α} {f : α → Option β} {b : β} (h : o.bind f = some b) : ∃ a, o = some a ∧ f a = some b := by
  cases o with
  | none => cases h
  | some a => exact ⟨a, rfl, h⟩
theorem mapSome {α β : Type} {o : Option α} {f : α → β} {b : β} (h : o.map f = some b) : ∃ a, o = some a ∧ b = f a := by
  cases o with
  | none => cases h
  | some a => cases h; exact ⟨a, rfl, rfl⟩
theorem evEs_vars {call : Nat → List D → Out D} : ∀ (ds pre : List D), evEs call ((List.range' pre.length ds.length).map .var) ((pre ++ ds).map Sl.val) = .ok ds
  | [], pre => by simp [evEs]
  | d :: ds, pre => by
    have h := evEs_vars (call := call) ds (pre ++ [d])
    simp only [List.length_append, List.length_cons, List.length_nil, Nat.zero_add, List.append_assoc, List.singleton_append] at h
    have g : getV ((pre ++ d :: ds).map Sl.val) pre.length = .ok d := by
      unfold getV
      simp
    rw [List.length_cons, List.range'_succ, List.map_cons]
    simp only [evEs, evE]
    rw [g, Out.bind_ok, h]
    rfl
theorem ownL_vals {ds : List D} {es : List E} (h : ∀ e ∈ es, ∃ i, e = .var i) : ownL es (ds.map Sl.val) = false := by
  unfold ownL
  rw [List.any_eq_false]
  intro e he
  obtain ⟨i, rfl⟩ := h e he
  simp only [E.ownV]
  rw [List.getElem?_map]
  cases ds[i]? <;> simp
theorem run_wrap {Φ : Nat → Option Fn} {w n k k' p : Nat} {ds : List D} (h : Φ k = some (wrapF k' p)) : run Φ w (n + 1) k ds = if ds.length = p then run Φ w n k' ds else .bad := by
  simp only [run, h]
  have ep : (wrapF k' p).params = p := rfl
  rw [ep]
  by_cases hl : ds.length = p
  · subst hl
    rw [if_pos rfl, if_pos rfl]
    have st : start (wrapF k' ds.length) ds = ds.map Sl.val := by
      unfold start wrapF
      simp
    rw [st]
    show (evSs (run Φ w n) w [.ret (.call k' ((List.range ds.length).map .var))] (ds.map Sl.val)).out = _
    have q := evEs_vars (call := run Φ w n) ds []
    rw [List.length_nil, List.nil_append, ← List.range_eq_range'] at q
    simp only [evSs, evS, evE]
    rw [q, Out.bind_ok, ownL_vals fun e he => ?_]
    · simp only [Bool.false_and, Bool.false_eq_true, if_false]
      cases run Φ w n k' ds <;> rfl
    · obtain ⟨i, _, rfl⟩ := List.mem_map.mp he
      exact ⟨i, rfl⟩
  · rw [if_neg hl, if_neg hl]
theorem rngL_len (lo st : Int) (n : Nat) : (rngL lo st n).length = n := by simp [rngL]
theorem rngL_get (lo st : Int) (n i : Nat) (d : D) (h : (rngL lo st n)[i]? = some d) : d = .int (lo + i * st) := by
  unfold rngL at h
  rw [List.getElem?_map] at h
  cases q : (List.range n)[i]? with
  | none => rw [q] at h; cases h
  | some j =>
    rw [q] at h
    have := List.getElem?_eq_some_iff.mp q
    obtain ⟨hj, e⟩ := this
    rw [List.getElem_range] at e
    subst e
    cases h; rfl
end Rf

/-! part RfSort -/
set_option autoImplicit false
set_option linter.all false
set_option maxRecDepth 100000
/-! RfSort: texts in their order; plain. -/
namespace Rf
theorem ltT_irr : ∀ x : Tx, ltT x x = false
  | [] => rfl
  | a :: x => by simp [ltT, ltT_irr x]
theorem ltT_asym : ∀ {x y : Tx}, ltT x y = true → ltT y x = false
  | [], [], h => by cases h
  | [], _ :: _, h => rfl
  | _ :: _, [], h => by cases h
  | a :: x, b :: y, h => by
    simp only [ltT, Bool.or_eq_true, Bool.and_eq_true, decide_eq_true_eq] at h
    simp only [ltT, Bool.or_eq_false_iff, Bool.and_eq_false_iff, decide_eq_false_iff_not]
    rcases h with h | ⟨h, h2⟩
    · exact ⟨by omega, .inl (by omega)⟩
    · exact ⟨by omega, .inr (ltT_asym h2)⟩
/-- not behind -/
def leT (x y : Tx) : Prop := ltT y x = false
theorem leT_anti : ∀ {x y : Tx}, leT x y → leT y x → x = y
  | [], [], _, _ => rfl
  | [], _ :: _, _, h => by cases h
  | _ :: _, [], h, _ => by cases h
  | a :: x, b :: y, h, h' => by
    simp only [leT, ltT, Bool.or_eq_false_iff, Bool.and_eq_false_iff, decide_eq_false_iff_not] at h h'
    have e : a = b := by omega
    subst e
    rw [leT_anti (x := x) (y := y) (h.2.elim (fun z => (z rfl).elim) id) (h'.2.elim (fun z => (z rfl).elim) id)]
theorem leT_trans : ∀ {x y z : Tx}, leT x y → leT y z → leT x z
  | [], _, [], _, _ => rfl
  | [], _, _ :: _, _, _ => rfl
  | _ :: _, [], _, h, _ => by cases h
  | _ :: _, _ :: _, [], _, h => by cases h
  | a :: x, b :: y, c :: z, h, h' => by
    simp only [leT, ltT, Bool.or_eq_false_iff, Bool.and_eq_false_iff, decide_eq_false_iff_not] at h h' ⊢
    refine ⟨by omega, ?_⟩
    by_cases e : c = a
    · right
      have e1 : b = a := by omega
      have e2 : c = b := by omega
      exact leT_trans (h.2.elim (fun q => (q e1).elim) id) (h'.2.elim (fun q => (q e2).elim) id)
    · exact .inl e
theorem leT_of_lt {x y : Tx} (h : ltT x y = true) : leT x y := ltT_asym h
theorem insT_perm (x : Tx) : ∀ ys : List Tx, (insT x ys).Perm (x :: ys)
  | [] => .refl _
  | y :: ys => by
    unfold insT
    split
    · exact ((insT_perm x ys).cons y).trans (.swap x y ys)
    · exact .refl _
theorem sortT_perm : ∀ xs : List Tx, (sortT xs).Perm xs
  | [] => .refl _
  | x :: xs => (insT_perm x (sortT xs)).trans ((sortT_perm xs).cons x)
theorem insT_srt (x : Tx) : ∀ {ys : List Tx}, ys.Pairwise leT → (insT x ys).Pairwise leT
  | [], _ => List.pairwise_singleton _ _
  | y :: ys, h => by
    obtain ⟨h1, h2⟩ := List.pairwise_cons.mp h
    unfold insT
    split
    · rename_i hl
      refine List.pairwise_cons.mpr ⟨fun z hz => ?_, insT_srt x h2⟩
      rcases List.mem_cons.mp ((insT_perm x ys).mem_iff.mp hz) with rfl | hz
      · exact leT_of_lt hl
      · exact h1 z hz
    · rename_i hl
      have hxy : leT x y := by simpa [leT] using hl
      refine List.pairwise_cons.mpr ⟨fun z hz => ?_, h⟩
      rcases List.mem_cons.mp hz with rfl | hz
      · exact hxy
      · exact leT_trans hxy (h1 z hz)
theorem sortT_srt : ∀ xs : List Tx, (sortT xs).Pairwise leT
  | [] => List.Pairwise.nil
  | x :: xs => insT_srt x (sortT_srt xs)
theorem sortT_uniq {xs ys : List Tx} (hp : ys.Perm xs) (hs : ys.Pairwise leT) : ys = sortT xs :=
  List.Perm.eq_of_pairwise (fun a b _ _ h1 h2 => leT_anti h1 h2) hs (sortT_srt xs) (hp.trans (sortT_perm xs).symm)
theorem sortT_congr {xs ys : List Tx} (hp : ys.Perm xs) : sortT ys = sortT xs := sortT_uniq ((sortT_perm ys).trans hp) (sortT_srt ys)
end Rf

/-! part RfRep -/
set_option autoImplicit false
set_option linter.all false
set_option Elab.async false
set_option maxRecDepth 100000
set_option maxHeartbeats 2000000
/-! RfRep: which abstract value of the hand layer stands for which data tree. -/
namespace Rf
open PySem L2

def mkS (s : Tx) : Str := ⟨s.toArray⟩
theorem mkS_inj {s t : Tx} (h : mkS s = mkS t) : s = t := by
  have := congrArg (fun x : Str => x.cps.toList) h
  simpa [mkS] using this
theorem mkS_list (s : Tx) : (mkS s).cps.toList = s := by simp [mkS]
theorem mkS_len (s : Tx) : (mkS s).length = s.length := by simp [mkS, Str.length]
def okTx (s : Tx) : Prop := (∀ c ∈ s, c < 0x110000) ∧ s.length ≤ SZ
instance (s : Tx) : Decidable (okTx s) := inferInstanceAs (Decidable (_ ∧ _))
theorem okTx.strOk {s : Tx} (h : okTx s) : PyData.strOk (mkS s) = true := by
  unfold PyData.strOk mkS
  simp only [List.all_toArray, List.all_eq_true, decide_eq_true_eq]
  exact h.1
theorem SZ_line : SZ ≤ sizeLine := by rw [sizeLine_eq]; decide
theorem okTx.line {s : Tx} (h : okTx s) : (mkS s).length ≤ sizeLine := by rw [mkS_len]; exact Nat.le_trans h.2 SZ_line
theorem okTx.append {s t : Tx} (h : okTx s) (h' : okTx t) (hl : s.length + t.length ≤ SZ) : okTx (s ++ t) := ⟨fun c hc => (List.mem_append.mp hc).elim (h.1 c) (h'.1 c), by rw [List.length_append]; exact hl⟩
theorem okTx.sub {s t : Tx} (h : okTx s) (hs : ∀ c ∈ t, c ∈ s) (hl : t.length ≤ s.length) : okTx t := ⟨fun c hc => h.1 c (hs c hc), Nat.le_trans hl h.2⟩
theorem okTx.one {s : Tx} {c : Nat} (h : okTx s) (hc : c ∈ s) : okTx [c] := ⟨fun d hd => by simp at hd; subst hd; exact h.1 _ hc, by unfold SZ; simp⟩

/-- the run's program, what is outside, where the classes stand, the tables of code objects and the names of what they tell -/
class Wd where
  P : Program
  w : World
  cA : Nat → Addr
  T : List (Addr × Str)
def _root_.L2.HO.tb : HO → Bool
  | .tbl _ => true
  | _ => false
/-- no table, no code object -/
def NC (u : HO) : Prop := (∀ ps, u ≠ .tbl ps) ∧ ∀ c q, u ≠ LamX.CodeO c q
theorem NC.lst {vs : List V} : NC (.lst vs) := ⟨fun _ e => (by cases e), fun _ _ e => by unfold LamX.CodeO at e; cases e⟩
theorem NC.dK {vs : List (Key × V)} : NC (.dK vs) := ⟨fun _ e => (by cases e), fun _ _ e => by unfold LamX.CodeO at e; cases e⟩
/-- all stays; a table of code objects stays a table -/
def ExA (H H' : Hp) : Prop := ∀ a o, H a = some o → H' a = some o ∨ ∃ ps ps', o = .tbl ps ∧ H' a = some (.tbl ps')
structure Ex [Wd] (H H' : Hp) : Prop where
  a : ExA H H'
  tt : LamX.Tabs Wd.T H → LamX.Tabs Wd.T H'
theorem tabs_upd {T : List (Addr × Str)} {H : Hp} {p : Addr} {u o : HO} (h : H p = some u) (n : NC u) (t : LamX.Tabs T H) : LamX.Tabs T (upd H p o) := fun x hx => by
  obtain ⟨ps, h1, h2, h3⟩ := t x hx
  refine ⟨ps, ?_, h2, fun pos cv hc => ?_⟩
  · rw [upd_ne fun e => n.1 ps (Option.some.inj (h.symm.trans (by rw [← e]; exact h1)))]; exact h1
  · obtain ⟨c, e1, e2⟩ := h3 pos cv hc
    refine ⟨c, e1, ?_⟩
    rw [upd_ne fun e => n.2 c x.2 (Option.some.inj (h.symm.trans (by rw [← e]; exact e2)))]; exact e2
section
variable [Wd]
theorem Ex.k {H H' : Hp} (e : Ex H H') {a : Addr} {o : HO} (h : H a = some o) (n : o.tb = false) : H' a = some o := by
  rcases e.a a o h with h | ⟨ps, ps', rfl, _⟩
  · exact h
  · cases n
theorem Ex.of {H H' : Hp} (e : ∀ a o, H a = some o → H' a = some o) : Ex H H' := ⟨fun a o h => .inl (e a o h), fun t => t.ext e⟩
theorem Ex.refl (H : Hp) : Ex H H := ⟨fun _ _ h => .inl h, id⟩
theorem Ex.trans {H H1 H2 : Hp} (a : Ex H H1) (b : Ex H1 H2) : Ex H H2 := ⟨fun x o h => by
  rcases a.a x o h with h1 | ⟨ps, ps', rfl, h1⟩
  · exact b.a x o h1
  · rcases b.a x _ h1 with h2 | ⟨qs, qs', _, h2⟩
    · exact .inr ⟨ps, ps', rfl, h2⟩
    · exact .inr ⟨ps, qs', rfl, h2⟩, fun t => b.tt (a.tt t)⟩
theorem Ex.new {H : Hp} {p : Addr} {o : HO} (h : H p = none) : Ex H (upd H p o) := .of fun a u e => by
  rw [upd_ne (ne_of_none e h)]
  exact e
theorem Ex.mut {H H' : Hp} {p : Addr} {o : HO} (e : Ex H H') (h : H p = none) (n : ∃ u, H' p = some u ∧ NC u) : Ex H (upd H' p o) := ⟨fun a u ha => by
  rw [upd_ne (ne_of_none ha h)]
  exact e.a a u ha, fun t => by
  obtain ⟨u, h1, h2⟩ := n
  exact tabs_upd h1 h2 (e.tt t)⟩
theorem Ex.fresh {H H' : Hp} {p : Addr} (e : Ex H H') (h : H' p = none) : H p = none := by
  cases h1 : H p with
  | none => rfl
  | some o =>
    rcases e.a p o h1 with q | ⟨_, _, _, q⟩ <;> (rw [q] at h; cases h)
theorem Ex.rd {H H' : Hp} {a : Addr} {u : HO} (e : Ex H H') (h : Rd H a u) (n : u.tb = false) : Rd H' a u := by
  rcases h with h | ⟨o, h⟩
  · exact Or.inl (e.k h n)
  · exact Or.inr ⟨o, e.k h rfl⟩
theorem Ex.l {K : PySem.W.Frag} {H H' : Hp} {a : Addr} {xs : List V} (e : Ex H H') (h : SqL K H a xs) : SqL K H' a xs := by
  rcases h with h | h
  · exact Or.inl (e.rd h rfl)
  · exact Or.inr h
theorem Ex.t {K : PySem.W.Frag} {H H' : Hp} {a : Addr} {xs : List V} (e : Ex H H') (h : SqT K H a xs) : SqT K H' a xs := by
  rcases h with h | h
  · exact Or.inl (e.rd h rfl)
  · exact Or.inr h

end
abbrev AS := Addr → Prop
abbrev AS.none : AS := fun _ => False
/-- what may be changed: a list, a dict -/
def cellB : HO → Bool
  | .lst _ => true
  | .dK _ => true
  | .ext _ => true
  | _ => false
def Cell (o : HO) : Prop := cellB o = true
theorem Cell.tb {o : HO} (c : Cell o) : o.tb = false := by cases o <;> first | rfl | cases c
def Dom (Z : AS) (H : Hp) : Prop := ∀ a, Z a → ∃ o, H a = some o ∧ Cell o
theorem Dom.ex [Wd] {Z : AS} {H H' : Hp} (d : Dom Z H) (e : Ex H H') : Dom Z H' := fun a ha => by
  obtain ⟨o, h, c⟩ := d a ha
  exact ⟨o, e.k h c.tb, c⟩
theorem Dom.no {H : Hp} : Dom AS.none H := fun _ h => h.elim
theorem Dom.out {Z : AS} {H : Hp} {a : Addr} (d : Dom Z H) (h : H a = Option.none) : ¬ Z a := fun z => by
  obtain ⟨o, e, _⟩ := d a z
  rw [h] at e; cases e
theorem Dom.non {Z : AS} {H : Hp} {a : Addr} {o : HO} (d : Dom Z H) (h : H a = some o) (n : cellB o = false) : ¬ Z a := fun z => by
  obtain ⟨u, e, c⟩ := d a z
  rw [h] at e; cases e
  rw [Cell, n] at c; cases c
theorem Dom.tup {Z : AS} {H : Hp} {a : Addr} {xs : List V} (d : Dom Z H) (h : Rd H a (.tup xs)) : ¬ Z a := by
  rcases h with h | ⟨u, h⟩
  · exact d.non h rfl
  · exact d.non h rfl
theorem Dom.frz {Z : AS} {H : Hp} {a : Addr} {o : Obj} {u : HO} (d : Dom Z H) (h : H a = some (.frz o u)) : ¬ Z a := d.non h rfl

/-- a list of the text's top: nobody changes it -/
def KL (K : PySem.W.Frag) (a : Addr) (xs : List V) : Prop := ∃ (o : Obj) (its : Array Value) (n : Nat), K.lookup a = some o ∧ o.cls = .type "list" ∧ o.dict = none ∧ o.data = .seq its n ∧ its.size ≤ sizeLine ∧ Vals xs its.toList
def Ls (K : PySem.W.Frag) (Z : AS) (H : Hp) (a : Addr) (vs : List V) : Prop := (¬ Z a ∧ Rd H a (.lst vs)) ∨ KL K a vs
theorem Ls.sq {K : PySem.W.Frag} {Z : AS} {H : Hp} {a : Addr} {vs : List V} (h : Ls K Z H a vs) : SqL K H a vs := by
  rcases h with ⟨_, h⟩ | h
  · exact .inl h
  · exact .inr h
theorem Ls.ex [Wd] {K : PySem.W.Frag} {Z : AS} {H H' : Hp} {a : Addr} {vs : List V} (e : Ex H H') (h : Ls K Z H a vs) : Ls K Z H' a vs := h.imp (fun q => ⟨q.1, e.rd q.2 rfl⟩) id
theorem Ls.sub {K : PySem.W.Frag} {Z Z' : AS} {H : Hp} {a : Addr} {vs : List V} (hz : ∀ a, Z' a → Z a) (h : Ls K Z H a vs) : Ls K Z' H a vs := h.imp (fun q => ⟨fun z => q.1 (hz _ z), q.2⟩) id
/-! ### dicts -/
mutual
/-- a key as the library has it -/
def nk : D → NestedKey
  | .int i => .num i
  | .str s => .text (mkS s)
  | .tup xs => .tup (nkL xs)
  | .non => .none | .bl _ => .none | .lst _ => .none | .dic _ _ => .none | .obj _ _ => .none | .exn _ _ => .none
def nkL : List D → List NestedKey
  | [] => []
  | x :: xs => nk x :: nkL xs
end
/-- an entry: key, its value, the value -/
abbrev En := NestedKey × V × V
abbrev EnX (es : List En) (xs : List (NestedKey × Addr × Value)) : Prop := Paired (fun p q => p.1 = q.1 ∧ p.2.1 = V.ref q.2.1 ∧ RelV p.2.2 q.2.2) es xs
/-- a dict of tuples -/
def DxR [Wd] (h : Heap) (a : Addr) (es : List En) : Prop := es.length ≤ sizeLine ∧ (a == sysModules) = false ∧ ∃ xs, EnX es xs ∧ ∃ o des ep, h.get? a = some o ∧ o.ExactDict ∧ o.data = .dict des ep ∧ des.toList = xs.map (entryOfKey (nestedKind Wd.P Wd.w)) ∧ (xs.map (·.1)).Nodup
def DxO [Wd] (a : Addr) (es : List En) : HO := .ext fun h => DxR h a es
def toK : NestedKey → Key
  | .num i => .inl i
  | .text x => .inr x
  | _ => .inl 0
def KdO (es : List En) : HO := .dK (es.map fun e => (toK e.1, e.2.2))
def dO [Wd] (t : Bool) (a : Addr) (es : List En) : HO := if t then DxO a es else KdO es
theorem dO_cell [Wd] (t : Bool) (a : Addr) (es : List En) : cellB (dO t a es) = true := by cases t <;> rfl
theorem dO_tb [Wd] (t : Bool) (a : Addr) (es : List En) : (dO t a es).tb = false := by cases t <;> rfl
theorem NC.dO [Wd] (t : Bool) (a : Addr) (es : List En) : NC (dO t a es) := by
  cases t with
  | false => exact NC.dK
  | true =>
    refine ⟨fun _ e => (by cases e), fun c q e => ?_⟩
    have e : HO.ext (fun h => DxR h a es) = LamX.CodeO c q := e
    unfold LamX.CodeO at e
    have e := HO.ext.inj e
    let ob : Obj := { cls := .none, data := .fields #[.none, .str q 0] }
    let h : Heap := { objs := Array.replicate (max a c + 1) ob }
    have g : ∀ b, b ≤ max a c → h.get? b = some ob := fun b hb => by
      have z : h.objs[b]? = some ob := by
        show (Array.replicate (max a c + 1) ob)[b]? = some ob
        rw [Array.getElem?_replicate, if_pos (Nat.lt_succ_of_le hb)]
      unfold Heap.get?
      rw [z]
    have z : DxR h a es := by
      have z2 := congrFun e h
      rw [z2]
      exact ⟨ob, _, 0, g c (Nat.le_max_right _ _), rfl, rfl⟩
    obtain ⟨_, _, xs, _, o, des, ep, h1, _, h3, _⟩ := z
    rw [g a (Nat.le_max_left _ _)] at h1
    cases h1
    cases h3
/-- the fields of a class of the text -/
def fldN : Nat → List Str
  | 8 => ["given", "claim"]
  | _ => []
mutual
inductive Rp [Wd] (K : PySem.W.Frag) (Z : AS) (H : Hp) : V → D → Prop
  | non : Rp K Z H .non .non
  | bl (b : Bool) : Rp K Z H (.bl b) (.bl b)
  | int (i : Int) : Rp K Z H (.int i) (.int i)
  | str (s : Tx) : okTx s → Rp K Z H (.str (mkS s)) (.str s)
  | tup {a : Addr} {vs : List V} {ds : List D} : SqT K H a vs → RpL K Z H vs ds → Rp K Z H (.ref a) (.tup ds)
  | lst {a : Addr} {vs : List V} {ds : List D} : Ls K Z H a vs → RpL K Z H vs ds → Rp K Z H (.ref a) (.lst ds)
  | dic {a : Addr} {t : Bool} {es : List En} {kvs : List (D × D)} : ¬ Z a → H a = some (dO t a es) → RpE K Z H t es kvs → Rp K Z H (.ref a) (.dic t kvs)
  | obj {a dx : Addr} {c : Nat} {vs : List V} {ds : List D} : H a = some (.ins (Wd.cA c) dx ((fldN c).zip vs)) → vs.length = (fldN c).length → RpL K Z H vs ds → Rp K Z H (.ref a) (.obj c ds)
inductive RpL [Wd] (K : PySem.W.Frag) (Z : AS) (H : Hp) : List V → List D → Prop
  | nil : RpL K Z H [] []
  | cons {v : V} {vs : List V} {d : D} {ds : List D} : Rp K Z H v d → RpL K Z H vs ds → RpL K Z H (v :: vs) (d :: ds)
inductive RpE [Wd] (K : PySem.W.Frag) (Z : AS) (H : Hp) : Bool → List En → List (D × D) → Prop
  | nil {t : Bool} : RpE K Z H t [] []
  | cons {t : Bool} {kv v : V} {k d : D} {es : List En} {kvs : List (D × D)} : keyB t k = true → Rp K Z H kv k → Rp K Z H v d → RpE K Z H t es kvs → RpE K Z H t ((nk k, kv, v) :: es) ((k, d) :: kvs)
end

section
variable [Wd] {K : PySem.W.Frag} {Z Z' : AS} {H H' : Hp}
mutual
theorem Rp.ex (e : Ex H H') : ∀ {d : D} {v : V}, Rp K Z H v d → Rp K Z H' v d
  | _, _, .non => .non
  | _, _, .bl b => .bl b
  | _, _, .int i => .int i
  | _, _, .str s h => .str s h
  | _, _, .tup h r => .tup (e.t h) (RpL.ex e r)
  | _, _, .lst h r => .lst (h.ex e) (RpL.ex e r)
  | _, _, .dic z h r => .dic z (e.k h (dO_tb _ _ _)) (RpE.ex e r)
  | _, _, .obj h l r => .obj (e.k h rfl) l (RpL.ex e r)
theorem RpL.ex (e : Ex H H') : ∀ {ds : List D} {vs : List V}, RpL K Z H vs ds → RpL K Z H' vs ds
  | _, _, .nil => .nil
  | _, _, .cons r t => .cons (Rp.ex e r) (RpL.ex e t)
theorem RpE.ex (e : Ex H H') : ∀ {t : Bool} {kvs : List (D × D)} {es : List En}, RpE K Z H t es kvs → RpE K Z H' t es kvs
  | _, _, _, .nil => .nil
  | _, _, _, .cons k r q t => .cons k (Rp.ex e r) (Rp.ex e q) (RpE.ex e t)
end
mutual
theorem Rp.sub (hz : ∀ a, Z' a → Z a) : ∀ {d : D} {v : V}, Rp K Z H v d → Rp K Z' H v d
  | _, _, .non => .non
  | _, _, .bl b => .bl b
  | _, _, .int i => .int i
  | _, _, .str s h => .str s h
  | _, _, .tup h r => .tup h (RpL.sub hz r)
  | _, _, .lst h r => .lst (h.sub hz) (RpL.sub hz r)
  | _, _, .dic z h r => .dic (fun q => z (hz _ q)) h (RpE.sub hz r)
  | _, _, .obj h l r => .obj h l (RpL.sub hz r)
theorem RpL.sub (hz : ∀ a, Z' a → Z a) : ∀ {ds : List D} {vs : List V}, RpL K Z H vs ds → RpL K Z' H vs ds
  | _, _, .nil => .nil
  | _, _, .cons r t => .cons (Rp.sub hz r) (RpL.sub hz t)
theorem RpE.sub (hz : ∀ a, Z' a → Z a) : ∀ {t : Bool} {kvs : List (D × D)} {es : List En}, RpE K Z H t es kvs → RpE K Z' H t es kvs
  | _, _, _, .nil => .nil
  | _, _, _, .cons k r q t => .cons k (Rp.sub hz r) (Rp.sub hz q) (RpE.sub hz t)
end
mutual
/-- what has no list, no dict in it avoids everything -/
theorem Rp.flat : ∀ {d : D} {v : V}, Rp K Z H v d → d.flat = true → Rp K Z' H v d
  | _, _, .non, _ => .non
  | _, _, .bl b, _ => .bl b
  | _, _, .int i, _ => .int i
  | _, _, .str s h, _ => .str s h
  | _, _, .tup h r, f => .tup h (RpL.flat r (by simpa [D.flat] using f))
  | _, _, .obj h l r, f => .obj h l (RpL.flat r (by simpa [D.flat] using f))
  | _, _, .lst _ _, f => by simp [D.flat] at f
  | _, _, .dic _ _ _, f => by simp [D.flat] at f
theorem RpL.flat : ∀ {ds : List D} {vs : List V}, RpL K Z H vs ds → flatL ds = true → RpL K Z' H vs ds
  | _, _, .nil, _ => .nil
  | _, _, .cons r t, f => by
    simp only [flatL, Bool.and_eq_true] at f
    exact .cons (Rp.flat r f.1) (RpL.flat t f.2)
end
mutual
/-- what is not there is not touched -/
theorem Rp.avoid {Y : AS} (hy : ∀ a, Y a → H a = none) : ∀ {d : D} {v : V}, Rp K Z H v d → Rp K (fun a => Z a ∨ Y a) H v d
  | _, _, .non => .non
  | _, _, .bl b => .bl b
  | _, _, .int i => .int i
  | _, _, .str s h => .str s h
  | _, _, .tup h r => .tup h (RpL.avoid hy r)
  | _, _, .lst h r => .lst (h.imp (fun q => ⟨fun z => z.elim q.1 fun y => by
      have e := hy _ y
      rcases q.2 with w | ⟨o, w⟩ <;> (rw [e] at w; cases w), q.2⟩) id) (RpL.avoid hy r)
  | _, _, .dic z h r => .dic (fun q => q.elim z fun y => by rw [hy _ y] at h; cases h) h (RpE.avoid hy r)
  | _, _, .obj h l r => .obj h l (RpL.avoid hy r)
theorem RpL.avoid {Y : AS} (hy : ∀ a, Y a → H a = none) : ∀ {ds : List D} {vs : List V}, RpL K Z H vs ds → RpL K (fun a => Z a ∨ Y a) H vs ds
  | _, _, .nil => .nil
  | _, _, .cons r t => .cons (Rp.avoid hy r) (RpL.avoid hy t)
theorem RpE.avoid {Y : AS} (hy : ∀ a, Y a → H a = none) : ∀ {t : Bool} {kvs : List (D × D)} {es : List En}, RpE K Z H t es kvs → RpE K (fun a => Z a ∨ Y a) H t es kvs
  | _, _, _, .nil => .nil
  | _, _, _, .cons k r q t => .cons k (Rp.avoid hy r) (Rp.avoid hy q) (RpE.avoid hy t)
end
theorem ne_cell {H : Hp} {a b : Addr} {o : HO} (hc : ∃ u, H a = some u ∧ Cell u) (h : H b = some o) (n : cellB o = false) : b ≠ a := fun e => by
  obtain ⟨u, hu, c⟩ := hc
  rw [e, hu] at h; cases h
  rw [Cell, n] at c; cases c
mutual
/-- another list is changed -/
theorem Rp.upd {a : Addr} {o : HO} (hz : Z a) (hc : ∃ u, H a = some u ∧ Cell u) : ∀ {d : D} {v : V}, Rp K Z H v d → Rp K Z (upd H a o) v d
  | _, _, .non => .non
  | _, _, .bl b => .bl b
  | _, _, .int i => .int i
  | _, _, .str s h => .str s h
  | _, _, .tup h r => .tup (by
      rcases h with (h | ⟨o, h⟩) | h
      · exact .inl (.inl (by rw [upd_ne (ne_cell hc h rfl)]; exact h))
      · exact .inl (.inr ⟨o, by rw [upd_ne (ne_cell hc h rfl)]; exact h⟩)
      · exact .inr h) (RpL.upd hz hc r)
  | _, _, .lst h r => .lst (h.imp (fun q => ⟨q.1, by
      obtain ⟨z, h⟩ := q
      rcases h with h | ⟨o, h⟩
      · exact .inl (by rw [upd_ne (fun e => z (by rw [e]; exact hz))]; exact h)
      · exact .inr ⟨o, by rw [upd_ne (fun e => z (by rw [e]; exact hz))]; exact h⟩⟩) id) (RpL.upd hz hc r)
  | _, _, .dic z h r => .dic z (by rw [upd_ne (fun e => z (by rw [e]; exact hz))]; exact h) (RpE.upd hz hc r)
  | _, _, .obj h l r => .obj (by rw [upd_ne (ne_cell hc h rfl)]; exact h) l (RpL.upd hz hc r)
theorem RpL.upd {a : Addr} {o : HO} (hz : Z a) (hc : ∃ u, H a = some u ∧ Cell u) : ∀ {ds : List D} {vs : List V}, RpL K Z H vs ds → RpL K Z (L2.upd H a o) vs ds
  | _, _, .nil => .nil
  | _, _, .cons r t => .cons (Rp.upd hz hc r) (RpL.upd hz hc t)
theorem RpE.upd {a : Addr} {o : HO} (hz : Z a) (hc : ∃ u, H a = some u ∧ Cell u) : ∀ {t : Bool} {kvs : List (D × D)} {es : List En}, RpE K Z H t es kvs → RpE K Z (L2.upd H a o) t es kvs
  | _, _, _, .nil => .nil
  | _, _, _, .cons k r q t => .cons k (Rp.upd hz hc r) (Rp.upd hz hc q) (RpE.upd hz hc t)
end
theorem RpL.length : ∀ {ds : List D} {vs : List V}, RpL K Z H vs ds → vs.length = ds.length
  | _, _, .nil => rfl
  | _, _, .cons _ t => by simp [RpL.length t]
theorem RpL.get : ∀ {ds : List D} {vs : List V} {i : Nat} {d : D}, RpL K Z H vs ds → ds[i]? = some d → ∃ v, vs[i]? = some v ∧ Rp K Z H v d
  | _, _, _, _, .nil, e => by simp at e
  | _, _, 0, _, .cons r _, e => by simp at e; subst e; exact ⟨_, rfl, r⟩
  | _, _, i + 1, d, .cons _ t, e => by
    obtain ⟨v, h1, h2⟩ := RpL.get (i := i) (d := d) t (by simpa using e)
    exact ⟨v, by simpa using h1, h2⟩
theorem RpL.getV : ∀ {ds : List D} {vs : List V} {i : Nat} {v : V}, RpL K Z H vs ds → vs[i]? = some v → ∃ d, ds[i]? = some d ∧ Rp K Z H v d
  | _, _, _, _, .nil, e => by simp at e
  | _, _, 0, _, .cons r _, e => by simp at e; subst e; exact ⟨_, rfl, r⟩
  | _, _, i + 1, v, .cons _ t, e => by
    obtain ⟨d, h1, h2⟩ := RpL.getV (i := i) (v := v) t (by simpa using e)
    exact ⟨d, by simpa using h1, h2⟩
theorem RpL.append : ∀ {xs : List D} {us : List V} {ys : List D} {ws : List V}, RpL K Z H us xs → RpL K Z H ws ys → RpL K Z H (us ++ ws) (xs ++ ys)
  | _, _, _, _, .nil, s => s
  | _, _, _, _, .cons r t, s => .cons r (RpL.append t s)
theorem RpL.drop : ∀ {ds : List D} {vs : List V} (n : Nat), RpL K Z H vs ds → RpL K Z H (vs.drop n) (ds.drop n)
  | _, _, 0, r => r
  | _, _, _ + 1, .nil => .nil
  | _, _, n + 1, .cons _ t => RpL.drop n t
theorem RpL.take : ∀ {ds : List D} {vs : List V} (n : Nat), RpL K Z H vs ds → RpL K Z H (vs.take n) (ds.take n)
  | _, _, 0, _ => .nil
  | _, _, _ + 1, .nil => .nil
  | _, _, n + 1, .cons r t => .cons r (RpL.take n t)
theorem RpL.rev {ds : List D} {vs : List V} (r : RpL K Z H vs ds) : RpL K Z H vs.reverse ds.reverse := by
  induction ds generalizing vs with
  | nil => cases r; exact .nil
  | cons d ds ih => cases r with
    | cons r t => rw [List.reverse_cons, List.reverse_cons]; exact (ih t).append (.cons r .nil)
theorem RpL.rep {ds : List D} {vs : List V} (r : RpL K Z H vs ds) : ∀ k : Nat, RpL K Z H (List.replicate k vs).flatten (List.replicate k ds).flatten
  | 0 => .nil
  | k + 1 => by rw [List.replicate_succ, List.replicate_succ, List.flatten_cons, List.flatten_cons]; exact r.append (RpL.rep r k)
theorem RpL.snoc {ds : List D} {vs : List V} {d : D} {v : V} (r : RpL K Z H vs ds) (q : Rp K Z H v d) : RpL K Z H (vs ++ [v]) (ds ++ [d]) := r.append (.cons q .nil)
theorem RpL.ints : ∀ {ns : List Int}, RpL K Z H (ns.map V.int) (ns.map D.int)
  | [] => .nil
  | n :: ns => .cons (.int n) RpL.ints
end

/-- a list whose object may be written: its content -/
def OwnAt [Wd] (K : PySem.W.Frag) (Z : AS) (H : Hp) (a : Addr) : D → Prop
  | .lst ds => ∃ vs, H a = some (.lst vs) ∧ RpL K Z H vs ds
  | .dic t kvs => ∃ es, H a = some (dO t a es) ∧ RpE K Z H t es kvs
  | _ => False
variable [Wd]
/-- an operand: it may be a list whose object is in Z, its items are not -/
def RpC (K : PySem.W.Frag) (Z : AS) (H : Hp) (v : V) (d : D) : Prop := Rp K Z H v d ∨ ∃ a, v = .ref a ∧ OwnAt K Z H a d
theorem Rp.c {K : PySem.W.Frag} {Z : AS} {H : Hp} {v : V} {d : D} (h : Rp K Z H v d) : RpC K Z H v d := .inl h
def RpM (b : Bool) (K : PySem.W.Frag) (Z : AS) (H : Hp) (v : V) (d : D) : Prop := match b with
  | true => RpC K Z H v d
  | false => Rp K Z H v d
theorem RpM.c {b : Bool} {K : PySem.W.Frag} {Z : AS} {H : Hp} {v : V} {d : D} (h : RpM b K Z H v d) : RpC K Z H v d := by
  cases b with
  | true => exact h
  | false => exact .inl h
section
variable {K : PySem.W.Frag} {Z Z' : AS} {H H' : Hp} {v : V} {d : D} {a : Addr}
theorem OwnAt.ex (e : Ex H H') (h : OwnAt K Z H a d) : OwnAt K Z H' a d := by
  cases d with
  | lst ds => obtain ⟨vs, h1, h2⟩ := h; exact ⟨vs, e.k h1 rfl, h2.ex e⟩
  | dic t kvs => obtain ⟨es, h1, h2⟩ := h; exact ⟨es, e.k h1 (dO_tb _ _ _), h2.ex e⟩
  | _ => exact h.elim
theorem RpC.ex (e : Ex H H') (h : RpC K Z H v d) : RpC K Z H' v d := by
  rcases h with h | ⟨a, h, o⟩
  · exact .inl (h.ex e)
  · exact .inr ⟨a, h, o.ex e⟩
theorem OwnAt.sub (hz : ∀ a, Z' a → Z a) (h : OwnAt K Z H a d) : OwnAt K Z' H a d := by
  cases d with
  | lst ds => obtain ⟨vs, h1, h2⟩ := h; exact ⟨vs, h1, h2.sub hz⟩
  | dic t kvs => obtain ⟨es, h1, h2⟩ := h; exact ⟨es, h1, h2.sub hz⟩
  | _ => exact h.elim
theorem RpC.sub (hz : ∀ a, Z' a → Z a) (h : RpC K Z H v d) : RpC K Z' H v d := by
  rcases h with h | ⟨a, h, o⟩
  · exact .inl (h.sub hz)
  · exact .inr ⟨a, h, o.sub hz⟩
theorem OwnAt.cell (h : OwnAt K Z H a d) : ∃ u, H a = some u ∧ Cell u := by
  cases d with
  | lst ds => obtain ⟨vs, h1, _⟩ := h; exact ⟨_, h1, rfl⟩
  | dic t kvs => obtain ⟨es, h1, _⟩ := h; exact ⟨_, h1, dO_cell _ _ _⟩
  | _ => exact h.elim
theorem OwnAt.nc (h : OwnAt K Z H a d) : ∃ u, H a = some u ∧ NC u := by
  cases d with
  | lst ds => obtain ⟨vs, h1, _⟩ := h; exact ⟨_, h1, NC.lst⟩
  | dic t kvs => obtain ⟨es, h1, _⟩ := h; exact ⟨_, h1, NC.dO _ _ _⟩
  | _ => exact h.elim
/-- nobody else changes it -/
theorem OwnAt.rp (h : OwnAt K Z H a d) (z : ¬ Z a) : Rp K Z H (.ref a) d := by
  cases d with
  | lst ds => obtain ⟨vs, h1, h2⟩ := h; exact .lst (.inl ⟨z, Rd.of h1⟩) h2
  | dic t kvs => obtain ⟨es, h1, h2⟩ := h; exact .dic z h1 h2
  | _ => exact h.elim
/-- an operand avoids nothing -/
theorem RpC.r0 (h : RpC K AS.none H v d) : Rp K AS.none H v d := by
  rcases h with h | ⟨a, rfl, o⟩
  · exact h
  · exact o.rp fun z => z
theorem RpC.lstE {ds : List D} (h : RpC K Z H v (.lst ds)) : ∃ a vs, v = .ref a ∧ SqL K H a vs ∧ RpL K Z H vs ds := by
  rcases h with h | ⟨a, rfl, vs, h1, h2⟩
  · cases h with
    | lst h r => exact ⟨_, _, rfl, h.sq, r⟩
  · exact ⟨a, vs, rfl, .inl (Rd.of h1), h2⟩
theorem RpC.dicE {t : Bool} {kvs : List (D × D)} (h : RpC K Z H v (.dic t kvs)) : ∃ a es, v = .ref a ∧ H a = some (dO t a es) ∧ RpE K Z H t es kvs := by
  rcases h with h | ⟨a, rfl, es, h1, h2⟩
  · cases h with
    | dic z h r => exact ⟨_, _, rfl, h, r⟩
  · exact ⟨a, es, rfl, h1, h2⟩
/-- a list, a dict -/
def D.cel : D → Bool
  | .lst _ => true
  | .dic _ _ => true
  | _ => false
theorem RpC.other (h : RpC K Z H v d) (n : d.cel = false) : Rp K Z H v d := by
  rcases h with h | ⟨a, rfl, o⟩
  · exact h
  · cases d <;> first | exact o.elim | cases n
theorem RpC.tupE {ds : List D} (h : RpC K Z H v (.tup ds)) : ∃ a vs, v = .ref a ∧ SqT K H a vs ∧ RpL K Z H vs ds := by
  cases h.other rfl with
  | tup h' r => exact ⟨_, _, rfl, h', r⟩
theorem RpC.objE {c : Nat} {ds : List D} (h : RpC K Z H v (.obj c ds)) : ∃ a dx vs, v = .ref a ∧ H a = some (.ins (Wd.cA c) dx ((fldN c).zip vs)) ∧ vs.length = (fldN c).length ∧ RpL K Z H vs ds := by
  cases h.other rfl with
  | obj h l r => exact ⟨_, _, _, rfl, h, l, r⟩
theorem RpC.intE {i : Int} (h : RpC K Z H v (.int i)) : v = .int i := by
  cases h.other rfl; rfl
theorem RpC.blE {b : Bool} (h : RpC K Z H v (.bl b)) : v = .bl b := by
  cases h.other rfl; rfl
theorem RpC.nonE (h : RpC K Z H v .non) : v = .non := by
  cases h.other rfl; rfl
theorem RpC.strE {s : Tx} (h : RpC K Z H v (.str s)) : v = .str (mkS s) ∧ okTx s := by
  cases h.other rfl with
  | str _ h' => exact ⟨rfl, h'⟩
end

/-! ### what data of the library it is -/
mutual
def D.py : D → PyData
  | .non => .none
  | .bl b => .bool b
  | .int i => .int i
  | .str s => .str (mkS s)
  | .tup xs => .tuple (pyL xs)
  | .lst xs => .list (pyL xs)
  | .dic _ _ => .none
  | .obj _ _ => .none
  | .exn _ _ => .none
def pyL : List D → List PyData
  | [] => []
  | x :: xs => x.py :: pyL xs
end
theorem mkS_beq (s t : Tx) : (mkS s == mkS t) = (s == t) := by
  by_cases h : s = t
  · subst h; rw [beq_self_eq_true, beq_self_eq_true]
  · rw [beq_eq_false_iff_ne.mpr h, beq_eq_false_iff_ne.mpr fun e => h (mkS_inj e)]
mutual
theorem py_eqv : ∀ (x y : D), x.plain = true → y.plain = true → PyData.eqv x.py y.py = x.eqv y
  | .non, y, _, hy => by cases y <;> simp_all [D.py, PyData.eqv, D.eqv, D.plain]
  | .bl b, y, _, hy => by cases y <;> simp_all [D.py, PyData.eqv, D.eqv, D.plain]
  | .int i, y, _, hy => by cases y <;> simp_all [D.py, PyData.eqv, D.eqv, D.plain]
  | .str s, y, _, hy => by cases y <;> simp_all [D.py, PyData.eqv, D.eqv, D.plain, mkS_beq]
  | .tup xs, y, hx, hy => by
    cases y with
    | tup ys => simp only [D.py, PyData.eqv, D.eqv]; exact py_eqvL xs ys (by simpa [D.plain] using hx) (by simpa [D.plain] using hy)
    | _ => simp_all [D.py, PyData.eqv, D.eqv, D.plain]
  | .lst xs, y, hx, hy => by
    cases y with
    | lst ys => simp only [D.py, PyData.eqv, D.eqv]; exact py_eqvL xs ys (by simpa [D.plain] using hx) (by simpa [D.plain] using hy)
    | _ => simp_all [D.py, PyData.eqv, D.eqv, D.plain]
  | .dic _ _, _, h, _ => by simp [D.plain] at h
  | .obj _ _, _, h, _ => by simp [D.plain] at h
  | .exn _ _, _, h, _ => by simp [D.plain] at h
theorem py_eqvL : ∀ (xs ys : List D), plainL xs = true → plainL ys = true → PyData.eqvAll (pyL xs) (pyL ys) = eqvL xs ys
  | [], ys, _, _ => by cases ys <;> simp [pyL, PyData.eqvAll, eqvL]
  | x :: xs, ys, hx, hy => by
    cases ys with
    | nil => simp [pyL, PyData.eqvAll, eqvL]
    | cons y ys =>
      simp only [plainL, Bool.and_eq_true] at hx hy
      simp only [pyL, PyData.eqvAll, eqvL]
      rw [py_eqv x y hx.1 hy.1, py_eqvL xs ys hx.2 hy.2]
end
mutual
theorem py_depth : ∀ x : D, x.py.depth = x.dep
  | .non => by simp [D.py, PyData.depth, D.dep]
  | .bl _ => by simp [D.py, PyData.depth, D.dep]
  | .int _ => by simp [D.py, PyData.depth, D.dep]
  | .str _ => by simp [D.py, PyData.depth, D.dep]
  | .tup xs => by simp only [D.py, PyData.depth, D.dep]; rw [py_depthL xs]
  | .lst xs => by simp only [D.py, PyData.depth, D.dep]; rw [py_depthL xs]
  | .dic _ _ => by simp [D.py, PyData.depth, D.dep]
  | .obj _ _ => by simp [D.py, PyData.depth, D.dep]
  | .exn _ _ => by simp [D.py, PyData.depth, D.dep]
theorem py_depthL : ∀ xs : List D, PyData.depthAll (pyL xs) = depL xs
  | [] => by simp [pyL, PyData.depthAll, depL]
  | x :: xs => by simp only [pyL, PyData.depthAll, depL]; rw [py_depth x, py_depthL xs]
end
section
variable {K : PySem.W.Frag} {Z : AS} {H : Hp}
mutual
theorem Rp.lay : ∀ {d : D} {v : V}, Rp K Z H v d → d.py.canLay0 = true
  | _, _, .non => by simp [D.py, PyData.canLay0]
  | _, _, .bl b => by simp [D.py, PyData.canLay0]
  | _, _, .int i => by simp [D.py, PyData.canLay0]
  | _, _, .str s h => by simp only [D.py, PyData.canLay0]; exact h.strOk
  | _, _, .tup _ r => by simp only [D.py, PyData.canLay0]; exact RpL.lay r
  | _, _, .lst _ r => by simp only [D.py, PyData.canLay0]; exact RpL.lay r
  | _, _, .dic _ _ _ => by simp [D.py, PyData.canLay0]
  | _, _, .obj _ _ _ => by simp [D.py, PyData.canLay0]
theorem RpL.lay : ∀ {ds : List D} {vs : List V}, RpL K Z H vs ds → PyData.canLayAll0 (pyL ds) = true
  | _, _, .nil => by simp [pyL, PyData.canLayAll0]
  | _, _, .cons r t => by simp only [pyL, PyData.canLayAll0]; rw [Rp.lay r, RpL.lay t]; rfl
end
mutual
theorem Rp.dp : ∀ {d : D} {v : V}, Rp K Z H v d → d.plain = true → Dp K H v d.py
  | _, _, .non, _ => by simp only [D.py]; exact .non
  | _, _, .bl b, _ => by simp only [D.py]; exact .bl b
  | _, _, .int i, _ => by simp only [D.py]; exact .int i
  | _, _, .str s h, _ => by simp only [D.py]; exact .str _
  | _, _, .tup h r, f => by simp only [D.py]; exact .tup h (RpL.dp r (by simpa [D.plain] using f))
  | _, _, .lst h r, f => by simp only [D.py]; exact .lst h.sq (RpL.dp r (by simpa [D.plain] using f))
  | _, _, .dic _ _ _, f => by simp [D.plain] at f
  | _, _, .obj _ _ _, f => by simp [D.plain] at f
theorem RpL.dp : ∀ {ds : List D} {vs : List V}, RpL K Z H vs ds → plainL ds = true → DpAll K H vs (pyL ds)
  | _, _, .nil, _ => by simp only [pyL]; exact .nil
  | _, _, .cons r t, f => by
    simp only [plainL, Bool.and_eq_true] at f
    simp only [pyL]; exact .cons (Rp.dp r f.1) (RpL.dp t f.2)
end
end
end Rf

/-! part RfOps -/
set_option autoImplicit false
set_option linter.all false
set_option Elab.async false
set_option maxRecDepth 100000
set_option maxHeartbeats 2000000
/-! RfOps: what the operations do, value by value. -/
namespace Rf
open PySem L2
variable [Wd]

/-- what a result is wanted to be -/
def Res (K : PySem.W.Frag) (H : Hp) (A : AS → Prop) (d : D) (Q : VK) : Prop := ∀ v H', Ex H H' → (∀ Z, Dom Z H → A Z → Rp K Z H' v d) → Q v H'
theorem Res.flat {K : PySem.W.Frag} {H : Hp} {A : AS → Prop} {d : D} {Q : VK} {v : V} (h : Res K H A d Q) (hv : Rp K AS.none H v d) (f : d.flat = true) : Q v H := h v H (Ex.refl H) fun _ _ _ => hv.flat f
theorem Res.int {K : PySem.W.Frag} {H : Hp} {A : AS → Prop} {i : Int} {Q : VK} (h : Res K H A (.int i) Q) : Q (.int i) H := h _ H (Ex.refl H) fun _ _ _ => .int i
theorem Res.bl {K : PySem.W.Frag} {H : Hp} {A : AS → Prop} {b : Bool} {Q : VK} (h : Res K H A (.bl b) Q) : Q (.bl b) H := h _ H (Ex.refl H) fun _ _ _ => .bl b
theorem Res.non {K : PySem.W.Frag} {H : Hp} {A : AS → Prop} {Q : VK} (h : Res K H A .non Q) : Q .non H := h _ H (Ex.refl H) fun _ _ _ => .non
theorem Res.str {K : PySem.W.Frag} {H : Hp} {A : AS → Prop} {s : Tx} {Q : VK} (h : Res K H A (.str s) Q) (hs : okTx s) : Q (.str (mkS s)) H := h _ H (Ex.refl H) fun _ _ _ => .str s hs
theorem Res.newL {K : PySem.W.Frag} {H : Hp} {A : AS → Prop} {ds : List D} {vs : List V} {Q : VK} (h : Res K H A (.lst ds) Q) (hv : ∀ Z, Dom Z H → A Z → RpL K Z H vs ds) : ∀ p, H p = none → Q (.ref p) (upd H p (.lst vs)) := fun p hp =>
  h _ _ (Ex.new hp) fun Z dz az => .lst (.inl ⟨dz.out hp, Rd.of upd_same⟩) ((hv Z dz az).ex (Ex.new hp))
theorem Res.newT {K : PySem.W.Frag} {H : Hp} {A : AS → Prop} {ds : List D} {vs : List V} {Q : VK} (h : Res K H A (.tup ds) Q) (hv : ∀ Z, Dom Z H → A Z → RpL K Z H vs ds) : ∀ p, H p = none → Q (.ref p) (upd H p (.tup vs)) := fun p hp =>
  h _ _ (Ex.new hp) fun Z dz az => .tup (SqT.of upd_same) ((hv Z dz az).ex (Ex.new hp))
theorem Res.mono {K : PySem.W.Frag} {H : Hp} {A : AS → Prop} {d : D} {Q Q' : VK} (h : Res K H A d Q) (hq : ∀ v H, Q v H → Q' v H) : Res K H A d Q' := fun v H' e r => hq _ _ (h v H' e r)

/-- a two-place operation -/
def rOp (K : PySem.W.Frag) (f : D → D → Out D) : R2 := fun x y H Q => ∃ d1 d2 d, RpC K AS.none H x d1 ∧ RpC K AS.none H y d2 ∧ f d1 d2 = .ok d ∧ Res K H (fun Z => RpC K Z H x d1 ∧ RpC K Z H y d2) d Q

theorem int_rmul_listW (a : Int) (t : Tok) (l : Addr) (items : Array Value) (n : Nat) (sl : Array (Option Value)) :
    Meets (Builtin.«int.__rmul__» ⟨[.int a t, .ref l], []⟩) (fun _ R s => s.heap.get? l = some { cls := .type "list", dict := none, data := .seq items n, slots := sl } ∧ R (.ok (.ret Value.notImplemented)) s) :=
  .of_wp fun prog w A R s h => by obtain ⟨hp, g, d, tk, os⟩ := s; obtain ⟨hl, h⟩ := h; wp_walk using wpAny_loadPart' hl; exact ⟨_, rfl, h⟩
open PySem.AutoListH in
theorem list_mulW (l : Addr) (items : Array Value) (n : Nat) (sl : Array (Option Value)) (x : Int) (u : Tok) (hc0 : ¬(!Builtin.List.listFitsIndex x) = true) (hc1 : ¬items.size * x.toNat > (2 ^ 63 - 1) / 8) (hc2 : ¬Builtin.List.listTooLong (items.size * x.toNat) = true) :
    Meets (Builtin.«list.__mul__» ⟨[.ref l, .int x u], []⟩) (fun _ R s => s.heap.get? l = some { cls := .type "list", dict := none, data := .seq items n, slots := sl } ∧ R (.ok (.ret (Value.ref s.heap.objs.size))) { s with heap := s.heap.push { cls := Value.type "list", data := Data.seq (List.foldl (fun x1 x2 => x1 ++ x2) #[] (List.replicate (if items.isEmpty = true then 0 else x.toNat) items)) }, toks := s.toks }) :=
  .of_wp fun prog w A R s h => by
    obtain ⟨hp, g, d, tk, os⟩ := s; obtain ⟨hl, h⟩ := h
    have hsz := joined_fits hc2
    wp_walk using wpAny_loadPart' hl; refine wpAny_ite_false (decide_eq_false (Nat.not_lt.mpr hsz)) ?_; wp_walk using wpAny_loadPart' hl; exact ⟨_, rfl, h⟩
section
variable {X : Cx} {pins : List (Addr × Obj)} {σ : St} {H : Hp} {s : Shared} {l : Addr} {xs : List V}
theorem lstR (I : Inv X pins σ H s) (hH : SqL X.K H l xs) : xs.length ≤ sizeLine ∧ ∃ (its : List Value) (n : Nat) (sl : Array (Option Value)), Vals xs its ∧ xs.length = its.length ∧ s.heap.get? l = some { cls := .type "list", dict := none, data := .seq its.toArray n, slots := sl } := by
  obtain ⟨its, r, ⟨o, n, e, h1, h2, h3⟩, z⟩ := I.list hH
  obtain ⟨oc, od, dt, sl⟩ := o
  simp only at h1 h2 h3
  subst h1 h2 h3
  exact ⟨z, its, n, sl, r, r.length, e⟩
theorem op_catR {x y : V} {v u : Value} {Q : VK} {b : Addr} {ys : List V} (I : Inv X pins σ H s) (hH : SqL X.K H l xs) (hB : SqL X.K H b ys) (hz : xs.length + ys.length ≤ sizeLine)
    (q : ∀ p, H p = none → Q (.ref p) (upd H p (.lst (xs ++ ys)))) : wpAny (model X.prog X.w) X.A (binaryOp .Add (.ref l) (.ref b)) (EP X pins σ Q) X.xe s := by
  obtain ⟨z, its, n, sl, r, hl, e⟩ := lstR I hH
  obtain ⟨z2, its2, n2, sl2, r2, hl2, e2⟩ := lstR I hB
  refine concat_meets ⟨_, e, rfl⟩ ⟨_, e2, rfl⟩ noFill_list_add seq_list_add PySem.F.slot_list_add PySem.F.entry_list_add (PySem.F.args_list_add_2 _ _) (PyProof.Rows.list_addW l b its.toArray its2.toArray n n2 none none sl sl2 (by rw [List.size_toArray, List.size_toArray]; omega)) ⟨e, e2, ?_⟩
  have ea : its.toArray ++ its2.toArray = (its ++ its2).toArray := by simp
  rw [ea]
  exact ⟨.ref _, _, I.lnew (t' := s.toks) (r.append r2) (by rw [List.length_append]; omega), rfl, q _ I.fresh⟩
end

theorem cat_tuples {prog : Program} {w : World} {A : Around} {E : Value → Shared → Prop} {s : Shared} {t b : Addr} {vs ws : List Value} {Q : Value → Shared → Prop} (ht : PyProof.Rows.IsTup s.heap t vs.toArray) (hb : PyProof.Rows.IsTup s.heap b ws.toArray)
    (h0 : vs = [] → Q (.ref b) s) (h1 : vs ≠ [] → ws = [] → Q (.ref t) s)
    (h2 : vs ≠ [] → ws ≠ [] → Q (.ref s.heap.objs.size) { s with heap := s.heap.push { cls := .type "tuple", data := .seq (vs ++ ws).toArray } })
    (hsz : vs.length + ws.length ≤ sizeLine) : wpAny (model prog w) A (binaryOp .Add (.ref t) (.ref b)) Q E s := by
  by_cases hv : vs = []
  · obtain ⟨⟨cls, dd, data, sl⟩, ho, hc, n, hd⟩ := id ht
    obtain ⟨⟨cls2, dd2, data2, sl2⟩, ho2, hc2, n2, hd2⟩ := id hb
    simp only at hc hd hc2 hd2
    subst hc hd hc2 hd2
    exact concat_meets ⟨_, ho, rfl⟩ ⟨_, ho2, rfl⟩ noFill_tuple_add seq_tuple_add PySem.F.slot_tuple_add PySem.F.entry_tuple_add (PySem.F.args_tuple_add_2 _ _)
      (PyProof.Rows.tuple_addW0 t b vs.toArray ws.toArray n n2 dd dd2 sl sl2 (by simp [hv])) ⟨ho, ho2, h0 hv⟩
  · exact HT.cat_tup ht hb hv (h1 hv) (h2 hv) hsz
section
variable {X : Cx} {pins : List (Addr × Obj)} {σ : St} {H : Hp} {s : Shared} {l : Addr} {xs : List V}
theorem op_repR {Q : VK} {k : Int} {t : Tok} (I : Inv X pins σ H s) (hH : SqL X.K H l xs) (h1 : -(2 ^ 63) ≤ k) (h2 : k < 2 ^ 63) (hz : xs.length * k.toNat ≤ sizeLine)
    (q : ∀ p, H p = none → Q (.ref p) (upd H p (.lst (List.replicate k.toNat xs).flatten))) : wpAny (model X.prog X.w) X.A (binaryOp .Mult (.ref l) (.int k t)) (EP X pins σ Q) X.xe s := by
  obtain ⟨z, its, n, sl, r, hl, e⟩ := lstR I hH
  have hlen : its.toArray.size * k.toNat ≤ sizeLine := by rw [List.size_toArray, ← hl]; exact hz
  have hcap : ¬ its.toArray.size * k.toNat > (2 ^ 63 - 1) / 8 := by
    have : (sizeLine : Nat) ≤ (2 ^ 63 - 1) / 8 := by decide
    omega
  have hfit : ¬ (!Builtin.List.listFitsIndex k) = true := by
    rw [fitsIndex_both h1 h2]
    exact Bool.false_ne_true
  have hlong : ¬ Builtin.List.listTooLong (its.toArray.size * k.toNat) = true := by
    rw [notLongL hlen]
    exact Bool.false_ne_true
  have hnew : List.foldl (fun x1 x2 => x1 ++ x2) #[] (List.replicate (if its.toArray.isEmpty = true then 0 else k.toNat) its.toArray) = (List.replicate k.toNat its).flatten.toArray := by
    have f0 : ∀ m : Nat, List.foldl (fun x1 x2 => x1 ++ x2) #[] (List.replicate m its.toArray) = (List.replicate m its).flatten.toArray := fun m => by
      have := foldl_rep its m []
      rw [List.nil_append] at this
      exact this
    rw [f0]
    cases its with
    | nil => simp
    | cons a r' => rw [if_neg (by simp)]
  refine wpAny_binaryOp_repeat_ref (T := "list") (U := "int") (by decide) ⟨_, e, rfl⟩ (fun s' => typeIs_int s' k t) noFill_list_mul F.fills_int_mul F.slot_int_rmul repeat_list F.slot_int_index.lookup
    (call_meets F.slot_int_rmul (typeIs_int s k t) F.entry_int_rmul (F.args_int_rmul_2 _ _) (int_rmul_listW k t l its.toArray n sl)
      ⟨e, rfl, ⟨_, e, rfl⟩, call_meets F.slot_list_mul ⟨_, e, rfl⟩ F.entry_list_mul (F.args_list_mul_2 _ _) (list_mulW l its.toArray n sl k t hfit hcap hlong) ⟨e, ?_⟩⟩)
  rw [hnew]
  exact ⟨.ref _, _, I.lnew (t' := s.toks) (r.rep k.toNat) (by rw [PyProof.Rows.lm_len_rep_flat, Nat.mul_comm]; exact hz), rfl, q _ I.fresh⟩
theorem foldl_app (m : Nat) (a : Array Nat) : List.foldl (· ++ ·) #[] (List.replicate m a) = (List.replicate m a.toList).flatten.toArray := by
  have g : ∀ (m : Nat) (b : Array Nat), List.foldl (· ++ ·) b (List.replicate m a) = (b.toList ++ (List.replicate m a.toList).flatten).toArray := by
    intro m
    induction m with
    | zero => intro b; simp
    | succ m ih => intro b; rw [List.replicate_succ, List.foldl_cons, ih, List.replicate_succ, List.flatten_cons]; simp
  rw [g]; simp
theorem flat_len {α : Type} (a : List α) : ∀ n : Nat, (List.replicate n a).flatten.length = n * a.length
  | 0 => by simp
  | n + 1 => by rw [List.replicate_succ, List.flatten_cons, List.length_append, flat_len a n, Nat.succ_mul, Nat.add_comm]
theorem okTx.rep {a : Tx} (h : okTx a) (n : Nat) (hz : a.length * n ≤ SZ) : okTx (List.replicate n a).flatten := ⟨fun c hc => by
    obtain ⟨l, hl, hc⟩ := List.mem_flatten.mp hc
    rw [List.eq_of_mem_replicate hl] at hc
    exact h.1 c hc, by rw [flat_len, Nat.mul_comm]; exact hz⟩
theorem op_repS {Q : VK} {k : Int} {t t' : Tok} {a : Tx} (I : Inv X pins σ H s) (oa : okTx a) (h2 : k < 2 ^ 32) (h1 : -(2 ^ 32) < k) (hz : a.length * k.toNat ≤ SZ)
    (q : okTx (List.replicate k.toNat a).flatten → Q (.str (mkS (List.replicate k.toNat a).flatten)) H) : wpAny (model X.prog X.w) X.A (binaryOp .Mult (.str (mkS a) t) (.int k t')) (EP X pins σ Q) X.xe s := by
  have oo := oa.rep k.toNat hz
  have qq := q oo
  have hs : sizeLine = 16777216 := sizeLine_eq
  have hsz : SZ = 16000000 := rfl
  refine P.mul_str (by rw [decide_eq_false (by omega), decide_eq_false (by omega)]; rfl) (fun h3 h4 => ?_) (fun h3 h4 => ?_) ?_
  · rw [mkS_len]
    intro h5
    have h6 : (16000001 : Int) ≤ (2 ^ 63 - 1) / k := Int.le_ediv_of_mul_le (by omega) (by omega)
    have h7 : a.length ≤ SZ := oa.2
    omega
  · rw [mkS_len]
    unfold Builtin.Str.tooLong
    exact decide_eq_false (by omega)
  · split
    · rename_i hk
      have e : k.toNat = 0 := by omega
      rw [e] at qq
      exact ⟨by decide, .str _, H, I.tok _, ⟨_, rfl⟩, qq⟩
    · split
      · rename_i hk hc
        refine ⟨.str (mkS a), H, I, ⟨t, rfl⟩, ?_⟩
        simp only [Bool.or_eq_true, beq_iff_eq, mkS_len] at hc
        rcases hc with hc | hc
        · subst hc
          have e : (List.replicate (1 : Int).toNat a).flatten = a := by simp
          rw [e] at qq; exact qq
        · have e : a = [] := List.eq_nil_of_length_eq_zero hc
          subst e
          have e : (List.replicate k.toNat ([] : Tx)).flatten = [] := by simp
          rw [e] at qq; exact qq
      · have e : (⟨List.foldl (fun x1 x2 => x1 ++ x2) #[] (List.replicate k.toNat (mkS a).cps)⟩ : Str) = mkS (List.replicate k.toNat a).flatten := by
          rw [foldl_app]; simp [mkS]
        refine ⟨?_, .str _, H, I.tok _, ⟨_, rfl⟩, ?_⟩
        · rw [e]; exact oo.line
        · rw [e]; exact qq
end
def pyB : Bop → Operator
  | .add => .Add | .sub => .Sub | .mul => .Mult | .fdiv => .FloorDiv | .mod => .Mod | .pow => .Pow | .shl => .LShift

theorem cmul_of {i : Int} (h : i.natAbs < 2 ^ 64) : -(2 ^ 64) < i ∧ i < 2 ^ 64 := by omega
theorem Vals_len0 {us : List Value} (h : Vals [] us) : us = [] := by cases h; rfl
section
variable {X : Cx}
theorem op_bop (o : Bop) : OpR X (binaryOp (pyB o)) (rOp X.K (bopD o)) := by
  intro pins s σ H x y v u Q I rx ry h
  obtain ⟨d1, d2, d, h1, h2, hf, hq⟩ := h
  cases o with
  | add =>
    simp only [bopD] at hf
    split at hf
    · cases hf
      have e1 := h1.intE; have e2 := h2.intE; subst e1; subst e2
      exact op_add pins s σ H _ _ v u Q I rx ry ⟨_, _, rfl, rfl, hq.int⟩
    · rename_i a b
      split at hf
      · rename_i hl
        cases hf
        obtain ⟨e1, o1⟩ := h1.strE; obtain ⟨e2, o2⟩ := h2.strE; subst e1; subst e2
        have e : mkS a ++ mkS b = mkS (a ++ b) := by
          show Str.append _ _ = _
          simp [mkS, Str.append]
        refine op_add_str pins s σ H _ _ v u Q I rx ry ⟨_, _, rfl, rfl, ?_, ?_⟩
        · rw [mkS_len, mkS_len]; exact Nat.le_trans hl SZ_line
        · rw [e]; exact hq.str (o1.append o2 hl)
      · cases hf
    · rename_i a b
      split at hf
      · rename_i hl
        cases hf
        obtain ⟨p, vs, rfl, hp, r1⟩ := h1.lstE
        obtain ⟨q, ws, rfl, hq', r2⟩ := h2.lstE
        cases rx; cases ry
        refine op_catR (x := .ref p) (y := .ref q) (v := .none) (u := .none) I hp hq' (by rw [r1.length, r2.length]; exact Nat.le_trans hl SZ_line) ?_
        refine hq.newL fun Z dz az => ?_
        obtain ⟨p', vs', e1, hp', r1'⟩ := az.1.lstE
        obtain ⟨q', ws', e2, hq2, r2'⟩ := az.2.lstE
        cases e1; cases e2
        have i1 := I.list_inj hp hp'
        have i2 := I.list_inj hq' hq2
        subst i1; subst i2
        exact r1'.append r2'
      · cases hf
    · rename_i a b
      split at hf
      · rename_i hl
        cases hf
        obtain ⟨p, vs, rfl, hp, r1⟩ := h1.tupE
        obtain ⟨q, ws, rfl, hq', r2⟩ := h2.tupE
        have key : ∀ Z, Dom Z H → RpC X.K Z H (.ref p) (.tup a) ∧ RpC X.K Z H (.ref q) (.tup b) → RpL X.K Z H vs a ∧ RpL X.K Z H ws b := fun Z dz az => by
          obtain ⟨p', vs', e1, hp', r1'⟩ := az.1.tupE
          obtain ⟨q', ws', e2, hq2, r2'⟩ := az.2.tupE
          cases e1; cases e2
          have i1 := I.tuple_inj hp hp'
          have i2 := I.tuple_inj hq' hq2
          subst i1; subst i2
          exact ⟨r1', r2'⟩
        obtain ⟨its, rv1, p1, _⟩ := I.tuple hp
        obtain ⟨its2, rv2, p2, _⟩ := I.tuple hq'
        cases rx; cases ry
        have hsz : its.length + its2.length ≤ sizeLine := by rw [← rv1.length, ← rv2.length, r1.length, r2.length]; exact Nat.le_trans hl SZ_line
        refine cat_tuples p1 p2 (fun z => ?_) (fun z1 z2 => ?_) (fun z1 z2 => ?_) hsz
        · have e1 : vs = [] := rv1.nil_iff.mp z
          subst e1
          have e2 : a = [] := by
            have := r1.length
            cases a with
            | nil => rfl
            | cons _ _ => simp at this
          subst e2
          exact ⟨.ref q, H, I, rfl, hq _ H (Ex.refl H) fun Z dz az => .tup hq' (key Z dz az).2⟩
        · have e1 : ws = [] := rv2.nil_iff.mp z2
          subst e1
          have e2 : b = [] := by
            have := r2.length
            cases b with
            | nil => rfl
            | cons _ _ => simp at this
          subst e2
          rw [List.append_nil] at hq
          exact ⟨.ref p, H, I, rfl, hq _ H (Ex.refl H) fun Z dz az => .tup hp (key Z dz az).1⟩
        · refine ⟨.ref s.heap.objs.size, _, I.laid (t' := s.toks) (o := .tup (vs ++ ws)) (fun b ob q => Heap.get?_push_of_some _ q) (Nat.le_refl _) ?_, rfl, hq.newT (fun Z dz az => (key Z dz az).1.append (key Z dz az).2) _ (I.hok.fresh (Nat.le_refl _))⟩
          exact ⟨by rw [List.length_append, rv1.length, rv2.length]; exact hsz, _, rv1.append rv2, PyProof.Rows.IsTup.new _ _⟩
      · cases hf
    · cases hf
  | sub =>
    simp only [bopD] at hf
    split at hf
    · cases hf
      have e1 := h1.intE; have e2 := h2.intE; subst e1; subst e2
      exact op_sub pins s σ H _ _ v u Q I rx ry ⟨_, _, rfl, rfl, hq.int⟩
    · cases hf
  | mul =>
    simp only [bopD] at hf
    split at hf
    · split at hf
      · rename_i i j hm
        cases hf
        have e1 := h1.intE; have e2 := h2.intE; subst e1; subst e2
        unfold mulOk at hm
        simp only [Bool.or_eq_true, Bool.and_eq_true, decide_eq_true_eq] at hm
        rcases hm with (hm | hm) | hm
        · exact op_mul pins s σ H _ _ v u Q I rx ry ⟨_, _, rfl, rfl, .inl (cmul_of hm), hq.int⟩
        · exact op_mul pins s σ H _ _ v u Q I rx ry ⟨_, _, rfl, rfl, .inr (cmul_of hm), hq.int⟩
        · exact op_mulW pins s σ H _ _ v u Q I rx ry ⟨_, _, rfl, rfl, wide_mul hm.1 hm.2 (by decide) (by decide) (by decide), hq.int⟩
      · cases hf
    · rename_i a n
      split at hf
      · rename_i hm
        cases hf
        obtain ⟨p, vs, rfl, hp, r1⟩ := h1.lstE
        have e2 := h2.intE; subst e2
        cases rx
        obtain ⟨t, rfl⟩ := ry
        refine op_repR I hp (by omega) (by omega) (by rw [r1.length]; exact Nat.le_trans hm.2.2 SZ_line) ?_
        refine hq.newL fun Z dz az => ?_
        obtain ⟨p', vs', e1, hp', r1'⟩ := az.1.lstE
        cases e1
        have i1 := I.list_inj hp hp'
        subst i1
        exact r1'.rep _
      · cases hf
    · rename_i a n
      split at hf
      · rename_i hm
        cases hf
        obtain ⟨e1, o1⟩ := h1.strE; subst e1
        have e2 := h2.intE; subst e2
        obtain ⟨t, rfl⟩ := rx
        obtain ⟨t', rfl⟩ := ry
        exact op_repS I o1 hm.1 hm.2.1 hm.2.2 (fun o => hq.str o)
      · cases hf
    · cases hf
  | fdiv =>
    simp only [bopD] at hf
    split at hf
    · split at hf
      · rename_i i j hm
        cases hf
        have e1 := h1.intE; have e2 := h2.intE; subst e1; subst e2
        exact op_fdivW pins s σ H _ _ v u Q I rx ry ⟨_, _, rfl, rfl, wide_div hm.1 (b := 8000) (by have := hm.1; have := hm.2; omega) (by decide) (by decide), hq.int⟩
      · cases hf
    · cases hf
  | mod =>
    simp only [bopD] at hf
    split at hf
    · split at hf
      · rename_i i j hm
        cases hf
        have e1 := h1.intE; have e2 := h2.intE; subst e1; subst e2
        exact op_mod pins s σ H _ _ v u Q I rx ry ⟨_, _, rfl, rfl, hm, hq.int⟩
      · cases hf
    · cases hf
  | pow =>
    simp only [bopD] at hf
    split at hf
    · split at hf
      · rename_i i j hm
        cases hf
        have e1 := h1.intE; have e2 := h2.intE; subst e1; subst e2
        exact op_pow pins s σ H _ _ v u Q I rx ry ⟨_, _, rfl, rfl, hm, hq.int⟩
      · cases hf
    · cases hf
  | shl =>
    simp only [bopD] at hf
    split at hf
    · split at hf
      · rename_i i j hm
        cases hf
        have e1 := h1.intE; have e2 := h2.intE; subst e1; subst e2
        exact op_shl pins s σ H _ _ v u Q I rx ry ⟨_, _, rfl, rfl, hm, hq.int⟩
      · cases hf
    · cases hf
end
end Rf

/-! part RfDic -/
set_option autoImplicit false
set_option linter.all false
set_option Elab.async false
set_option maxRecDepth 100000
set_option maxHeartbeats 2000000
/-! RfDic: dicts. -/
namespace Rf
open PySem L2
/-! ### keys, plain -/
mutual
theorem nk_eqv : ∀ (x y : D), x.hsh = true → y.hsh = true → x.eqv y = decide (nk x = nk y)
  | .int i, y, _, hy => by
    cases y <;> simp only [D.hsh, Bool.false_eq_true] at hy <;> simp [D.eqv, nk]
    rw [Bool.eq_iff_iff]; simp
  | .str s, y, _, hy => by
    cases y <;> simp only [D.hsh, Bool.false_eq_true] at hy <;> simp [D.eqv, nk]
    rename_i t
    rw [Bool.eq_iff_iff]
    simp only [beq_iff_eq, decide_eq_true_eq]
    exact ⟨fun e => by rw [e], mkS_inj⟩
  | .tup xs, y, hx, hy => by
    cases y <;> simp only [D.hsh, Bool.false_eq_true] at hy <;> simp [D.eqv, nk]
    rw [nk_eqvL xs _ (by simpa [D.hsh] using hx) hy]
  | .non, _, h, _ => by simp [D.hsh] at h
  | .bl _, _, h, _ => by simp [D.hsh] at h
  | .lst _, _, h, _ => by simp [D.hsh] at h
  | .dic _ _, _, h, _ => by simp [D.hsh] at h
  | .obj _ _, _, h, _ => by simp [D.hsh] at h
  | .exn _ _, _, h, _ => by simp [D.hsh] at h
theorem nk_eqvL : ∀ (xs ys : List D), hshL xs = true → hshL ys = true → eqvL xs ys = decide (nkL xs = nkL ys)
  | [], ys, _, _ => by cases ys <;> simp [eqvL, nkL]
  | x :: xs, ys, hx, hy => by
    cases ys with
    | nil => simp [eqvL, nkL]
    | cons y ys =>
      simp only [hshL, Bool.and_eq_true] at hx hy
      simp only [eqvL, nkL, nk_eqv x y hx.1 hy.1, nk_eqvL xs ys hx.2 hy.2]
      rw [Bool.eq_iff_iff]
      simp
end
mutual
theorem nk_depth : ∀ x : D, x.hsh = true → (nk x).depth = x.dep
  | .int _, _ => by simp [nk, NestedKey.depth, D.dep]
  | .str _, _ => by simp [nk, NestedKey.depth, D.dep]
  | .tup xs, h => by simp only [nk, NestedKey.depth, D.dep]; rw [nk_depthL xs (by simpa [D.hsh] using h)]
  | .non, h => by simp [D.hsh] at h
  | .bl _, h => by simp [D.hsh] at h
  | .lst _, h => by simp [D.hsh] at h
  | .dic _ _, h => by simp [D.hsh] at h
  | .obj _ _, h => by simp [D.hsh] at h
  | .exn _ _, h => by simp [D.hsh] at h
theorem nk_depthL : ∀ xs : List D, hshL xs = true → NestedKey.depthAll (nkL xs) = depL xs
  | [], _ => by simp [nkL, NestedKey.depthAll, depL]
  | x :: xs, h => by
    simp only [hshL, Bool.and_eq_true] at h
    simp only [nkL, NestedKey.depthAll, depL]; rw [nk_depth x h.1, nk_depthL xs h.2]
end
theorem keyB_hsh {t : Bool} {k : D} (h : keyB t k = true) : k.hsh = true := by
  cases k <;> simp only [keyB, Bool.false_eq_true, Bool.and_eq_true] at h <;> first | rfl | exact h.2.1
theorem key_eqv {t : Bool} {k j : D} (h : keyB t k = true) (h' : keyB t j = true) : k.eqv j = decide (nk k = nk j) := nk_eqv k j (keyB_hsh h) (keyB_hsh h')
/-! ### entries -/
def egetE (es : List En) (n : NestedKey) : Option V := (es.find? fun e => decide (e.1 = n)).map (·.2.2)
def eputE (es : List En) (n : NestedKey) (kv v : V) : List En := if es.any (fun e => decide (e.1 = n)) then es.map (fun e => if e.1 = n then (e.1, e.2.1, v) else e) else es ++ [(n, kv, v)]
variable [Wd]
section
variable {K : PySem.W.Frag} {Z : AS} {H : Hp} {t : Bool}
theorem RpE.length : ∀ {kvs : List (D × D)} {es : List En}, RpE K Z H t es kvs → es.length = kvs.length
  | _, _, .nil => rfl
  | _, _, .cons _ _ _ r => by simp [RpE.length r]
theorem RpE.keys : ∀ {kvs : List (D × D)} {es : List En}, RpE K Z H t es kvs → ∀ e ∈ es, ∃ k, keyB t k = true ∧ nk k = e.1 ∧ Rp K Z H e.2.1 k
  | _, _, .nil, e, h => by cases h
  | _, _, .cons h1 h2 h3 r, e, h => by
    rcases List.mem_cons.mp h with rfl | h
    · exact ⟨_, h1, rfl, h2⟩
    · exact RpE.keys r e h
theorem RpE.get {k : D} (hk : keyB t k = true) : ∀ {kvs : List (D × D)} {es : List En}, RpE K Z H t es kvs → (∀ d, dgetD kvs k = some d → ∃ v, egetE es (nk k) = some v ∧ Rp K Z H v d) ∧ (dgetD kvs k = none → egetE es (nk k) = none)
  | _, _, .nil => ⟨fun d h => (by cases h), fun _ => rfl⟩
  | _, _, .cons (k := j) h1 h2 h3 r => by
    have ih := RpE.get hk r
    have e := key_eqv h1 hk
    by_cases q : nk j = nk k
    · rw [decide_eq_true q] at e
      refine ⟨fun d h => ?_, fun h => ?_⟩
      · simp only [dgetD, List.find?_cons, e, Option.map_some, Option.some.injEq] at h
        subst h
        exact ⟨_, by simp only [egetE, List.find?_cons, decide_eq_true q, Option.map_some], h3⟩
      · simp [dgetD, List.find?_cons, e] at h
    · rw [decide_eq_false q] at e
      refine ⟨fun d h => ?_, fun h => ?_⟩
      · simp only [dgetD, List.find?_cons, e] at h
        obtain ⟨v, h5, h6⟩ := ih.1 d h
        refine ⟨v, ?_, h6⟩
        simp only [egetE, List.find?_cons, decide_eq_false q]
        exact h5
      · simp only [dgetD, List.find?_cons, e] at h
        have := ih.2 h
        simp only [egetE, List.find?_cons, decide_eq_false q]
        exact this
theorem RpE.any {k : D} (hk : keyB t k = true) : ∀ {kvs : List (D × D)} {es : List En}, RpE K Z H t es kvs → (es.any fun e => decide (e.1 = nk k)) = kvs.any fun p => p.1.eqv k
  | _, _, .nil => rfl
  | _, _, .cons h1 h2 h3 r => by
    rw [List.any_cons, List.any_cons, RpE.any hk r, key_eqv h1 hk]
theorem RpE.map {k d : D} {v : V} (hk : keyB t k = true) (hv : Rp K Z H v d) : ∀ {kvs : List (D × D)} {es : List En}, RpE K Z H t es kvs → RpE K Z H t (es.map fun e => if e.1 = nk k then (e.1, e.2.1, v) else e) (kvs.map fun p => if p.1.eqv k then (p.1, d) else p)
  | _, _, .nil => .nil
  | _, _, .cons (k := j) h1 h2 h3 r => by
    have e := key_eqv h1 hk
    rw [List.map_cons, List.map_cons]
    by_cases q : nk j = nk k
    · rw [decide_eq_true q] at e
      simp only [q, e, if_true]
      rw [← q]
      have := RpE.cons h1 h2 hv (RpE.map hk hv r)
      rw [← q] at this
      exact this
    · rw [decide_eq_false q] at e
      simp only [if_neg q, e, Bool.false_eq_true, if_false]
      exact .cons h1 h2 h3 (RpE.map hk hv r)
theorem RpE.snoc {k d : D} {kv v : V} (hk : keyB t k = true) (hkv : Rp K Z H kv k) (hv : Rp K Z H v d) : ∀ {kvs : List (D × D)} {es : List En}, RpE K Z H t es kvs → RpE K Z H t (es ++ [(nk k, kv, v)]) (kvs ++ [(k, d)])
  | _, _, .nil => .cons hk hkv hv .nil
  | _, _, .cons h1 h2 h3 r => .cons h1 h2 h3 (RpE.snoc hk hkv hv r)
theorem RpE.put {k d : D} {kv v : V} {kvs : List (D × D)} {es : List En} (hk : keyB t k = true) (hkv : Rp K Z H kv k) (hv : Rp K Z H v d) (r : RpE K Z H t es kvs) : RpE K Z H t (eputE es (nk k) kv v) (dputD kvs k d) := by
  unfold eputE dputD
  rw [r.any hk]
  split
  · exact r.map hk hv
  · exact r.snoc hk hkv hv
end
theorem eputE_len (es : List En) (n : NestedKey) (kv v : V) : (eputE es n kv v).length ≤ es.length + 1 := by
  unfold eputE; split <;> simp
/-! a dict of tuples: the entries as the library has them -/
theorem EnX.get {es : List En} {xs : List (NestedKey × Addr × Value)} (r : EnX es xs) (n : NestedKey) : RelO (egetE es n) ((atKey xs n).map (·.2)) := by
  induction r with
  | nil => exact trivial
  | @cons p q es xs h _ ih =>
    obtain ⟨h1, h2, h3⟩ := h
    by_cases e : p.1 = n
    · have e' : q.1 = n := h1 ▸ e
      simp only [egetE, atKey, List.find?_cons, decide_eq_true e, decide_eq_true e', Option.map_some]
      exact h3
    · have e' : ¬ q.1 = n := h1 ▸ e
      simp only [egetE, atKey, List.find?_cons, decide_eq_false e, decide_eq_false e'] at ih ⊢
      exact ih
theorem EnX.any {es : List En} {xs : List (NestedKey × Addr × Value)} (r : EnX es xs) (n : NestedKey) : (es.any fun e => decide (e.1 = n)) = (atKey xs n).isSome := by
  induction r with
  | nil => rfl
  | @cons p q es xs h _ ih =>
    rw [List.any_cons, ih, h.1]
    by_cases e : q.1 = n
    · simp [atKey, List.find?_cons, e]
    · simp only [atKey, List.find?_cons, decide_eq_false e, Bool.false_or]
theorem EnX.map {es : List En} {xs : List (NestedKey × Addr × Value)} (r : EnX es xs) (n : NestedKey) {v : V} {u : Value} (hv : RelV v u) : EnX (es.map fun e => if e.1 = n then (e.1, e.2.1, v) else e) (xs.map (putAt n u)) := by
  induction r with
  | nil => exact .nil
  | @cons p q es xs h _ ih =>
    rw [List.map_cons, List.map_cons]
    refine .cons ?_ ih
    by_cases e : p.1 = n
    · have e' : q.1 = n := h.1 ▸ e
      simp only [if_pos e, putAt, if_pos e']
      exact ⟨h.1, h.2.1, hv⟩
    · have e' : ¬ q.1 = n := h.1 ▸ e
      simp only [if_neg e, putAt, if_neg e']
      exact h
theorem EnX.put {es : List En} {xs : List (NestedKey × Addr × Value)} (r : EnX es xs) (n : NestedKey) {v : V} {u : Value} {a : Addr} (hv : RelV v u) : EnX (eputE es n (.ref a) v) (storedH xs n a u) := by
  unfold eputE storedH
  rw [r.any n]
  split
  · exact r.map n hv
  · exact Paired.snoc r ⟨rfl, rfl, hv⟩
/-- the kit's program is the run's -/
structure WdX (X : Cx) : Prop where
  P : Wd.P = X.prog
  w : Wd.w = X.w
section
variable {X : Cx} {pins : List (Addr × Obj)} {σ : St} {H : Hp} {s : Shared} {a : Addr}
mutual
theorem nest_of (I : Inv X pins σ H s) : ∀ {k : D} {v : V} {u : Value}, Rp X.K AS.none H v k → k.hsh = true → RelV v u → NestedIs s.heap (nk k) u
  | _, _, u, .int i, _, r => by obtain ⟨t, rfl⟩ := r; simp only [nk]; exact .int i t
  | _, _, u, .str x h, _, r => by obtain ⟨t, rfl⟩ := r; simp only [nk]; exact .text _ t
  | _, _, u, .tup h l, hh, r => by
    cases r
    obtain ⟨its, rv, p, _⟩ := I.tuple h
    obtain ⟨o, h1, h2, n, h3⟩ := p
    simp only [nk]
    exact .tup h1 h2 h3 (by simpa using nest_ofL I l (by simpa [D.hsh] using hh) rv)
  | _, _, _, .non, h, _ => by simp [D.hsh] at h
  | _, _, _, .bl _, h, _ => by simp [D.hsh] at h
  | _, _, _, .lst _ _, h, _ => by simp [D.hsh] at h
  | _, _, _, .dic _ _ _, h, _ => by simp [D.hsh] at h
  | _, _, _, .obj _ _ _, h, _ => by simp [D.hsh] at h
theorem nest_ofL (I : Inv X pins σ H s) : ∀ {ks : List D} {vs : List V} {us : List Value}, RpL X.K AS.none H vs ks → hshL ks = true → Vals vs us → NestedAll s.heap (nkL ks) us
  | _, _, _, .nil, _, r => by cases r; simp only [nkL]; exact .nil
  | _, _, _, .cons q t, hh, r => by
    simp only [hshL, Bool.and_eq_true] at hh
    cases r with
    | cons r1 r2 => simp only [nkL]; exact .cons (nest_of I q hh.1 r1) (nest_ofL I t hh.2 r2)
end
/-- a key of tuples: its place, and what it is -/
theorem key_at (I : Inv X pins σ H s) {k : D} {v : V} (h : Rp X.K AS.none H v k) (hk : keyB true k = true) : ∃ b, v = .ref b ∧ (nestedKind X.prog X.w).is s.heap (nk k) b := by
  have hh := keyB_hsh hk
  cases k with
  | tup ks =>
    simp only [keyB, Bool.true_and, Bool.and_eq_true, decide_eq_true_eq] at hk
    cases h with
    | tup h l =>
      refine ⟨_, rfl, nest_of I (.tup h l) hh rfl, ?_⟩
      rw [nk_depth _ hh]; exact hk.2
  | _ => simp [keyB] at hk
/-- the dict as the library has it -/
theorem dx_at (W : WdX X) (I : Inv X pins σ H s) {es : List En} {kvs : List (D × D)} (ha : H a = some (dO true a es)) (r : RpE X.K AS.none H true es kvs) : es.length ≤ sizeLine ∧ (a == sysModules) = false ∧ ∃ xs, EnX es xs ∧ s.heap.DictOfH (nestedKind X.prog X.w) a xs := by
  obtain ⟨z, hd, xs, ex, o, des, ep, h1, h2, h3, h4, h5⟩ : DxR s.heap a es := (I.hok a _ ha).1
  rw [W.P, W.w] at h4
  refine ⟨z, hd, xs, ex, o, des, ep, h1, h2, h3, h4, fun x hx => ?_, h5⟩
  obtain ⟨i, hi, rfl⟩ := List.mem_iff_getElem.mp hx
  have key : ∀ {es : List En} {xs : List (NestedKey × Addr × Value)}, EnX es xs → ∀ i (hi : i < xs.length), ∃ e ∈ es, e.1 = xs[i].1 ∧ e.2.1 = .ref xs[i].2.1 := fun {es xs} ex => by
    induction ex with
    | nil => intro i hi; simp at hi
    | @cons p q es xs h _ ih =>
      intro i hi
      cases i with
      | zero => exact ⟨p, List.mem_cons_self, h.1, h.2.1⟩
      | succ i =>
        obtain ⟨e, h1, h2⟩ := ih i (by simpa using hi)
        exact ⟨e, List.mem_cons_of_mem _ h1, by simpa using h2⟩
  obtain ⟨e, he, e1, e2⟩ := key ex i hi
  obtain ⟨k, k1, k2, k3⟩ := r.keys e he
  obtain ⟨b, b1, b2⟩ := key_at I k3 k1
  rw [e2] at b1
  cases b1
  rw [← e1, ← k2]
  exact b2
theorem enx_inj : ∀ {es es' : List En} {xs : List (NestedKey × Addr × Value)}, EnX es xs → EnX es' xs → es = es'
  | _, _, _, .nil, h => by cases h; rfl
  | _, _, _, .cons (a := p) h t, h' => by
    cases h' with
    | @cons q _ _ _ g t' =>
      rw [enx_inj t t']
      obtain ⟨p1, p2, p3⟩ := p
      obtain ⟨q1, q2, q3⟩ := q
      obtain ⟨a1, a2, a3⟩ := h
      obtain ⟨b1, b2, b3⟩ := g
      simp only at a1 a2 a3 b1 b2 b3
      rw [a1, b1, a2, b2, a3.inj b3]
theorem dK_inj {K : PySem.W.Frag} : ∀ {es es' : List En} {kvs kvs' : List (D × D)} {Z Z' : AS}, RpE K Z H false es kvs → RpE K Z' H false es' kvs' → (es.map fun e => (toK e.1, e.2.2)) = (es'.map fun e => (toK e.1, e.2.2)) → es = es'
  | _, _, _, _, _, _, .nil, h, e => by
    cases h with
    | nil => rfl
    | cons => simp at e
  | _, _, _, _, _, _, .cons (k := k) h1 h2 h3 r, h, e => by
    cases h with
    | nil => simp at e
    | @cons _ kv' v' k' d' es' kvs' g1 g2 g3 r' =>
      simp only [List.map_cons, List.cons.injEq, Prod.mk.injEq] at e
      obtain ⟨⟨e1, e2⟩, e3⟩ := e
      rw [dK_inj r r' e3, e2]
      cases k with
      | int i => cases k' with
        | int j => cases h2; cases g2; simp only [nk, toK, Sum.inl.injEq] at e1; rw [e1]
        | str s => simp [nk, toK] at e1
        | _ => simp [keyB] at g1
      | str s => cases k' with
        | str j => cases h2; cases g2; simp only [nk, toK, Sum.inr.injEq] at e1; rw [mkS_inj e1]
        | int s => simp [nk, toK] at e1
        | _ => simp [keyB] at g1
      | _ => simp [keyB] at h1
/-- a dict's entries are told once -/
theorem dic_inj (W : WdX X) (I : Inv X pins σ H s) {t : Bool} {es es' : List En} {kvs kvs' : List (D × D)} {Z Z' : AS} (ha : H a = some (dO t a es)) (ha' : H a = some (dO t a es')) (r : RpE X.K Z H t es kvs) (r' : RpE X.K Z' H t es' kvs') : es = es' := by
  cases t with
  | true =>
    obtain ⟨_, _, xs, ex, o, des, ep, h1, h2, h3, h4, h5⟩ : DxR s.heap a es := (I.hok a _ ha).1
    obtain ⟨_, _, xs', ex', o', des', ep', g1, g2, g3, g4, g5⟩ : DxR s.heap a es' := (I.hok a _ ha').1
    rw [h1] at g1; cases g1
    rw [h3] at g3; cases g3
    rw [h4] at g4
    -- the same entries: the same places and values; the same keys
    have L := (r.sub (Z' := AS.none) fun _ z => z.elim)
    have L' := (r'.sub (Z' := AS.none) fun _ z => z.elim)
    obtain ⟨_, _, ys, ey, q⟩ := dx_at W I ha L
    obtain ⟨_, _, ys', ey', q'⟩ := dx_at W I ha' L'
    obtain ⟨u, us, up, k1, k2, k3, k4, k5, _⟩ := q
    obtain ⟨u', us', up', l1, l2, l3, l4, l5, _⟩ := q'
    rw [k1] at l1; cases l1
    rw [k3] at l3; cases l3
    rw [k4] at l4
    have e : ys = ys' := by
      clear ey ey'
      have gen : ∀ (ys ys' : List (NestedKey × Addr × Value)), ys.map (entryOfKey (nestedKind X.prog X.w)) = ys'.map (entryOfKey (nestedKind X.prog X.w)) → (∀ x ∈ ys, (nestedKind X.prog X.w).is s.heap x.1 x.2.1) → (∀ x ∈ ys', (nestedKind X.prog X.w).is s.heap x.1 x.2.1) → ys = ys' := by
        intro ys
        induction ys with
        | nil => intro ys' e _ _; cases ys' with
          | nil => rfl
          | cons => simp at e
        | cons y ys ih =>
          intro ys' e i1 i2
          cases ys' with
          | nil => simp at e
          | cons y' ys' =>
            simp only [List.map_cons, List.cons.injEq] at e
            obtain ⟨e1, e2⟩ := e
            rw [ih ys' e2 (fun x hx => i1 x (List.mem_cons_of_mem _ hx)) (fun x hx => i2 x (List.mem_cons_of_mem _ hx))]
            obtain ⟨n, b, v⟩ := y
            obtain ⟨n', b', v'⟩ := y'
            simp only [entryOfKey, DictEntry.mk.injEq, Value.ref.injEq] at e1
            obtain ⟨_, rfl, rfl⟩ := e1
            have := (nestedKind X.prog X.w).inj (i1 (n, b, v) List.mem_cons_self) (i2 (n', b, v) List.mem_cons_self)
            simp only at this
            rw [this]
      exact gen ys ys' l4 k5 l5
    subst e
    exact enx_inj ey ey'
  | false =>
    have e : KdO es = KdO es' := Option.some.inj (ha.symm.trans ha')
    unfold KdO at e
    exact dK_inj r r' (by injection e)
end
end Rf

/-! part RfDic2 -/
set_option autoImplicit false
set_option linter.all false
set_option Elab.async false
set_option maxRecDepth 100000
set_option maxHeartbeats 2000000
/-! RfDic2: what the operations on dicts do. -/
namespace Rf
open PySem L2
variable [Wd]
theorem ref_inj {a b : Addr} (h : V.ref a = V.ref b) : a = b := by cases h; rfl
/-! dicts of texts and whole numbers -/
theorem kd_key {K : PySem.W.Frag} {H : Hp} {k : D} {kv : V} (hk : keyB false k = true) (r : Rp K AS.none H kv k) : kv = kV (toK (nk k)) := by
  cases k with
  | int i => cases r; rfl
  | str s => cases r; rfl
  | _ => simp [keyB] at hk
theorem toK_inj {j k : D} (hj : keyB false j = true) (hk : keyB false k = true) : (toK (nk j) = toK (nk k)) ↔ nk j = nk k := by
  cases j <;> first | (simp [keyB] at hj; done) | (cases k <;> first | (simp [keyB] at hk; done) | simp [nk, toK])
theorem kd_get {K : PySem.W.Frag} {Z : AS} {H : Hp} {k : D} (hk : keyB false k = true) : ∀ {kvs : List (D × D)} {es : List En}, RpE K Z H false es kvs → valV (es.map fun e => (toK e.1, e.2.2)) (toK (nk k)) = egetE es (nk k)
  | _, _, .nil => rfl
  | _, _, .cons (k := j) h1 h2 h3 r => by
    have ih := kd_get hk r
    have e := toK_inj h1 hk
    rw [List.map_cons]
    by_cases q : nk j = nk k
    · rw [valV_pos (e.mpr q)]
      simp only [egetE, List.find?_cons, decide_eq_true q, Option.map_some]
    · rw [valV_neg (fun z => q (e.mp z)), ih]
      simp only [egetE, List.find?_cons, decide_eq_false q]
theorem kd_any {K : PySem.W.Frag} {Z : AS} {H : Hp} {k : D} (hk : keyB false k = true) : ∀ {kvs : List (D × D)} {es : List En}, RpE K Z H false es kvs → ((es.map fun e => (toK e.1, e.2.2)).any fun p => decide (p.1 = toK (nk k))) = es.any fun e => decide (e.1 = nk k)
  | _, _, .nil => rfl
  | _, _, .cons (k := j) h1 h2 h3 r => by
    rw [List.map_cons, List.any_cons, List.any_cons, kd_any hk r, decide_eq_decide.mpr (toK_inj h1 hk)]
theorem kd_map {K : PySem.W.Frag} {Z : AS} {H : Hp} {k : D} {v : V} (hk : keyB false k = true) : ∀ {kvs : List (D × D)} {es : List En}, RpE K Z H false es kvs → ((es.map fun e => (toK e.1, e.2.2)).map fun p => if p.1 = toK (nk k) then (p.1, v) else p) = (es.map fun e => if e.1 = nk k then (e.1, e.2.1, v) else e).map fun e => (toK e.1, e.2.2)
  | _, _, .nil => rfl
  | _, _, .cons (k := j) h1 h2 h3 r => by
    have ih := kd_map (v := v) hk r
    have e := toK_inj h1 hk
    rw [List.map_cons, List.map_cons, List.map_cons, List.map_cons, ih]
    by_cases q : nk j = nk k
    · simp only [if_pos q, if_pos (e.mpr q)]
    · simp only [if_neg q, if_neg (fun z => q (e.mp z))]
theorem kd_put {K : PySem.W.Frag} {Z : AS} {H : Hp} {k : D} {v kv : V} (hk : keyB false k = true) {kvs : List (D × D)} {es : List En} (r : RpE K Z H false es kvs) : putK (es.map fun e => (toK e.1, e.2.2)) (toK (nk k)) v = (eputE es (nk k) kv v).map fun e => (toK e.1, e.2.2) := by
  unfold putK eputE
  rw [kd_any hk r]
  split
  · exact kd_map hk r
  · rw [List.map_append]; rfl
section
variable {X : Cx} {pins : List (Addr × Obj)} {σ : St} {H : Hp} {s : Shared} {a : Addr} {t : Bool} {es : List En} {kvs : List (D × D)} {k : D} {y : V} {u : Value}
theorem room8 {A : Around} (hu : A.units + 66 < cLine) {P : Program} {w : World} : (nestedKind P w).room A.in1 := by
  show A.units + 1 + 8 < cLine; omega
/-- d[k] -/
theorem d_getR (W : WdX X) (hu : X.A.units + 66 < cLine) (I : Inv X pins σ H s) (ha : H a = some (dO t a es)) (r : RpE X.K AS.none H t es kvs) (hk : Rp X.K AS.none H y k) (ry : RelV y u) (kb : keyB t k = true) {v : V} (hv : egetE es (nk k) = some v) {Q : VK} (q : Q v H) :
    wpAny (model X.prog X.w) X.A (getItem (.ref a) u) (EP X pins σ Q) X.xe s := by
  cases t with
  | true =>
    obtain ⟨b, rfl, hb⟩ := key_at I hk kb
    cases ry
    obtain ⟨z, hd, xs, ex, hm⟩ := dx_at W I ha r
    have g := ex.get (nk k)
    rw [hv] at g
    cases e : atKey xs (nk k) with
    | none => rw [e] at g; exact g.elim
    | some p =>
      rw [e] at g
      exact wpAny_getItem_heap (room8 hu) hb hm e ⟨v, H, I.tok _, g, q⟩
  | false =>
    have e : H a = some (.dK (es.map fun e => (toK e.1, e.2.2))) := ha
    have g : DGet H a y (some v) := by
      rw [kd_key kb hk, ← hv, ← kd_get kb r]
      exact DGet.k e
    exact d_getItem (by omega) I g ry fun w' s' I' r' => ⟨v, H, I', r', q⟩
/-- k in d -/
theorem d_inR (W : WdX X) (hu : X.A.units + 66 < cLine) (I : Inv X pins σ H s) (ha : H a = some (dO t a es)) (r : RpE X.K AS.none H t es kvs) (hk : Rp X.K AS.none H y k) (ry : RelV y u) (kb : keyB t k = true) {Q : VK} (q : Q (.bl (dgetD kvs k).isSome) H) :
    wpAny (model X.prog X.w) X.A (compareOp .In u (.ref a)) (EP X pins σ Q) X.xe s := by
  have eq : (dgetD kvs k).isSome = (egetE es (nk k)).isSome := by
    obtain ⟨g1, g2⟩ := r.get kb
    cases e : dgetD kvs k with
    | none => rw [g2 e]; rfl
    | some d => obtain ⟨v, h, _⟩ := g1 d e; rw [h]; rfl
  rw [eq] at q
  cases t with
  | true =>
    obtain ⟨b, rfl, hb⟩ := key_at I hk kb
    cases ry
    obtain ⟨z, hd, xs, ex, hm⟩ := dx_at W I ha r
    have g := (ex.get (nk k)).isSome_eq
    rw [Option.isSome_map] at g
    refine wpAny_in_heap (room8 hu) hb hd hm ?_
    rw [← g]
    exact ⟨.bl _, H, I.tok _, rfl, q⟩
  | false =>
    have e : H a = some (.dK (es.map fun e => (toK e.1, e.2.2))) := ha
    have g : DGet H a y (egetE es (nk k)) := by
      rw [kd_key kb hk, ← kd_get kb r]
      exact DGet.k e
    exact d_in (by omega) I g ry fun s' I' => ⟨.bl _, H, I', rfl, q⟩
theorem d_ninR (W : WdX X) (hu : X.A.units + 66 < cLine) (I : Inv X pins σ H s) (ha : H a = some (dO t a es)) (r : RpE X.K AS.none H t es kvs) (hk : Rp X.K AS.none H y k) (ry : RelV y u) (kb : keyB t k = true) {Q : VK} (q : Q (.bl (!(dgetD kvs k).isSome)) H) :
    wpAny (model X.prog X.w) X.A (compareOp .NotIn u (.ref a)) (EP X pins σ Q) X.xe s := by
  have eq : (dgetD kvs k).isSome = (egetE es (nk k)).isSome := by
    obtain ⟨g1, g2⟩ := r.get kb
    cases e : dgetD kvs k with
    | none => rw [g2 e]; rfl
    | some d => obtain ⟨v, h, _⟩ := g1 d e; rw [h]; rfl
  rw [eq] at q
  cases t with
  | true =>
    obtain ⟨b, rfl, hb⟩ := key_at I hk kb
    cases ry
    obtain ⟨z, hd, xs, ex, hm⟩ := dx_at W I ha r
    have g := (ex.get (nk k)).isSome_eq
    rw [Option.isSome_map] at g
    refine PyProof.Rows.wpAny_notIn_heap (room8 hu) hb hd hm ?_
    rw [← g]
    exact ⟨.bl _, H, I.tok _, rfl, q⟩
  | false =>
    have e : H a = some (.dK (es.map fun e => (toK e.1, e.2.2))) := ha
    have g : DGet H a y (egetE es (nk k)) := by
      rw [kd_key kb hk, ← kd_get kb r]
      exact DGet.k e
    exact d_notIn (by omega) I g ry fun s' I' => ⟨.bl _, H, I', rfl, q⟩
/-- d.get(k, x) -/
theorem d_getOrR (W : WdX X) (hu : X.A.units + 66 < cLine) (I : Inv X pins σ H s) (ha : H a = some (dO t a es)) (r : RpE X.K AS.none H t es kvs) (hk : Rp X.K AS.none H y k) (ry : RelV y u) (kb : keyB t k = true) {x : V} {ux : Value} (rx : RelV x ux) {Q : VK} (q : Q ((egetE es (nk k)).getD x) H) :
    wpAny (model X.prog X.w) X.A (call (.builtin "dict.get") [.ref a, u, ux]) (EP X pins σ Q) X.xe s := by
  cases t with
  | true =>
    obtain ⟨b, rfl, hb⟩ := key_at I hk kb
    cases ry
    obtain ⟨z, hd, xs, ex, hm⟩ := dx_at W I ha r
    refine call_meetsIn PySem.F.slot_dict_get hm.typeIs PySem.F.entry_dict_get (PySem.F.args_dict_get_3 _ _ _) (meetsH_dict_get_default (nestedKind X.prog X.w) a b hd ux) ⟨room8 hu, nk k, xs, hb, hm, ?_⟩
    exact ⟨_, H, I.tok _, (ex.get (nk k)).getD rx, q⟩
  | false =>
    have e : H a = some (.dK (es.map fun e => (toK e.1, e.2.2))) := ha
    have g : DGet H a y (egetE es (nk k)) := by
      rw [kd_key kb hk, ← kd_get kb r]
      exact DGet.k e
    exact d_get2 (by omega) I g ry rx fun w' s' I' r' => ⟨_, H, I', r', q⟩
/-- len(d) -/
theorem d_lenR (W : WdX X) (I : Inv X pins σ H s) (ha : H a = some (dO t a es)) (r : RpE X.K AS.none H t es kvs) {Q : VK} (q : Q (.int kvs.length) H) :
    wpAny (model X.prog X.w) X.A (call (.builtin "len") [.ref a]) (EP X pins σ Q) X.xe s := by
  cases t with
  | true =>
    obtain ⟨z, hd, xs, ex, hm⟩ := dx_at W I ha r
    have hl : (pairsH xs).length = kvs.length := by rw [pairsH_length, ← Paired.length ex, r.length]
    have hk : s.heap.DictKeyed (nestedKind X.prog X.w) a (pairsH xs) := ⟨xs, hm, rfl⟩
    have z2 : kvs.length ≤ sizeLine := by rw [← r.length]; exact z
    refine PyProof.Rows.call_len_slot (n := (pairsH xs).length) hk.typeIs F.slot_dict_len (fun Q' hq => len_keyed hd hk hq) (by omega) (by rw [hl]; rw [sizeLine_eq] at z2; omega) ?_
    rw [hl]
    exact ⟨.int _, H, I.tok _, ⟨_, rfl⟩, q⟩
  | false =>
    have e : H a = some (.dK (es.map fun e => (toK e.1, e.2.2))) := ha
    refine d_len I (.inl e) fun t s' I' => ⟨.int _, H, I', ⟨t, rfl⟩, ?_⟩
    rw [List.length_map, r.length]; exact q
/-- {} -/
theorem d_newI (W : WdX X) (t : Bool) (I : Inv X pins σ H s) : Inv X pins σ (upd H s.heap.objs.size (dO t s.heap.objs.size [])) { s with heap := s.heap.push { cls := .type "dict", data := .dict #[] } } ∧ H s.heap.objs.size = none := by
  have big := I.big
  cases t with
  | true =>
    refine ⟨I.laid (t' := s.toks) (fun b u e => Heap.get?_push_of_some _ e) (Nat.le_refl _) ?_, I.hok.fresh (Nat.le_refl _)⟩
    refine ⟨⟨Nat.zero_le _, ?_, [], .nil, _, #[], 0, Heap.get?_push_size _ rfl, ⟨rfl, rfl, rfl⟩, rfl, rfl, List.nodup_nil⟩, ⟨_, Heap.get?_push_size _ rfl⟩, ?_⟩
    · exact beq_false_of_ne (Nat.ne_of_gt big)
    · rintro h1 h2 ⟨z, hd, xs, ex, o, des, ep, g1, g2⟩ hk
      exact ⟨z, hd, xs, ex, o, des, ep, hk _ g1, g2⟩
  | false => exact ⟨I.laid (t' := s.toks) (fun b u e => Heap.get?_push_of_some _ e) (Nat.le_refl _) (dk_empty s.heap big), I.hok.fresh (Nat.le_refl _)⟩
theorem d_newR (W : WdX X) (t : Bool) (I : Inv X pins σ H s) {Q : VK} (q : ∀ p, H p = none → Q (.ref p) (upd H p (dO t p []))) :
    EP X pins σ Q (.ref s.heap.objs.size) { s with heap := s.heap.push { cls := .type "dict", data := .dict #[] } } :=
  ⟨.ref _, _, (d_newI W t I).1, rfl, q _ (d_newI W t I).2⟩
/-- d[k] = v -/
theorem d_setR (W : WdX X) (hu : X.A.units + 66 < cLine) (I : Inv X pins σ H s) (ha : H a = some (dO t a es)) (r : RpE X.K AS.none H t es kvs) (hk : Rp X.K AS.none H y k) (ry : RelV y u) (kb : keyB t k = true) (hl : es.length < sizeLine) {v : V} {uv : Value} (rv : RelV v uv) {Q : Unit → Shared → Prop}
    (q : ∀ s', Inv X pins σ (upd H a (dO t a (eputE es (nk k) y v))) s' → Q () s') : wpAny (model X.prog X.w) X.A (setItem (.ref a) u uv) Q X.xe s := by
  have hz : (eputE es (nk k) y v).length ≤ sizeLine := by have := eputE_len es (nk k) y v; omega
  cases t with
  | true =>
    obtain ⟨b, rfl, hb⟩ := key_at I hk kb
    cases ry
    obtain ⟨z, hd, xs, ex, hm⟩ := dx_at W I ha r
    have hxl : xs.length ≤ sizeLine := by rw [← Paired.length ex]; exact z
    refine wpAny_setItem_heap (hsz := hxl) (room8 hu) hb hm fun h' hm' hs => q _ ?_
    obtain ⟨o, des, ep, h1, h2, h3, h4, _, h5⟩ := hm'
    refine d_write I (by rw [ha]; exact True.intro) hs ⟨o, h1⟩ ⟨⟨hz, hd, _, ex.put (nk k) rv, o, des, ep, h1, h2, h3, by rw [W.P, W.w]; exact h4, h5⟩, ⟨o, h1⟩, ?_⟩
    rintro g1 g2 ⟨z, hd, xs, ex, o, des, ep, g1, g2⟩ hk
    exact ⟨z, hd, xs, ex, o, des, ep, hk _ g1, g2⟩
  | false =>
    have e : H a = some (.dK (es.map fun e => (toK e.1, e.2.2))) := ha
    have ey := kd_key kb hk
    have p : DPut H a y v (upd H a (dO false a (eputE es (nk k) y v))) := by
      have := DPut.k (k := toK (nk k)) (v := v) e (by rw [List.length_map]; exact hl)
      rw [kd_put (kv := y) kb r] at this
      rw [← ey] at this
      exact this
    exact d_setItem (by omega) I p ry rv fun s' I' => q s' I'
end
end Rf

/-! part RfOps2 -/
set_option autoImplicit false
set_option linter.all false
set_option Elab.async false
set_option maxRecDepth 100000
set_option maxHeartbeats 2000000
/-! RfOps2: comparisons, subscripts, slices, built-ins. -/
namespace Rf
open PySem L2
variable [Wd]
def pyC : Cop → CmpOp
  | .eq => .Eq | .ne => .NotEq | .lt => .Lt | .le => .LtE | .gt => .Gt | .ge => .GtE | .is => .Is | .isn => .IsNot | .inn => .In | .nin => .NotIn

theorem pyL_any (xs : List D) (x : D) (hx : x.plain = true) (hxs : plainL xs = true) : ((pyL xs).any fun y => PyData.eqv y x.py) = xs.any fun y => y.eqv x := by
  induction xs with
  | nil => rfl
  | cons y ys ih =>
    simp only [plainL, Bool.and_eq_true] at hxs
    simp only [pyL, List.any_cons]
    rw [py_eqv y x hxs.1 hx, ih hxs.2]
def nonB : D → Bool
  | .non => true
  | _ => false
theorem isnon {K : PySem.W.Frag} {H : Hp} {v : V} {d : D} (h : Rp K AS.none H v d) : decide (v = .non) = nonB d := by
  cases h <;> rfl
section
variable {X : Cx}
theorem op_cop (o : Cop) (W : WdX X) (hu : X.A.units + 66 < cLine) : OpR X (compareOp (pyC o)) (rOp X.K (cmpD o)) := by
  intro pins s σ H x y v u Q I rx ry h
  obtain ⟨d1, d2, d, h1, h2, hf, hq⟩ := h
  cases o with
  | eq =>
    simp only [cmpD, eqD] at hf
    split at hf
    · rename_i ho
      cases hf
      simp only [eqOk, Bool.and_eq_true, decide_eq_true_eq] at ho
      obtain ⟨as, q1⟩ := Dp.reads I _ x v (h1.r0.dp ho.1.1) rx
      obtain ⟨bs, q2⟩ := Dp.reads I _ y u (h2.r0.dp ho.1.2) ry
      refine SeqAt.compareEq_reads q1 q2 h1.r0.lay h2.r0.lay (by rw [py_depth, py_depth]; omega) ?_
      rw [py_eqv _ _ ho.1.1 ho.1.2]
      exact ⟨.bl _, H, I, rfl, hq.bl⟩
    · cases hf
  | ne =>
    simp only [cmpD, eqD] at hf
    split at hf
    · rename_i ho
      cases hf
      simp only [eqOk, Bool.and_eq_true, decide_eq_true_eq] at ho
      obtain ⟨as, q1⟩ := Dp.reads I _ x v (h1.r0.dp ho.1.1) rx
      obtain ⟨bs, q2⟩ := Dp.reads I _ y u (h2.r0.dp ho.1.2) ry
      refine SeqAt.compareNe_reads q1 q2 h1.r0.lay h2.r0.lay (by rw [py_depth, py_depth]; omega) ?_
      rw [py_eqv _ _ ho.1.1 ho.1.2]
      exact ⟨.bl _, H, I, rfl, hq.bl⟩
    · cases hf
  | lt =>
    simp only [cmpD, intCmp] at hf
    split at hf
    · cases hf
      have e1 := h1.intE; have e2 := h2.intE; subst e1; subst e2
      exact op_lt pins s σ H _ _ v u Q I rx ry ⟨_, _, rfl, rfl, hq.bl⟩
    · cases hf
  | le =>
    simp only [cmpD, intCmp] at hf
    split at hf
    · cases hf
      have e1 := h1.intE; have e2 := h2.intE; subst e1; subst e2
      exact op_le pins s σ H _ _ v u Q I rx ry ⟨_, _, rfl, rfl, hq.bl⟩
    · cases hf
  | gt =>
    simp only [cmpD, intCmp] at hf
    split at hf
    · cases hf
      have e1 := h1.intE; have e2 := h2.intE; subst e1; subst e2
      exact op_gt pins s σ H _ _ v u Q I rx ry ⟨_, _, rfl, rfl, hq.bl⟩
    · cases hf
  | ge =>
    simp only [cmpD, intCmp] at hf
    split at hf
    · cases hf
      have e1 := h1.intE; have e2 := h2.intE; subst e1; subst e2
      exact op_ge pins s σ H _ _ v u Q I rx ry ⟨_, _, rfl, rfl, hq.bl⟩
    · cases hf
  | is =>
    have e0 := isnon h1.r0
    simp only [cmpD] at hf
    split at hf
    · have e2 := h2.nonE; subst e2
      refine op_isN pins s σ H _ _ v u Q I rx ry ⟨rfl, ?_⟩
      rw [e0]
      cases d1 <;> cases hf <;> exact hq.bl
    · cases hf
  | isn =>
    have e0 := isnon h1.r0
    simp only [cmpD] at hf
    split at hf
    · have e2 := h2.nonE; subst e2
      refine op_notN pins s σ H _ _ v u Q I rx ry ⟨rfl, ?_⟩
      rw [e0]
      cases d1 <;> cases hf <;> exact hq.bl
    · cases hf
  | inn =>
    simp only [cmpD, inD] at hf
    split at hf
    · simp only [memD] at hf
      split at hf
      · rename_i ho
        cases hf
        simp only [Bool.and_eq_true, decide_eq_true_eq] at ho
        obtain ⟨as, q1⟩ := Dp.reads I _ x v (h1.r0.dp ho.1.1) rx
        obtain ⟨bs, q2⟩ := Dp.reads I _ y u (h2.r0.dp (by simpa [D.plain] using ho.1.2)) ry
        have l2 := h2.r0.lay
        simp only [D.py, PyData.canLay0] at q2 l2
        refine SeqAt.in_list_reads q2 q1 l2 h1.r0.lay (by rw [py_depth, py_depthL]; omega) ?_
        rw [pyL_any _ _ ho.1.1 ho.1.2]
        exact ⟨.bl _, H, I, rfl, hq.bl⟩
      · cases hf
    · simp only [memD] at hf
      split at hf
      · rename_i ho
        cases hf
        simp only [Bool.and_eq_true, decide_eq_true_eq] at ho
        obtain ⟨as, q1⟩ := Dp.reads I _ x v (h1.r0.dp ho.1.1) rx
        obtain ⟨bs, q2⟩ := Dp.reads I _ y u (h2.r0.dp (by simpa [D.plain] using ho.1.2)) ry
        have l2 := h2.r0.lay
        simp only [D.py, PyData.canLay0] at q2 l2
        refine SeqAt.in_tuple_reads q2 q1 l2 h1.r0.lay (by rw [py_depth, py_depthL]; omega) ?_
        rw [pyL_any _ _ ho.1.1 ho.1.2]
        exact ⟨.bl _, H, I, rfl, hq.bl⟩
      · cases hf
    · split at hf
      · cases hf
        obtain ⟨e1, _⟩ := h1.strE; obtain ⟨e2, _⟩ := h2.strE; subst e1; subst e2
        refine op_in_sign pins s σ H _ _ v u Q I rx ry ⟨_, _, rfl, rfl, ?_⟩
        rw [mkS_list]; exact hq.bl
      · cases hf
    · split at hf
      case isFalse => cases hf
      rename_i kb
      cases hf
      obtain ⟨a, es, rfl, ha, r⟩ := h2.dicE
      cases ry
      exact d_inR W hu I ha r h1.r0 rx kb hq.bl
    · cases hf
  | nin =>
    simp only [cmpD, inD] at hf
    split at hf
    · simp only [memD] at hf
      split at hf
      · rename_i ho
        cases hf
        simp only [Bool.and_eq_true, decide_eq_true_eq] at ho
        obtain ⟨as, q1⟩ := Dp.reads I _ x v (h1.r0.dp ho.1.1) rx
        obtain ⟨bs, q2⟩ := Dp.reads I _ y u (h2.r0.dp (by simpa [D.plain] using ho.1.2)) ry
        have l2 := h2.r0.lay
        simp only [D.py, PyData.canLay0] at q2 l2
        refine SeqAt.notIn_list_reads q2 q1 l2 h1.r0.lay (by rw [py_depth, py_depthL]; omega) ?_
        rw [pyL_any _ _ ho.1.1 ho.1.2]
        exact ⟨.bl _, H, I, rfl, hq.bl⟩
      · cases hf
    · simp only [memD] at hf
      split at hf
      · rename_i ho
        cases hf
        simp only [Bool.and_eq_true, decide_eq_true_eq] at ho
        obtain ⟨as, q1⟩ := Dp.reads I _ x v (h1.r0.dp ho.1.1) rx
        obtain ⟨bs, q2⟩ := Dp.reads I _ y u (h2.r0.dp (by simpa [D.plain] using ho.1.2)) ry
        have l2 := h2.r0.lay
        simp only [D.py, PyData.canLay0] at q2 l2
        refine SeqAt.notIn_tuple_reads q2 q1 l2 h1.r0.lay (by rw [py_depth, py_depthL]; omega) ?_
        rw [pyL_any _ _ ho.1.1 ho.1.2]
        exact ⟨.bl _, H, I, rfl, hq.bl⟩
      · cases hf
    · split at hf
      · cases hf
        obtain ⟨e1, _⟩ := h1.strE; obtain ⟨e2, _⟩ := h2.strE; subst e1; subst e2
        refine op_notIn_sign pins s σ H _ _ v u Q I rx ry ⟨_, _, rfl, rfl, ?_⟩
        rw [mkS_list]; exact hq.bl
      · cases hf
    · split at hf
      case isFalse => cases hf
      rename_i kb
      cases hf
      obtain ⟨a, es, rfl, ha, r⟩ := h2.dicE
      cases ry
      exact d_ninR W hu I ha r h1.r0 rx kb hq.bl
    · cases hf
/-- a value's truth -/
theorem tru_of {K : PySem.W.Frag} {H : Hp} {x : V} {d : D} {t : Bool} (h : RpC K AS.none H x d) (ht : truthy d = .ok t) : TruV K x H t := by
  cases d with
  | non => cases ht; have := h.nonE; subst this; rfl
  | bl b => cases ht; have := h.blE; subst this; rfl
  | int i => cases ht; have := h.intE; subst this; rfl
  | str s =>
    cases ht
    obtain ⟨e, o⟩ := h.strE; subst e
    refine ⟨o.line, ?_⟩
    rw [mkS_len]
    cases s <;> simp
    omega
  | tup xs =>
    cases ht
    obtain ⟨a, vs, rfl, h1, h2⟩ := h.tupE
    refine .inr (.inl ⟨vs, h1, ?_⟩)
    have := h2.length
    cases xs <;> cases vs <;> simp_all
  | lst xs =>
    cases ht
    obtain ⟨a, vs, rfl, h1, h2⟩ := h.lstE
    refine .inl ⟨vs, h1, ?_⟩
    have := h2.length
    cases xs <;> cases vs <;> simp_all
  | dic t kvs => cases ht
  | obj c fs => cases ht
  | exn c fs => cases ht

/-! subscripts -/
theorem atD_ok {α : Type} {xs : List α} {i : Int} {x : α} (h : atD xs i = .ok x) : atI xs i = some x := by
  unfold atD at h
  show (L2.ixN xs.length i).bind _ = _
  have e : L2.ixN xs.length i = ixn xs.length i := rfl
  rw [e]
  cases q : (ixn xs.length i).bind fun j => xs[j]? with
  | none => rw [q] at h; cases h
  | some y => rw [q] at h; cases h; rfl
theorem atI_rel {K : PySem.W.Frag} {Z : AS} {H : Hp} {vs : List V} {ds : List D} {i : Int} {d : D} (r : RpL K Z H vs ds) (h : atI ds i = some d) : ∃ v, atI vs i = some v ∧ Rp K Z H v d := by
  unfold atI at h ⊢
  rw [r.length]
  cases q : L2.ixN ds.length i with
  | none => rw [q] at h; cases h
  | some j =>
    rw [q] at h
    exact r.get h
theorem atI_relV {K : PySem.W.Frag} {Z : AS} {H : Hp} {vs : List V} {ds : List D} {i : Int} {d : D} {v : V} (r : RpL K Z H vs ds) (h : atI ds i = some d) (hv : atI vs i = some v) : Rp K Z H v d := by
  obtain ⟨v', h1, h2⟩ := atI_rel r h
  rw [hv] at h1; cases h1
  exact h2
/-- a subscription of a dict -/
theorem ix_dic (W : WdX X) {value slice : Expr} {pins : List (Addr × Obj)} {s : Shared} {σ : St} {H : Hp} {a : Addr} {u : Value} {t : Bool} {es : List En} {kvs : List (D × D)} {Q : VK} (I : Inv X pins σ H s) (ha : H a = some (dO t a es)) (r : RpE X.K AS.none H t es kvs)
    (hs : subscripted slice false (.ref a) u = operate [.ref a, u] (getItem (.ref a) u)) (h : wpAny (model X.prog X.w) X.A (getItem (.ref a) u) (EP X pins σ Q) X.xe s) : wpAny (model X.prog X.w) X.A (PyProof.Rows.subscriptTail value slice (.ref a) u) (EP X pins σ Q) X.xe s := by
  have hT : s.TypeIs (.ref a) "dict" := by
    cases t with
    | true => obtain ⟨z, hd, xs, ex, hm⟩ := dx_at W I ha r; exact hm.typeIs
    | false =>
      have e : H a = some (.dK (es.map fun e => (toK e.1, e.2.2))) := ha
      obtain ⟨z, hd, vs, rel, dd⟩ := dk_rd I.hok (.inl e)
      exact dd.typeIs
  unfold PyProof.Rows.subscriptTail
  refine wpAny_bind ?_
  rw [getitemInPython_of_ne hT.not_modules]
  refine wpAny_bind (wpAny_specialOf hT PySem.F.slot_dict_getitem.lookup ?_)
  have fin : wpAny (model X.prog X.w) X.A (subscripted slice false (.ref a) u) (fun r s₃ => wpAny (model X.prog X.w) X.A (letTemporaryGo value (.ref a) r >>= fun _ => pure r) (EP X pins σ Q) X.xe s₃) X.xe s := by
    rw [hs]
    exact wpAny_operating (wpAny_mono h (fun r s₃ h₃ => wpAny_bind (wpAny_letTemporaryGo (wpAny_pure h₃))) fun _ _ x => x)
  first
    | exact wpAny_pure (wpAny_bind fin)
    | exact wpAny_bind (wpAny_pure (wpAny_bind fin))
    | exact wpAny_bind fin
theorem ix_sub (W : WdX X) (hu : X.A.units + 66 < cLine) : IxR X (rOp X.K subD) := by
  intro value slice pins s σ H x y v u Q I rx ry h hs
  obtain ⟨d1, d2, d, h1, h2, hf, hq⟩ := h
  simp only [subD] at hf
  split at hf
  · obtain ⟨a, vs, rfl, p, r⟩ := h1.tupE
    have e2 := h2.intE; subst e2
    have ha := atD_ok hf
    obtain ⟨w, hw, rw'⟩ := atI_rel r ha
    refine ix_tup value slice pins s σ H _ _ v u Q I rx ry ⟨a, vs, _, w, rfl, rfl, p, hw, hq w H (Ex.refl H) fun Z dz az => ?_⟩ hs
    obtain ⟨a', vs', e, p', r'⟩ := az.1.tupE
    cases e
    have := I.tuple_inj p p'
    subst this
    exact atI_relV r' ha hw
  · obtain ⟨a, vs, rfl, p, r⟩ := h1.lstE
    have e2 := h2.intE; subst e2
    have ha := atD_ok hf
    obtain ⟨w, hw, rw'⟩ := atI_rel r ha
    refine ix_list value slice pins s σ H _ _ v u Q I rx ry ⟨a, vs, _, w, rfl, rfl, p, hw, hq w H (Ex.refl H) fun Z dz az => ?_⟩ hs
    obtain ⟨a', vs', e, p', r'⟩ := az.1.lstE
    cases e
    have := I.list_inj p p'
    subst this
    exact atI_relV r' ha hw
  · rename_i sx i
    obtain ⟨e1, o⟩ := h1.strE; subst e1
    have e2 := h2.intE; subst e2
    cases q : atD sx i with
    | ok c =>
      rw [q] at hf
      cases hf
      have ha := atD_ok q
      have hm : c ∈ sx := by
        obtain ⟨j, _, h2, _⟩ := atI_get ha
        exact List.mem_of_getElem? h2
      refine ix_str value slice pins s σ H _ _ v u Q I rx ry ⟨mkS sx, i, c, rfl, rfl, o.line, by rw [mkS_list]; exact ha, ?_⟩ hs
      exact hq.str (o.one hm)
    | exc c fs => rw [q] at hf; cases hf
    | bad => rw [q] at hf; cases hf
  · split at hf
    case isFalse => cases hf
    rename_i kb
    cases e : dgetD _ d2 with
    | none => rw [e] at hf; cases hf
    | some d0 =>
      rw [e] at hf
      cases hf
      obtain ⟨a, es, rfl, ha, r⟩ := h1.dicE
      cases rx
      obtain ⟨w, hw, _⟩ := (r.get kb).1 _ e
      refine ix_dic W I ha r hs (d_getR W hu I ha r h2.r0 ry kb hw (hq w H (Ex.refl H) fun Z dz az => ?_))
      obtain ⟨a', es', e', ha', r'⟩ := az.1.dicE
      cases e'
      have := dic_inj W I ha ha' r r'
      subst this
      obtain ⟨w', hw', rw'⟩ := (r'.get kb).1 _ e
      rw [hw] at hw'; cases hw'
      exact rw'
  · cases hf

/-! slices -/
def rSl (K : PySem.W.Frag) (l h : Option Int) : V → Option Int → Option Int → Hp → VK → Prop := fun x lo hi H Q => lo = l ∧ hi = h ∧ ∃ d1 d, RpC K AS.none H x d1 ∧ sliceD d1 lo hi = .ok d ∧ Res K H (fun Z => RpC K Z H x d1) d Q
theorem six_eq (n d : Nat) (o : Option Int) (hd : d ≤ n) : HT.sIx n d o = six n d o := by
  cases o with
  | none => rfl
  | some v =>
    have h := HT.clip_eq v n d
    show HT.sIx n d (some v) = if v < 0 then (v + ↑n).toNat else min v.toNat n
    by_cases hv : v < 0
    · rw [if_pos hv] at h ⊢; omega
    · rw [if_neg hv] at h ⊢; omega
theorem cutV_rel {K : PySem.W.Frag} {Z : AS} {H : Hp} {vs : List V} {ds : List D} (r : RpL K Z H vs ds) (lo hi : Option Int) : RpL K Z H (cutV vs lo hi) (cut ds lo hi) := by
  unfold cutV cut
  rw [six_eq _ _ _ (Nat.zero_le _), six_eq _ _ _ (Nat.le_refl _), r.length]
  exact (r.drop _).take _
theorem cutS_eq (s : Tx) (lo hi : Option Int) : cutS (mkS s) lo hi = mkS (cut s lo hi) := by
  unfold cutS cut
  rw [mkS_len, mkS_list, six_eq _ _ _ (Nat.zero_le _), six_eq _ _ _ (Nat.le_refl _)]
  rfl
theorem cut_mem {α : Type} {xs : List α} {lo hi : Option Int} {x : α} (h : x ∈ cut xs lo hi) : x ∈ xs := List.mem_of_mem_drop (List.mem_of_mem_take h)
theorem cut_len {α : Type} (xs : List α) (lo hi : Option Int) : (cut xs lo hi).length ≤ xs.length := by
  unfold cut; rw [List.length_take, List.length_drop]; omega
theorem sl_any {l h : Option Int} : SlR X (rSl X.K l h) := by
  intro pins s σ H x v vl vu lo hi sl Q I rx hs pl pu hh
  obtain ⟨rfl, rfl, d1, d, h1, hf, hq⟩ := hh
  cases d1 with
  | str sx =>
    cases hf
    obtain ⟨e1, o⟩ := h1.strE; subst e1
    refine sl_str pins s σ H _ v vl vu lo hi sl Q I rx hs pl pu ⟨mkS sx, rfl, o.line, ?_⟩
    rw [cutS_eq]
    exact hq.str (o.sub (fun c hc => cut_mem hc) (cut_len _ _ _))
  | lst xs =>
    cases hf
    obtain ⟨a, vs, rfl, p, r⟩ := h1.lstE
    refine sl_list pins s σ H _ v vl vu lo hi sl Q I rx hs pl pu ⟨a, vs, rfl, p, hq.newL fun Z dz az => ?_⟩
    obtain ⟨a', vs', e, p', r'⟩ := az.lstE
    cases e
    have := I.list_inj p p'
    subst this
    exact cutV_rel r' lo hi
  | _ => cases hf

/-! isinstance -/
def tyS : D → String
  | .non => "NoneType" | .bl _ => "bool" | .int _ => "int" | .str _ => "str" | .tup _ => "tuple" | .lst _ => "list" | .dic _ _ => "dict" | .obj _ _ => "" | .exn _ _ => ""
def pyT : Ty → String
  | .int => "int" | .bool => "bool" | .str => "str" | .tuple => "tuple" | .list => "list" | .dict => "dict" | .cls _ => ""
def Ty.bltn : Ty → Bool
  | .cls _ => false
  | _ => true
def D.kindly : D → Bool
  | .dic _ _ => false | .obj _ _ => false | .exn _ _ => false | _ => true
theorem kit_table (d : D) (t : Ty) (h : d.kindly = true) (ht : t.bltn = true) : kitB (tyS d) (pyT t) = some (instD d t) := by
  cases d <;> first | (simp [D.kindly] at h; done) | (cases t <;> first | (simp [Ty.bltn] at ht; done) | (show kitB _ _ = some _; simp only [tyS, pyT, instD]; decide +kernel))
theorem tyX_of {K : PySem.W.Frag} {H : Hp} {v : V} {d : D} (h : Rp K AS.none H v d) (kd : d.kindly = true) : TyX K H v (.type (tyS d)) ∧ d.kindly = true := by
  cases h with
  | dic => cases kd
  | obj => cases kd
  | non => exact ⟨.base .non, rfl⟩
  | bl b => exact ⟨.base (.bl b), rfl⟩
  | int i => exact ⟨.base (.int i), rfl⟩
  | str s _ => exact ⟨.base (.str _), rfl⟩
  | tup h r =>
    refine ⟨?_, rfl⟩
    rcases h with (h | ⟨o, h⟩) | ⟨o, its, n, hk, hc, _⟩
    · exact .base (.tup h)
    · exact .fTuple h
    · exact .kTuple hk hc
  | lst h r =>
    refine ⟨?_, rfl⟩
    rcases h.sq with (h | ⟨o, h⟩) | ⟨o, its, n, hk, hc, _⟩
    · exact .base (.lst h)
    · exact .base (.frz h)
    · exact .kList hk hc

/-- operands -/
inductive CL (K : PySem.W.Frag) (Z : AS) (H : Hp) : List V → List D → Prop
  | nil : CL K Z H [] []
  | cons {v : V} {vs : List V} {d : D} {ds : List D} : RpC K Z H v d → CL K Z H vs ds → CL K Z H (v :: vs) (d :: ds)
theorem CL.length {K : PySem.W.Frag} {Z : AS} {H : Hp} : ∀ {vs : List V} {ds : List D}, CL K Z H vs ds → vs.length = ds.length
  | _, _, .nil => rfl
  | _, _, .cons _ t => by simp [CL.length t]
theorem CL.ex {K : PySem.W.Frag} {Z : AS} {H H' : Hp} (e : Ex H H') : ∀ {vs : List V} {ds : List D}, CL K Z H vs ds → CL K Z H' vs ds
  | _, _, .nil => .nil
  | _, _, .cons r t => .cons (r.ex e) (CL.ex e t)
theorem RpL.cl {K : PySem.W.Frag} {Z : AS} {H : Hp} : ∀ {ds : List D} {vs : List V}, RpL K Z H vs ds → CL K Z H vs ds
  | _, _, .nil => .nil
  | _, _, .cons r t => .cons r.c (RpL.cl t)
theorem CL.r0 {K : PySem.W.Frag} {H : Hp} : ∀ {ds : List D} {vs : List V}, CL K AS.none H vs ds → RpL K AS.none H vs ds
  | _, _, .nil => .nil
  | _, _, .cons r t => .cons r.r0 (CL.r0 t)
theorem CL.one {K : PySem.W.Frag} {Z : AS} {H : Hp} {vs : List V} {d : D} (h : CL K Z H vs [d]) : ∃ v, vs = [v] ∧ RpC K Z H v d := by
  cases h with
  | cons r t => cases t; exact ⟨_, rfl, r⟩
theorem CL.two {K : PySem.W.Frag} {Z : AS} {H : Hp} {vs : List V} {d e : D} (h : CL K Z H vs [d, e]) : ∃ v w, vs = [v, w] ∧ RpC K Z H v d ∧ RpC K Z H w e := by
  cases h with
  | cons r t => cases t with
    | cons r2 t => cases t; exact ⟨_, _, rfl, r, r2⟩
def rBi (K : PySem.W.Frag) (f : List D → Out D) : List V → Hp → VK → Prop := fun xs H Q => ∃ ds d, CL K AS.none H xs ds ∧ f ds = .ok d ∧ Res K H (fun Z => CL K Z H xs ds) d Q
def biName : Bi → String
  | .len => "len" | .all => "all" | .sum => "sum" | .max => "max" | .min => "min" | .int => "int" | .str => "str" | .list => "list" | .tuple => "tuple" | .dict => "dict" | .sorted => "sorted"
def biIsTy : Bi → Bool
  | .int => true | .str => true | .list => true | .tuple => true | .dict => true | _ => false
def biVal (b : Bi) : Value := if biIsTy b then .type (biName b) else .builtin (biName b)
theorem bools_ok {K : PySem.W.Frag} {Z : AS} {H : Hp} : ∀ {ds : List D} {vs : List V} {bs : List Bool}, RpL K Z H vs ds → boolsD ds = .ok bs → vs = bs.map V.bl
  | _, _, _, .nil, h => by cases h; rfl
  | d :: ds, v :: vs, bs, .cons r t, h => by
    cases r with
    | bl b =>
      simp only [boolsD] at h
      cases q : boolsD ds with
      | ok cs => rw [q] at h; cases h; rw [bools_ok t q]; rfl
      | exc c fs => rw [q] at h; cases h
      | bad => rw [q] at h; cases h
    | _ => cases h
theorem ints_ok {K : PySem.W.Frag} {Z : AS} {H : Hp} : ∀ {ds : List D} {vs : List V} {ns : List Int}, RpL K Z H vs ds → intsD ds = .ok ns → vs = ns.map V.int
  | _, _, _, .nil, h => by cases h; rfl
  | d :: ds, v :: vs, bs, .cons r t, h => by
    cases r with
    | int b =>
      simp only [intsD] at h
      cases q : intsD ds with
      | ok cs => rw [q] at h; cases h; rw [ints_ok t q]; rfl
      | exc c fs => rw [q] at h; cases h
      | bad => rw [q] at h; cases h
    | _ => cases h
theorem map_ok_inv {α β : Type} {x : Out α} {f : α → β} {y : β} (h : x.map f = .ok y) : ∃ a, x = .ok a ∧ y = f a := by
  cases x with
  | ok a => cases h; exact ⟨a, rfl, rfl⟩
  | exc c fs => cases h
  | bad => cases h
theorem int_dig {s : Tx} (h : digB s = true) (hl : s.length ≤ 4300) : PySem.intText? (mkS s) = some ((digV s : Nat) : Int) := by
  simp only [digB, Bool.and_eq_true, Bool.not_eq_true', List.all_eq_true, decide_eq_true_eq] at h
  have hne : s ≠ [] := fun e => by rw [e] at h; simp at h
  exact PySem.intText_digits (x := mkS s) (fun c hc => h.2 c (by simpa [mkS] using hc)) (by simpa [mkS] using hne) (by simpa [mkS, Str.length] using hl)
set_option exponentiation.threshold 2000 in
theorem log_small {i : Int} (h0 : 0 ≤ i) (h1 : i < 2 ^ 1900) : i.natAbs.log2 < 1920 := by
  have h2 : i.natAbs < 2 ^ 1900 := by
    have : (i.natAbs : Int) = i := by omega
    have h3 : (i.natAbs : Int) < ((2 ^ 1900 : Nat) : Int) := by rw [this]; exact_mod_cast h1
    exact_mod_cast h3
  by_cases e : i.natAbs = 0
  · rw [e]; decide
  · have := (Nat.log2_lt e).mpr h2
    omega
theorem str_num {i : Int} (h : 0 ≤ i) : (Str.ofString (toString i)) = mkS (numTx i.toNat) := by
  obtain ⟨n, rfl⟩ := Int.eq_ofNat_of_zero_le h
  have q := TL.tl_num n
  have e : (Str.ofString (toString ((n : Nat) : Int))).cps.toList = numTx n := q
  rw [Int.toNat_natCast]
  unfold mkS
  rw [← e]
theorem ltCps_eq : ∀ x y : Tx, PySem.Spec.ltCps x y = ltT x y
  | [], [] => rfl
  | [], _ :: _ => rfl
  | _ :: _, [] => rfl
  | a :: x, b :: y => by
    simp only [PySem.Spec.ltCps, ltT, ltCps_eq x y, Bool.beq_eq_decide_eq]
theorem rising_pw : ∀ {r : List Str} {p : Str}, PyProof.Rows.risingS p r = true → ((p :: r).map fun s => s.cps.toList).Pairwise leT
  | [], p, _ => List.pairwise_singleton _ _
  | x :: r, p, h => by
    simp only [PyProof.Rows.risingS, Bool.and_eq_true, Bool.not_eq_true', ltCps_eq] at h
    have ih := rising_pw h.2
    rw [List.map_cons]
    refine List.pairwise_cons.mpr ⟨fun z hz => ?_, ih⟩
    rw [List.map_cons] at hz ih
    rcases List.mem_cons.mp hz with rfl | hz
    · exact h.1
    · exact leT_trans (x := p.cps.toList) h.1 ((List.pairwise_cons.mp ih).1 z hz)
theorem sortedS_pw {ys : List Str} (h : PyProof.Rows.sortedS ys = true) : (ys.map fun s => s.cps.toList).Pairwise leT := by
  cases ys with
  | nil => exact List.Pairwise.nil
  | cons y r => exact rising_pw h
theorem sorted_eq {ys : List Str} {xs : List Tx} (hp : ys.Perm (xs.map mkS)) (hs : PyProof.Rows.sortedS ys = true) : ys = (sortT xs).map mkS := by
  have e1 : (ys.map fun s => s.cps.toList).Perm xs := by
    have := hp.map fun s => s.cps.toList
    rw [List.map_map] at this
    have e : (xs.map ((fun s => s.cps.toList) ∘ mkS)) = xs := by
      conv => rhs; rw [← List.map_id xs]
      exact List.map_congr_left fun x _ => mkS_list x
    rw [e] at this
    exact this
  have e2 := sortT_uniq e1 (sortedS_pw hs)
  have e3 : ys = (ys.map fun s => s.cps.toList).map mkS := by
    rw [List.map_map]
    conv => lhs; rw [← List.map_id ys]
    exact List.map_congr_left fun s _ => by cases s; simp [mkS]
  rw [e3, e2]
theorem keys_txs {K : PySem.W.Frag} {Z : AS} {H : Hp} : ∀ {kvs : List (D × D)} {es : List En} {ts : List Tx}, RpE K Z H false es kvs → txsK kvs = .ok ts → (es.map fun e => (toK e.1, e.2.2)).map (·.1) = (ts.map mkS).map Sum.inr ∧ ∀ t ∈ ts, okTx t
  | _, _, ts, .nil, h => by cases h; exact ⟨rfl, fun t h => by cases h⟩
  | _, _, ts, .cons (k := k) h1 h2 h3 r, h => by
    cases k with
    | str s =>
      simp only [txsK] at h
      obtain ⟨us, h4, rfl⟩ := map_ok_inv h
      obtain ⟨g1, g2⟩ := keys_txs r h4
      refine ⟨by rw [List.map_cons, List.map_cons, g1]; rfl, fun t ht => ?_⟩
      rcases List.mem_cons.mp ht with rfl | ht
      · cases h2; assumption
      · exact g2 t ht
    | _ => cases h
theorem txs_rp {K : PySem.W.Frag} {Z : AS} {H : Hp} : ∀ {ts : List Tx}, (∀ t ∈ ts, okTx t) → RpL K Z H ((ts.map mkS).map V.str) (ts.map D.str)
  | [], _ => .nil
  | t :: ts, h => .cons (.str t (h t List.mem_cons_self)) (txs_rp fun u hu => h u (List.mem_cons_of_mem _ hu))
theorem callBi (b : Bi) (W : WdX X) (hc : X.calm = true) : CallR X (biVal b) (rBi X.K (biD b)) := by
  intro pins s σ H xs us Q I r h
  obtain ⟨ds, d, h1, hf, hq⟩ := h
  cases b with
  | len =>
    simp only [biD] at hf
    split at hf
    · cases hf
      obtain ⟨v, rfl, h2⟩ := h1.one
      obtain ⟨a, vs, rfl, p, r2⟩ := h2.tupE
      refine call_len_seq pins s σ H _ us Q I r ⟨a, vs, rfl, .inr p, ?_⟩
      rw [r2.length]; exact hq.int
    · cases hf
      obtain ⟨v, rfl, h2⟩ := h1.one
      obtain ⟨a, vs, rfl, p, r2⟩ := h2.lstE
      refine call_len_seq pins s σ H _ us Q I r ⟨a, vs, rfl, .inl p, ?_⟩
      rw [r2.length]; exact hq.int
    · cases hf
      obtain ⟨v, rfl, h2⟩ := h1.one
      obtain ⟨e, o⟩ := h2.strE; subst e
      refine call_len_str pins s σ H _ us Q I r ⟨_, rfl, o.line, ?_⟩
      rw [mkS_len]; exact hq.int
    · cases hf
      obtain ⟨v, rfl, h2⟩ := h1.one
      obtain ⟨a, es, rfl, ha, r2⟩ := h2.dicE
      obtain ⟨u, rfl, ru⟩ := r.one
      cases ru
      exact d_lenR W I ha r2 hq.int
    · cases hf
  | all =>
    simp only [biD] at hf
    split at hf
    · obtain ⟨bs, hb, rfl⟩ := map_ok_inv hf
      obtain ⟨v, rfl, h2⟩ := h1.one
      obtain ⟨a, vs, rfl, p, r2⟩ := h2.lstE
      have e := bools_ok r2 hb
      subst e
      exact cr_all hc pins s σ H _ us Q I r ⟨a, bs, rfl, p, hq.bl⟩
    · cases hf
  | sum =>
    simp only [biD] at hf
    split at hf
    · obtain ⟨bs, hb, rfl⟩ := map_ok_inv hf
      obtain ⟨v, rfl, h2⟩ := h1.one
      obtain ⟨a, vs, rfl, p, r2⟩ := h2.lstE
      have e := ints_ok r2 hb
      subst e
      exact cr_sum hc pins s σ H _ us Q I r ⟨a, bs, rfl, p, hq.int⟩
    · cases hf
  | max =>
    simp only [biD] at hf
    split at hf
    · cases hf
      obtain ⟨v, w, rfl, h2, h3⟩ := h1.two
      have e1 := h2.intE; have e2 := h3.intE; subst e1; subst e2
      exact call_max2 hc pins s σ H _ us Q I r ⟨_, _, rfl, hq.int⟩
    · cases hf
  | min =>
    simp only [biD] at hf
    split at hf
    · cases hf
      obtain ⟨v, w, rfl, h2, h3⟩ := h1.two
      have e1 := h2.intE; have e2 := h3.intE; subst e1; subst e2
      exact call_min2 hc pins s σ H _ us Q I r ⟨_, _, rfl, hq.int⟩
    · cases hf
  | int =>
    simp only [biD] at hf
    split at hf
    · cases hf
      obtain ⟨v, rfl, h2⟩ := h1.one
      have e1 := h2.intE; subst e1
      exact call_int1 pins s σ H _ us Q I r (.inl ⟨_, rfl, hq.int⟩)
    · cases hf
      obtain ⟨v, rfl, h2⟩ := h1.one
      have e1 := h2.blE; subst e1
      exact call_int1 pins s σ H _ us Q I r (.inr ⟨_, rfl, hq.int⟩)
    · split at hf
      case isFalse => cases hf
      rename_i hg
      cases hf
      simp only [Bool.and_eq_true, decide_eq_true_eq] at hg
      obtain ⟨v, rfl, h2⟩ := h1.one
      obtain ⟨e1, o⟩ := h2.strE; subst e1
      exact call_int_str pins s σ H _ us Q I r ⟨_, _, rfl, int_dig hg.1 (by omega), by simpa [mkS, Str.length] using hg.2, hq.int⟩
    · cases hf
  | list =>
    simp only [biD] at hf
    split at hf
    · cases hf
      obtain ⟨v, rfl, h2⟩ := h1.one
      obtain ⟨a, vs, rfl, p, r2⟩ := h2.lstE
      refine call_list_of pins s σ H _ us Q I r ⟨a, vs, rfl, .inl p, hq.newL fun Z dz az => ?_⟩
      obtain ⟨v', e, az'⟩ := CL.one az
      cases e
      obtain ⟨a', vs', e, p', r'⟩ := az'.lstE
      cases e
      have := I.list_inj p p'
      subst this
      exact r'
    · cases hf
      obtain ⟨v, rfl, h2⟩ := h1.one
      obtain ⟨a, vs, rfl, p, r2⟩ := h2.tupE
      refine call_list_of pins s σ H _ us Q I r ⟨a, vs, rfl, .inr p, hq.newL fun Z dz az => ?_⟩
      obtain ⟨v', e, az'⟩ := CL.one az
      cases e
      obtain ⟨a', vs', e, p', r'⟩ := az'.tupE
      cases e
      have := I.tuple_inj p p'
      subst this
      exact r'
    · cases hf
  | tuple =>
    simp only [biD] at hf
    split at hf
    · cases hf
      obtain ⟨v, rfl, h2⟩ := h1.one
      obtain ⟨a, vs, rfl, p, r2⟩ := h2.lstE
      refine call_tuple_of pins s σ H _ us Q I r ⟨a, vs, rfl, .inl ⟨p, hq.newT fun Z dz az => ?_⟩⟩
      obtain ⟨v', e, az'⟩ := CL.one az
      cases e
      obtain ⟨a', vs', e, p', r'⟩ := az'.lstE
      cases e
      have := I.list_inj p p'
      subst this
      exact r'
    · cases hf
      obtain ⟨v, rfl, h2⟩ := h1.one
      obtain ⟨a, vs, rfl, p, r2⟩ := h2.tupE
      refine call_tuple_of pins s σ H _ us Q I r ⟨a, vs, rfl, .inr ⟨p, hq _ H (Ex.refl H) fun Z dz az => ?_⟩⟩
      obtain ⟨v', e, az'⟩ := CL.one az
      cases e
      exact az'.other rfl
    · cases hf
  | str =>
    simp only [biD] at hf
    split at hf
    · cases hf
      obtain ⟨v, rfl, h2⟩ := h1.one
      obtain ⟨e1, o⟩ := h2.strE; subst e1
      exact SkE.call_str_str pins s σ H _ us Q I r ⟨_, rfl, hq.str o⟩
    · split at hf
      case isFalse => cases hf
      rename_i hg
      cases hf
      obtain ⟨v, rfl, h2⟩ := h1.one
      have e1 := h2.intE; subst e1
      simp only [numOk, Bool.and_eq_true, decide_eq_true_eq, List.all_eq_true] at hg
      obtain ⟨g0, g1, g2, g3⟩ := hg
      refine call_str_int pins s σ H _ us Q I r ⟨_, rfl, log_small g0 g1, ?_⟩
      rw [str_num g0]
      exact hq.str ⟨g3, Nat.le_trans g2 (by decide)⟩
    · cases hf
  | dict => cases hf
  | sorted =>
    simp only [biD] at hf
    split at hf
    · rename_i kvs
      cases ht : txsK kvs with
      | ok ts =>
        rw [ht] at hf
        simp only [Out.bind_ok] at hf
        split at hf
        case isFalse => cases hf
        rename_i hl
        cases hf
        obtain ⟨v, rfl, h2⟩ := h1.one
        obtain ⟨a, es, rfl, ha, r2⟩ := h2.dicE
        obtain ⟨hk, okt⟩ := keys_txs r2 ht
        have hd : H a = some (.dK (es.map fun e => (toK e.1, e.2.2))) := ha
        refine call_sortedD hc pins s σ H _ us Q I r ⟨a, _, ts.map mkS, rfl, .inl hd, hk, by rw [List.length_map]; exact hl, fun ys p hp hs hn => ?_⟩
        rw [sorted_eq hp hs]
        exact hq.newL (fun Z dz az => txs_rp fun t ht => okt t ((sortT_perm ts).mem_iff.mp ht)) p hn
      | exc c fs => rw [ht] at hf; cases hf
      | bad => rw [ht] at hf; cases hf
    · cases hf
end
end Rf

/-! part RfSound -/
set_option autoImplicit false
set_option linter.all false
set_option Elab.async false
set_option maxRecDepth 100000
set_option maxHeartbeats 2000000
/-! RfSound: the readings by the evaluator; one lemma a node of the language. -/
namespace Rf
open PySem L2
variable [Wd]

/-- what all is told over: the fragment, the calls, the classes' places, the wish about exceptions -/
structure Gx where
  K : PySem.W.Frag
  call : Nat → List D → Out D
  cA : Nat → Addr
  W : WX
  frs : Nat → Bool
  fr : Bool
def XR (cA : Nat → Addr) (c : Nat) (fs : List D) (cls : Value) (dd : Option Addr) (H : Hp) : Prop := cls = .ref (cA c) ∧ fs = [] ∧ dd = none

def SltR (K : PySem.W.Frag) (Z : AS) (H : Hp) (o : Option (Option V)) : Sl → Prop
  | .no => True
  | .val d => ∃ v, o = some (some v) ∧ Rp K Z H v d
  | .own d => ∃ a, o = some (some (.ref a)) ∧ OwnAt K Z H a d
structure EnvR (K : PySem.W.Frag) (Z : AS) (H : Hp) (σ : St) (ρ : Env) : Prop where
  len : ρ.length ≤ σ.length
  at_ : ∀ (i : Nat) (s : Sl), ρ[i]? = some s → SltR K Z H σ[i]? s
  tab : LamX.Tabs Wd.T H
theorem SltR.ex {K : PySem.W.Frag} {Z : AS} {H H' : Hp} {o : Option (Option V)} {s : Sl} (e : Ex H H') (h : SltR K Z H o s) : SltR K Z H' o s := by
  cases s with
  | no => trivial
  | val d => obtain ⟨v, h1, h2⟩ := h; exact ⟨v, h1, h2.ex e⟩
  | own d => obtain ⟨v, h1, h2⟩ := h; exact ⟨v, h1, h2.ex e⟩
theorem EnvR.ex {K : PySem.W.Frag} {Z : AS} {H H' : Hp} {σ : St} {ρ : Env} (e : Ex H H') (h : EnvR K Z H σ ρ) : EnvR K Z H' σ ρ := ⟨h.len, fun i s q => (h.at_ i s q).ex e, e.tt h.tab⟩
theorem SltR.sub {K : PySem.W.Frag} {Z Z' : AS} {H : Hp} {o : Option (Option V)} {s : Sl} (hz : ∀ a, Z' a → Z a) (h : SltR K Z H o s) : SltR K Z' H o s := by
  cases s with
  | no => trivial
  | val d => obtain ⟨v, h1, h2⟩ := h; exact ⟨v, h1, h2.sub hz⟩
  | own d => obtain ⟨v, h1, h2⟩ := h; exact ⟨v, h1, h2.sub hz⟩
theorem EnvR.sub {K : PySem.W.Frag} {Z Z' : AS} {H : Hp} {σ : St} {ρ : Env} (hz : ∀ a, Z' a → Z a) (h : EnvR K Z H σ ρ) : EnvR K Z' H σ ρ := ⟨h.len, fun i s q => (h.at_ i s q).sub hz, h.tab⟩
theorem EnvR.zero {K : PySem.W.Frag} {Z : AS} {H : Hp} {σ : St} {ρ : Env} (h : EnvR K Z H σ ρ) : EnvR K AS.none H σ ρ := h.sub fun _ z => z.elim

/-- the outcome's wish -/
def Post (g : Gx) (σ : St) (H : Hp) {α : Type} (o : Out α) (P : α → Prop) : Prop := match o with
  | .ok a => P a
  | .exc c fs => ∀ cls dd H', Ex H H' → XR g.cA c fs cls dd H' → g.W cls dd σ H'
  | .bad => False
section
variable {g : Gx} {σ : St} {H H' : Hp} {α β : Type}
theorem Post.bind {o : Out α} {k : α → Out β} {P : β → Prop} (h : Post g σ H (o.bind k) P) : Post g σ H o fun a => Post g σ H (k a) P := by
  cases o <;> exact h
theorem Post.ex {o : Out α} {P : α → Prop} (h : Post g σ H o P) (e : Ex H H') : Post g σ H' o P := by
  cases o with
  | ok a => exact h
  | exc c fs => exact fun cls dd H2 e2 x => h cls dd H2 (e.trans e2) x
  | bad => exact h
theorem Post.mp {o : Out α} {P P' : α → Prop} (h : Post g σ H o P) (k : ∀ a, P a → P' a) : Post g σ H o P' := by
  cases o with
  | ok a => exact k a h
  | exc c fs => exact h
  | bad => exact h
/-- of what raises nothing -/
theorem Post.ok {o : Out α} {P : α → Prop} (h : Post g σ H o P) (n : ∀ c fs, o ≠ .exc c fs) : ∃ a, o = .ok a ∧ P a := by
  cases o with
  | ok a => exact ⟨a, rfl, h⟩
  | exc c fs => exact (n c fs rfl).elim
  | bad => exact h.elim
end

def tE (g : Gx) (e : E) : TE := fun σ H Q => ∃ ρ, EnvR g.K AS.none H σ ρ ∧ Post g σ H (evE g.call e ρ) fun d => ∀ v H', Ex H H' → (∀ Z, Dom Z H → EnvR g.K Z H σ ρ → RpM (e.ownV ρ) g.K Z H' v d) → Q v H'
def RpML (b : Bool) (K : PySem.W.Frag) (Z : AS) (H : Hp) (vs : List V) (ds : List D) : Prop := match b with
  | true => CL K Z H vs ds
  | false => RpL K Z H vs ds
theorem RpML.cl {b : Bool} {K : PySem.W.Frag} {Z : AS} {H : Hp} {vs : List V} {ds : List D} (h : RpML b K Z H vs ds) : CL K Z H vs ds := by
  cases b with
  | true => exact h
  | false => exact RpL.cl h
def tEs (g : Gx) (es : List E) : TA := fun σ H Q => ∃ ρ, EnvR g.K AS.none H σ ρ ∧ Post g σ H (evEs g.call es ρ) fun ds => ∀ vs H', Ex H H' → (∀ Z, Dom Z H → EnvR g.K Z H σ ρ → RpML (ownL es ρ) g.K Z H' vs ds) → Q vs H'
def tT (g : Gx) (e : E) : TT := fun σ H Q => ∃ ρ, EnvR g.K AS.none H σ ρ ∧ Post g σ H ((evE g.call e ρ).bind truthy) fun t => ∀ H', Ex H H' → Q t H'

theorem pe_weak {X : Cx} {e : Expr} {t t' : TE} (h : PE X e t) (w : ∀ σ H Q, t' σ H Q → t σ H Q) : PE X e t' := ⟨fun pins s σ H Q I q => h.run pins s σ H Q I (w σ H Q q)⟩
theorem pt_weak {X : Cx} {e : Expr} {t t' : TT} (h : PT X e t) (w : ∀ σ H Q, t' σ H Q → t σ H Q) : PT X e t' := ⟨fun pins s σ H Q I q => h.run pins s σ H Q I (w σ H Q q)⟩
theorem pw_weak {X : Cx} {e : Expr} {t t' : TT} (h : PW X e t) (w : ∀ σ H Q, t' σ H Q → t σ H Q) : PW X e t' := ⟨fun wh pins s σ H Q I q => h.run wh pins s σ H Q I (w σ H Q q)⟩
theorem pa_weak {X : Cx} {es : List Expr} {t t' : TA} (h : PA X es t) (w : ∀ σ H Q, t' σ H Q → t σ H Q) : PA X es t' := ⟨fun pos pins s σ H Q I q => h.run pos pins s σ H Q I (w σ H Q q)⟩
theorem ps_weak {X : Cx} {e : Stmt} {t t' : TS} (h : PS X e t) (w : ∀ D σ H, t' D σ H → t D σ H) : PS X e t' := ⟨fun pins s σ H D I q => h.run pins s σ H D I (w D σ H q)⟩
theorem pss_weak {X : Cx} {e : List Stmt} {t t' : TS} (h : PSs X e t) (w : ∀ D σ H, t' D σ H → t D σ H) : PSs X e t' := ⟨fun pins s σ H D I q => h.run pins s σ H D I (w D σ H q)⟩

section
variable {g : Gx} {σ : St} {H : Hp} {ρ : Env} {R : VK} {P : D → Prop}
/-- a part is evaluated -/
theorem sub_e {e : E} (hρ : EnvR g.K AS.none H σ ρ) (h : Post g σ H (evE g.call e ρ) P)
    (k : ∀ d v H', P d → Ex H H' → EnvR g.K AS.none H' σ ρ → (∀ Z, Dom Z H → EnvR g.K Z H σ ρ → RpM (e.ownV ρ) g.K Z H' v d) → R v H') : tE g e σ H R :=
  ⟨ρ, hρ, h.mp fun d p v H' e' r => k d v H' p e' (hρ.ex e') r⟩
theorem sub_es {es : List E} {P : List D → Prop} {R : List V → Hp → Prop} (hρ : EnvR g.K AS.none H σ ρ) (h : Post g σ H (evEs g.call es ρ) P)
    (k : ∀ ds vs H', P ds → Ex H H' → EnvR g.K AS.none H' σ ρ → (∀ Z, Dom Z H → EnvR g.K Z H σ ρ → RpML (ownL es ρ) g.K Z H' vs ds) → R vs H') : tEs g es σ H R :=
  ⟨ρ, hρ, h.mp fun d p v H' e' r => k d v H' p e' (hρ.ex e') r⟩
theorem sub_t {e : E} {P : Bool → Prop} {R : Bool → Hp → Prop} (hρ : EnvR g.K AS.none H σ ρ) (h : Post g σ H ((evE g.call e ρ).bind truthy) P)
    (k : ∀ t H', P t → Ex H H' → EnvR g.K AS.none H' σ ρ → R t H') : tT g e σ H R :=
  ⟨ρ, hρ, h.mp fun t p H' e' => k t H' p e' (hρ.ex e')⟩
end

/-! ### what raises nothing -/
theorem ofOpt_ne {α : Type} (o : Option α) (c : Nat) (fs : List D) : Out.ofOpt o ≠ .exc c fs := by cases o <;> simp [Out.ofOpt]
theorem map_ne {α β : Type} {o : Out α} {f : α → β} (h : ∀ c fs, o ≠ .exc c fs) (c : Nat) (fs : List D) : o.map f ≠ .exc c fs := by
  cases o with
  | ok a => simp [Out.map]
  | exc d e => exact (h d e rfl).elim
  | bad => simp [Out.map]
theorem bopD_ne (o : Bop) (x y : D) (c : Nat) (fs : List D) : bopD o x y ≠ .exc c fs := by
  cases o <;> simp only [bopD] <;> (repeat' split) <;> simp
theorem eqD_ne (x y : D) (c : Nat) (fs : List D) : eqD x y ≠ .exc c fs := by
  unfold eqD; split <;> simp
theorem inD_ne (x y : D) (c : Nat) (fs : List D) : inD x y ≠ .exc c fs := by
  unfold inD memD; (repeat' split) <;> simp
theorem cmpD_ne (o : Cop) (x y : D) (c : Nat) (fs : List D) : cmpD o x y ≠ .exc c fs := by
  cases o <;> simp only [cmpD, intCmp] <;> first
    | exact map_ne (eqD_ne x y) c fs
    | exact map_ne (inD_ne x y) c fs
    | ((repeat' split) <;> simp)
theorem cmpD_bl {o : Cop} {x y z : D} (h : cmpD o x y = .ok z) : ∃ b, z = .bl b := by
  cases o <;> simp only [cmpD, intCmp] at h <;> first
    | (obtain ⟨b, _, e⟩ := map_ok_inv h; exact ⟨_, e⟩)
    | ((repeat' split at h) <;> first | (cases h; exact ⟨_, rfl⟩) | cases h)
theorem truthy_ne (x : D) (c : Nat) (fs : List D) : truthy x ≠ .exc c fs := by cases x <;> simp [truthy]
theorem atD_ne {α : Type} (xs : List α) (i : Int) (c : Nat) (fs : List D) : atD xs i ≠ .exc c fs := ofOpt_ne _ c fs
theorem subD_ne (x y : D) (c : Nat) (fs : List D) : subD x y ≠ .exc c fs := by
  cases x <;> cases y <;> simp only [subD] <;> first
    | exact atD_ne _ _ c fs
    | exact map_ne (atD_ne _ _) c fs
    | (split <;> first | exact ofOpt_ne _ c fs | simp)
    | simp
theorem boundD_ne (x : D) (c : Nat) (fs : List D) : boundD x ≠ .exc c fs := by cases x <;> simp [boundD]
theorem sliceD_ne (x : D) (l h : Option Int) (c : Nat) (fs : List D) : sliceD x l h ≠ .exc c fs := by cases x <;> simp [sliceD]
theorem boolsD_ne : ∀ (xs : List D) (c : Nat) (fs : List D), boolsD xs ≠ .exc c fs
  | [], c, fs => by simp [boolsD]
  | x :: xs, c, fs => by cases x <;> simp only [boolsD] <;> first | exact map_ne (boolsD_ne xs) c fs | simp
theorem intsD_ne : ∀ (xs : List D) (c : Nat) (fs : List D), intsD xs ≠ .exc c fs
  | [], c, fs => by simp [intsD]
  | x :: xs, c, fs => by cases x <;> simp only [intsD] <;> first | exact map_ne (intsD_ne xs) c fs | simp
theorem txsK_ne : ∀ (xs : List (D × D)) (c : Nat) (fs : List D), txsK xs ≠ .exc c fs
  | [], c, fs => by simp [txsK]
  | (k, v) :: xs, c, fs => by cases k <;> simp only [txsK] <;> first | exact map_ne (txsK_ne xs) c fs | simp
theorem bind_ne {α β : Type} {o : Out α} {f : α → Out β} (h : ∀ c fs, o ≠ .exc c fs) (h2 : ∀ a c fs, f a ≠ .exc c fs) (c : Nat) (fs : List D) : o.bind f ≠ .exc c fs := by
  cases o with
  | ok a => exact h2 a c fs
  | exc d e => exact (h d e rfl).elim
  | bad => simp
theorem biD_ne (b : Bi) (xs : List D) (c : Nat) (fs : List D) : biD b xs ≠ .exc c fs := by
  cases b <;> simp only [biD] <;> (repeat' split) <;> first | exact map_ne (boolsD_ne _) c fs | exact map_ne (intsD_ne _) c fs | exact bind_ne (txsK_ne _) (fun ts c fs => by split <;> simp) c fs | simp

/-! ### the nodes -/
section
variable {X : Cx} {g : Gx} {a b c : Expr} {ia ib ic : E} {pos : Pos}
theorem sE_var {i : Nat} {x : Str} (hN : X.N[i]? = some x) (hv : Vis X.env.scope x) (hd : (x == ("__debug__" : Str)) = false) (hcd : (x == ("__classdict__" : Str)) = false) : PE X (.Name x pos) (tE g (.var i)) := by
  refine pe_weak (pe_var hN hv hd hcd) fun σ H Q h => ?_
  obtain ⟨ρ, hρ, h⟩ := h
  simp only [evE, getV] at h
  split at h
  · rename_i d e
    obtain ⟨v, hv, r⟩ := hρ.at_ i _ e
    refine ⟨v, hv, h v H (Ex.refl H) fun Z dz hz => ?_⟩
    obtain ⟨v', hv', r'⟩ := hz.at_ i _ e
    rw [hv] at hv'; cases hv'
    have eo : E.ownV (.var i) ρ = false := by simp [E.ownV, e]
    rw [eo]; exact r'
  · rename_i d e
    obtain ⟨a, hv, r⟩ := hρ.at_ i _ e
    refine ⟨_, hv, h _ H (Ex.refl H) fun Z dz hz => ?_⟩
    obtain ⟨v', hv', r'⟩ := hz.at_ i _ e
    rw [hv] at hv'; cases hv'
    have eo : E.ownV (.var i) ρ = true := by simp [E.ownV, e]
    rw [eo]; exact .inr ⟨_, rfl, r'⟩
  · exact h.elim
theorem sE_c {v : V} {d : D} {e : Expr} (h : PE X e (tC v)) (hr : ∀ Z H, Rp g.K Z H v d) : PE X e (tE g (.const d)) := by
  refine pe_weak h fun σ H Q h => ?_
  obtain ⟨ρ, hρ, h⟩ := h
  exact h v H (Ex.refl H) fun Z _ _ => hr Z H
theorem sE_bop {o : Bop} (hK : g.K = X.K) (ha : PE X a (tE g ia)) (hb : PE X b (tE g ib)) : PE X (.BinOp a (pyB o) b pos) (tE g (.bop o ia ib)) := by
  refine pe_weak (pe_op (op_bop o) ha hb) fun σ H Q h => ?_
  obtain ⟨ρ, hρ, h⟩ := h
  simp only [evE] at h
  refine sub_e hρ h.bind fun x v H1 p e1 ρ1 r1 => sub_e ρ1 (p.bind.ex e1) fun y u H2 p2 e2 ρ2 r2 => ?_
  obtain ⟨d, hd, p3⟩ := p2.ok (bopD_ne o x y)
  rw [← hK]
  refine ⟨x, y, d, ((r1 _ Dom.no hρ).c).ex e2, (r2 _ Dom.no ρ1).c, hd, fun w H3 e3 rr => p3 w H3 ((e1.trans e2).trans e3) fun Z dz hz => ?_⟩
  exact rr Z ((dz.ex e1).ex e2) ⟨((r1 Z dz hz).c).ex e2, (r2 Z (dz.ex e1) (hz.ex e1)).c⟩
theorem sE_cmp {o : Cop} (W : WdX X) (hK : g.K = X.K) (hu : X.A.units + 66 < cLine) (hm : behindInMarks (pyC o) b = false) (ha : PE X a (tE g ia)) (hb : PE X b (tE g ib)) : PE X (.Compare a [pyC o] [b] pos) (tE g (.cmp o ia ib)) := by
  refine pe_weak (pe_cmpR (op_cop o W hu) ha hb hm) fun σ H Q h => ?_
  obtain ⟨ρ, hρ, h⟩ := h
  simp only [evE] at h
  refine sub_e hρ h.bind fun x v H1 p e1 ρ1 r1 => sub_e ρ1 (p.bind.ex e1) fun y u H2 p2 e2 ρ2 r2 => ?_
  obtain ⟨d, hd, p3⟩ := p2.ok (cmpD_ne o x y)
  rw [← hK]
  refine ⟨x, y, d, ((r1 _ Dom.no hρ).c).ex e2, (r2 _ Dom.no ρ1).c, hd, fun w H3 e3 rr => p3 w H3 ((e1.trans e2).trans e3) fun Z dz hz => ?_⟩
  exact rr Z ((dz.ex e1).ex e2) ⟨((r1 Z dz hz).c).ex e2, (r2 Z (dz.ex e1) (hz.ex e1)).c⟩
theorem rp_bl {K : PySem.W.Frag} {Z : AS} {H : Hp} {v : V} {b : Bool} (h : Rp K Z H v (.bl b)) : v = .bl b := by cases h; rfl
theorem sT_cmp {o : Cop} (W : WdX X) (hK : g.K = X.K) (hu : X.A.units + 66 < cLine) (hm : behindInMarks (pyC o) b = false) (ha : PE X a (tE g ia)) (hb : PE X b (tE g ib)) : PT X (.Compare a [pyC o] [b] pos) (tT g (.cmp o ia ib)) := by
  refine pt_weak (pt_cmpR (op_cop o W hu) ha hb hm) fun σ H Q h => ?_
  obtain ⟨ρ, hρ, h⟩ := h
  have h := h.bind
  simp only [evE] at h
  refine sub_e hρ h.bind fun x v H1 p e1 ρ1 r1 => sub_e ρ1 (p.bind.ex e1) fun y u H2 p2 e2 ρ2 r2 => ?_
  obtain ⟨d, hd, p3⟩ := p2.ok (cmpD_ne o x y)
  obtain ⟨k, rfl⟩ := cmpD_bl hd
  rw [← hK]
  refine ⟨x, y, _, ((r1 _ Dom.no hρ).c).ex e2, (r2 _ Dom.no ρ1).c, hd, fun w H3 e3 rr => ⟨k, ?_, p3 H3 ((e1.trans e2).trans e3)⟩⟩
  exact rp_bl (rr _ Dom.no ⟨((r1 _ Dom.no hρ).c).ex e2, (r2 _ Dom.no ρ1).c⟩)
end
end Rf

/-! part RfSound2 -/
set_option autoImplicit false
set_option linter.all false
set_option Elab.async false
set_option maxRecDepth 100000
set_option maxHeartbeats 2000000
/-! RfSound2: more nodes. -/
namespace Rf
open PySem L2
variable [Wd]
section
variable {X : Cx} {g : Gx} {a b c : Expr} {ia ib ic : E} {pos : Pos} {es : List Expr} {ies : List E}
theorem lastM {o o' : CmpOp} {b c : Expr} (h : behindInMarks o' c = false) : lastMarks [o, o'] [b, c] = false := by
  simp only [lastMarks]; exact h
theorem sE_cmp2 {o o' : Cop} (W : WdX X) (hK : g.K = X.K) (hu : X.A.units + 66 < cLine) (hm : behindInMarks (pyC o') c = false) (ha : PE X a (tE g ia)) (hb : PE X b (tE g ib)) (hc : PE X c (tE g ic)) :
    PE X (.Compare a [pyC o, pyC o'] [b, c] pos) (tE g (.cmp2 o o' ia ib ic)) := by
  refine pe_weak (pe_chain (op_cop o W hu) (op_cop o' W hu) ha hb hc (lastM hm)) fun σ H Q h => ?_
  obtain ⟨ρ, hρ, h⟩ := h
  simp only [evE] at h
  refine sub_e hρ h.bind fun x v H1 p e1 ρ1 r1 => sub_e ρ1 (p.bind.ex e1) fun y u H2 p2 e2 ρ2 r2 => ?_
  obtain ⟨z, hz, p3⟩ := p2.bind.ok (cmpD_ne o x y)
  obtain ⟨k, rfl⟩ := cmpD_bl hz
  rw [← hK]
  refine ⟨x, y, _, ((r1 _ Dom.no hρ).c).ex e2, (r2 _ Dom.no ρ1).c, hz, fun w H3 e3 rr => ⟨k, rp_bl (rr _ Dom.no ⟨((r1 _ Dom.no hρ).c).ex e2, (r2 _ Dom.no ρ1).c⟩), ?_⟩⟩
  simp only [truthy, Out.bind_ok] at p3
  cases k with
  | true =>
    simp only [if_true] at p3 ⊢
    refine sub_e (ρ2.ex e3) (p3.bind.ex ((e1.trans e2).trans e3)) fun t w' H4 p4 e4 ρ4 r4 => ?_
    obtain ⟨d, hd, p5⟩ := p4.ok (cmpD_ne o' y t)
    refine ⟨y, t, d, (((r2 _ Dom.no ρ1).c).ex e3).ex e4, (r4 _ Dom.no (ρ2.ex e3)).c, hd, fun w2 H5 e5 rr2 => p5 w2 H5 ((((e1.trans e2).trans e3).trans e4).trans e5) fun Z dz hz => ?_⟩
    exact rr2 Z ((((dz.ex e1).ex e2).ex e3).ex e4) ⟨(((r2 Z (dz.ex e1) (hz.ex e1)).c).ex e3).ex e4, (r4 Z (((dz.ex e1).ex e2).ex e3) (((hz.ex e1).ex e2).ex e3)).c⟩
  | false =>
    simp only [Bool.false_eq_true, if_false] at p3 ⊢
    exact p3 _ H3 ((e1.trans e2).trans e3) fun Z dz hz => .bl false
theorem sT_cmp2 {o o' : Cop} (W : WdX X) (hK : g.K = X.K) (hu : X.A.units + 66 < cLine) (hm : behindInMarks (pyC o') c = false) (ha : PE X a (tE g ia)) (hb : PE X b (tE g ib)) (hc : PE X c (tE g ic)) :
    PT X (.Compare a [pyC o, pyC o'] [b, c] pos) (tT g (.cmp2 o o' ia ib ic)) := by
  refine pt_weak (pt_chain (op_cop o W hu) (op_cop o' W hu) ha hb hc (lastM hm)) fun σ H Q h => ?_
  obtain ⟨ρ, hρ, h⟩ := h
  have h := h.bind
  simp only [evE] at h
  show tChain _ _ _ _ _ σ H (fun x H' => ∃ k, x = .bl k ∧ Q k H')
  refine sub_e hρ h.bind fun x v H1 p e1 ρ1 r1 => sub_e ρ1 (p.bind.ex e1) fun y u H2 p2 e2 ρ2 r2 => ?_
  obtain ⟨z, hz, p3⟩ := p2.bind.ok (cmpD_ne o x y)
  obtain ⟨k, rfl⟩ := cmpD_bl hz
  rw [← hK]
  refine ⟨x, y, _, ((r1 _ Dom.no hρ).c).ex e2, (r2 _ Dom.no ρ1).c, hz, fun w H3 e3 rr => ⟨k, rp_bl (rr _ Dom.no ⟨((r1 _ Dom.no hρ).c).ex e2, (r2 _ Dom.no ρ1).c⟩), ?_⟩⟩
  simp only [truthy, Out.bind_ok] at p3
  cases k with
  | true =>
    simp only [if_true] at p3 ⊢
    refine sub_e (ρ2.ex e3) (p3.bind.ex ((e1.trans e2).trans e3)) fun t w' H4 p4 e4 ρ4 r4 => ?_
    obtain ⟨d, hd, p5⟩ := p4.ok (cmpD_ne o' y t)
    obtain ⟨k2, rfl⟩ := cmpD_bl hd
    refine ⟨y, t, _, (((r2 _ Dom.no ρ1).c).ex e3).ex e4, (r4 _ Dom.no (ρ2.ex e3)).c, hd, fun w2 H5 e5 rr2 => ⟨k2, ?_, p5 H5 ((((e1.trans e2).trans e3).trans e4).trans e5)⟩⟩
    exact rp_bl (rr2 _ Dom.no ⟨(((r2 _ Dom.no ρ1).c).ex e3).ex e4, (r4 _ Dom.no (ρ2.ex e3)).c⟩)
  | false =>
    simp only [Bool.false_eq_true, if_false] at p3 ⊢
    exact ⟨false, rfl, p3 H3 ((e1.trans e2).trans e3)⟩
theorem sE_neg (hK : g.K = X.K) (ha : PE X a (tE g ia)) : PE X (.UnaryOp .USub a pos) (tE g (.neg ia)) := by
  refine pe_weak (pe_un un_neg ha) fun σ H Q h => ?_
  obtain ⟨ρ, hρ, h⟩ := h
  simp only [evE] at h
  refine sub_e hρ h.bind fun x v H1 p e1 ρ1 r1 => ?_
  cases x with
  | int i =>
    have e := (r1 _ Dom.no hρ).c.intE; subst e
    exact ⟨i, rfl, p _ H1 e1 fun Z _ _ => .int _⟩
  | _ => exact p.elim
theorem sE_not (hK : g.K = X.K) (ha : PE X a (tE g ia)) : PE X (.UnaryOp .Not a pos) (tE g (.not ia)) := by
  refine pe_weak (pe_notT ha) fun σ H Q h => ?_
  obtain ⟨ρ, hρ, h⟩ := h
  simp only [evE] at h
  refine sub_e hρ h.bind fun x v H1 p e1 ρ1 r1 => ?_
  obtain ⟨t, ht, p2⟩ := p.bind.ok (truthy_ne x)
  refine ⟨t, ?_, p2 _ H1 e1 fun Z _ _ => .bl _⟩
  rw [← hK]
  exact tru_of (r1 _ Dom.no hρ).c ht
theorem sT_not (ha : PT X a (tT g ia)) : PT X (.UnaryOp .Not a pos) (tT g (.not ia)) := by
  refine pt_weak (pt_not ha) fun σ H Q h => ?_
  obtain ⟨ρ, hρ, h⟩ := h
  have e : (evE g.call (.not ia) ρ).bind truthy = ((evE g.call ia ρ).bind truthy).bind fun t => .ok (!t) := by
    simp only [evE]
    cases evE g.call ia ρ with
    | ok x => simp only [Out.bind_ok]; cases truthy x <;> rfl
    | exc c fs => rfl
    | bad => rfl
  rw [e] at h
  refine sub_t hρ h.bind fun t H1 p e1 ρ1 => ?_
  exact p H1 e1
/-- any expression, as a test by its value's truth -/
theorem sT_val (hK : g.K = X.K) (ha : PE X a (tE g ia)) (he : ∀ whole, isTrue a X.env whole = (do let v ← whole; standAt a.pos; holding [v] (PySem.truthy v))) : PT X a (tT g ia) := by
  refine pt_weak (pt_truth ha he) fun σ H Q h => ?_
  obtain ⟨ρ, hρ, h⟩ := h
  refine sub_e hρ h.bind fun x v H1 p e1 ρ1 r1 => ?_
  obtain ⟨t, ht, p2⟩ := p.ok (truthy_ne x)
  refine ⟨t, ?_, p2 H1 e1⟩
  rw [← hK]
  exact tru_of (r1 _ Dom.no hρ).c ht
theorem rpm_f {K : PySem.W.Frag} {Z : AS} {H : Hp} {v : V} {d : D} {b : Bool} (h : RpM b K Z H v d) (e : b = false) : Rp K Z H v d := by subst e; exact h
theorem sE_and {rest : List Expr} (hK : g.K = X.K) (ha : PE X a (tE g ia)) (hb : PE X (.BoolOp .And (b :: rest) pos) (tE g ib)) : PE X (.BoolOp .And (a :: b :: rest) pos) (tE g (.and ia ib)) := by
  refine pe_weak (pe_andT ha hb) fun σ H Q h => ?_
  obtain ⟨ρ, hρ, h⟩ := h
  simp only [evE] at h
  split at h
  · exact h.elim
  rename_i ho
  simp only [Bool.or_eq_true, not_or, Bool.not_eq_true] at ho
  refine sub_e hρ h.bind fun x v H1 p e1 ρ1 r1 => ?_
  obtain ⟨t, ht, p2⟩ := p.bind.ok (truthy_ne x)
  refine ⟨t, by rw [← hK]; exact tru_of (r1 _ Dom.no hρ).c ht, ?_⟩
  cases t with
  | true =>
    simp only [if_true] at p2 ⊢
    refine sub_e ρ1 (p2.ex e1) fun y u H2 p3 e2 ρ2 r2 => ?_
    exact p3 u H2 (e1.trans e2) fun Z dz hz => rpm_f (r2 Z (dz.ex e1) (hz.ex e1)) ho.2
  | false =>
    simp only [Bool.false_eq_true, if_false] at p2 ⊢
    exact p2 v H1 e1 fun Z dz hz => rpm_f (r1 Z dz hz) ho.1
theorem sE_or {rest : List Expr} (hK : g.K = X.K) (ha : PE X a (tE g ia)) (hb : PE X (.BoolOp .Or (b :: rest) pos) (tE g ib)) : PE X (.BoolOp .Or (a :: b :: rest) pos) (tE g (.or ia ib)) := by
  refine pe_weak (pe_orT ha hb) fun σ H Q h => ?_
  obtain ⟨ρ, hρ, h⟩ := h
  simp only [evE] at h
  split at h
  · exact h.elim
  rename_i ho
  simp only [Bool.or_eq_true, not_or, Bool.not_eq_true] at ho
  refine sub_e hρ h.bind fun x v H1 p e1 ρ1 r1 => ?_
  obtain ⟨t, ht, p2⟩ := p.bind.ok (truthy_ne x)
  refine ⟨t, by rw [← hK]; exact tru_of (r1 _ Dom.no hρ).c ht, ?_⟩
  cases t with
  | false =>
    simp only [Bool.false_eq_true, if_false] at p2 ⊢
    refine sub_e ρ1 (p2.ex e1) fun y u H2 p3 e2 ρ2 r2 => ?_
    exact p3 u H2 (e1.trans e2) fun Z dz hz => rpm_f (r2 Z (dz.ex e1) (hz.ex e1)) ho.2
  | true =>
    simp only [if_true] at p2 ⊢
    exact p2 v H1 e1 fun Z dz hz => rpm_f (r1 Z dz hz) ho.1
theorem sE_one {op : BoolOp} (ha : PE X a (tE g ia)) : PE X (.BoolOp op [a] pos) (tE g ia) := pe_one ha
theorem sW_one {op : BoolOp} (ha : PT X a (tT g ia)) : PW X (.BoolOp op [a] pos) (tT g ia) := by
  cases op with
  | And => exact pw_and1 ha
  | Or => exact pw_or1 ha
theorem and_T (ρ : Env) : (evE g.call (.and ia ib) ρ).bind truthy = if ia.ownV ρ || ib.ownV ρ then .bad else ((evE g.call ia ρ).bind truthy).bind fun t => if t then (evE g.call ib ρ).bind truthy else .ok false := by
  simp only [evE]
  split
  · rfl
  · cases evE g.call ia ρ with
    | ok x =>
      simp only [Out.bind_ok]
      cases h : truthy x with
      | ok t => cases t <;> simp [h]
      | exc c fs => rfl
      | bad => rfl
    | exc c fs => rfl
    | bad => rfl
theorem or_T (ρ : Env) : (evE g.call (.or ia ib) ρ).bind truthy = if ia.ownV ρ || ib.ownV ρ then .bad else ((evE g.call ia ρ).bind truthy).bind fun t => if t then .ok true else (evE g.call ib ρ).bind truthy := by
  simp only [evE]
  split
  · rfl
  · cases evE g.call ia ρ with
    | ok x =>
      simp only [Out.bind_ok]
      cases h : truthy x with
      | ok t => cases t <;> simp [h]
      | exc c fs => rfl
      | bad => rfl
    | exc c fs => rfl
    | bad => rfl
theorem sW_and {rest : List Expr} (ha : PT X a (tT g ia)) (hb : PW X (.BoolOp .And (b :: rest) pos) (tT g ib)) : PW X (.BoolOp .And (a :: b :: rest) pos) (tT g (.and ia ib)) := by
  refine pw_weak (pw_and ha hb) fun σ H Q h => ?_
  obtain ⟨ρ, hρ, h⟩ := h
  rw [and_T] at h
  split at h
  · exact h.elim
  refine sub_t hρ h.bind fun t H1 p e1 ρ1 => ?_
  cases t with
  | true =>
    simp only [if_true] at p ⊢
    exact sub_t ρ1 (p.ex e1) fun t2 H2 p2 e2 ρ2 => p2 H2 (e1.trans e2)
  | false =>
    simp only [Bool.false_eq_true, if_false] at p ⊢
    exact p H1 e1
theorem sW_or {rest : List Expr} (ha : PT X a (tT g ia)) (hb : PW X (.BoolOp .Or (b :: rest) pos) (tT g ib)) : PW X (.BoolOp .Or (a :: b :: rest) pos) (tT g (.or ia ib)) := by
  refine pw_weak (pw_or ha hb) fun σ H Q h => ?_
  obtain ⟨ρ, hρ, h⟩ := h
  rw [or_T] at h
  split at h
  · exact h.elim
  refine sub_t hρ h.bind fun t H1 p e1 ρ1 => ?_
  cases t with
  | false =>
    simp only [Bool.false_eq_true, if_false] at p ⊢
    exact sub_t ρ1 (p.ex e1) fun t2 H2 p2 e2 ρ2 => p2 H2 (e1.trans e2)
  | true =>
    simp only [if_true] at p ⊢
    exact p H1 e1
theorem sE_ite (hc : PT X c (tT g ic)) (ha : PE X a (tE g ia)) (hb : PE X b (tE g ib)) : PE X (.IfExp c a b pos) (tE g (.ite ic ia ib)) := by
  refine pe_weak (pe_ifExp hc ha hb) fun σ H Q h => ?_
  obtain ⟨ρ, hρ, h⟩ := h
  have e : evE g.call (.ite ic ia ib) ρ = if ia.ownV ρ || ib.ownV ρ then .bad else ((evE g.call ic ρ).bind truthy).bind fun t => if t then evE g.call ia ρ else evE g.call ib ρ := by
    simp only [evE]
    split
    · rfl
    · cases evE g.call ic ρ <;> rfl
  rw [e] at h
  split at h
  · exact h.elim
  rename_i ho
  simp only [Bool.or_eq_true, not_or, Bool.not_eq_true] at ho
  refine sub_t hρ h.bind fun t H1 p e1 ρ1 => ?_
  cases t with
  | true =>
    simp only [if_true] at p ⊢
    exact sub_e ρ1 (p.ex e1) fun y u H2 p3 e2 ρ2 r2 => p3 u H2 (e1.trans e2) fun Z dz hz => rpm_f (r2 Z (dz.ex e1) (hz.ex e1)) ho.1
  | false =>
    simp only [Bool.false_eq_true, if_false] at p ⊢
    exact sub_e ρ1 (p.ex e1) fun y u H2 p3 e2 ρ2 r2 => p3 u H2 (e1.trans e2) fun Z dz hz => rpm_f (r2 Z (dz.ex e1) (hz.ex e1)) ho.2

/-! ### lists of expressions -/
theorem sEs_nil : PA X [] (tEs g []) := by
  refine pa_weak pa_nil fun σ H Q h => ?_
  obtain ⟨ρ, hρ, h⟩ := h
  exact h [] H (Ex.refl H) fun Z _ _ => .nil
theorem rpml_cons {K : PySem.W.Frag} {Z : AS} {H : Hp} {v : V} {vs : List V} {d : D} {ds : List D} {b b' : Bool} (h : RpM b K Z H v d) (t : RpML b' K Z H vs ds) : RpML (b || b') K Z H (v :: vs) (d :: ds) := by
  cases b with
  | true => exact .cons h t.cl
  | false => cases b' with
    | true => exact .cons (.inl h) t
    | false => exact .cons h t
theorem RpML.ex {K : PySem.W.Frag} {Z : AS} {H H' : Hp} {vs : List V} {ds : List D} {b : Bool} (e : Ex H H') (t : RpML b K Z H vs ds) : RpML b K Z H' vs ds := by
  cases b with
  | true => exact CL.ex e t
  | false => exact RpL.ex e t
theorem RpM.ex {K : PySem.W.Frag} {Z : AS} {H H' : Hp} {v : V} {d : D} {b : Bool} (e : Ex H H') (t : RpM b K Z H v d) : RpM b K Z H' v d := by
  cases b with
  | true => exact RpC.ex e t
  | false => exact Rp.ex e t
theorem sEs_cons (ha : PE X a (tE g ia)) (hr : PA X es (tEs g ies)) (hs : starEach (a :: es) X.env = (false, eval a X.env) :: starEach es X.env) : PA X (a :: es) (tEs g (ia :: ies)) := by
  refine pa_weak (pa_cons ha hr hs) fun σ H Q h => ?_
  obtain ⟨ρ, hρ, h⟩ := h
  simp only [evEs] at h
  refine sub_e hρ h.bind fun x v H1 p e1 ρ1 r1 => ?_
  refine sub_es ρ1 (p.bind.ex e1) fun ds vs H2 p2 e2 ρ2 r2 => ?_
  refine p2 (v :: vs) H2 (e1.trans e2) fun Z dz hz => ?_
  exact rpml_cons ((r1 Z dz hz).ex e2) (r2 Z (dz.ex e1) (hz.ex e1))
theorem rpml_f {K : PySem.W.Frag} {Z : AS} {H : Hp} {vs : List V} {ds : List D} {b : Bool} (h : RpML b K Z H vs ds) (e : b = false) : RpL K Z H vs ds := by subst e; exact h
theorem evEs_len {call : Nat → List D → Out D} : ∀ {es : List E} {ρ : Env} {ds : List D}, evEs call es ρ = .ok ds → ds.length = es.length
  | [], ρ, ds, h => by simp only [evEs] at h; cases h; rfl
  | e :: es, ρ, ds, h => by
    simp only [evEs] at h
    cases h1 : evE call e ρ with
    | ok x =>
      rw [h1] at h
      simp only [Out.bind_ok] at h
      cases h2 : evEs call es ρ with
      | ok xs => rw [h2] at h; cases h; simp [evEs_len h2]
      | exc c fs => rw [h2] at h; cases h
      | bad => rw [h2] at h; cases h
    | exc c fs => rw [h1] at h; cases h
    | bad => rw [h1] at h; cases h
theorem post_map {α β : Type} {o : Out α} {f : α → β} {P : β → Prop} {σ : St} {H : Hp} (h : Post g σ H (o.map f) P) : Post g σ H o fun a => P (f a) := by
  cases o <;> exact h
theorem post_self {α : Type} {o : Out α} {P : α → Prop} {σ : St} {H : Hp} (h : Post g σ H o P) : Post g σ H o fun a => o = .ok a ∧ P a := by
  cases o <;> first | exact ⟨rfl, h⟩ | exact h
theorem sE_tup {k : Nat} (hl : ies.length ≤ 1000) (h : PA X es (tEs g ies)) : PE X (.Tuple es k pos) (tE g (.tup ies)) := by
  refine pe_weak (pe_tup h) fun σ H Q h => ?_
  obtain ⟨ρ, hρ, h⟩ := h
  simp only [evE] at h
  split at h
  · exact h.elim
  rename_i ho
  simp only [Bool.not_eq_true] at ho
  refine sub_es hρ (post_self (post_map h)) fun ds vs H1 p e1 ρ1 r1 => ?_
  have hds := evEs_len p.1
  have hvs := (r1 _ Dom.no hρ).cl.length
  refine ⟨by rw [hvs, hds]; exact Nat.le_trans hl (by rw [sizeLine_eq]; decide), fun q hq => ?_⟩
  refine p.2 _ _ (e1.trans (Ex.new hq)) fun Z dz hz => ?_
  exact .tup (SqT.of upd_same) ((rpml_f (r1 Z dz hz) ho).ex (Ex.new hq))
theorem sE_lst (hl : ies.length ≤ 1000) (h : PA X es (tEs g ies)) : PE X (.List es pos) (tE g (.lst ies)) := by
  refine pe_weak (pe_lst h) fun σ H Q h => ?_
  obtain ⟨ρ, hρ, h⟩ := h
  simp only [evE] at h
  split at h
  · exact h.elim
  rename_i ho
  simp only [Bool.not_eq_true] at ho
  refine sub_es hρ (post_self (post_map h)) fun ds vs H1 p e1 ρ1 r1 => ?_
  have hds := evEs_len p.1
  have hvs := (r1 _ Dom.no hρ).cl.length
  refine ⟨by rw [hvs, hds]; exact Nat.le_trans hl (by rw [sizeLine_eq]; decide), fun q hq => ?_⟩
  refine p.2 _ _ (e1.trans (Ex.new hq)) fun Z dz hz => ?_
  exact .lst (.inl ⟨(dz.ex e1).out hq, Rd.of upd_same⟩) ((rpml_f (r1 Z dz hz) ho).ex (Ex.new hq))
theorem sE_bi {bi : Bi} {x : Str} {p : Pos} (W : WdX X) (hK : g.K = X.K) (hc : X.calm = true) (hg : Gl X x) (hm : X.mg x = none) (hv : bootBuiltins x = some (biVal bi)) (ha : PA X (a :: es) (tEs g ies))
    (hn : x ≠ "__name__") (hdb : (x == ("__debug__" : Str)) = false) (he : starEach (a :: es) X.env = (false, eval a X.env) :: starEach es X.env) (hpl : (backTo pos (starEach es X.env)).any (·.1) = false) :
    PE X (.Call (.Name x p) (a :: es) [] pos) (tE g (.bi bi ies)) := by
  have key : PE X (.Call (.Name x p) (a :: es) [] pos) (tCB (rBi X.K (biD bi)) (tEs g ies)) := by
    have cb := callBi (X := X) bi W hc
    unfold biVal at hv cb
    cases hb : biIsTy bi with
    | true => rw [hb] at hv cb; exact pe_callTy cb hg hm hv ha hn hdb he hpl
    | false => rw [hb] at hv cb; exact pe_callB cb hg hm hv ha hn hdb he hpl
  refine pe_weak key fun σ H Q h => ?_
  obtain ⟨ρ, hρ, h⟩ := h
  simp only [evE] at h
  refine sub_es hρ h.bind fun ds vs H1 p e1 ρ1 r1 => ?_
  obtain ⟨d, hd, p2⟩ := p.ok (biD_ne bi ds)
  rw [← hK]
  refine ⟨ds, d, (r1 _ Dom.no hρ).cl, hd, fun w H2 e2 rr => p2 w H2 (e1.trans e2) fun Z dz hz => ?_⟩
  exact rr Z (dz.ex e1) (r1 Z dz hz).cl
/-- isinstance(x, T), T a built-in type -/
def rIsD (K : PySem.W.Frag) : List V → Hp → VK → Prop := fun xs H Q => ∃ v d t, xs = [v, .ty (pyT t)] ∧ Rp K AS.none H v d ∧ t.bltn = true ∧ instOk d t = true ∧ Q (.bl (instD d t)) H
theorem call_isiD (W : WdX X) : CallR X (.builtin "isinstance") (rIsD X.K) := by
  intro pins s σ H xs us Q I r h
  obtain ⟨v, d, t, rfl, rx, ht, ho, q⟩ := h
  cases hk : d.kindly with
  | true =>
    obtain ⟨ty, kd⟩ := tyX_of rx hk
    exact call_isi pins s σ H _ us Q I r ⟨v, _, _, _, instD d t, rfl, .ty _, ty, kit_ty (kit_table d t kd ht), q⟩
  | false =>
    obtain ⟨u1, u2, rfl, r1, r2⟩ := vals2 r
    have e2 : u2 = .type (pyT t) := r2
    subst e2
    cases d with
    | dic td kvs =>
      obtain ⟨a, es, rfl, ha, re⟩ := rx.c.dicE
      cases r1
      have hT : s.TypeIs (.ref a) "dict" := by
        cases td with
        | true => obtain ⟨z, hd, xs, ex, hm⟩ := dx_at W I ha re; exact hm.typeIs
        | false =>
          have e : H a = some (.dK (es.map fun e => (toK e.1, e.2.2))) := ha
          obtain ⟨z, hd, vs, rel, dd⟩ := dk_rd I.hok (.inl e)
          exact dd.typeIs
      have e : PySem.W.kitOne X.K (.type "dict") (.type (pyT t)) = some (instD (.dic td kvs) t) := kit_ty (by cases t <;> first | (simp [Ty.bltn] at ht; done) | (show kitB _ _ = some _; simp only [pyT, instD]; decide +kernel))
      exact PySem.W.kia_one PySem.W.kitx_dict I.kIn hT e (fun z => nomatch z) fun tk => ⟨.bl _, H, I.tok tk, rfl, q⟩
    | obj => cases t <;> first | cases ho | cases ht
    | exn => cases rx
    | _ => cases hk
theorem sE_inst {t : Ty} {p p2 : Pos} {T : Str} (W : WdX X) (hK : g.K = X.K) (ht : t.bltn = true) (ha : PE X a (tE g ia)) (hg : Gl X "isinstance") (hm : X.mg "isinstance" = none) (hT : Gl X T) (hmT : X.mg T = none) (hvT : bootBuiltins T = some (.type (pyT t)))
    (hnT : T ≠ "__name__") (hdT : (T == ("__debug__" : Str)) = false) (hs : starEach (a :: [.Name T p2]) X.env = (false, eval a X.env) :: starEach [.Name T p2] X.env) :
    PE X (.Call (.Name "isinstance" p) [a, .Name T p2] [] pos) (tE g (.inst ia t)) := by
  have hTy : PE X (.Name T p2) (tC (.ty (pyT t))) := pe_bltn hT hmT hvT rfl hnT hdT
  have args : PA X [a, .Name T p2] (tCons (tE g ia) (tCons (tC (.ty (pyT t))) tNil)) := pa_cons ha (pa_cons hTy pa_nil) hs
  refine pe_weak (pe_callB (call_isiD W) hg hm (by decide +kernel) args (by decide) (by decide) hs rfl) fun σ H Q h => ?_
  obtain ⟨ρ, hρ, h⟩ := h
  simp only [evE] at h
  refine sub_e hρ h.bind fun x v H1 p e1 ρ1 r1 => ?_
  split at p
  case isFalse => exact p.elim
  rename_i ho
  have rx := (r1 _ Dom.no hρ).c.r0
  rw [hK] at rx
  exact ⟨v, x, t, rfl, rx, ht, ho, p _ H1 e1 fun Z _ _ => .bl _⟩
theorem sE_sub (W : WdX X) (hu : X.A.units + 66 < cLine) (hK : g.K = X.K) (hs : PlainIx b) (ha : PE X a (tE g ia)) (hb : PE X b (tE g ib)) : PE X (.Subscript a b pos) (tE g (.sub ia ib)) := by
  refine pe_weak (pe_ix (ix_sub W hu) ha hb hs) fun σ H Q h => ?_
  obtain ⟨ρ, hρ, h⟩ := h
  simp only [evE] at h
  refine sub_e hρ h.bind fun x v H1 p e1 ρ1 r1 => sub_e ρ1 (p.bind.ex e1) fun y u H2 p2 e2 ρ2 r2 => ?_
  obtain ⟨d, hd, p3⟩ := p2.ok (subD_ne x y)
  rw [← hK]
  refine ⟨x, y, d, ((r1 _ Dom.no hρ).c).ex e2, (r2 _ Dom.no ρ1).c, hd, fun w H3 e3 rr => p3 w H3 ((e1.trans e2).trans e3) fun Z dz hz => ?_⟩
  exact rr Z ((dz.ex e1).ex e2) ⟨((r1 Z dz hz).c).ex e2, (r2 Z (dz.ex e1) (hz.ex e1)).c⟩
/-- a slice's bound: none, or an int -/
def tB' (g : Gx) (e : E) : TO := fun σ H Q => ∃ ρ, EnvR g.K AS.none H σ ρ ∧ Post g σ H ((evE g.call e ρ).bind boundD) fun o => ∀ H', Ex H H' → Q o H'
theorem po_weak {e : Option Expr} {t t' : TO} (h : PO X e t) (w : ∀ σ H Q, t' σ H Q → t σ H Q) : PO X e t' := ⟨fun pins s σ H Q I q => h.run pins s σ H Q I (w σ H Q q)⟩
theorem sB_none : PO X none (tB' g (.const .non)) := by
  refine po_weak po_none fun σ H Q h => ?_
  obtain ⟨ρ, hρ, h⟩ := h
  exact h H (Ex.refl H)
theorem sl_weak {r r' : V → Option Int → Option Int → Hp → VK → Prop} (h : SlR X r) (w : ∀ x l u H Q, r' x l u H Q → r x l u H Q) : SlR X r' := fun pins s σ H x v vl vu lo hi sl Q I rx hs pl pu q => h pins s σ H x v vl vu lo hi sl Q I rx hs pl pu (w _ _ _ _ _ q)
def rSlD (K : PySem.W.Frag) : V → Option Int → Option Int → Hp → VK → Prop := fun x lo hi H Q => ∃ d1 d, RpC K AS.none H x d1 ∧ sliceD d1 lo hi = .ok d ∧ Res K H (fun Z => RpC K Z H x d1) d Q
theorem sl_D : SlR X (rSlD X.K) := fun pins s σ H x v vl vu lo hi sl Q I rx hs pl pu q => sl_any (l := lo) (h := hi) pins s σ H x v vl vu lo hi sl Q I rx hs pl pu ⟨rfl, rfl, q⟩
theorem sE_slice {lo hi : Option Expr} {il ih : E} {p2 : Pos} (hK : g.K = X.K) (ha : PE X a (tE g ia)) (hl : PO X lo (tB' g il)) (hh : PO X hi (tB' g ih)) : PE X (.Subscript a (.Slice lo hi none p2) pos) (tE g (.slice ia il ih)) := by
  refine pe_weak (pe_slice sl_D ha hl hh) fun σ H Q h => ?_
  obtain ⟨ρ, hρ, h⟩ := h
  simp only [evE] at h
  refine sub_e hρ h.bind fun x v H1 p e1 ρ1 r1 => ⟨ρ, ρ1, (p.bind.ex e1).mp fun l p2 H2 e2 => ⟨ρ, ρ1.ex e2, (p2.bind.ex (e1.trans e2)).mp fun u p3 H3 e3 => ?_⟩⟩
  obtain ⟨d, hd, p4⟩ := p3.ok (sliceD_ne x l u)
  rw [← hK]
  refine ⟨x, d, ((r1 _ Dom.no hρ).c).ex (e2.trans e3), hd, fun w H4 e4 rr => p4 w H4 (((e1.trans e2).trans e3).trans e4) fun Z dz hz => ?_⟩
  exact rr Z (((dz.ex e1).ex e2).ex e3) (((r1 Z dz hz).c).ex (e2.trans e3))
theorem sB_some (ha : PE X a (tE g ia)) : PO X (some a) (tB' g ia) := by
  have key : PO X (some a) (fun σ H Q => tE g ia σ H fun x H1 => (x = .non ∧ Q none H1) ∨ ∃ i, x = .int i ∧ Q (some i) H1) := by
    refine ⟨fun pins s σ H Q I hw => ?_⟩
    rw [evalPart_some]
    refine thn (ha.run pins s σ H _ I hw) fun u s1 ⟨x, H1, I1, r1, q1⟩ => ?_
    rcases q1 with ⟨rfl, q⟩ | ⟨i, rfl, q⟩
    · cases r1
      exact ⟨none, H1, I1, .none, q⟩
    · obtain ⟨t, rfl⟩ := r1
      exact ⟨some i, H1, I1, .int i t, q⟩
  refine po_weak key fun σ H Q h => ?_
  obtain ⟨ρ, hρ, h⟩ := h
  refine sub_e hρ h.bind fun x v H1 p e1 ρ1 r1 => ?_
  cases x with
  | non => exact .inl ⟨(r1 _ Dom.no hρ).c.nonE, p H1 e1⟩
  | int i => exact .inr ⟨i, (r1 _ Dom.no hρ).c.intE, p H1 e1⟩
  | _ => exact p.elim
end
end Rf

/-! part RfSound3 -/
set_option autoImplicit false
set_option linter.all false
set_option Elab.async false
set_option maxRecDepth 100000
set_option maxHeartbeats 2000000
/-! RfSound3: calls, what is walked, comprehensions. -/
namespace Rf
open PySem L2
variable [Wd]

/-! ### calls -/
/-- what a def of the text is worth -/
def ResF (K : PySem.W.Frag) (H : Hp) (A : AS → Prop) (b : Bool) (d : D) (Q : VK) : Prop := ∀ v H', Ex H H' → (∀ Z, Dom Z H → A Z → Rp K Z H' v d) → (b = true → ∃ p, v = .ref p ∧ H p = none ∧ ∀ Z, Dom Z H → A Z → OwnAt K (fun a => Z a ∨ a = p) H' p d) → Q v H'
def spF (K : PySem.W.Frag) (cA : Nat → Addr) (call : Nat → List D → Out D) (frs : Nat → Bool) (k : Nat) : Sp := fun vs H Q E => ∃ ds, RpL K AS.none H vs ds ∧ LamX.Tabs Wd.T H ∧ (match call k ds with
  | .ok d => ResF K H (fun Z => RpL K Z H vs ds) (frs k && d.cell) d Q
  | .exc c fs => ∀ cls dd H', Ex H H' → XR cA c fs cls dd H' → E cls dd H'
  | .bad => False)
section
variable {X : Cx} {g : Gx} {a b c : Expr} {ia ib ic : E} {pos : Pos} {es : List Expr} {ies : List E} {CX : CXT} {n k : Nat} {f : Addr} {fd : FuncData} {ps : List Str} {x : Str} {p : Pos}
theorem call_weak (hK : g.K = X.K) {t : TA} (ht : t = tEs g ies) : ∀ σ H Q, tE g (.call k ies) σ H Q → tCallS (spF X.K g.cA g.call g.frs k) (WE g.W) t σ H Q := fun σ H Q h => by
  subst ht
  obtain ⟨ρ, hρ, h⟩ := h
  simp only [evE] at h
  refine sub_es hρ h.bind fun ds vs H1 p e1 ρ1 r1 => ?_
  refine ⟨ds, by rw [← hK]; exact (r1 _ Dom.no hρ).cl.r0, ρ1.tab, ?_⟩
  cases hc : g.call k ds with
  | ok d =>
    rw [hc] at p
    simp only [Out.bind_ok] at p
    intro w H2 e2 rr _
    split at p
    · exact p.elim
    · rename_i hf
      refine p w H2 (e1.trans e2) fun Z dz hz => ?_
      have eo : E.ownV (.call k ies) ρ = false := rfl
      rw [eo]
      cases ho : ownL ies ρ with
      | true =>
        rw [ho] at hf
        have fl : d.flat = true := by simpa using hf
        rw [hK]
        exact (rr AS.none Dom.no (by rw [← hK]; exact (r1 _ Dom.no hρ).cl.r0)).flat fl
      | false =>
        rw [hK]
        exact rr Z (dz.ex e1) (by rw [← hK]; exact rpml_f (r1 Z dz hz) ho)
  | exc c fs =>
    rw [hc] at p
    simp only [Out.bind_exc] at p
    exact fun cls dd H2 e2 hx => p cls dd H2 (e1.trans e2) hx
  | bad => rw [hc] at p; exact p.elim
theorem sE_call (hK : g.K = X.K) (F : FnOk X.prog X.w X.K X.mg X.base (L2N.CX X.prog X.w) n f fd ps (spF X.K g.cA g.call g.frs k)) (hr : Room n X.A) (hg : Gl X x) (hm : X.mg x = some (.ref f)) (hk : PySem.W.keepIn X.K (.ref f) = true) (hb : Binds X.K fd ps []) (tk : L2N.Takes X g.W)
    (ha : PA X (a :: es) (tEs g ies)) (hdb : (x == ("__debug__" : Str)) = false) (he : starEach (a :: es) X.env = (false, eval a X.env) :: starEach es X.env) (hpl : (backTo pos (starEach es X.env)).any (·.1) = false) :
    PE X (.Call (.Name x p) (a :: es) [] pos) (tE g (.call k ies)) :=
  pe_weak (pe_callS F hr hg hm hk hb (fun σ => L2N.passAt tk σ) ha hdb he hpl) (call_weak hK rfl)
theorem sE_call0 (hK : g.K = X.K) (F : FnOk X.prog X.w X.K X.mg X.base (L2N.CX X.prog X.w) n f fd ps (spF X.K g.cA g.call g.frs k)) (hr : Room n X.A) (hg : Gl X x) (hm : X.mg x = some (.ref f)) (hk : PySem.W.keepIn X.K (.ref f) = true) (hb : Binds X.K fd ps []) (tk : L2N.Takes X g.W)
    (hdb : (x == ("__debug__" : Str)) = false) : PE X (.Call (.Name x p) [] [] pos) (tE g (.call k [])) := by
  have key : PE X (.Call (.Name x p) [] [] pos) (tCallS (spF X.K g.cA g.call g.frs k) (WE g.W) tNil) := by
    refine ⟨fun pins s σ H Q I h => ?_⟩
    refine wpAny_Call_Name_kw (ld_glob I hg hm ?_ hdb)
    exact PySem.W.callWith_K0 I.kIn hk (run_fnS (us := []) F hr hb (fun pins H s e s' I c => L2N.passAt tk σ pins H s e s' I c) I .nil h)
  refine pe_weak key fun σ H Q h => ?_
  have h2 := call_weak (ies := []) hK rfl σ H Q h
  obtain ⟨ρ, hρ, h⟩ := h2
  exact h [] H (Ex.refl H) fun Z _ _ => .nil
end

/-! ### what is walked -/
/-- the heap without what stands at Z -/
noncomputable def hide (H : Hp) (Z : AS) : Hp := fun a => by
  classical
  exact if Z a then none else H a
theorem hide_ex {H : Hp} {Z : AS} : Ex (hide H Z) H := .of fun a o h => by
  unfold hide at h
  split at h
  · cases h
  · exact h
theorem hide_at {H : Hp} {Z : AS} {a : Addr} {o : HO} (h : H a = some o) (hz : ¬ Z a) : hide H Z a = some o := by
  unfold hide
  rw [if_neg hz]; exact h
theorem hide_none {H : Hp} {Z : AS} {a : Addr} (hz : Z a) : hide H Z a = none := by
  unfold hide
  rw [if_pos hz]
/-- over any heap that extends He: the iterator yields ds, one after another -/
def Walk (K : PySem.W.Frag) (Z : AS) (He : Hp) (J : It) (ds : List D) : Prop := ∀ H1, Ex He H1 → ∀ i,
  (i < ds.length → J.go i H1) ∧ (∀ x H2, J.yld i H1 x H2 → Ex H1 H2 ∧ ∀ d, ds[i]? = some d → ∀ Y : AS, (∀ a, Y a → He a = none) → Rp K (fun a => Z a ∨ Y a) H2 x d) ∧ (ds.length ≤ i → J.stop i H1)
/-- an iterator that was just made -/
def tIt (g : Gx) (it : Src) : TI := fun σ H R => ∃ ρ, EnvR g.K AS.none H σ ρ ∧ Post g σ H (evIt g.call it ρ) fun ds => ∀ J H', Ex H H' →
  (∀ Z, Dom Z H → EnvR g.K Z H σ ρ → Walk g.K Z H' J ds ∧ (it.ownV ρ = false → Walk g.K Z (hide H' Z) J ds)) → R J H'
theorem pi_weak {X : Cx} {tg e : Expr} {t t' : TI} (h : PI X tg e t) (w : ∀ σ H R, t' σ H R → t σ H R) : PI X tg e t' := ⟨fun pins s σ H R I q => h.run pins s σ H R I (w σ H R q)⟩
section
variable {K : PySem.W.Frag} {Z : AS} {H : Hp}
theorem rd_inj {a : Addr} {xs ys : List V} (h : Rd H a (.lst xs)) (h' : Rd H a (.lst ys)) : xs = ys := by
  rcases h with h | ⟨u, h⟩ <;> rcases h' with h' | ⟨u', h'⟩ <;> (rw [h] at h'; cases h' <;> rfl)
theorem rd_hide {a : Addr} {o : HO} (h : Rd H a o) (hz : ¬ Z a) : Rd (hide H Z) a o := by
  rcases h with h | ⟨u, h⟩
  · exact .inl (hide_at h hz)
  · exact .inr ⟨u, hide_at h hz⟩
theorem ls_hide {a : Addr} {vs : List V} (h : Ls K Z H a vs) : Ls K Z (hide H Z) a vs := h.imp (fun q => ⟨q.1, rd_hide q.2 q.1⟩) id
theorem sqT_hide {a : Addr} {xs : List V} (d : Dom Z H) (h : SqT K H a xs) : SqT K (hide H Z) a xs := by
  rcases h with h | h
  · exact .inl (rd_hide h (d.tup h))
  · exact .inr h
mutual
theorem Rp.hide (d : Dom Z H) : ∀ {x : D} {v : V}, Rp K Z H v x → Rp K Z (hide H Z) v x
  | _, _, .non => .non
  | _, _, .bl b => .bl b
  | _, _, .int i => .int i
  | _, _, .str s h => .str s h
  | _, _, .tup h r => .tup (sqT_hide d h) (RpL.hide d r)
  | _, _, .lst h r => .lst (h.imp (fun q => ⟨q.1, rd_hide q.2 q.1⟩) id) (RpL.hide d r)
  | _, _, .dic z h r => .dic z (hide_at h z) (RpE.hide d r)
  | _, _, .obj h l r => .obj (hide_at h (d.non h rfl)) l (RpL.hide d r)
theorem RpL.hide (d : Dom Z H) : ∀ {xs : List D} {vs : List V}, RpL K Z H vs xs → RpL K Z (Rf.hide H Z) vs xs
  | _, _, .nil => .nil
  | _, _, .cons r t => .cons (Rp.hide d r) (RpL.hide d t)
theorem RpE.hide (d : Dom Z H) : ∀ {t : Bool} {kvs : List (D × D)} {es : List En}, RpE K Z H t es kvs → RpE K Z (Rf.hide H Z) t es kvs
  | _, _, _, .nil => .nil
  | _, _, _, .cons k r q t => .cons k (Rp.hide d r) (Rp.hide d q) (RpE.hide d t)
end
end
theorem walk_list {K : PySem.W.Frag} {Z : AS} {He : Hp} {a : Addr} {vs : List V} {ds : List D} (h : SqL K He a vs) (r : RpL K Z He vs ds) : Walk K Z He (Itl K a) ds := fun H1 e i => by
  have h1 : SqL K H1 a vs := e.l h
  refine ⟨fun hi => ?_, fun x H2 y => ?_, fun hi => ⟨vs, h1, by rw [r.length]; exact hi⟩⟩
  · have : i < vs.length := by rw [r.length]; exact hi
    exact ⟨vs, vs[i], h1, by simp [this]⟩
  · obtain ⟨rfl, y⟩ := y
    refine ⟨Ex.refl _, fun d hd Y hY => ?_⟩
    obtain ⟨v, hv, q⟩ := r.get hd
    have := y vs h1
    rw [hv] at this; cases this
    exact (q.avoid hY).ex e
theorem walk_tup {K : PySem.W.Frag} {Z : AS} {He : Hp} {a : Addr} {vs : List V} {ds : List D} (h : SqT K He a vs) (r : RpL K Z He vs ds) : Walk K Z He (Itt K a) ds := fun H1 e i => by
  have h1 : SqT K H1 a vs := e.t h
  refine ⟨fun hi => ?_, fun x H2 y => ?_, fun hi => ⟨vs, h1, by rw [r.length]; exact hi⟩⟩
  · have : i < vs.length := by rw [r.length]; exact hi
    exact ⟨vs, vs[i], h1, by simp [this]⟩
  · obtain ⟨rfl, y⟩ := y
    refine ⟨Ex.refl _, fun d hd Y hY => ?_⟩
    obtain ⟨v, hv, q⟩ := r.get hd
    have := y vs h1
    rw [hv] at this; cases this
    exact (q.avoid hY).ex e
theorem walk_str {K : PySem.W.Frag} {Z : AS} {He : Hp} {s : Tx} (o : okTx s) : Walk K Z He (Its (mkS s)) (s.map fun c => .str [c]) := fun H1 e i => by
  have hsz : (mkS s).cps.size = s.length := by simp [mkS]
  refine ⟨fun hi => ?_, fun x H2 y => ?_, fun hi => ?_⟩
  · show i < _
    rw [hsz]; simpa using hi
  · obtain ⟨rfl, c, hc, rfl⟩ := y
    refine ⟨Ex.refl _, fun d hd Y hY => ?_⟩
    have hc' : s[i]? = some c := by simpa [mkS] using hc
    rw [List.getElem?_map, hc'] at hd
    cases hd
    exact .str [c] (o.one (List.mem_of_getElem? hc'))
  · show _ ≤ i
    rw [hsz]; simpa using hi
theorem walk_rng1 {K : PySem.W.Frag} {Z : AS} {He : Hp} {lo : Int} {n : Nat} : Walk K Z He (Itr lo n) (rngL lo 1 n) := fun H1 e i => by
  refine ⟨fun hi => ?_, fun x H2 y => ?_, fun hi => ?_⟩
  · rw [rngL_len] at hi; exact hi
  · obtain ⟨rfl, rfl⟩ := y
    refine ⟨Ex.refl _, fun d hd Y hY => ?_⟩
    have := rngL_get _ _ _ _ _ hd
    rw [Int.mul_one] at this
    subst this
    exact .int _
  · rw [rngL_len] at hi; exact hi
theorem walk_rngC {K : PySem.W.Frag} {Z : AS} {He : Hp} {lo c : Int} {n : Nat} : Walk K Z He (Itc lo c n) (rngL lo c n) := fun H1 e i => by
  refine ⟨fun hi => ?_, fun x H2 y => ?_, fun hi => ?_⟩
  · rw [rngL_len] at hi; exact hi
  · obtain ⟨rfl, rfl⟩ := y
    refine ⟨Ex.refl _, fun d hd Y hY => ?_⟩
    have := rngL_get _ _ _ _ _ hd
    subst this
    exact .int _
  · rw [rngL_len] at hi; exact hi
theorem walk_rev0 {K : PySem.W.Frag} {Z : AS} {He : Hp} {a : Addr} {vs : List V} {ds : List D} (h : SqL K He a vs) (r : RpL K Z He vs ds) : Walk K Z He (Itv K a vs.length) ds.reverse := fun H1 e i => by
  have h1 : SqL K H1 a vs := e.l h
  have hl := r.length
  refine ⟨fun hi => ?_, fun x H2 y => ?_, fun hi => ?_⟩
  · rw [List.length_reverse] at hi
    exact ⟨by omega, vs, vs[vs.length - 1 - i]'(by omega), h1, by simp⟩
  · obtain ⟨rfl, y⟩ := y
    refine ⟨Ex.refl _, fun d hd Y hY => ?_⟩
    have hi : i < ds.length := by
      have := (List.getElem?_eq_some_iff.mp hd).1
      simpa using this
    rw [List.getElem?_reverse hi] at hd
    obtain ⟨v, hv, q⟩ := r.get hd
    have := y vs h1
    rw [hl] at this
    rw [hv] at this; cases this
    exact (q.avoid hY).ex e
  · rw [List.length_reverse] at hi
    show vs.length ≤ i
    omega
theorem walk_rev {K : PySem.W.Frag} {Z : AS} {He : Hp} {a : Addr} {vs : List V} {ds : List D} {n : Nat} (h : SqL K He a vs) (r : RpL K Z He vs ds) (hn : n = ds.length) : Walk K Z He (Itv K a n) ds.reverse := by
  have := r.length
  have e : n = vs.length := by omega
  subst e
  exact walk_rev0 h r
section
variable {X : Cx} {g : Gx} {a b c tg : Expr} {ia ib ic : E} {pos : Pos} {es : List Expr} {ies : List E}
/-- a list, a tuple, a text: whichever comes -/
theorem pi_any {l : Expr} {tl : TE} (hl : PE X l tl) : PI X tg l (fun σ H R => tl σ H fun x H1 => (∃ a xs, x = .ref a ∧ SqL X.K H1 a xs ∧ R (Itl X.K a) H1) ∨ (∃ a xs, x = .ref a ∧ SqT X.K H1 a xs ∧ R (Itt X.K a) H1) ∨ ∃ y, x = .str y ∧ R (Its y) H1) := by
  refine ⟨fun pins s σ H R I h => ?_⟩
  refine thn (hl.run pins s σ H _ I h) fun v s1 ⟨x, H1, I1, r1, q1⟩ => ?_
  rcases q1 with ⟨a, xs, e, hq, q⟩ | ⟨a, xs, e, hq, q⟩ | ⟨y, e, q⟩
  · subst e
    cases r1
    obtain ⟨its, rv, p, hz⟩ := I1.list hq
    refine wpAny_pyIter_list p.isList ?_
    refine ⟨s1.heap.objs.size, [s1.heap.objs.size], _, _, H1, rfl, I1.kept (t' := s1.toks) fun b o e => Heap.get?_push_of_some _ e, turn_list a _, ⟨_, Heap.get?_push_size _ rfl, rfl, rfl⟩, fun b hb => ?_, q⟩
    have e : b = s1.heap.objs.size := by simpa using hb
    subst e
    exact I1.fpOk (Nat.le_refl _) (I1.hok.fresh (Nat.le_refl _))
  · subst e
    cases r1
    obtain ⟨its, rv, p, hz⟩ := I1.tuple hq
    refine wpAny_pyIter_tuple (show s1.heap.IsTuple a its.toArray from p) ?_
    refine ⟨s1.heap.objs.size, [s1.heap.objs.size], _, _, H1, rfl, I1.kept (t' := s1.toks) fun b o e => Heap.get?_push_of_some _ e, turn_tuple a _, ⟨_, Heap.get?_push_size _ rfl, rfl, rfl⟩, fun b hb => ?_, q⟩
    have e : b = s1.heap.objs.size := by simpa using hb
    subst e
    exact I1.fpOk (Nat.le_refl _) (I1.hok.fresh (Nat.le_refl _))
  · subst e
    obtain ⟨t, rfl⟩ := r1
    cases ha : y.cps.all (· < 128)
    · exact wpAny_pyIter_wide ha (pi_one (tk := s1.toks) I1 _ (turn_str _ y t "str_iterator" (.inr rfl)) ⟨_, Heap.get?_push_size _ rfl, rfl, rfl⟩ q)
    · exact wpAny_pyIter_ascii ha (pi_one (tk := s1.toks) I1 _ (turn_str _ y t "str_ascii_iterator" (.inl rfl)) ⟨_, Heap.get?_push_size _ rfl, rfl, rfl⟩ q)
theorem itemsD_ne (x : D) (c : Nat) (fs : List D) : itemsD x ≠ .exc c fs := by cases x <;> simp [itemsD]
theorem sI_of (hK : g.K = X.K) (ha : PE X a (tE g ia)) : PI X tg a (tIt g (.of ia)) := by
  refine pi_weak (pi_any ha) fun σ H R h => ?_
  obtain ⟨ρ, hρ, h⟩ := h
  simp only [evIt] at h
  refine sub_e hρ h.bind fun x v H1 p e1 ρ1 r1 => ?_
  obtain ⟨ds, hd, p2⟩ := p.ok (itemsD_ne x)
  cases x with
  | lst xs =>
    cases hd
    obtain ⟨a, vs, rfl, h1, h2⟩ := (r1 _ Dom.no hρ).c.lstE
    refine .inl ⟨a, vs, rfl, (by rw [← hK]; exact h1), p2 _ H1 e1 fun Z dz hz => ?_⟩
    have q := r1 Z dz hz
    rw [← hK]
    obtain ⟨a', vs', e', h1', h2'⟩ := q.c.lstE
    cases e'
    refine ⟨walk_list h1' h2', fun ho => ?_⟩
    have q' := rpm_f q ho
    cases q' with
    | lst h r => exact walk_list (ls_hide h).sq (r.hide (dz.ex e1))
  | tup xs =>
    cases hd
    obtain ⟨a, vs, rfl, h1, h2⟩ := (r1 _ Dom.no hρ).c.tupE
    refine .inr (.inl ⟨a, vs, rfl, by rw [← hK]; exact h1, p2 _ H1 e1 fun Z dz hz => ?_⟩)
    obtain ⟨a', vs', e', h1', h2'⟩ := (r1 Z dz hz).c.tupE
    cases e'
    rw [← hK]
    exact ⟨walk_tup h1' h2', fun ho => walk_tup (sqT_hide (dz.ex e1) h1') (h2'.hide (dz.ex e1))⟩
  | str s =>
    cases hd
    obtain ⟨e, o⟩ := (r1 _ Dom.no hρ).c.strE
    subst e
    exact .inr (.inr ⟨_, rfl, p2 _ H1 e1 fun Z dz hz => ⟨walk_str o, fun _ => walk_str o⟩⟩)
  | _ => cases hd
theorem rngD_ne (xs : List D) (c : Nat) (fs : List D) : rngD xs ≠ .exc c fs := by
  unfold rngD
  split <;> first | (split <;> simp) | simp
theorem small62_ok {i : Int} (h : small62 i = true) : -(2 ^ 62) ≤ i ∧ i < 2 ^ 62 := by
  simp only [small62, Bool.and_eq_true, decide_eq_true_eq] at h
  omega
theorem sI_rng1 {p : Pos} (hg : Gl X "range") (hm : X.mg "range" = none) (ha : PA X [a] (tEs g [ia])) (hs : starEach [a] X.env = [(false, eval a X.env)]) : PI X tg (.Call (.Name "range" p) [a] [] pos) (tIt g (.rng [ia])) := by
  refine pi_weak (pi_range1 hg hm ha hs) fun σ H R h => ?_
  obtain ⟨ρ, hρ, h⟩ := h
  simp only [evIt] at h
  refine sub_es hρ (post_self h.bind) fun ds vs H1 p e1 ρ1 r1 => ?_
  obtain ⟨xs, hd, p2⟩ := p.2.ok (rngD_ne ds)
  have hl := evEs_len p.1
  match ds, hl with
  | [d], _ =>
    obtain ⟨v, rfl, q⟩ := (r1 _ Dom.no hρ).cl.one
    unfold rngD at hd
    split at hd
    · rename_i n e
      cases e
      split at hd
      · rename_i hs'
        cases hd
        have := q.intE; subst this
        obtain ⟨s1, s2⟩ := small62_ok hs'
        exact ⟨n, rfl, s1, s2, p2 _ H1 e1 fun Z dz hz => ⟨walk_rng1, fun _ => walk_rng1⟩⟩
      · cases hd
    · rename_i e; cases e
    · rename_i e; cases e
    · cases hd
theorem sI_rng2 {p : Pos} (hg : Gl X "range") (hm : X.mg "range" = none) (ha : PA X [a, b] (tEs g [ia, ib])) (hs : starEach [a, b] X.env = [(false, eval a X.env), (false, eval b X.env)]) (hs2 : starEach [b] X.env = [(false, eval b X.env)]) :
    PI X tg (.Call (.Name "range" p) [a, b] [] pos) (tIt g (.rng [ia, ib])) := by
  refine pi_weak (pi_range2 hg hm ha hs hs2) fun σ H R h => ?_
  obtain ⟨ρ, hρ, h⟩ := h
  simp only [evIt] at h
  refine sub_es hρ (post_self h.bind) fun ds vs H1 p e1 ρ1 r1 => ?_
  obtain ⟨xs, hd, p2⟩ := p.2.ok (rngD_ne ds)
  have hl := evEs_len p.1
  match ds, hl with
  | [d, d'], _ =>
    obtain ⟨v, w, rfl, q, q'⟩ := (r1 _ Dom.no hρ).cl.two
    unfold rngD at hd
    split at hd
    · rename_i e; cases e
    · rename_i n m e
      cases e
      split at hd
      · rename_i hs'
        cases hd
        simp only [Bool.and_eq_true] at hs'
        have := q.intE; subst this
        have := q'.intE; subst this
        obtain ⟨s1, s2⟩ := small62_ok hs'.1
        obtain ⟨s3, s4⟩ := small62_ok hs'.2
        exact ⟨n, m, rfl, ⟨s1, s2, s3, s4⟩, p2 _ H1 e1 fun Z dz hz => ⟨walk_rng1, fun _ => walk_rng1⟩⟩
      · cases hd
    · rename_i e; cases e
    · cases hd
theorem CL.three {K : PySem.W.Frag} {Z : AS} {H : Hp} {vs : List V} {d e f : D} (h : CL K Z H vs [d, e, f]) : ∃ v w u, vs = [v, w, u] ∧ RpC K Z H v d ∧ RpC K Z H w e ∧ RpC K Z H u f := by
  cases h with
  | cons r t => obtain ⟨w, u, rfl, a, b⟩ := t.two; exact ⟨_, _, _, rfl, r, a, b⟩
theorem rngSz_le {a b c : Int} (h : c ≠ 0) (h1 : -(2 ^ 60) ≤ a) (h2 : a < 2 ^ 60) (h3 : -(2 ^ 60) ≤ b) (h4 : b < 2 ^ 60) : 0 ≤ rngSz a b c ∧ rngSz a b c ≤ 2 ^ 62 := by
  unfold rngSz
  split
  · split
    · have x1 : 0 ≤ (b - a - 1) / c := Int.ediv_nonneg (by omega) (by omega)
      have x2 : (b - a - 1) / c ≤ b - a - 1 := Int.ediv_le_self _ (by omega)
      omega
    · omega
  · split
    · have x1 : 0 ≤ (a - b - 1) / (-c) := Int.ediv_nonneg (by omega) (by omega)
      have x2 : (a - b - 1) / (-c) ≤ a - b - 1 := Int.ediv_le_self _ (by omega)
      omega
    · omega
theorem sI_rng3 {p : Pos} (hg : Gl X "range") (hm : X.mg "range" = none) (ha : PA X [a, b, c] (tEs g [ia, ib, ic])) (hs : starEach [a, b, c] X.env = (false, eval a X.env) :: starEach [b, c] X.env) (hpl : (backTo pos (starEach [b, c] X.env)).any (·.1) = false) :
    PI X tg (.Call (.Name "range" p) [a, b, c] [] pos) (tIt g (.rng [ia, ib, ic])) := by
  refine pi_weak (pi_range3 hg hm ha hs hpl) fun σ H R h => ?_
  obtain ⟨ρ, hρ, h⟩ := h
  simp only [evIt] at h
  refine sub_es hρ (post_self h.bind) fun ds vs H1 p e1 ρ1 r1 => ?_
  obtain ⟨xs, hd, p2⟩ := p.2.ok (rngD_ne ds)
  have hl := evEs_len p.1
  match ds, hl with
  | [d, d', d''], _ =>
    obtain ⟨v, w, u, rfl, q, q', q''⟩ := (r1 _ Dom.no hρ).cl.three
    unfold rngD at hd
    split at hd
    · rename_i e; cases e
    · rename_i e; cases e
    · rename_i n m k e
      cases e
      split at hd
      · rename_i hs'
        cases hd
        simp only [Bool.and_eq_true, decide_eq_true_eq] at hs'
        have := q.intE; subst this
        have := q'.intE; subst this
        have := q''.intE; subst this
        obtain ⟨⟨⟨s1, s2⟩, s3⟩, s4⟩ := hs'
        simp only [small62, Bool.and_eq_true, decide_eq_true_eq] at s1 s2
        refine ⟨n, m, k, (rngSz n m k).toNat, rfl, ⟨s3, by omega, ?_, ?_⟩, p2 _ H1 e1 fun Z dz hz => ⟨walk_rngC, fun _ => walk_rngC⟩⟩
        · have key : Builtin.Range.rangeSize n m k = rngSz n m k := rfl
          have q := rngSz_le s3 s1.1 s1.2 s2.1 s2.2
          unfold Builtin.Range.small
          rw [key]
          simp only [Builtin.Range.rangeFitsLong, Bool.and_eq_true, Bool.or_eq_true, decide_eq_true_eq, beq_iff_eq]
          refine ⟨⟨⟨⟨by omega, by omega⟩, by omega⟩, by omega⟩, .inr ?_⟩
          split <;> (simp only [Bool.and_eq_true, decide_eq_true_eq]; omega)
        · have key : Builtin.Range.rangeSize n m k = rngSz n m k := rfl
          rw [key]
          have q := rngSz_le s3 s1.1 s1.2 s2.1 s2.2
          omega
      · cases hd
    · cases hd
theorem sI_rev {p : Pos} (hK : g.K = X.K) (hg : Gl X "reversed") (hm : X.mg "reversed" = none) (ha : PA X [a] (tEs g [ia])) (hs : starEach [a] X.env = [(false, eval a X.env)]) : PI X tg (.Call (.Name "reversed" p) [a] [] pos) (tIt g (.rev ia)) := by
  refine pi_weak (pi_reversed hg hm ha hs) fun σ H R h => ?_
  obtain ⟨ρ, hρ, h⟩ := h
  simp only [evIt] at h
  have h2 : Post g σ H (evEs g.call [ia] ρ) fun ds => ∀ x, ds = [x] → Post g σ H (match x with | .lst xs => Out.ok xs.reverse | _ => .bad) fun ds => ∀ J H', Ex H H' → (∀ Z, Dom Z H → EnvR g.K Z H σ ρ → Walk g.K Z H' J ds ∧ ((Src.rev ia).ownV ρ = false → Walk g.K Z (hide H' Z) J ds)) → R J H' := by
    have h1 := h.bind
    simp only [evEs]
    cases hx : evE g.call ia ρ with
    | ok x => rw [hx] at h1; intro y e; cases e; exact h1
    | exc c fs => rw [hx] at h1; exact h1
    | bad => rw [hx] at h1; exact h1
  refine sub_es hρ (post_self h2) fun ds vs H1 p e1 ρ1 r1 => ?_
  have hl := evEs_len p.1
  match ds, hl with
  | [d], _ =>
    have p2 := p.2 d rfl
    cases d with
    | lst xs =>
      obtain ⟨v, rfl, q⟩ := (r1 _ Dom.no hρ).cl.one
      obtain ⟨a, ws, rfl, h1, h2⟩ := q.lstE
      refine ⟨a, ws, rfl, (by rw [← hK]; exact h1), p2 _ H1 e1 fun Z dz hz => ?_⟩
      have q2 := r1 Z dz hz
      obtain ⟨v', e', q3⟩ := q2.cl.one
      cases e'
      obtain ⟨a', ws', e', h1', h2'⟩ := q3.lstE
      cases e'
      rw [← hK]
      refine ⟨walk_rev h1' h2' h2.length, fun ho => ?_⟩
      have ho' : ownL [ia] ρ = false := by
        have : ia.ownV ρ = false := ho
        simp [ownL, this]
      have q4 := rpml_f q2 ho'
      cases q4 with
      | cons q5 _ =>
        cases q5 with
        | lst h r => exact walk_rev (ls_hide h).sq (r.hide (dz.ex e1)) h2.length
    | _ => exact p2.elim
end
end Rf

/-! part RfLam -/
set_option autoImplicit false
set_option linter.all false
set_option Elab.async false
set_option maxRecDepth 100000
set_option maxHeartbeats 2000000
/-! RfLam: a lambda without parameters, handed to a def that calls it within try. -/
namespace Rf
open PySem PySem.Spec PyProof.Rows L2 LamX
variable [Wd]
section
variable {X : Cx} {pins : List (Addr × Obj)} {σ : L2.St} {H : Hp} {s : Shared}
/-- the lambda is made: what stands in H' for it -/
def Made (X : Cx) (H H1 : Hp) (f c' : Addr) : Prop := Ex H H1 ∧ H1 f = none ∧ f ∉ frs X.stack ∧ H1 c' = some (CodeO c' (X.env.qual ++ "<lambda>"))
theorem lam_make3 {c P : Addr} {params : Arguments} {body : Expr} {scope : Scope} {pos : Pos} {E : Value → Shared → Prop} {Q : Value → Shared → Prop} (I : Inv X pins σ H s) (TB : TabB X.base X.mg c P) (hcode : X.env.code = .ref c)
    (hm : (P, X.env.qual ++ "<lambda>") ∈ Wd.T) (hu : ∀ p ∈ Wd.T, p.1 = P → p.2 = X.env.qual ++ "<lambda>") (hT : Tabs Wd.T H) (hdef : defaultsOf params X.env = ([], [])) (hfree : ∀ y ∈ scope.names, y.2 = .free → ∃ c, X.env.cells.lookup y.1 = some c)
    (h : ∀ (f c' : Addr) (pm ctv : Value) (H1 : Hp) (s' : Shared), Inv X pins σ H1 s' → Made X H H1 f c' →
      s'.heap.get? f = some (PySem.W.kla_obj "<lambda>" (X.env.qual ++ "<lambda>") params body scope (cloFrom X.env.cells scope.names []) pm c' ctv) → Q (.ref f) s') :
    wpAny (model X.prog X.w) X.A (eval (.Lambda params body scope pos) X.env) Q E s := by
  obtain ⟨ps, hP, ht, ha⟩ := hT _ hm
  refine PySem.W.kla_eval hdef ?_
  have bm := TB.bm.keeps I.bk
  have at_P := I.hok P _ hP
  have out : ∀ {f : Addr}, s.heap.objs.size ≤ f → f ∉ frs X.stack := by
    intro f hf z
    rcases List.mem_cons.mp (I.stkSub _ z) with e | e
    · have q := I.lt
      rw [← e] at q
      exact absurd (Nat.lt_of_lt_of_le q hf) (Nat.lt_irrefl _)
    · exact I.nofs hf e
  cases hc : codeAmong pos ps.toList with
  | some cv =>
    obtain ⟨c', rfl, hco⟩ := ha pos cv hc
    refine PySem.W.kla_makeFunctionHit (mg := X.mg) (c := c) (P := P) (ps := ps) (closure_ok hfree)
      I.ok.glob (I.mod.glob.keeps I.bk) hcode (TB.code.keeps I.bk) at_P ht hc bm ?_
    intro ctv h' tk hx hsz
    refine h h'.objs.size c' ((X.mg "__name__").getD .none) ctv H _ (I.kept fun b o e => Heap.get?_push_of_some _ (hx b o e)) ⟨Ex.refl H, I.hok.fresh hsz, out hsz, hco⟩ ?_
    exact Heap.get?_push_size _ rfl
  | none =>
    refine PySem.W.kla_makeFunction (mg := X.mg) (c := c) (P := P) (ps := ps) (closure_ok hfree)
      I.ok.glob (I.mod.glob.keeps I.bk) hcode (TB.code.keeps I.bk) at_P ht hc TB.gP bm ?_
    intro c' ctv h' tk hx hge hlt hrec htb
    obtain ⟨c2, oc, vs, t, e2, hoc, hd, hv⟩ := hrec
    cases e2
    have nC := I.hok.fresh hge
    have nPc := ne_of_none hP nC
    generalize hq : X.env.qual ++ "<lambda>" = q at *
    generalize hmore : (#[rawInt pos.line, rawInt pos.col, .ref c'] : Array Value) = more at *
    have sz : s.heap.objs.size ≤ h'.objs.size := Nat.le_trans hge (Nat.le_of_lt hlt)
    have I1 := inv_table (q := q) (t' := tk) (more := more)
      (h' := h'.push (PySem.W.kla_obj "<lambda>" q params body scope (cloFrom X.env.cells scope.names []) ((X.mg "__name__").getD .none) c' ctv)) I hP
      (fun b o hb e => Heap.get?_push_of_some _ (hx b o hb e)) (Heap.get?_push_of_some _ htb) hge ⟨oc, vs, t, Heap.get?_push_of_some _ hoc, hd, hv⟩
    have stay : ∀ b o, b ≠ P → H b = some o → upd (upd H P (.tbl (ps ++ more))) c' (CodeO c' q) b = some o := fun b o n e => by
      rw [upd_ne (ne_of_none e nC), upd_ne n]; exact e
    have atP : upd (upd H P (.tbl (ps ++ more))) c' (CodeO c' q) P = some (.tbl (ps ++ more)) := by rw [upd_ne nPc, upd_same]
    have nco : ∀ {a : Addr} {k : Str}, H a = some (CodeO a k) → a ≠ P := fun {a k} e z => by
      rw [z, hP] at e
      exact codeO_ne (c := P) (q := k) ps (Option.some.inj e).symm
    have tabs : Tabs Wd.T (upd (upd H P (.tbl (ps ++ more))) c' (CodeO c' q)) := fun p hp => by
      by_cases hb : p.1 = P
      · rw [hu p hp hb, hb]
        have eL : (ps ++ more).toList = ps.toList ++ [rawInt pos.line, rawInt pos.col, .ref c'] := by rw [← hmore]; simp
        refine ⟨_, atP, by rw [eL]; exact PySem.TriplesOk_snoc _ _ _ _ ht, fun p' cv hcv => ?_⟩
        rw [eL] at hcv
        rcases among_app _ ht hcv with z | z
        · obtain ⟨c0, e1, e2⟩ := ha p' cv z
          exact ⟨c0, e1, stay _ _ (nco e2) e2⟩
        · exact ⟨c', z, upd_same⟩
      · obtain ⟨ps', a1, a2, a3⟩ := hT p hp
        refine ⟨ps', stay _ _ hb a1, a2, fun p' cv hcv => ?_⟩
        obtain ⟨c0, e1, e2⟩ := a3 p' cv hcv
        exact ⟨c0, e1, stay _ _ (nco e2) e2⟩
    have ex : Ex H (upd (upd H P (.tbl (ps ++ more))) c' (CodeO c' q)) := ⟨fun b o e => by
      by_cases hb : b = P
      · rw [hb] at e ⊢
        rw [hP] at e; cases e
        exact .inr ⟨_, _, rfl, atP⟩
      · exact .inl (stay b o hb e), fun _ => tabs⟩
    refine h h'.objs.size c' ((X.mg "__name__").getD .none) ctv _ _ I1 ⟨ex, ?_, out sz, by rw [hq]; exact upd_same⟩ (Heap.get?_push_size _ rfl)
    have n1 : h'.objs.size ≠ c' := Nat.ne_of_gt hlt
    have n2 : h'.objs.size ≠ P := Nat.ne_of_gt (Nat.lt_of_lt_of_le (Heap.lt_size at_P) sz)
    rw [upd_ne n1, upd_ne n2]
    exact I.hok.fresh sz
end
/-- the context of the lambda's body -/
def lamN (X : Cx) (A : Around) (outer : List PySem.Env) (s : Shared) (H : Hp) (E : XK) (scope : Scope) (f c' : Addr) : Cx :=
  (lamCx X A outer s H E scope f c').wish fun e s' => wpAny (model X.prog X.w) (A.deeper (lamEnv X scope s.heap.objs.size f c')) (leaving (lamEnv X scope s.heap.objs.size f c') e) (fun _ s'' => L2N.CX X.prog X.w outer H s E e s'') (fun e' s'' => L2N.CX X.prog X.w outer H s E e' s'') s'
section
variable {X : Cx} {pins : List (Addr × Obj)} {σ : L2.St} {H : Hp} {s : Shared}
/-- the context of the def that got the lambda, within its try -/
abbrev gCx (X : Cx) (Ng : List Str) (qg : Str) (sg : Scope) (gad : Addr) (cdg : Value) (s : Shared) (H : Hp) (Eg : XK) (pn : List (Addr × Obj)) (xe : Value → Shared → Prop) : Cx :=
  (cxOf (L2N.CX X.prog X.w) X.prog X.w X.K X.mg X.base Ng qg sg gad cdg X.A X.stack s H Eg).tr pn xe
/-- the lambda is called in that def -/
theorem pe_actN {Ng : List Str} {qg : Str} {sg : Scope} {gad f c' : Addr} {cdg pm ctv : Value} {Eg : XK} {params : Arguments} {body : Expr} {scope : Scope} {k i : Nat} {a : Str} {pn : List (Addr × Obj)} {xe : Value → Shared → Prop} {W : WX} {t : XK → TE} {p1 p2 : Pos}
    (I : Inv X pins σ H s) (L : LamS X.env.scope scope) (hf : s.heap.get? f = some (PySem.W.kla_obj "<lambda>" (X.env.qual ++ "<lambda>") params body scope (cloFrom X.env.cells scope.names []) pm c' ctv)) (hfn : H f = none) (hfr : f ∉ frs X.stack)
    (hbind : bindArgs (PySem.W.kla_fn "<lambda>" (X.env.qual ++ "<lambda>") params body scope (cloFrom X.env.cells scope.names []) pm (.ref c') ctv) ⟨[], []⟩ = pure [])
    (tk : L2N.Takes (gCx X Ng qg sg gad cdg s H Eg pn xe) W) (hr : Room (k + 1) (X.A.deeper (envOfC qg sg s.heap.objs.size gad cdg)))
    (hbody : ∀ (A : Around) (outer : List PySem.Env) (s1 : Shared) (HZ : Hp) (E : XK), Room k (A.deeper (lamEnv X scope s1.heap.objs.size f c')) → PE (lamN X A outer s1 HZ E scope f c') body (t E))
    (hN : Ng[i]? = some a) (hv : Vis sg a) (hd : (a == ("__debug__" : Str)) = false) (hcd : (a == ("__classdict__" : Str)) = false) :
    PE (gCx X Ng qg sg gad cdg s H Eg pn xe) (.Call (.Name a p1) [] [] p2)
      (fun σZ HZ Q => σZ[i]? = some (some (.ref f)) ∧ HZ c' = some (CodeO c' (X.env.qual ++ "<lambda>")) ∧ t (WE W σZ) σ HZ Q) := by
  constructor
  intro pinsZ sZ σZ HZ Q IZ h
  obtain ⟨hs, hc, ht⟩ := h
  refine wpAny_Call_Name_kw (thn ((pe_var (pos := p1) (i := i) hN hv hd hcd).run pinsZ sZ σZ HZ (fun v H1 => v = .ref f ∧ H1 = HZ) IZ ⟨.ref f, hs, rfl, rfl⟩) ?_)
  rintro u s1 ⟨v, H1, I1, r1, rfl, rfl⟩
  obtain rfl : u = Value.ref f := r1
  have of1 := I1.base.keep f _ hf hfn hfr (fun z => nomatch (show f ∈ ([] : List Addr) from z))
  refine PySem.W.callWith_F0 ⟨_, _, _, _, of1⟩ ?_
  have un : Un (frs X.stack) [] H H1 s.heap s1.heap := I1.base
  obtain ⟨⟨oc, vs, tt, hoc, hdc, hvc⟩, _, _⟩ := I1.hok c' _ hc
  have rc : codeAny (model X.prog X.w) (X.A.deeper (envOfC qg sg s.heap.objs.size gad cdg)) (.call (.ref f) ⟨[], []⟩)
      (CR (L2N.CX X.prog X.w) (envOfC qg sg s.heap.objs.size gad cdg :: X.stack) X.prog X.w H1 s1 Q (WE W σZ)) s1 := by
    refine PySem.W.kla_callFunE hr.depth of1 rfl L.co L.gen rfl ⟨c', oc, vs, tt, rfl, hoc, hdc, hvc⟩ ?_
    rw [hbind]
    refine wpAny_pure (wpAny_newFunctionEnv (fun y hy => (L.own y hy).2) (fun y hy => absurd hy (by simp)) ?_ L.kind)
    intro h₁ hns hsb
    refine ⟨I1.nolimit.fresh _ hsb, ?_⟩
    have kp : ∀ b o, s1.heap.get? b = some o → h₁.get? b = some o := fun b o e => hsb.extBut b o (Nat.ne_of_lt (Heap.lt_size e)) (Heap.get?_push_of_some _ e)
    have J0 : Inv (lamCx X (X.A.deeper (envOfC qg sg s.heap.objs.size gad cdg)) (envOfC qg sg s.heap.objs.size gad cdg :: X.stack) s1 H1 (WE W σZ) scope f c') [] σ H1 { s1 with heap := h₁, toks := s1.toks + ([] : List (Str × Value)).length } :=
      lam_start2 I L I1.env0 hr.hd un hns kp
    have J := J0.wish (fun e s' => wpAny (model X.prog X.w) ((X.A.deeper (envOfC qg sg s.heap.objs.size gad cdg)).deeper (lamEnv X scope s1.heap.objs.size f c')) (leaving (lamEnv X scope s1.heap.objs.size f c') e)
      (fun _ s'' => L2N.CX X.prog X.w (envOfC qg sg s.heap.objs.size gad cdg :: X.stack) H1 s1 (WE W σZ) e s'') (fun e' s'' => L2N.CX X.prog X.w (envOfC qg sg s.heap.objs.size gad cdg :: X.stack) H1 s1 (WE W σZ) e' s'') s')
    refine PySem.W.kla_codeExpr (wpAny_mono ((hbody _ _ s1 H1 (WE W σZ) (hr.deeper _)).run [] _ _ H1 Q J ht) ?_ fun e s' hq => hq)
    rintro v s' ⟨w', H', J', rv, q⟩
    exact ⟨w', H', J'.os, J'.bare, J'.base, J'.hok, rv, q⟩
  refine wpAny_call (codeAny_mono rc fun r s' hq => ?_)
  cases r with
  | error e => exact L2N.passAt tk σZ pinsZ H1 s1 e s' I1 hq
  | ok fl =>
    cases fl with
    | ret u => exact I1.after hq
    | next => exact False.elim hq
    | brk => exact False.elim hq
    | cont => exact False.elim hq
end
/-- what the call of the lambda tells -/
def tAct (K : PySem.W.Frag) (cA : Nat → Addr) (W : WX) (f : Addr) (H : Hp) (o : Out D) : TE := fun σZ HZ Q => σZ[0]? = some (some (.ref f)) ∧ Ex H HZ ∧ match o with
  | .ok d => ∀ v H', Ex HZ H' → Rp K AS.none H' v d → Q v H'
  | .exc c fs => ∀ cls dd H', Ex HZ H' → XR cA c fs cls dd H' → W cls dd σZ H'
  | .bad => False
def thkPost (K : PySem.W.Frag) (cA : Nat → Addr) (H : Hp) (Q : VK) (E : XK) (o : Out D) : Prop := match o with
  | .ok d => ∀ v H', Ex H H' → Rp K AS.none H' v d → Q v H'
  | .exc c fs => ∀ cls dd H', Ex H H' → XR cA c fs cls dd H' → E cls dd H'
  | .bad => False
/-- the promise of a def that calls what it got within try -/
def ThkOk (P : Program) (w : World) (K : PySem.W.Frag) (mg : Str → Option Value) (base : Heap) (cA : Nat → Addr) (m : Nat) (fa : Addr) (c : Nat) (md : Option Tx) : Prop :=
  ∀ (A : Around) (outer : List PySem.Env) (s : Shared) (H : Hp) (Q : VK) (E : XK) (f : Addr) (o : Out D), Room (m + 2) A → Env0 P w K mg base A outer s H →
    (∀ (Ng : List Str) (qg : Str) (sg : Scope) (cdg : Value) (a : Str) (pn : List (Addr × Obj)) (xe : Value → Shared → Prop) (W : WX) (p1 p2 : Pos), Ng[0]? = some a → Vis sg a → (a == ("__debug__" : Str)) = false → (a == ("__classdict__" : Str)) = false →
      Room (m + 1) (A.deeper (envOfC qg sg s.heap.objs.size fa cdg)) → L2N.Takes ((cxOf (L2N.CX P w) P w K mg base Ng qg sg fa cdg A outer s H E).tr pn xe) W →
      PE ((cxOf (L2N.CX P w) P w K mg base Ng qg sg fa cdg A outer s H E).tr pn xe) (.Call (.Name a p1) [] [] p2) (tAct K cA W f H o)) →
    thkPost K cA H Q E (thkO c md o) → codeAny (model P w) A (.call (.ref fa) ⟨[.ref f], []⟩) (CR (L2N.CX P w) outer P w H s Q E) s
theorem thkO_flat {c : Nat} {md : Option Tx} {o : Out D} : ∀ d, thkO c md o = .ok d → d.flat = true := fun d h => by
  unfold thkO at h
  split at h
  · split at h
    · split at h
      · cases h; assumption
      · cases h
    · cases h; rfl
  · split at h
    · split at h
      · cases h
        cases md <;> rfl
      · cases h
    · cases h
  · cases h
section
variable {X : Cx} {g : Gx}
theorem sE_thk {x : Str} {fa cc P : Addr} {m c : Nat} {md : Option Tx} {params : Arguments} {body : Expr} {scope : Scope} {ie : E} {p lpos pos : Pos} (hK : g.K = X.K) (F : ThkOk X.prog X.w X.K X.mg X.base g.cA m fa c md) (hr : Room (m + 2) X.A) (hg : Gl X x) (hm : X.mg x = some (.ref fa)) (hk : PySem.W.keepIn X.K (.ref fa) = true)
    (tk : L2N.Takes X g.W) (TB : TabB X.base X.mg cc P) (hcode : X.env.code = .ref cc) (hmT : (P, X.env.qual ++ "<lambda>") ∈ Wd.T) (hu : ∀ p ∈ Wd.T, p.1 = P → p.2 = X.env.qual ++ "<lambda>") (L : LamS X.env.scope scope) (hdef : defaultsOf params X.env = ([], []))
    (hbind : ∀ (q : Str) (cl : List (Str × Addr)) (pm cv ctv : Value), bindArgs (PySem.W.kla_fn "<lambda>" q params body scope cl pm cv ctv) ⟨[], []⟩ = pure [])
    (hbody : ∀ (A : Around) (outer : List PySem.Env) (s : Shared) (H : Hp) (E : XK) (f c' : Addr), Room m (A.deeper (lamEnv X scope s.heap.objs.size f c')) → PE (lamN X A outer s H E scope f c') body (tE { g with W := fun cls d _ H' => E cls d H' } ie))
    (hdb : (x == ("__debug__" : Str)) = false) :
    PE X (.Call (.Name x p) [.Lambda params body scope lpos] [] pos) (tE g (.thk c md ie)) := by
  constructor
  intro pins s σ H Q I h
  obtain ⟨ρ, hρ, h⟩ := h
  simp only [evE] at h
  split at h
  · exact h.elim
  rename_i hown
  refine wpAny_Call_Name_kw (ld_glob I hg hm ?_ hdb)
  refine PySem.W.callWith_K (h₀ := X.base) I.ok.mod.kin hk ?_ (by rfl) (by rfl)
  show wpAny _ _ (spliced ((false, eval (.Lambda params body scope lpos) X.env) :: backTo pos (starEach [] X.env))) _ _ s
  refine Calls.spliced_cons (lam_make3 I TB hcode hmT hu hρ.tab hdef (L.has I.ok) ?_)
  rintro f c' pm' ctv H1 s' I1 ⟨ex1, hfn, hfr, hco⟩ hf
  refine Calls.spliced_nil ⟨I1.kIn, ?_⟩
  have rc : codeAny (model X.prog X.w) X.A (.call (.ref fa) ⟨[.ref f], []⟩) (CR (L2N.CX X.prog X.w) X.stack X.prog X.w H1 s' Q (WE g.W σ)) s' := by
    refine F X.A X.stack s' H1 Q (WE g.W σ) f (evE g.call ie ρ) hr I1.env0 ?_ ?_
    · intro Ng qg sg cdg a pn xe W p1 p2 hN hv hd hcd hr' tk'
      refine pe_weak (pe_actN (X := X) (k := m) (i := 0) (t := fun E => tE { g with W := fun cls d _ H' => E cls d H' } ie) I1 L hf hfn hfr (hbind _ _ _ _ _) tk' hr' (fun A outer s1 HZ E hr2 => hbody A outer s1 HZ E f c' hr2) hN hv hd hcd) ?_
      rintro σZ HZ Q' ⟨h1, h2, h3⟩
      refine ⟨h1, h2.k hco rfl, ρ, (hρ.ex ex1).ex h2, ?_⟩
      revert h3
      cases evE g.call ie ρ with
      | ok d =>
        intro h3 v H' e r
        refine h3 v H' e ?_
        have q := r AS.none Dom.no ((hρ.ex ex1).ex h2)
        rw [show ie.ownV ρ = false by simpa using hown] at q
        rw [← hK]
        exact q
      | exc c fs =>
        intro h3 cls dd H' e hx
        exact h3 cls dd H' e hx
      | bad => exact fun h3 => h3
    · have fl := thkO_flat (c := c) (md := md) (o := evE g.call ie ρ)
      revert h fl
      cases thkO c md (evE g.call ie ρ) with
      | ok d =>
        intro h fl v H' e r
        refine h v H' (ex1.trans e) fun Z dz hz => ?_
        have eo : E.ownV (.thk c md ie) ρ = false := rfl
        rw [eo, hK]
        exact r.flat (fl d rfl)
      | exc c fs => exact fun h _ cls dd H' e hx => h cls dd H' (ex1.trans e) hx
      | bad => exact fun h _ => h
  refine wpAny_call (codeAny_mono rc fun r s2 hq => ?_)
  cases r with
  | error e => exact L2N.passAt tk σ pins H1 s' e s2 I1 hq
  | ok fl =>
    cases fl with
    | ret u => exact I1.after hq
    | next => exact False.elim hq
    | brk => exact False.elim hq
    | cont => exact False.elim hq
end
end Rf

/-! part RfComp -/
set_option autoImplicit false
set_option linter.all false
set_option Elab.async false
set_option maxRecDepth 100000
set_option maxHeartbeats 2000000
/-! RfComp: list comprehensions. -/
namespace Rf
open PySem L2
variable [Wd]
theorem SltR.avoid {K : PySem.W.Frag} {Z Y : AS} {H : Hp} {o : Option (Option V)} {s : Sl} (hy : ∀ a, Y a → H a = none) (h : SltR K Z H o s) : SltR K (fun a => Z a ∨ Y a) H o s := by
  cases s with
  | no => trivial
  | val d => obtain ⟨v, h1, h2⟩ := h; exact ⟨v, h1, h2.avoid hy⟩
  | own d =>
    obtain ⟨a, h1, h2⟩ := h
    refine ⟨a, h1, ?_⟩
    cases d with
    | lst ds => obtain ⟨vs, q1, q2⟩ := h2; exact ⟨vs, q1, q2.avoid hy⟩
    | dic t kvs => obtain ⟨vs, q1, q2⟩ := h2; exact ⟨vs, q1, q2.avoid hy⟩
    | _ => exact h2
theorem EnvR.avoid {K : PySem.W.Frag} {Z Y : AS} {H : Hp} {σ : St} {ρ : Env} (hy : ∀ a, Y a → H a = none) (h : EnvR K Z H σ ρ) : EnvR K (fun a => Z a ∨ Y a) H σ ρ := ⟨h.len, fun i s q => (h.at_ i s q).avoid hy, h.tab⟩
theorem EnvR.set {K : PySem.W.Frag} {Z : AS} {H : Hp} {σ : St} {ρ : Env} {i : Nat} {v : V} {d : D} (h : EnvR K Z H σ ρ) (r : Rp K Z H v d) : EnvR K Z H (σ.set i (some v)) (ρ.set i (.val d)) := by
  refine ⟨by simpa using h.len, fun j s q => ?_, h.tab⟩
  by_cases hj : i = j
  · subst hj
    by_cases hi : i < ρ.length
    · rw [List.getElem?_set_self hi] at q
      cases q
      exact ⟨v, by rw [List.getElem?_set_self (Nat.lt_of_lt_of_le hi h.len)], r⟩
    · rw [List.getElem?_eq_none (by simpa using hi)] at q; cases q
  · rw [List.getElem?_set_ne hj] at q
    rw [List.getElem?_set_ne hj]
    exact h.at_ j s q
theorem wipe_set (σ : St) (i : Nat) (x : Option V) : (wipe σ [i]).set i x = σ.set i x := by
  simp [wipe, List.set_set]
theorem wipe_set2 (σ : St) (i : Nat) (x : Option V) : wipe ((wipe σ [i]).set i x) [i] = wipe σ [i] := by
  simp [wipe, List.set_set]
theorem calm_ne {α : Type} (o : Out α) (c : Nat) (fs : List D) : o.calm ≠ .exc c fs := by cases o <;> simp
theorem calm_inv {α : Type} {o : Out α} {a : α} (h : o.calm = .ok a) : o = .ok a := by cases o <;> simp at h; subst h; rfl
theorem bind_inv {α β : Type} {o : Out α} {k : α → Out β} {b : β} (h : o.bind k = .ok b) : ∃ a, o = .ok a ∧ k a = .ok b := by
  cases o with
  | ok a => exact ⟨a, rfl, h⟩
  | exc c fs => cases h
  | bad => cases h
theorem compGo_ne (e c : Env → Out D) (x : Nat) (ρ : Env) : ∀ (ds : List D) (k : Nat) (fs : List D), compGo e c x ρ ds ≠ .exc k fs
  | [], k, fs => by simp [compGo]
  | d :: ds, k, fs => by
    simp only [compGo]
    cases h : ((c (ρ.set x (.val d))).bind truthy).calm with
    | ok t =>
      simp only [Out.bind_ok]
      split
      · cases h2 : (e (ρ.set x (.val d))).calm with
        | ok y =>
          simp only [Out.bind_ok]
          cases h3 : compGo e c x ρ ds with
          | ok ys => simp
          | exc k' fs' => exact (compGo_ne e c x ρ ds k' fs' h3).elim
          | bad => simp
        | exc k' fs' => exact (calm_ne _ k' fs' h2).elim
        | bad => simp
      · exact compGo_ne e c x ρ ds k fs
    | exc k' fs' => exact (calm_ne _ k' fs' h).elim
    | bad => simp
theorem compGo_len (e c : Env → Out D) (x : Nat) (ρ : Env) : ∀ (ds ys : List D), compGo e c x ρ ds = .ok ys → ys.length ≤ ds.length
  | [], ys, h => by simp only [compGo] at h; cases h; simp
  | d :: ds, ys, h => by
    simp only [compGo] at h
    obtain ⟨t, _, h⟩ := bind_inv h
    split at h
    · obtain ⟨y, _, h⟩ := bind_inv h
      obtain ⟨zs, h1, h⟩ := bind_inv h
      cases h
      have := compGo_len e c x ρ ds zs h1
      simp; omega
    · have := compGo_len e c x ρ ds ys h
      simp; omega
/-- the context within a comprehension: nothing is raised -/
def Gx.in (g : Gx) : Gx := { g with W := fun _ _ _ _ => False }
theorem post_of {g : Gx} {σ : St} {H : Hp} {α : Type} {o : Out α} {a : α} {P : α → Prop} (e : o = .ok a) (h : P a) : Post g σ H o P := by subst e; exact h
/-- an expression that makes a new list, a new dict -/
def tF (g : Gx) (e : E) : TE := fun σ H Q => ∃ ρ, EnvR g.K AS.none H σ ρ ∧ Post g σ H (evE g.call e ρ) fun d => ∀ p H', Ex H H' → H p = none → (∀ Z, Dom Z H → EnvR g.K Z H σ ρ → OwnAt g.K (fun a => Z a ∨ a = p) H' p d) → Q (.ref p) H'
theorem tF_tE {g : Gx} {e : E} (ho : ∀ ρ, e.ownV ρ = false) {σ : St} {H : Hp} {Q : VK} (h : tE g e σ H Q) : tF g e σ H Q := by
  obtain ⟨ρ, hρ, h⟩ := h
  refine ⟨ρ, hρ, h.mp fun d p q H' e1 hq r => ?_⟩
  refine p _ H' e1 fun Z dz hz => ?_
  rw [ho]
  exact ((r Z dz hz).sub (Z' := Z) fun a ha => .inl ha).rp (dz.out hq)
section
variable {X : Cx} {g : Gx} {elt tg iter : Expr} {ifs : List Expr} {ie ic : E} {src : Src} {scope : Scope} {i : Nat} {x : Str} {pos : Pos} {tt : TT}
theorem sF_comp (hK : g.K = X.K) (hc : X.calm = true) (hN : X.N.Nodup) (hi : PI X tg iter (tIt g src)) (ok : BlkOk X.N X.env.scope scope [(x, i)])
    (hg : ∀ (s : Shared) (H : Hp) (C : Addr) (cl : List (Str × Addr)) (fp : List Addr), PG (X.blk s H scope (compEnvC scope cl C X.env) fp) tg (gName i))
    (ht : ∀ (s : Shared) (H : Hp) (C : Addr) (cl : List (Str × Addr)) (fp : List Addr), PTs (X.blk s H scope (compEnvC scope cl C X.env) fp) ifs tt) (htt : ∀ σ H Q, tT g.in ic σ H Q → tt σ H Q)
    (he : ∀ (s : Shared) (H : Hp) (C : Addr) (cl : List (Str × Addr)) (fp : List Addr), PE (X.blk s H scope (compEnvC scope cl C X.env) fp) elt (tE g.in ie)) (hs : ∀ x, foldedSetIterable iter X.env x = pure x) :
    ∀ σ H Q, tF g (.comp i ie src ic) σ H Q → tLc (tIt g src) (gName i) tt (tE g.in ie) [i] σ H Q := by
  intro σ H Q h
  obtain ⟨ρ, hρ, h⟩ := h
  simp only [evE] at h
  refine ⟨ρ, hρ, h.bind.mp fun ds p J H1 e1 wk D hD => ?_⟩
  split at p
  · exact p.elim
  rename_i hown
  simp only [Bool.not_eq_true] at hown
  obtain ⟨ys, hys, p⟩ := p.bind.ok (compGo_ne _ _ _ _ ds)
  split at p
  case isFalse => exact p.elim
  rename_i hsz
  have hD0 : H D = none := e1.fresh hD
  -- what stands between the turns
  let Iv : Nat → Hp → Prop := fun k Hc => k ≤ ds.length ∧ Ex H1 Hc ∧ ∃ done rest vs, Hc D = some (.lst vs) ∧ compGo (fun ρ' => evE g.call ie ρ') (fun ρ' => evE g.call ic ρ') i ρ (ds.drop k) = .ok rest ∧ ys = done ++ rest ∧
    ∀ Z, Dom Z H → EnvR g.K Z H σ ρ → RpL g.K (fun a => Z a ∨ a = D) Hc vs done
  refine ⟨fun k m Hc => m = ds.length - k ∧ Iv k Hc, ⟨ds.length, by simp, Nat.zero_le _, Ex.new hD, [], ys, [], upd_same, by simpa using hys, by simp, fun _ _ _ => .nil⟩, ?_⟩
  rintro k m Hc ⟨rfl, hk, ex1, done, rest, vs, hDc, hgo, hyr, hrep⟩
  by_cases hlt : k < ds.length
  · refine .inr ⟨((wk _ Dom.no hρ).1 Hc ex1 k).1 hlt, Iv (k + 1), fun H' iv => ⟨ds.length - (k + 1), by omega, rfl, iv⟩, fun xv H' y => ?_⟩
    obtain ⟨e2, hitem⟩ := ((wk _ Dom.no hρ).1 Hc ex1 k).2.1 xv H' y
    have hdk : ds[k]? = some ds[k] := by simp [hlt]
    have hdr : ds.drop k = ds[k] :: ds.drop (k + 1) := List.drop_eq_getElem_cons hlt
    rw [hdr] at hgo
    simp only [compGo] at hgo
    obtain ⟨t, htv, hgo⟩ := bind_inv hgo
    have htv := calm_inv htv
    show wipe ((wipe σ [i]).set i (some xv)) [i] = wipe σ [i] ∧ _
    refine ⟨wipe_set2 σ i _, ?_⟩
    rw [wipe_set]
    -- the inner names
    have envAt : ∀ Z, Dom Z H → EnvR g.K Z H σ ρ → EnvR g.K (fun a => Z a ∨ a = D) H' (σ.set i (some xv)) (ρ.set i (.val ds[k])) := fun Z dz hz => by
      refine EnvR.set ((hz.avoid (Y := fun a => a = D) fun a ha => by rw [ha]; exact hD0).ex ((e1.trans ex1).trans e2)) ?_
      exact (((wk Z dz hz).1 Hc ex1 k).2.1 xv H' y).2 _ hdk (fun a => a = D) fun a ha => by rw [ha]; exact hD
    have env0 : EnvR g.K AS.none H' (σ.set i (some xv)) (ρ.set i (.val ds[k])) := (envAt _ Dom.no hρ).zero
    refine htt _ _ _ ⟨ρ.set i (.val ds[k]), env0, post_of htv fun H3 e3 => ?_⟩
    have hD3 : H3 D = some (.lst vs) := e3.k (e2.k hDc rfl) rfl
    cases t with
    | true =>
      simp only [if_true] at hgo ⊢
      obtain ⟨yv, hyv, hgo⟩ := bind_inv hgo
      obtain ⟨zs, hzs, hgo⟩ := bind_inv hgo
      cases hgo
      refine ⟨ρ.set i (.val ds[k]), env0.ex e3, post_of (calm_inv hyv) fun v H4 e4 r4 => ?_⟩
      have hD4 : H4 D = some (.lst vs) := e4.k hD3 rfl
      have hlen : vs.length = done.length := (hrep _ Dom.no hρ).length
      have hle := compGo_len _ _ _ _ _ _ hys
      refine ⟨vs, hD4, ?_, ?_, ?_, done ++ [yv], zs, vs ++ [v], upd_same, hzs, ?_, ?_⟩
      · have h1 : ys.length = done.length + (zs.length + 1) := by rw [hyr]; simp
        have h2 := SZ_line
        omega
      · omega
      · exact Ex.mut (((ex1.trans e2).trans e3).trans e4) hD ⟨_, hD4, NC.lst⟩
      · rw [hyr]; simp
      · intro Z dz hz
        have d3 : Dom (fun a => Z a ∨ a = D) H3 := fun a ha => by
          rcases ha with ha | ha
          · exact (((dz.ex e1).ex ex1).ex e2).ex e3 a ha
          · rw [ha]; exact ⟨_, hD3, rfl⟩
        have q := r4 (fun a => Z a ∨ a = D) d3 ((envAt Z dz hz).ex e3)
        have ho : ie.ownV (ρ.set i (.val ds[k])) = false := by
          cases ie with
          | var j =>
            simp only [E.ownV] at hown ⊢
            by_cases hj : i = j
            · subst hj
              by_cases hl : i < ρ.length
              · rw [List.getElem?_set_self hl]
              · rw [List.getElem?_eq_none (by simpa using hl)]
            · rw [List.getElem?_set_ne hj]; exact hown
          | _ => rfl
        have q := rpm_f q ho
        have c4 : ∃ u, H4 D = some u ∧ Cell u := ⟨_, hD4, rfl⟩
        exact (((hrep Z dz hz).ex ((e2.trans e3).trans e4)).upd (.inr rfl) c4).snoc (q.upd (.inr rfl) c4)
    | false =>
      simp only [Bool.false_eq_true, if_false] at hgo ⊢
      refine ⟨by omega, (ex1.trans e2).trans e3, done, rest, vs, hD3, hgo, hyr, fun Z dz hz => (hrep Z dz hz).ex (e2.trans e3)⟩
  · have hkl : ds.length ≤ k := by omega
    refine .inl ⟨((wk _ Dom.no hρ).1 Hc ex1 k).2.2 hkl, ?_⟩
    have hdr : ds.drop k = [] := List.drop_eq_nil_of_le hkl
    rw [hdr] at hgo
    simp only [compGo] at hgo
    cases hgo
    rw [List.append_nil] at hyr
    subst hyr
    exact p D Hc (e1.trans ex1) hD0 fun Z dz hz => ⟨vs, hDc, hrep Z dz hz⟩
theorem sE_compE (hK : g.K = X.K) (hc : X.calm = true) (hN : X.N.Nodup) (hi : PI X tg iter (tIt g src)) (ok : BlkOk X.N X.env.scope scope [(x, i)])
    (hg : ∀ (s : Shared) (H : Hp) (C : Addr) (cl : List (Str × Addr)) (fp : List Addr), PG (X.blk s H scope (compEnvC scope cl C X.env) fp) tg (gName i))
    (ht : ∀ (s : Shared) (H : Hp) (C : Addr) (cl : List (Str × Addr)) (fp : List Addr), PTs (X.blk s H scope (compEnvC scope cl C X.env) fp) ifs tt) (htt : ∀ σ H Q, tT g.in ic σ H Q → tt σ H Q)
    (he : ∀ (s : Shared) (H : Hp) (C : Addr) (cl : List (Str × Addr)) (fp : List Addr), PE (X.blk s H scope (compEnvC scope cl C X.env) fp) elt (tE g.in ie)) (hs : ∀ x, foldedSetIterable iter X.env x = pure x) :
    PE X (.ListComp elt [⟨tg, iter, ifs, 0⟩] scope pos) (tE g (.comp i ie src ic)) :=
  pe_weak (pe_lc hc hN hi ok hg ht he hs) fun σ H Q h => sF_comp hK hc hN hi ok hg ht htt he hs σ H Q (tF_tE (fun _ => rfl) h)
theorem tt_none : ∀ σ H Q, tT g.in (.const (.bl true)) σ H Q → tYes σ H Q := fun σ H Q h => by
  obtain ⟨ρ, hρ, h⟩ := h
  exact h H (Ex.refl H)
end
end Rf

/-! part RfStmt -/
set_option autoImplicit false
set_option linter.all false
set_option Elab.async false
set_option maxRecDepth 100000
set_option maxHeartbeats 2000000
/-! RfStmt: statements. -/
namespace Rf
open PySem L2
variable [Wd]
/-- the places of the lists that this def may change yet -/
def OwnA (σ : St) (ρ : Env) : AS := fun a => ∃ (i : Nat) (d : D), ρ[i]? = some (Sl.own d) ∧ σ[i]? = some (some (V.ref a))
abbrev Un (Z Y : AS) : AS := fun a => Z a ∨ Y a
structure StOk (K : PySem.W.Frag) (F : AS → Prop) (He H : Hp) (σ : St) (ρ : Env) : Prop where
  ex : Ex He H
  new : ∀ a, OwnA σ ρ a → He a = none
  dist : ∀ (i j : Nat) (a : Addr) (d d' : D), ρ[i]? = some (.own d) → ρ[j]? = some (.own d') → σ[i]? = some (some (.ref a)) → σ[j]? = some (some (.ref a)) → i = j
  z0 : F AS.none
  zd : ∀ Z, F Z → Dom Z He
  env : ∀ Z, F Z → EnvR K (Un Z (OwnA σ ρ)) H σ ρ
section
variable {K : PySem.W.Frag} {F : AS → Prop} {He H H' : Hp} {σ : St} {ρ : Env}
theorem StOk.env0 (h : StOk K F He H σ ρ) : EnvR K AS.none H σ ρ := (h.env _ h.z0).zero
theorem StOk.own (h : StOk K F He H σ ρ) {a : Addr} (o : OwnA σ ρ a) : ∃ u, H a = some u ∧ Cell u := by
  obtain ⟨i, d, h1, h2⟩ := o
  obtain ⟨b, h3, h4⟩ := h.env0.at_ i _ h1
  rw [h2] at h3; cases h3
  exact h4.cell
theorem StOk.dom (h : StOk K F He H σ ρ) {Z : AS} (hz : F Z) : Dom (Un Z (OwnA σ ρ)) H := fun a ha => by
  rcases ha with ha | ha
  · exact (h.zd Z hz).ex h.ex a ha
  · exact h.own ha
theorem StOk.mono (h : StOk K F He H σ ρ) (e : Ex H H') : StOk K F He H' σ ρ := ⟨h.ex.trans e, h.new, h.dist, h.z0, h.zd, fun Z hz => (h.env Z hz).ex e⟩
/-- back to what stood before -/
theorem StOk.weak {He2 : Hp} (h : StOk K F He2 H σ ρ) (e : Ex He He2) (zd : ∀ Z, F Z → Dom Z He) : StOk K F He H σ ρ := ⟨e.trans h.ex, fun a ha => e.fresh (h.new a ha), h.dist, h.z0, zd, h.env⟩
theorem OwnA_set {i : Nat} {v : V} {d : D} {a : Addr} (h : OwnA (σ.set i (some v)) (ρ.set i (.val d)) a) : OwnA σ ρ a := by
  obtain ⟨j, d', h1, h2⟩ := h
  by_cases hj : i = j
  · subst hj
    by_cases hi : i < ρ.length
    · rw [List.getElem?_set_self hi] at h1; cases h1
    · rw [List.getElem?_eq_none (by simpa using hi)] at h1; cases h1
  · rw [List.getElem?_set_ne hj] at h1 h2
    exact ⟨j, d', h1, h2⟩
theorem StOk.set (h : StOk K F He H σ ρ) (e : Ex H H') {i : Nat} {v : V} {d : D} (r : ∀ Z, F Z → Rp K (Un Z (OwnA σ ρ)) H' v d) : StOk K F He H' (σ.set i (some v)) (ρ.set i (.val d)) where
  ex := h.ex.trans e
  new := fun a ha => h.new a (OwnA_set ha)
  dist := fun j k a d1 d2 h1 h2 h3 h4 => by
    have g : ∀ (m : Nat) (d3 : D), (ρ.set i (.val d))[m]? = some (.own d3) → i ≠ m := fun m d3 q e => by
      subst e
      by_cases hi : i < ρ.length
      · rw [List.getElem?_set_self hi] at q; cases q
      · rw [List.getElem?_eq_none (by simpa using hi)] at q; cases q
    have n1 := g j d1 h1
    have n2 := g k d2 h2
    rw [List.getElem?_set_ne n1] at h1 h3
    rw [List.getElem?_set_ne n2] at h2 h4
    exact h.dist j k a d1 d2 h1 h2 h3 h4
  z0 := h.z0
  zd := h.zd
  env := fun Z hz => (((h.env Z hz).ex e).set (r Z hz)).sub fun a ha => ha.elim .inl fun o => .inr (OwnA_set o)
/-- a slot is forgotten -/
theorem StOk.drop (h : StOk K F He H σ ρ) (i : Nat) (x : Option V) : StOk K F He H (σ.set i x) (ρ.set i .no) := by
  have g : ∀ (m : Nat) (s : Sl), (ρ.set i .no)[m]? = some s → s = .no ∨ (i ≠ m ∧ ρ[m]? = some s) := fun m s q => by
    by_cases e : i = m
    · subst e
      by_cases hi : i < ρ.length
      · rw [List.getElem?_set_self hi] at q; cases q; exact .inl rfl
      · rw [List.getElem?_eq_none (by simpa using hi)] at q; cases q
    · rw [List.getElem?_set_ne e] at q
      exact .inr ⟨e, q⟩
  have ow : ∀ a, OwnA (σ.set i x) (ρ.set i .no) a → OwnA σ ρ a := fun a ⟨j, d, h1, h2⟩ => by
    rcases g j _ h1 with q | ⟨n, q⟩
    · cases q
    · rw [List.getElem?_set_ne n] at h2
      exact ⟨j, d, q, h2⟩
  refine ⟨h.ex, fun a ha => h.new a (ow a ha), fun j k a d1 d2 h1 h2 h3 h4 => ?_, h.z0, h.zd, fun Z hz => ⟨by simpa using (h.env Z hz).len, fun j s q => ?_, (h.env Z hz).tab⟩⟩
  · rcases g j _ h1 with q | ⟨n1, q1⟩
    · cases q
    rcases g k _ h2 with q | ⟨n2, q2⟩
    · cases q
    rw [List.getElem?_set_ne n1] at h3
    rw [List.getElem?_set_ne n2] at h4
    exact h.dist j k a d1 d2 q1 q2 h3 h4
  · rcases g j _ q with e | ⟨n, q⟩
    · subst e; trivial
    · rw [List.getElem?_set_ne n]
      exact ((h.env Z hz).at_ j s q).sub fun a ha => ha.elim .inl fun o => .inr (ow a o)
end

/-- how a statement's end is wanted -/
def FPost (g : Gx) (F : AS → Prop) (He : Hp) (D : Ends) (x : Fl) : Prop := match x with
  | .nxt ρ => ∀ σ H, StOk g.K F He H σ ρ → D.nx σ H
  | .brk ρ => ∀ σ H, StOk g.K F He H σ ρ → D.bk σ H
  | .cnt ρ => ∀ σ H, StOk g.K F He H σ ρ → D.ct σ H
  | .ret d => ∀ v H, Ex He H → (∀ Z, F Z → Rp g.K Z H v d) → ((g.fr && d.cell) = true → ∃ p, v = .ref p ∧ He p = none ∧ ∀ Z, F Z → OwnAt g.K (fun a => Z a ∨ a = p) H p d) → D.rt v H
  | .exc c fs ρ => ∀ cls dd σ H, StOk g.K F He H σ ρ → XR g.cA c fs cls dd H → g.W cls dd σ H
  | .bad => False
def tS (g : Gx) (w : Nat) (s : S) : TS := fun D σ H => ∃ ρ He F, StOk g.K F He H σ ρ ∧ FPost g F He D (evS g.call w s ρ)
def tSs (g : Gx) (w : Nat) (s : List S) : TS := fun D σ H => ∃ ρ He F, StOk g.K F He H σ ρ ∧ FPost g F He D (evSs g.call w s ρ)
theorem fr_no {b c : Bool} {p : Prop} (h : b = false) : (b && c) = true → p := fun q => by rw [h] at q; cases q
/-- an expression's outcome within a statement -/
theorem fl_post {g : Gx} {F : AS → Prop} {He H : Hp} {σ : St} {ρ : Env} {D : Ends} {α : Type} {o : Out α} {f : α → Fl} (ok : StOk g.K F He H σ ρ) (h : FPost g F He D (o.fl ρ f)) : Post g σ H o fun a => FPost g F He D (f a) := by
  cases o with
  | ok a => exact h
  | exc c fs => exact fun cls dd H' e x => h cls dd σ H' (ok.mono e) x
  | bad => exact h
section
variable {X : Cx} {g : Gx} {w : Nat} {e c : Expr} {ie ic : E} {pos : Pos} {st : Stmt} {sts body : List Stmt} {is : S} {iss ib : List S}
theorem sSs_nil : PSs X [] (tSs g w []) := by
  refine pss_weak pss_nil fun D σ H h => ?_
  obtain ⟨ρ, He, F, ok, h⟩ := h
  simp only [evSs] at h
  exact h σ H ok
theorem sSs_cons (h1 : PS X st (tS g w is)) (h2 : PSs X sts (tSs g w iss)) : PSs X (st :: sts) (tSs g w (is :: iss)) := by
  refine pss_weak (pss_cons h1 h2) fun D σ H h => ?_
  obtain ⟨ρ, He, F, ok, h⟩ := h
  simp only [evSs] at h
  refine ⟨ρ, He, F, ok, ?_⟩
  cases hs : evS g.call w is ρ with
  | nxt ρ' => rw [hs] at h; exact fun σ' H' ok' => ⟨ρ', He, F, ok', h⟩
  | ret d => rw [hs] at h; exact h
  | brk ρ' => rw [hs] at h; exact h
  | cnt ρ' => rw [hs] at h; exact h
  | exc c fs ρ' => rw [hs] at h; exact h
  | bad => rw [hs] at h; exact h
theorem sS_pass : PS X (.Pass pos) (tS g w .pass) := ps_weak ps_pass fun D σ H ⟨ρ, He, F, ok, h⟩ => by simp only [evS] at h; exact h σ H ok
theorem sS_brk : PS X (.Break pos) (tS g w .brk) := ps_weak ps_break fun D σ H ⟨ρ, He, F, ok, h⟩ => by simp only [evS] at h; exact h σ H ok
theorem sS_cnt : PS X (.Continue pos) (tS g w .cnt) := ps_weak ps_continue fun D σ H ⟨ρ, He, F, ok, h⟩ => by simp only [evS] at h; exact h σ H ok
theorem sS_expr (he : PE X e (tE g ie)) (hs : swapsWith e none pos.line X.env = pure false) : PS X (.Expr e pos) (tS g w (.expr ie)) := by
  refine ps_weak (ps_expr he hs) fun D σ H h => ?_
  obtain ⟨ρ, He, F, ok, h⟩ := h
  simp only [evS] at h
  exact ⟨ρ, ok.env0, (fl_post ok h).mp fun d p v H' e r => p σ H' (ok.mono e)⟩
theorem sS_ret (hfr : g.fr = false) (hv : ∀ ρ, ie.ownV ρ = false) (he : PE X e (tE g ie)) : PS X (.Return (some e) pos) (tS g w (.ret ie)) := by
  refine ps_weak (ps_ret he) fun D σ H h => ?_
  obtain ⟨ρ, He, F, ok, h⟩ := h
  simp only [evS] at h
  refine ⟨ρ, ok.env0, (fl_post ok h).mp fun d p v H' e r => p v H' (ok.ex.trans e) (fun Z hz => ?_) (fr_no hfr)⟩
  have q := rpm_f (r _ (ok.dom hz) (ok.env Z hz)) (hv ρ)
  exact Rp.sub (fun a ha => .inl ha) q
theorem sS_retV (hfr : g.fr = false) {i : Nat} {x : Str} {p : Pos} (hN : X.N[i]? = some x) (hv : Vis X.env.scope x) (hd : (x == ("__debug__" : Str)) = false) (hcd : (x == ("__classdict__" : Str)) = false) : PS X (.Return (some (.Name x p)) pos) (tS g w (.ret (.var i))) := by
  refine ps_weak (ps_ret (pe_var hN hv hd hcd)) fun D σ H h => ?_
  obtain ⟨ρ, He, F, ok, h⟩ := h
  simp only [evS, evE, getV] at h
  split at h
  · rename_i d e
    obtain ⟨v, hv, r⟩ := ok.env0.at_ i _ e
    refine ⟨v, hv, h v H ok.ex (fun Z hz => ?_) (fr_no hfr)⟩
    obtain ⟨v', hv', r'⟩ := (ok.env Z hz).at_ i _ e
    rw [hv] at hv'; cases hv'
    exact r'.sub fun a ha => .inl ha
  · rename_i d e
    obtain ⟨a, hv, r⟩ := ok.env0.at_ i _ e
    refine ⟨_, hv, h _ H ok.ex (fun Z hz => ?_) (fr_no hfr)⟩
    obtain ⟨v', hv', r'⟩ := (ok.env Z hz).at_ i _ e
    rw [hv] at hv'; cases hv'
    refine (r'.sub (Z' := Z) fun a ha => .inl ha).rp fun z => ?_
    obtain ⟨o, ho, _⟩ := ok.zd Z hz a z
    rw [ok.new a ⟨i, _, e, hv⟩] at ho; cases ho
  · exact h.elim
theorem sS_retN : PS X (.Return none pos) (tS g w .retN) := by
  refine ps_weak ps_retN fun D σ H h => ?_
  obtain ⟨ρ, He, F, ok, h⟩ := h
  simp only [evS] at h
  exact h .non H ok.ex (fun Z _ => .non) (fun hb => by simp [Rf.D.cell] at hb)
theorem sS_ite {a b : List Stmt} {ia ib : List S} (hc : PT X c (tT g ic)) (ha : PSs X a (tSs g w ia)) (hb : PSs X b (tSs g w ib)) : PS X (.If c a b pos) (tS g w (.ite ic ia ib)) := by
  refine ps_weak (ps_if hc ha hb) fun D σ H h => ?_
  obtain ⟨ρ, He, F, ok, h⟩ := h
  simp only [evS] at h
  refine ⟨ρ, ok.env0, (fl_post ok h).mp fun t p H' e => ?_⟩
  cases t with
  | true => exact ⟨ρ, He, F, ok.mono e, p⟩
  | false => exact ⟨ρ, He, F, ok.mono e, p⟩
theorem sS_set {i : Nat} {x : Str} {p : Pos} (hN : X.N.Nodup) (hi : X.N[i]? = some x) (hx : Loc X.env.scope x) (he : PE X e (tE g ie)) (hs : swapsWith e (some (.Name x p)) pos.line X.env = pure false) (hf : X.fn x = true ∨ X.env.scope.names.lookup x = some .local) :
    PS X (.Assign [.Name x p] e pos) (tS g w (.set i ie)) := by
  refine ps_weak (ps_set hN hi hx he hs hf) fun D σ H h => ?_
  obtain ⟨ρ, He, F, ok, h⟩ := h
  simp only [evS] at h
  split at h
  · exact h.elim
  rename_i ho
  simp only [Bool.not_eq_true] at ho
  refine ⟨ρ, ok.env0, (fl_post ok h).mp fun d p v H' e r => p _ H' (ok.set e fun Z hz => ?_)⟩
  exact rpm_f (r _ (ok.dom hz) (ok.env Z hz)) ho
/-! names that take a tuple's items -/
def gNs : List Nat → TGs
  | [] => gNil
  | i :: is => gCons (gName i) (gNs is)
theorem gNs_ok {K : PySem.W.Frag} {F : AS → Prop} {He H : Hp} {R : St → Hp → Prop} : ∀ {is : List Nat} {vs : List V} {ds : List D} {σ : St} {ρ ρ' : Env}, StOk K F He H σ ρ → setAll ρ is ds = some ρ' → RpL K AS.none H vs ds → (∀ Z, F Z → RpL K (Un Z (OwnA σ ρ)) H vs ds) →
    (∀ σ', StOk K F He H σ' ρ' → R σ' H) → gNs is vs σ H R
  | [], vs, ds, σ, ρ, ρ', ok, hs, r0, r, k => by
    cases ds with
    | nil => cases r0; simp only [setAll] at hs; cases hs; exact ⟨rfl, k σ ok⟩
    | cons d ds => simp only [setAll] at hs; cases hs
  | i :: is, vs, ds, σ, ρ, ρ', ok, hs, r0, r, k => by
    cases ds with
    | nil => simp only [setAll] at hs; cases hs
    | cons d ds =>
      cases r0 with
      | cons q0 t0 =>
        rename_i v vs
        simp only [setAll] at hs
        have ok' : StOk K F He H (σ.set i (some v)) (ρ.set i (.val d)) := ok.set (Ex.refl H) fun Z hz => by
          cases r Z hz with
          | cons q t => exact q
        refine ⟨v, vs, rfl, gNs_ok ok' hs t0 (fun Z hz => ?_) k⟩
        cases r Z hz with
        | cons q t => exact t.sub fun a ha => ha.elim .inl fun o => .inr (OwnA_set o)
/-- what an invariant tells of tuples -/
def Uq (K : PySem.W.Frag) (H : Hp) : Prop := ∀ a xs ys, SqT K H a xs → SqT K H a ys → xs = ys
theorem pg_weakU {tg : Expr} {t t' : TG} (h : PG X tg t) (wk : ∀ v σ H Q, Uq X.K H → t' v σ H Q → t v σ H Q) : PG X tg t' := ⟨fun pins s σ H v u Q I r q => h.run pins s σ H v u Q I r (wk v σ H Q (fun a xs ys h1 h2 => I.tuple_inj h1 h2) q)⟩
/-- a tuple's items, handed to names -/
def gTupU (K : PySem.W.Frag) (n : Nat) (t : TGs) : TG := fun v σ H Q => Uq K H → ∃ a xs, v = .ref a ∧ SqT K H a xs ∧ xs.length = n ∧ t xs σ H Q
theorem pg_tupU {es : List Expr} {k : Nat} {t : TGs} {n : Nat} {p : Pos} (hc : X.calm = true) (h : PGs X es t) (hn : (assignEach es X.env).length = n) (hst : (assignEach es X.env).findIdx? (·.1) = none) : PG X (.Tuple es k p) (gTupU X.K n t) :=
  pg_weakU (pg_tup hc h hn hst) fun v σ H Q u q => q u
theorem setAll_len : ∀ {is : List Nat} {ds : List D} {ρ ρ' : Env}, setAll ρ is ds = some ρ' → is.length = ds.length
  | [], ds, ρ, ρ', h => by
    cases ds with
    | nil => rfl
    | cons d ds => simp only [setAll] at h; cases h
  | i :: is, ds, ρ, ρ', h => by
    cases ds with
    | nil => simp only [setAll] at h; cases h
    | cons d ds => simp only [setAll] at h; simp [setAll_len h]
theorem gTup_ok {F : AS → Prop} {He H : Hp} {R : St → Hp → Prop} {is : List Nat} {v : V} {d : D} {σ : St} {ρ ρ' : Env} (hK : g.K = X.K) (ok : StOk g.K F He H σ ρ) (hs : unpackD ρ is d = some ρ') (r : ∀ Z, F Z → Rp g.K (Un Z (OwnA σ ρ)) H v d)
    (k : ∀ σ', StOk g.K F He H σ' ρ' → R σ' H) : gTupU X.K is.length (gNs is) v σ H R := by
  intro u
  have r0 := r _ ok.z0
  cases d with
  | tup ds =>
    cases r0 with
    | tup hsq hl =>
      rename_i a vs
      refine ⟨a, vs, rfl, by rw [← hK]; exact hsq, by rw [hl.length, ← setAll_len hs], ?_⟩
      refine gNs_ok ok hs (hl.sub fun a z => z.elim) (fun Z hz => ?_) k
      have q := r Z hz
      cases q with
      | tup hsq' hl' =>
        rw [hK] at hsq hsq'
        have := u _ _ _ hsq hsq'
        subst this
        exact hl'
  | _ => cases hs
theorem sS_unp {is : List Nat} {tg : Expr} (hK : g.K = X.K) (he : PE X e (tE g ie)) (hg : PG X tg (gTupU X.K is.length (gNs is))) (hs : swapsWithSole [tg] e pos.line X.env = pure false) (hw : swappedStores [tg] e X.env = pure none)
    (h1 : (assignEach [tg] X.env).map (·.2) = [assign tg X.env]) : PS X (.Assign [tg] e pos) (tS g w (.unp is ie)) := by
  refine ps_weak (ps_asg he hg hs hw h1) fun D σ H h => ?_
  obtain ⟨ρ, He, F, ok, h⟩ := h
  simp only [evS] at h
  split at h
  · exact h.elim
  rename_i ho
  simp only [Bool.not_eq_true] at ho
  refine ⟨ρ, ok.env0, (fl_post ok h).mp fun d p v H' e r => ?_⟩
  split at p
  · rename_i ρ' hρ'
    exact gTup_ok hK (ok.mono e) hρ' (fun Z hz => rpm_f (r _ (ok.dom hz) (ok.env Z hz)) ho) fun σ' ok' => p σ' H' ok'
  · exact p.elim
/-! ### a list that may be changed -/
theorem OwnA_own {i : Nat} {p a : Addr} {d : D} {σ : St} {ρ : Env} (h : OwnA (σ.set i (some (.ref p))) (ρ.set i (.own d)) a) : OwnA σ ρ a ∨ (a = p ∧ i < ρ.length) := by
  obtain ⟨j, d', h1, h2⟩ := h
  by_cases hj : i = j
  · subst hj
    by_cases hi : i < ρ.length
    · have hs : i < σ.length := by
        have := (List.getElem?_eq_some_iff.mp h2).1
        simpa using this
      rw [List.getElem?_set_self hs] at h2
      cases h2
      exact .inr ⟨rfl, hi⟩
    · rw [List.getElem?_eq_none (by simpa using hi)] at h1; cases h1
  · rw [List.getElem?_set_ne hj] at h1 h2
    exact .inl ⟨j, d', h1, h2⟩
/-- a new list comes to a slot, to be changed -/
theorem StOk.setOwn {K : PySem.W.Frag} {F : AS → Prop} {He H H' : Hp} {σ : St} {ρ : Env} {i : Nat} {p : Addr} {d0 : D} (h : StOk K F He H σ ρ) (e : Ex H H') (hp : H p = none)
    (r : ∀ Z, F Z → OwnAt K (fun a => Un Z (OwnA σ ρ) a ∨ a = p) H' p d0) : StOk K F He H' (σ.set i (some (.ref p))) (ρ.set i (.own d0)) where
  ex := h.ex.trans e
  new := fun a ha => by
    rcases OwnA_own ha with ha | ⟨rfl, _⟩
    · exact h.new a ha
    · exact h.ex.fresh hp
  dist := fun j k a d1 d2 h1 h2 h3 h4 => by
    have g : ∀ (m : Nat) (d3 : D), (ρ.set i (.own d0))[m]? = some (.own d3) → (σ.set i (some (.ref p)))[m]? = some (some (.ref a)) → (i = m ∧ a = p) ∨ (i ≠ m ∧ ρ[m]? = some (.own d3) ∧ σ[m]? = some (some (.ref a))) := fun m d3 q1 q2 => by
      by_cases e : i = m
      · subst e
        have hs : i < σ.length := by
          have := (List.getElem?_eq_some_iff.mp q2).1
          simpa using this
        rw [List.getElem?_set_self hs] at q2
        cases q2; exact .inl ⟨rfl, rfl⟩
      · rw [List.getElem?_set_ne e] at q1 q2
        exact .inr ⟨e, q1, q2⟩
    have old : ∀ (m : Nat) (d3 : D), ρ[m]? = some (.own d3) → σ[m]? = some (some (.ref a)) → a ≠ p := fun m d3 q1 q2 e => by
      obtain ⟨ws, q, _⟩ := h.own (a := a) ⟨m, d3, q1, q2⟩
      rw [e, hp] at q; cases q
    rcases g j d1 h1 h3 with ⟨e1, e2⟩ | ⟨n1, q1, q2⟩ <;> rcases g k d2 h2 h4 with ⟨e3, e4⟩ | ⟨n2, q3, q4⟩
    · rw [← e1, ← e3]
    · exact (old k d2 q3 q4 e2).elim
    · exact (old j d1 q1 q2 e4).elim
    · exact h.dist j k a d1 d2 q1 q3 q2 q4
  z0 := h.z0
  zd := h.zd
  env := fun Z hz => by
    have sub : ∀ a, Un Z (OwnA (σ.set i (some (.ref p))) (ρ.set i (.own d0))) a → Un Z (OwnA σ ρ) a ∨ a = p := fun a ha => by
      rcases ha with ha | ha
      · exact .inl (.inl ha)
      · rcases OwnA_own ha with ha | ⟨ha, _⟩
        · exact .inl (.inr ha)
        · exact .inr ha
    have ev := ((h.env Z hz).avoid (Y := fun a => a = p) fun a ha => by rw [ha]; exact hp).ex e
    refine ⟨by simpa using ev.len, fun j s q => ?_, ev.tab⟩
    by_cases hj : i = j
    · subst hj
      by_cases hi : i < ρ.length
      · rw [List.getElem?_set_self hi] at q
        cases q
        exact ⟨p, by rw [List.getElem?_set_self (Nat.lt_of_lt_of_le hi ev.len)], (r Z hz).sub sub⟩
      · rw [List.getElem?_eq_none (by simpa using hi)] at q; cases q
    · rw [List.getElem?_set_ne hj] at q ⊢
      exact (ev.at_ j s q).sub sub
theorem own_end {F : AS → Prop} {He H' : Hp} {D : Ends} {σ : St} {ρ : Env} {i : Nat} {q : Addr} {d : Rf.D} (p : FPost g F He D (match d with | .lst xs => .nxt (ρ.set i (.own (.lst xs))) | .dic t kvs => .nxt (ρ.set i (.own (.dic t kvs))) | _ => .bad)) (ok : StOk g.K F He H' (σ.set i (some (.ref q))) (ρ.set i (.own d))) : D.nx (σ.set i (some (.ref q))) H' := by
  cases d with
  | lst xs => exact p _ H' ok
  | dic t kvs => exact p _ H' ok
  | _ => exact p.elim
/-- as tF; what is told is a list, a dict -/
def tFc (g : Gx) (e : E) : TE := fun σ H Q => ∃ ρ, EnvR g.K AS.none H σ ρ ∧ Post g σ H (evE g.call e ρ) fun d => d.cell = true ∧ ∀ p H', Ex H H' → H p = none → (∀ Z, Dom Z H → EnvR g.K Z H σ ρ → OwnAt g.K (fun a => Z a ∨ a = p) H' p d) → Q (.ref p) H'
theorem tFc_tF {g : Gx} {e : E} {σ : St} {H : Hp} {Q : VK} (h : tFc g e σ H Q) : tF g e σ H Q := by
  obtain ⟨ρ, hρ, h⟩ := h
  exact ⟨ρ, hρ, h.mp fun d p => p.2⟩
theorem pe_tFc {X : Cx} {g : Gx} {e : Expr} {ie : E} (h : PE X e (tF g ie)) : PE X e (tFc g ie) := pe_weak h fun σ H Q h => tFc_tF h
/-- a new list, a new dict is handed back -/
theorem sS_retF (he : PE X e (tFc g ie)) (hfr : ie.fresh = true) : PS X (.Return (some e) pos) (tS g w (.retF ie)) := by
  refine ps_weak (ps_ret he) fun D σ H h => ?_
  obtain ⟨ρ, He, F, ok, h⟩ := h
  simp only [evS, hfr, if_true] at h
  refine ⟨ρ, ok.env0, (fl_post ok h).mp fun d p => ?_⟩
  split at p
  case isFalse => exact p.elim
  rename_i hc
  refine ⟨hc, fun q H' e hq r => ?_⟩
  have o : ∀ Z, F Z → OwnAt g.K (fun a => Z a ∨ a = q) H' q d := fun Z hz => (r _ (ok.dom hz) (ok.env Z hz)).sub fun a ha => ha.imp (fun z => .inl z) id
  have hq0 : He q = none := ok.ex.fresh hq
  exact p _ H' (ok.ex.trans e) (fun Z hz => ((o Z hz).sub (Z' := Z) fun a ha => .inl ha).rp fun z => by
    obtain ⟨u, hu, _⟩ := ok.zd Z hz q z
    rw [hq0] at hu; cases hu) fun _ => ⟨q, rfl, hq0, o⟩
def rCatL (K : PySem.W.Frag) : R2 := fun x y H Q => ∃ xs ys, RpC K AS.none H x (.lst xs) ∧ RpC K AS.none H y (.lst ys) ∧ xs.length + ys.length ≤ SZ ∧ ∀ p H', Ex H H' → H p = none → (∀ Z, Dom Z H → RpC K Z H x (.lst xs) ∧ RpC K Z H y (.lst ys) → OwnAt K (fun a => Z a ∨ a = p) H' p (.lst (xs ++ ys))) → Q (.ref p) H'
theorem op_catL : OpR X (binaryOp .Add) (rCatL X.K) := by
  intro pins s σ H x y v u Q I rx ry h
  obtain ⟨xs, ys, h1, h2, hl, hq⟩ := h
  obtain ⟨p, vs, rfl, hp, r1⟩ := h1.lstE
  obtain ⟨q, ws, rfl, hq', r2⟩ := h2.lstE
  cases rx; cases ry
  refine op_catR (x := .ref p) (y := .ref q) (v := .none) (u := .none) I hp hq' (by rw [r1.length, r2.length]; exact Nat.le_trans hl SZ_line) fun z hz => ?_
  refine hq z _ (Ex.new hz) hz fun Z dz az => ⟨vs ++ ws, upd_same, ?_⟩
  obtain ⟨p', vs', e1, hp', r1'⟩ := az.1.lstE
  obtain ⟨q', ws', e2, hq2, r2'⟩ := az.2.lstE
  cases e1; cases e2
  have i1 := I.list_inj hp hp'
  have i2 := I.list_inj hq' hq2
  subst i1; subst i2
  exact ((r1'.append r2').avoid (Y := fun a => a = z) fun a ha => by rw [ha]; exact hz).ex (Ex.new hz)
theorem sF_add {a b : Expr} {ia ib : E} (hK : g.K = X.K) (ha : PE X a (tE g ia)) (hb : PE X b (tE g ib)) : PE X (.BinOp a .Add b pos) (tFc g (.bop .add ia ib)) := by
  refine pe_weak (pe_op op_catL ha hb) fun σ H Q h => ?_
  obtain ⟨ρ, hρ, h⟩ := h
  simp only [evE] at h
  refine sub_e hρ h.bind fun x v H1 p e1 ρ1 r1 => sub_e ρ1 (p.bind.ex e1) fun y u H2 p2 e2 ρ2 r2 => ?_
  obtain ⟨d, hd, hc, p3⟩ := p2.ok (bopD_ne .add x y)
  simp only [bopD] at hd
  split at hd
  · cases hd; cases hc
  · split at hd
    · cases hd; cases hc
    · cases hd
  · rename_i xs ys
    split at hd
    case isFalse => cases hd
    rename_i hl
    cases hd
    rw [← hK]
    refine ⟨xs, ys, ((r1 _ Dom.no hρ).c).ex e2, (r2 _ Dom.no ρ1).c, hl, fun q H3 e3 hq rr => ?_⟩
    exact p3 q H3 ((e1.trans e2).trans e3) (e1.fresh (e2.fresh hq)) fun Z dz hz => rr Z ((dz.ex e1).ex e2) ⟨((r1 Z dz hz).c).ex e2, (r2 Z (dz.ex e1) (hz.ex e1)).c⟩
  · split at hd
    · cases hd; cases hc
    · cases hd
  · cases hd
theorem call_fresh {es : List Expr} {ies : List E} {k : Nat} (hK : g.K = X.K) (hk : g.frs k = true) {t : TA} (ht : t = tEs g ies) : ∀ σ H Q, tFc g (.call k ies) σ H Q → tCallS (spF X.K g.cA g.call g.frs k) (WE g.W) t σ H Q := fun σ H Q h => by
  subst ht
  obtain ⟨ρ, hρ, h⟩ := h
  simp only [evE] at h
  refine sub_es hρ h.bind fun ds vs H1 p e1 ρ1 r1 => ?_
  refine ⟨ds, by rw [← hK]; exact (r1 _ Dom.no hρ).cl.r0, ρ1.tab, ?_⟩
  cases hc : g.call k ds with
  | ok d =>
    rw [hc] at p
    simp only [Out.bind_ok] at p
    intro w H2 e2 rr fr
    split at p
    · exact p.elim
    · rename_i hf
      obtain ⟨hcell, p⟩ := p
      obtain ⟨q, rfl, hq, o⟩ := fr (by rw [hk, hcell]; rfl)
      have ho : ownL ies ρ = false := by
        have fl : d.flat = false := by cases d <;> first | rfl | cases hcell
        rw [fl] at hf
        simpa using hf
      refine p q H2 (e1.trans e2) (e1.fresh hq) fun Z dz hz => ?_
      rw [hK]
      exact o Z (dz.ex e1) (by rw [← hK]; exact rpml_f (r1 Z dz hz) ho)
  | exc c fs =>
    rw [hc] at p
    simp only [Out.bind_exc] at p
    exact fun cls dd H2 e2 hx => p cls dd H2 (e1.trans e2) hx
  | bad => rw [hc] at p; exact p.elim
theorem sF_call {a : Expr} {es : List Expr} {ies : List E} {n k : Nat} {f : Addr} {fd : FuncData} {ps : List Str} {x : Str} {p : Pos} (hK : g.K = X.K) (hfk : g.frs k = true) (F : FnOk X.prog X.w X.K X.mg X.base (L2N.CX X.prog X.w) n f fd ps (spF X.K g.cA g.call g.frs k)) (hr : Room n X.A) (hg : Gl X x) (hm : X.mg x = some (.ref f)) (hk : PySem.W.keepIn X.K (.ref f) = true) (hb : Binds X.K fd ps []) (tk : L2N.Takes X g.W)
    (ha : PA X (a :: es) (tEs g ies)) (hdb : (x == ("__debug__" : Str)) = false) (he : starEach (a :: es) X.env = (false, eval a X.env) :: starEach es X.env) (hpl : (backTo pos (starEach es X.env)).any (·.1) = false) :
    PE X (.Call (.Name x p) (a :: es) [] pos) (tFc g (.call k ies)) :=
  pe_weak (pe_callS F hr hg hm hk hb (fun σ => L2N.passAt tk σ) ha hdb he hpl) (call_fresh (es := es) hK hfk rfl)
theorem sS_ownC {i : Nat} {x : Str} {p : Pos} (hN : X.N.Nodup) (hi : X.N[i]? = some x) (hx : Loc X.env.scope x) (he : PE X e (tFc g ie)) (hfr : ie.fresh = true) (hs : swapsWith e (some (.Name x p)) pos.line X.env = pure false) (hf : X.fn x = true ∨ X.env.scope.names.lookup x = some .local) :
    PS X (.Assign [.Name x p] e pos) (tS g w (.own i ie)) := by
  refine ps_weak (ps_set hN hi hx he hs hf) fun D σ H h => ?_
  obtain ⟨ρ, He, F, ok, h⟩ := h
  simp only [evS, hfr, if_true] at h
  refine ⟨ρ, ok.env0, (fl_post ok h).mp fun d p => ⟨?_, fun q H' e hp r => own_end p (ok.setOwn (i := i) (d0 := d) e hp fun Z hz => r _ (ok.dom hz) (ok.env Z hz))⟩⟩
  cases d <;> first | rfl | exact p.elim
theorem sS_own {i : Nat} {x : Str} {p : Pos} (hN : X.N.Nodup) (hi : X.N[i]? = some x) (hx : Loc X.env.scope x) (he : PE X e (tF g ie)) (hfr : ie.fresh = true) (hs : swapsWith e (some (.Name x p)) pos.line X.env = pure false) (hf : X.fn x = true ∨ X.env.scope.names.lookup x = some .local) :
    PS X (.Assign [.Name x p] e pos) (tS g w (.own i ie)) := by
  refine ps_weak (ps_set hN hi hx he hs hf) fun D σ H h => ?_
  obtain ⟨ρ, He, F, ok, h⟩ := h
  simp only [evS, hfr, if_true] at h
  refine ⟨ρ, ok.env0, (fl_post ok h).mp fun d p q H' e hp r => own_end p (ok.setOwn (i := i) (d0 := d) e hp fun Z hz => r _ (ok.dom hz) (ok.env Z hz))⟩
theorem sF_lst {es : List Expr} {ies : List E} (hl : ies.length ≤ 1000) (h : PA X es (tEs g ies)) : PE X (.List es pos) (tF g (.lst ies)) := by
  refine pe_weak (pe_lst h) fun σ H Q h => ?_
  obtain ⟨ρ, hρ, h⟩ := h
  simp only [evE] at h
  split at h
  · exact h.elim
  rename_i ho
  simp only [Bool.not_eq_true] at ho
  refine sub_es hρ (post_self (post_map h)) fun ds vs H1 p e1 ρ1 r1 => ?_
  have hds := evEs_len p.1
  have hvs := (r1 _ Dom.no hρ).cl.length
  refine ⟨by rw [hvs, hds]; exact Nat.le_trans hl (by rw [sizeLine_eq]; decide), fun q hq => ?_⟩
  refine p.2 q _ (e1.trans (Ex.new hq)) (e1.fresh hq) fun Z dz hz => ⟨vs, upd_same, ?_⟩
  exact ((rpml_f (r1 Z dz hz) ho).avoid (Y := fun a => a = q) fun a ha => by rw [ha]; exact hq).ex (Ex.new hq)
theorem sF_comp' {elt tg iter : Expr} {ifs : List Expr} {ie ic : E} {src : Src} {scope : Scope} {i : Nat} {x : Str} {tt : TT} (hK : g.K = X.K) (hc : X.calm = true) (hN : X.N.Nodup) (hi : PI X tg iter (tIt g src)) (ok : BlkOk X.N X.env.scope scope [(x, i)])
    (hg : ∀ (s : Shared) (H : Hp) (C : Addr) (cl : List (Str × Addr)) (fp : List Addr), PG (X.blk s H scope (compEnvC scope cl C X.env) fp) tg (gName i))
    (ht : ∀ (s : Shared) (H : Hp) (C : Addr) (cl : List (Str × Addr)) (fp : List Addr), PTs (X.blk s H scope (compEnvC scope cl C X.env) fp) ifs tt) (htt : ∀ σ H Q, tT g.in ic σ H Q → tt σ H Q)
    (he : ∀ (s : Shared) (H : Hp) (C : Addr) (cl : List (Str × Addr)) (fp : List Addr), PE (X.blk s H scope (compEnvC scope cl C X.env) fp) elt (tE g.in ie)) (hs : ∀ x, foldedSetIterable iter X.env x = pure x)
    {j : Nat} {y : Str} {p cpos : Pos} (hy : X.N[j]? = some y) (hyl : X.env.scope.names.lookup y = some .local) (hsw : swapsWith (.ListComp elt [⟨tg, iter, ifs, 0⟩] scope cpos) (some (.Name y p)) pos.line X.env = pure true) :
    PS X (.Assign [.Name y p] (.ListComp elt [⟨tg, iter, ifs, 0⟩] scope cpos) pos) (tS g w (.own j (.comp i ie src ic))) := by
  refine ps_weak (ps_setLc hc hN hy hyl hsw hi ok hg ht he hs) fun D σ H h => ?_
  obtain ⟨ρ, He, F, ok', h⟩ := h
  simp only [evS, E.fresh, if_true] at h
  refine sF_comp hK hc hN hi ok hg ht htt he hs σ H _ ⟨ρ, ok'.env0, (fl_post ok' h).mp fun d p q H' e hp r => own_end p (ok'.setOwn (i := j) (d0 := d) e hp fun Z hz => r _ (ok'.dom hz) (ok'.env Z hz))⟩
theorem sE_comp' {elt tg iter : Expr} {ifs : List Expr} {ie ic : E} {src : Src} {scope : Scope} {i : Nat} {x : Str} {tt : TT} (hK : g.K = X.K) (hc : X.calm = true) (hN : X.N.Nodup) (hi : PI X tg iter (tIt g src)) (ok : BlkOk X.N X.env.scope scope [(x, i)])
    (hg : ∀ (s : Shared) (H : Hp) (C : Addr) (cl : List (Str × Addr)) (fp : List Addr), PG (X.blk s H scope (compEnvC scope cl C X.env) fp) tg (gName i))
    (ht : ∀ (s : Shared) (H : Hp) (C : Addr) (cl : List (Str × Addr)) (fp : List Addr), PTs (X.blk s H scope (compEnvC scope cl C X.env) fp) ifs tt) (htt : ∀ σ H Q, tT g.in ic σ H Q → tt σ H Q)
    (he : ∀ (s : Shared) (H : Hp) (C : Addr) (cl : List (Str × Addr)) (fp : List Addr), PE (X.blk s H scope (compEnvC scope cl C X.env) fp) elt (tE g.in ie)) (hs : ∀ x, foldedSetIterable iter X.env x = pure x)
    {j : Nat} {y : Str} {p cpos : Pos} (hy : X.N[j]? = some y) (hyl : X.env.scope.names.lookup y = some .local) (hsw : swapsWith (.ListComp elt [⟨tg, iter, ifs, 0⟩] scope cpos) (some (.Name y p)) pos.line X.env = pure true) :
    PS X (.Assign [.Name y p] (.ListComp elt [⟨tg, iter, ifs, 0⟩] scope cpos) pos) (tS g w (.set j (.comp i ie src ic))) := by
  refine ps_weak (ps_setLc hc hN hy hyl hsw hi ok hg ht he hs) fun D σ H h => ?_
  obtain ⟨ρ, He, F, ok', h⟩ := h
  have eo : E.ownV (.comp i ie src ic) ρ = false := rfl
  simp only [evS, eo, Bool.false_eq_true, if_false] at h
  refine sF_comp hK hc hN hi ok hg ht htt he hs σ H _ (tF_tE (fun _ => rfl) ⟨ρ, ok'.env0, (fl_post ok' h).mp fun d p v H' e r => p _ H' (ok'.set e fun Z hz => ?_)⟩)
  exact r _ (ok'.dom hz) (ok'.env Z hz)
/-! ### append -/
theorem StOk.app {K : PySem.W.Frag} {F : AS → Prop} {He H H' : Hp} {σ : St} {ρ : Env} {i : Nat} {ds : List D} {a : Addr} {vs : List V} {v : V} {d : D} (h : StOk K F He H σ ρ) (e : Ex H H') (hi : ρ[i]? = some (.own (.lst ds))) (ha : σ[i]? = some (some (.ref a))) (hv : H a = some (.lst vs))
    (r : ∀ Z, F Z → Rp K (Un Z (OwnA σ ρ)) H' v d) : StOk K F He (upd H' a (.lst (vs ++ [v]))) σ (ρ.set i (.own (.lst (ds ++ [d])))) := by
  have il : i < ρ.length := (List.getElem?_eq_some_iff.mp hi).1
  have g : ∀ (m : Nat) (s : Sl), (ρ.set i (.own (.lst (ds ++ [d]))))[m]? = some s → (i = m ∧ s = .own (.lst (ds ++ [d]))) ∨ (i ≠ m ∧ ρ[m]? = some s) := fun m s q => by
    by_cases e : i = m
    · subst e
      rw [List.getElem?_set_self il] at q; cases q; exact .inl ⟨rfl, rfl⟩
    · rw [List.getElem?_set_ne e] at q
      exact .inr ⟨e, q⟩
  have ow : ∀ b, OwnA σ (ρ.set i (.own (.lst (ds ++ [d])))) b → OwnA σ ρ b := fun b ⟨j, d', h1, h2⟩ => by
    rcases g j _ h1 with ⟨e, _⟩ | ⟨n, q⟩
    · subst e; exact ⟨i, _, hi, h2⟩
    · exact ⟨j, d', q, h2⟩
  have oa : OwnA σ ρ a := ⟨i, _, hi, ha⟩
  have hc : ∃ u, H' a = some u ∧ Cell u := ⟨_, e.k hv rfl, rfl⟩
  have hnc : ∃ u, H' a = some u ∧ NC u := ⟨_, e.k hv rfl, NC.lst⟩
  refine ⟨Ex.mut (h.ex.trans e) (h.new a oa) hnc, fun b hb => h.new b (ow b hb), fun j k b d1 d2 h1 h2 h3 h4 => ?_, h.z0, h.zd, fun Z hz => ?_⟩
  · rcases g j _ h1 with ⟨e1, _⟩ | ⟨n1, q1⟩ <;> rcases g k _ h2 with ⟨e2, _⟩ | ⟨n2, q2⟩
    · rw [← e1, ← e2]
    · subst e1; exact h.dist i k b _ _ hi q2 h3 h4
    · subst e2; exact h.dist j i b _ _ q1 hi h3 h4
    · exact h.dist j k b _ _ q1 q2 h3 h4
  · have ev := (h.env Z hz).ex e
    have sub : ∀ b, Un Z (OwnA σ (ρ.set i (.own (.lst (ds ++ [d]))))) b → Un Z (OwnA σ ρ) b := fun b hb => hb.elim .inl fun o => .inr (ow b o)
    refine ⟨by simpa using ev.len, fun j s q => ?_, (let ⟨u, n1, n2⟩ := hnc; tabs_upd n1 n2 ev.tab)⟩
    rcases g j _ q with ⟨e1, e2⟩ | ⟨n, q⟩
    · subst e1; subst e2
      refine ⟨a, ha, vs ++ [v], upd_same, ?_⟩
      obtain ⟨a', ha', o⟩ := ev.at_ i _ hi
      rw [ha] at ha'; cases ha'
      obtain ⟨ws, w1, w2⟩ := o
      rw [e.k hv rfl] at w1; cases w1
      exact ((w2.upd (.inr oa) hc).snoc ((r Z hz).upd (.inr oa) hc)).sub sub
    · have old := ev.at_ j s q
      cases s with
      | no => trivial
      | val d' =>
        obtain ⟨v', h1, h2⟩ := old
        exact ⟨v', h1, (h2.upd (.inr oa) hc).sub sub⟩
      | own d' =>
        obtain ⟨b, h1, h2⟩ := old
        have hne : b ≠ a := fun e => by
          subst e
          exact n (h.dist i j b _ _ hi q ha h1)
        refine ⟨b, h1, ?_⟩
        cases d' with
        | lst es =>
          obtain ⟨ws, w1, w2⟩ := h2
          exact ⟨ws, by rw [upd_ne hne]; exact w1, (w2.upd (.inr oa) hc).sub sub⟩
        | dic t es =>
          obtain ⟨ws, w1, w2⟩ := h2
          exact ⟨ws, by rw [upd_ne hne]; exact w1, (w2.upd (.inr oa) hc).sub sub⟩
        | _ => exact h2.elim
theorem sS_app {i : Nat} {x : Str} {p apos cpos : Pos} (hK : g.K = X.K) (hN : X.N[i]? = some x) (hv : Vis X.env.scope x) (hd : (x == ("__debug__" : Str)) = false) (hcd : (x == ("__classdict__" : Str)) = false) (he : PE X e (tE g ie))
    (hs : starEach [e] X.env = [(false, eval e X.env)]) (hline : (apos.endLine == cpos.line) = true) :
    PS X (.Expr (.Call (.Attribute (.Name x p) ("append" : Str) apos) [e] [] cpos) pos) (tS g w (.app i ie)) := by
  have pa : PA X [e] (tCons (tE g ie) tNil) := pa_cons he pa_nil hs
  have key := ps_expr (pos := pos) (pe_bm (cpos := cpos) (apos := apos) (name := ("append" : Str)) PySem.F.plainAttrs_list PySem.F.slot_list_append PySem.F.type_list_append mt_append (pe_var (pos := p) hN hv hd hcd) pa rfl (by rw [hs]; rfl) hline hs rfl) (by rfl)
  refine ps_weak key fun D σ H h => ?_
  obtain ⟨ρ, He, F, ok, h⟩ := h
  simp only [evS] at h
  split at h
  · exact h.elim
  rename_i ho
  simp only [Bool.not_eq_true] at ho
  split at h
  · rename_i ds hi
    obtain ⟨a, ha, vs, hv, r0⟩ := ok.env0.at_ i _ hi
    refine ⟨_, ha, .inl ⟨rfl, vs, .inl (.inl hv)⟩, ρ, ok.env0, (fl_post ok h).mp fun d p v H' e r => ?_⟩
    split at p
    · rename_i hl
      have hlen := r0.length
      have hsz := SZ_line
      refine ⟨a, vs, v, rfl, rfl, e.k hv rfl, by omega, p σ _ (ok.app e hi ha hv fun Z hz => rpm_f (r _ (ok.dom hz) (ok.env Z hz)) ho)⟩
    · exact p.elim
  · exact h.elim
/-! ### loops -/
theorem tabs_hide {T : List (Addr × Str)} {H : Hp} {Z : AS} (t : LamX.Tabs T H) (n : ∀ a, Z a → ∃ u, H a = some u ∧ NC u) : LamX.Tabs T (hide H Z) := fun x hx => by
  obtain ⟨ps, h1, h2, h3⟩ := t x hx
  refine ⟨ps, hide_at h1 fun z => ?_, h2, fun pos cv hc => ?_⟩
  · obtain ⟨u, e, q⟩ := n _ z
    exact q.1 ps (Option.some.inj (e.symm.trans h1))
  · obtain ⟨c, e1, e2⟩ := h3 pos cv hc
    refine ⟨c, e1, hide_at e2 fun z => ?_⟩
    obtain ⟨u, e, q⟩ := n _ z
    exact q.2 c x.2 (Option.some.inj (e.symm.trans e2))
theorem StOk.nc {K : PySem.W.Frag} {F : AS → Prop} {He H : Hp} {σ : St} {ρ : Env} (h : StOk K F He H σ ρ) {a : Addr} (o : OwnA σ ρ a) : ∃ u, H a = some u ∧ NC u := by
  obtain ⟨i, d, h1, h2⟩ := o
  obtain ⟨b, h3, h4⟩ := h.env0.at_ i _ h1
  rw [h2] at h3; cases h3
  exact h4.nc
theorem hide_own {K : PySem.W.Frag} {F : AS → Prop} {He H : Hp} {σ : St} {ρ : Env} (ok : StOk K F He H σ ρ) : Ex He (hide H (OwnA σ ρ)) := ⟨fun a o h => by
  have n : ¬ OwnA σ ρ a := fun ha => by rw [ok.new a ha] at h; cases h
  rcases ok.ex.a a o h with q | ⟨ps, ps', e, q⟩
  · exact .inl (hide_at q n)
  · exact .inr ⟨ps, ps', e, hide_at q n⟩, fun t => tabs_hide (ok.ex.tt t) fun a ha => ok.nc ha⟩
theorem hide_out {H : Hp} {Z : AS} {a : Addr} {o : HO} (h : hide H Z a = some o) : H a = some o ∧ ¬ Z a := by
  unfold hide at h
  split at h
  · cases h
  · exact ⟨h, by assumption⟩
theorem hide_sub {H : Hp} {Z Y : AS} (h : ∀ a, Y a → Z a) : Ex (hide H Z) (hide H Y) := .of fun a o e => by
  obtain ⟨e1, hz⟩ := hide_out e
  exact hide_at e1 fun y => hz (h a y)
theorem StOk.hid {K : PySem.W.Frag} {F : AS → Prop} {He H : Hp} {σ : St} {ρ : Env} (ok : StOk K F He H σ ρ) : StOk K F (hide H (OwnA σ ρ)) H σ ρ := ⟨hide_ex, fun a ha => hide_none ha, ok.dist, ok.z0, fun Z hz => (ok.zd Z hz).ex (hide_own ok), ok.env⟩
theorem FPost.hid {F : AS → Prop} {He He2 : Hp} {D : Ends} {x : Fl} (h : FPost g F He D x) (e : Ex He He2) (zd : ∀ Z, F Z → Dom Z He) : FPost g F He2 D x := by
  cases x with
  | nxt ρ => exact fun σ H ok => h σ H (ok.weak e zd)
  | brk ρ => exact fun σ H ok => h σ H (ok.weak e zd)
  | cnt ρ => exact fun σ H ok => h σ H (ok.weak e zd)
  | ret d => exact fun v H ex r fr => h v H (e.trans ex) r fun hb => let ⟨p, e1, hp, o⟩ := fr hb; ⟨p, e1, e.fresh hp, o⟩
  | exc c fs ρ => exact fun cls dd σ H ok => h cls dd σ H (ok.weak e zd)
  | bad => exact h
/-- a loop over what is walked; the target stores by tgt -/
theorem for_core {src : Src} {tgt : TG} {bind : Env → D → Option Env} {tb : TS} (hK : g.K = X.K)
    (htgt : ∀ {F : AS → Prop} {He H : Hp} {R : St → Hp → Prop} {v : V} {d : D} {σ : St} {ρ ρ' : Env}, StOk g.K F He H σ ρ → bind ρ d = some ρ' → (∀ Z, F Z → Rp g.K (Un Z (OwnA σ ρ)) H v d) → (∀ σ', StOk g.K F He H σ' ρ' → R σ' H) → tgt v σ H R)
    (htb : ∀ D σ H, tSs g w ib D σ H → tb D σ H) {D : Ends} {σ : St} {H : Hp} {ρ : Env} {He : Hp} {F : AS → Prop} (ok : StOk g.K F He H σ ρ) (hown : src.ownV ρ = false)
    (h : FPost g F He D ((evIt g.call src ρ).fl ρ fun ds => forGo (fun ρ' => evSs g.call w ib ρ') bind ds ρ)) : tFor (tIt g src) tgt tb D σ H := by
  refine ⟨ρ, ok.env0, (fl_post ok h).mp fun ds p J H1 e1 wk => ?_⟩
  have ok1 := ok.mono e1
  have p := p.hid (hide_own ok1) ok.zd
  have ok2 := ok1.hid
  let W : Nat → Nat → St → Hp → Prop := fun i m σc Hc => m = ds.length - i ∧ i ≤ ds.length ∧ ∃ ρc, StOk g.K F (hide H1 (OwnA σ ρ)) Hc σc ρc ∧ FPost g F (hide H1 (OwnA σ ρ)) D (forGo (fun ρ' => evSs g.call w ib ρ') bind (ds.drop i) ρc)
  refine ⟨W, ⟨ds.length, by simp, Nat.zero_le _, ρ, ok2, by simpa using p⟩, ?_⟩
  rintro i m σc Hc ⟨rfl, hi, ρc, okc, pc⟩
  have wkZ : ∀ Z, F Z → Walk g.K (Un Z (OwnA σ ρ)) (hide H1 (Un Z (OwnA σ ρ))) J ds := fun Z hz => (wk _ (ok.dom hz) (ok.env Z hz)).2 hown
  have exZ : ∀ Z, Ex (hide H1 (Un Z (OwnA σ ρ))) Hc := fun Z => (hide_sub fun a ha => .inr ha).trans okc.ex
  by_cases hlt : i < ds.length
  · refine .inr ⟨((wkZ _ ok.z0) Hc (exZ _) i).1 hlt, fun σ' H' => ∃ ρ', StOk g.K F (hide H1 (OwnA σ ρ)) H' σ' ρ' ∧ FPost g F (hide H1 (OwnA σ ρ)) D (forGo (fun ρ' => evSs g.call w ib ρ') bind (ds.drop (i + 1)) ρ'),
      fun σ' H' n => ⟨ds.length - (i + 1), by omega, rfl, hlt, n⟩, fun xv H' y => ?_⟩
    have hdr : ds.drop i = ds[i] :: ds.drop (i + 1) := List.drop_eq_getElem_cons hlt
    rw [hdr] at pc
    simp only [forGo] at pc
    split at pc
    · exact pc.elim
    rename_i ρ1 hb
    obtain ⟨e2, _⟩ := ((wkZ _ ok.z0) Hc (exZ _) i).2.1 xv H' y
    have okc' := okc.mono e2
    have rep : ∀ Z, F Z → Rp g.K (Un Z (OwnA σc ρc)) H' xv ds[i] := fun Z hz => by
      have q := (((wkZ Z hz) Hc (exZ Z) i).2.1 xv H' y).2 ds[i] (by simp [hlt]) (OwnA σc ρc) fun a ha => (hide_sub fun a ha => .inr ha).fresh (okc.new a ha)
      exact q.sub fun a ha => ha.elim (fun z => .inl (.inl z)) .inr
    refine htgt okc' hb rep fun σ2 ok3 => htb _ _ _ ⟨ρ1, _, F, ok3, ?_⟩
    cases hbody : evSs g.call w ib ρ1 with
    | nxt ρ2 => rw [hbody] at pc; exact fun σ' H' o => ⟨ρ2, o, pc⟩
    | cnt ρ2 => rw [hbody] at pc; exact fun σ' H' o => ⟨ρ2, o, pc⟩
    | brk ρ2 => rw [hbody] at pc; exact fun σ' H' o => pc σ' H' o
    | ret d => rw [hbody] at pc; exact pc
    | exc c fs ρ2 => rw [hbody] at pc; exact pc
    | bad => rw [hbody] at pc; exact pc
  · have hkl : ds.length ≤ i := by omega
    refine .inl ⟨((wkZ _ ok.z0) Hc (exZ _) i).2.2 hkl, ?_⟩
    rw [List.drop_eq_nil_of_le hkl] at pc
    exact pc σc Hc okc
theorem sS_for {i : Nat} {x : Str} {tp : Pos} {iter : Expr} {src : Src} (hK : g.K = X.K) (hp : PassesOwn (model X.prog X.w) X.A X.env X.xe) (hc : X.calm = true) (hN : X.N.Nodup) (hi : X.N[i]? = some x) (hx : Loc X.env.scope x) (hf : X.fn x = true ∨ X.env.scope.names.lookup x = some .local)
    (hit : PI X (.Name x tp) iter (tIt g src)) (hb : PSs X body (tSs g w ib)) (hs : ∀ x, foldedSetIterable iter X.env x = pure x) : PS X (.For (.Name x tp) iter body [] pos) (tS g w (.for i src ib)) := by
  refine ps_weak (ps_for hp hc hit (pg_name (pos := tp) hN hi hx hf) hb hs) fun D σ H h => ?_
  obtain ⟨ρ, He, F, ok, h⟩ := h
  simp only [evS] at h
  split at h
  · exact h.elim
  rename_i ho
  simp only [Bool.not_eq_true] at ho
  refine for_core hK (fun {F He H R v d σ ρ ρ'} okc hb r k => ?_) (fun D σ H h => h) ok ho h
  cases hb
  exact k _ (okc.set (Ex.refl H) r)
theorem sS_forT {is : List Nat} {tg iter : Expr} {src : Src} (hK : g.K = X.K) (hp : PassesOwn (model X.prog X.w) X.A X.env X.xe) (hc : X.calm = true) (hg : PG X tg (gTupU X.K is.length (gNs is)))
    (hit : PI X tg iter (tIt g src)) (hb : PSs X body (tSs g w ib)) (hs : ∀ x, foldedSetIterable iter X.env x = pure x) : PS X (.For tg iter body [] pos) (tS g w (.forT is src ib)) := by
  refine ps_weak (ps_for hp hc hit hg hb hs) fun D σ H h => ?_
  obtain ⟨ρ, He, F, ok, h⟩ := h
  simp only [evS] at h
  split at h
  · exact h.elim
  rename_i ho
  simp only [Bool.not_eq_true] at ho
  exact for_core hK (fun {F He H R v d σ ρ ρ'} okc hb r k => gTup_ok hK okc hb r k) (fun D σ H h => h) ok ho h
theorem sS_whl (hp : PassesOwn (model X.prog X.w) X.A X.env X.xe) (hc : PT X c (tT g ic)) (hb : PSs X body (tSs g w ib)) : PS X (.While c body [] pos) (tS g w (.whl ic ib)) := by
  refine ps_weak (ps_while hp hc hb) fun D σ H h => ?_
  obtain ⟨ρ, He, F, ok, h⟩ := h
  simp only [evS] at h
  refine ⟨fun m σc Hc => ∃ ρc, StOk g.K F He Hc σc ρc ∧ FPost g F He D (whlGo (fun ρ' => (evE g.call ic ρ').bind truthy) (fun ρ' => evSs g.call w ib ρ') m ρc), ⟨w, ρ, ok, h⟩, ?_⟩
  rintro m σc Hc ⟨ρc, okc, pc⟩
  cases m with
  | zero => exact pc.elim
  | succ m =>
    simp only [whlGo] at pc
    refine ⟨ρc, okc.env0, (fl_post okc pc).mp fun t p H1 e1 => ?_⟩
    cases t with
    | true =>
      simp only [if_true] at p ⊢
      refine ⟨fun σ' H' => ∃ ρ', StOk g.K F He H' σ' ρ' ∧ FPost g F He D (whlGo (fun ρ' => (evE g.call ic ρ').bind truthy) (fun ρ' => evSs g.call w ib ρ') m ρ'), fun σ' H' n => ⟨m, Nat.lt_succ_self m, n⟩, ρc, He, F, okc.mono e1, ?_⟩
      cases hbody : evSs g.call w ib ρc with
      | nxt ρ2 => rw [hbody] at p; exact fun σ' H' o => ⟨ρ2, o, p⟩
      | cnt ρ2 => rw [hbody] at p; exact fun σ' H' o => ⟨ρ2, o, p⟩
      | brk ρ2 => rw [hbody] at p; exact fun σ' H' o => p σ' H' o
      | ret d => rw [hbody] at p; exact p
      | exc c fs ρ2 => rw [hbody] at p; exact p
      | bad => rw [hbody] at p; exact p
    | false =>
      simp only [Bool.false_eq_true, if_false] at p ⊢
      exact p σc H1 (okc.mono e1)
theorem OwnA_frz {K : PySem.W.Frag} {F : AS → Prop} {He H : Hp} {σ : St} {ρ : Env} {j : Nat} {d : D} (ok : StOk K F He H σ ρ) (hj : ρ[j]? = some (.own d)) {a : Addr} (h : OwnA σ (ρ.set j (.val d)) a) : OwnA σ ρ a ∧ σ[j]? ≠ some (some (.ref a)) := by
  obtain ⟨i, d', h1, h2⟩ := h
  have hl : j < ρ.length := (List.getElem?_eq_some_iff.mp hj).1
  by_cases e : j = i
  · subst e
    rw [List.getElem?_set_self hl] at h1; cases h1
  · rw [List.getElem?_set_ne e] at h1
    exact ⟨⟨i, d', h1, h2⟩, fun q => e (ok.dist j i a d d' hj h1 q h2)⟩
theorem StOk.frz {K : PySem.W.Frag} {F : AS → Prop} {He H : Hp} {σ : St} {ρ : Env} (ok : StOk K F He H σ ρ) (j : Nat) : StOk K F He H σ (frzE ρ j) := by
  unfold frzE
  split
  case h_2 => exact ok
  rename_i d hj
  have hl : j < ρ.length := (List.getElem?_eq_some_iff.mp hj).1
  have sub : ∀ a, OwnA σ (ρ.set j (.val d)) a → OwnA σ ρ a := fun a h => (OwnA_frz ok hj h).1
  have back : ∀ (m : Nat) (d3 : D), (ρ.set j (.val d))[m]? = some (.own d3) → ρ[m]? = some (.own d3) := fun m d3 q => by
    by_cases e : j = m
    · subst e
      rw [List.getElem?_set_self hl] at q; cases q
    · rwa [List.getElem?_set_ne e] at q
  refine ⟨ok.ex, fun a h => ok.new a (sub a h), fun i k a d1 d2 h1 h2 h3 h4 => ok.dist i k a d1 d2 (back _ _ h1) (back _ _ h2) h3 h4, ok.z0, ok.zd, fun Z hz => ?_⟩
  have en := (ok.env Z hz).sub (Z' := Un Z (OwnA σ (ρ.set j (.val d)))) fun a ha => ha.elim .inl fun o => .inr (sub a o)
  refine ⟨by simpa using en.len, fun i s q => ?_, en.tab⟩
  by_cases e : j = i
  · subst e
    rw [List.getElem?_set_self hl] at q
    cases q
    obtain ⟨a, ha, o⟩ := en.at_ _ _ hj
    refine ⟨.ref a, ha, o.rp fun z => ?_⟩
    rcases z with z | z
    · obtain ⟨o, ho, _⟩ := ok.zd Z hz a z
      rw [ok.new a ⟨j, _, hj, ha⟩] at ho; cases ho
    · exact (OwnA_frz ok hj z).2 ha
  · rw [List.getElem?_set_ne e] at q
    exact en.at_ i s q
theorem sS_frz {j : Nat} (h : PS X st (tS g w is)) : PS X st (tS g w (.frz j is)) := ps_weak h fun D σ H ⟨ρ, He, F, ok, h⟩ => by
  simp only [evS] at h
  exact ⟨frzE ρ j, He, F, ok.frz j, h⟩
/-- raise C('..') -/
theorem sS_raise {x : Str} {m : Str} {j : Nat} {p p2 cpos : Pos} {k : Nat} (hc : X.calm = true) (tk : L2N.Takes X g.W) (hm : X.mg x = some (.ref (g.cA k))) (hq : PySem.W.excIn X.K (g.cA k) [.type "ValueError", .type "Exception", .type "BaseException", .type "object"] "ValueError.__new__" = true) (hk : PySem.W.keepIn X.K (.ref (g.cA k)) = true)
    (hr : Raises X (.ref (g.cA k))) (hg : Gl X x) (hd : (x == ("__debug__" : Str)) = false) : PS X (.Raise (some (.Call (.Name x p) [.Constant (.str m) j p2] [] cpos)) none pos) (tS g w (.raise k)) :=
  ps_weak (L2N.ps_raise hc tk (L2N.pmk_own PySem.F.excBase_ValueError hq hm hk hr hg hd)) fun D σ H ⟨ρ, He, F, ok, h⟩ => by
    simp only [evS] at h
    exact h _ none σ H ok ⟨rfl, rfl, rfl⟩
end
end Rf

/-! part RfSound4 -/
set_option autoImplicit false
set_option linter.all false
set_option Elab.async false
set_option maxRecDepth 100000
set_option maxHeartbeats 2000000
/-! RfSound4: displays of dicts, their methods, their items stored. -/
namespace Rf
open PySem PySem.Spec PyProof.Rows L2
variable [Wd]
/-! ### {}, {k: v} -/
section
variable {X : Cx} {g : Gx} {w : Nat} {a b c k v : Expr} {ia ib ic ik iv : E} {pos : Pos}
theorem pe_dct0 (W : WdX X) (t : Bool) : PE X (.Dict [] [] pos) (fun σ H Q => ∀ p, H p = none → Q (.ref p) (upd H p (dO t p []))) := ⟨fun pins s σ H Q I h => wpAny_Dict_empty (d_newR W t I h)⟩
theorem own_new {K : PySem.W.Frag} {Z : AS} {H : Hp} {t : Bool} {p : Addr} : OwnAt K Z (upd H p (dO t p [])) p (.dic t []) := ⟨[], upd_same, .nil⟩
theorem sF_dct0 (W : WdX X) (t : Bool) : PE X (.Dict [] [] pos) (tF g (.dct t [] [])) := by
  refine pe_weak (pe_dct0 W t) fun σ H Q h p hp => ?_
  obtain ⟨ρ, hρ, h⟩ := h
  simp only [evE, evEs, ownL, List.any_nil, Bool.or_self, Bool.false_eq_true, if_false, Out.bind_ok, zipPut] at h
  exact h p _ (Ex.new hp) hp fun Z _ _ => own_new
/-- what the display of one pair reads -/
def tDct1 (K : PySem.W.Frag) (ik iv : TE) : TE := fun σ H Q => ∀ p, H p = none → ik σ (upd H p (dO true p [])) fun x H1 => iv σ H1 fun y H2 => ∃ kd, keyB true kd = true ∧ Rp K AS.none H2 x kd ∧ H2 p = some (dO true p []) ∧ Q (.ref p) (upd H2 p (dO true p [(nk kd, x, y)]))
theorem pe_dct1 (W : WdX X) (hu : X.A.units + 66 < cLine) {tk tv : TE} (hk : PE X k tk) (hv : PE X v tv) : PE X (.Dict [some k] [v] pos) (tDct1 X.K tk tv) := by
  refine ⟨fun pins s σ H Q I h => ?_⟩
  obtain ⟨I1, hp⟩ := d_newI W true I
  have h := h _ hp
  have hshape : (evalEachOpt [some k] X.env).zip ((evalEach [v] X.env).map fun v => do let x ← v; standAt pos; pure x) = [(eval k X.env, do let x ← eval v X.env; standAt pos; pure x)].map fun p => (some p.1, p.2) := rfl
  have hroom : (nestedKind X.prog X.w).room X.A := by show X.A.units + 8 < cLine; omega
  rw [arm_eval_Dict, hshape, dictDisplay_pairs _ (by simp) (by simp)]
  refine wpAny_bind (wpAny_standAt (wpAny_bind (wpAny_subDictH (knd := nestedKind X.prog X.w) (Q := fun d s' => wpAny (model X.prog X.w) X.A (pure (Value.ref d)) (EP X pins σ Q) X.xe s') hroom (by simp) ?_)))
  refine evalPairs_cons (thn (hk.run pins _ σ _ _ I1 h) fun u s1 ⟨x, H1, I2, rx, q1⟩ => wpAny_bind (wpAny_mono (hv.run pins s1 σ H1 _ I2 q1) (fun w2 s2 ⟨y, H2, I3, ry, kd, kb, rk, hp2, q2⟩ => wpAny_bind (wpAny_standAt (wpAny_pure (evalPairs_nil ?_)))) fun _ _ e => e))
  obtain ⟨b, rfl, hb⟩ := key_at I3 rk kb
  cases rx
  obtain ⟨z, hd, xs, ex, hm⟩ := dx_at W I3 hp2 (RpE.nil (K := X.K) (Z := AS.none))
  cases ex
  refine ⟨[(nk kd, b, w2)], ⟨rfl, rfl, hb, trivial⟩, hm, fun h' tk hm' hs => wpAny_pure ?_⟩
  have hst : storedAllH [] [(nk kd, b, w2)] = [(nk kd, b, w2)] := by simp [storedAllH, storedH, atKey]
  rw [hst] at hm'
  obtain ⟨o, des, ep, h1, h2, h3, h4, _, h5⟩ := hm'
  have ex2 : EnX [(nk kd, V.ref b, y)] [(nk kd, b, w2)] := .cons ⟨rfl, rfl, ry⟩ .nil
  have I4 := d_write (t' := tk) (ob := dO true s.heap.objs.size [(nk kd, V.ref b, y)]) I3 (by rw [hp2]; exact True.intro) hs ⟨o, h1⟩ ⟨⟨by rw [sizeLine_eq]; simp, hd, _, ex2, o, des, ep, h1, h2, h3, by rw [W.P, W.w]; exact h4, h5⟩, ⟨o, h1⟩, by
    rintro g1 g2 ⟨z, hd, xs, ex, o, des, ep, g1, g2⟩ hk
    exact ⟨z, hd, xs, ex, o, des, ep, hk _ g1, g2⟩⟩
  exact ⟨.ref _, _, I4, rfl, q2⟩
theorem dom_new {Z : AS} {H : Hp} {p : Addr} {t : Bool} (d : Dom Z H) (hp : H p = none) : Dom (fun a => Z a ∨ a = p) (upd H p (dO t p [])) := fun a ha => by
  rcases ha with ha | rfl
  · exact (d.ex (Ex.new hp)) a ha
  · exact ⟨_, upd_same, dO_cell _ _ _⟩
theorem sF_dct1 (W : WdX X) (hu : X.A.units + 66 < cLine) (hK : g.K = X.K) (hk : PE X k (tE g ik)) (hv : PE X v (tE g iv)) : PE X (.Dict [some k] [v] pos) (tF g (.dct true [ik] [iv])) := by
  refine pe_weak (pe_dct1 W hu hk hv) fun σ H Q h p hp => ?_
  obtain ⟨ρ, hρ, h⟩ := h
  simp only [evE, evEs, ownL, List.any_cons, List.any_nil, Bool.or_false] at h
  split at h
  · exact h.elim
  rename_i ho
  simp only [Bool.or_eq_true, not_or, Bool.not_eq_true] at ho
  have ex0 : Ex H (upd H p (dO true p [])) := Ex.new hp
  have h : Post g σ H (evE g.call ik ρ) fun kd => Post g σ H (evE g.call iv ρ) fun vd => Post g σ H (zipPut true [kd] [vd] []) fun kvs => ∀ p H', Ex H H' → H p = none → (∀ Z, Dom Z H → EnvR g.K Z H σ ρ → OwnAt g.K (fun a => Z a ∨ a = p) H' p (.dic true kvs)) → Q (.ref p) H' := by
    cases e1 : evE g.call ik ρ with
    | ok kd =>
      rw [e1] at h
      cases e2 : evE g.call iv ρ with
      | ok vd =>
        rw [e2] at h
        simp only [Out.bind_ok] at h
        cases e3 : zipPut true [kd] [vd] [] with
        | ok kvs => rw [e3] at h; show Post g σ H (zipPut true [kd] [vd] []) _; rw [e3]; exact h
        | exc c fs => rw [e3] at h; show Post g σ H (zipPut true [kd] [vd] []) _; rw [e3]; exact h
        | bad => rw [e3] at h; exact h.elim
      | exc c fs => rw [e2] at h; exact h
      | bad => rw [e2] at h; exact h
    | exc c fs => rw [e1] at h; exact h
    | bad => rw [e1] at h; exact h
  refine sub_e (hρ.ex ex0) (h.ex ex0) fun kd x H1 p1 e1 ρ1 r1 => sub_e ρ1 (p1.ex (ex0.trans e1)) fun vd y H2 p2 e2 ρ2 r2 => ?_
  simp only [zipPut] at p2
  split at p2
  case isFalse => exact p2.elim
  rename_i kb
  have envZ : ∀ Z, Dom Z H → EnvR g.K Z H σ ρ → EnvR g.K (fun a => Z a ∨ a = p) (upd H p (dO true p [])) σ ρ := fun Z dz hz => (hz.avoid (Y := fun a => a = p) fun a ha => by rw [ha]; exact hp).ex ex0
  have kZ : ∀ Z, Dom Z H → EnvR g.K Z H σ ρ → Rp g.K (fun a => Z a ∨ a = p) H2 x kd := fun Z dz hz => (rpm_f (r1 _ (dom_new dz hp) (envZ Z dz hz)) ho.1).ex e2
  have vZ : ∀ Z, Dom Z H → EnvR g.K Z H σ ρ → Rp g.K (fun a => Z a ∨ a = p) H2 y vd := fun Z dz hz => rpm_f (r2 _ ((dom_new dz hp).ex e1) ((envZ Z dz hz).ex e1)) ho.2
  have hp2 : H2 p = some (dO true p []) := e2.k (e1.k upd_same rfl) rfl
  refine ⟨kd, kb, by rw [← hK]; exact (kZ _ Dom.no hρ).sub fun a z => z.elim, hp2, ?_⟩
  have hc : ∃ u, H2 p = some u ∧ Cell u := ⟨_, hp2, dO_cell _ _ _⟩
  refine p2 p _ (((ex0.trans e1).trans e2).mut hp ⟨_, hp2, NC.dO _ _ _⟩) hp fun Z dz hz => ⟨_, upd_same, .cons kb ((kZ Z dz hz).upd (.inr rfl) hc) ((vZ Z dz hz).upd (.inr rfl) hc) .nil⟩
theorem sE_dct0 (W : WdX X) (t : Bool) : PE X (.Dict [] [] pos) (tE g (.dct t [] [])) := pe_weak (sF_dct0 W t) fun σ H Q h => tF_tE (fun _ => rfl) h
theorem sE_dct1 (W : WdX X) (hu : X.A.units + 66 < cLine) (hK : g.K = X.K) (hk : PE X k (tE g ik)) (hv : PE X v (tE g iv)) : PE X (.Dict [some k] [v] pos) (tE g (.dct true [ik] [iv])) := pe_weak (sF_dct1 W hu hK hk hv) fun σ H Q h => tF_tE (fun _ => rfl) h
end
/-! ### d.get(k, x) -/
section
variable {X : Cx} {g : Gx} {w : Nat} {o e f : Expr} {io ie if_ : E} {pos apos : Pos}
/-- a method of a dict -/
def tDM (K : PySem.W.Frag) (r : V → List V → Hp → VK → Prop) (to : TE) (t : TA) : TE := fun σ H Q => to σ H fun x H1 => (∃ a tb es kvs, x = .ref a ∧ H1 a = some (dO tb a es) ∧ RpE K AS.none H1 tb es kvs) ∧ t σ H1 fun xs H2 => r x xs H2 Q
theorem pe_dm (W : WdX X) {name : Str} {id : String} {r : V → List V → Hp → VK → Prop} {to : TE} {t : TA} {es : List Expr} (slot : Slot "dict" name id) (hty : typeOf (.builtin id) = pure (.type "method_descriptor")) (hm : MtR X id r) (ho : PE X o to) (ha : PA X (e :: es) t)
    (hbase : attributeBase o name X.env (eval o X.env) = eval o X.env)
    (hfew : ((backTo pos (starEach (e :: es) X.env)).all (fun x => !x.1) && (backToKw pos (keywordEach [] X.env)).all (fun x => x.1.isSome)
      && decide ((e :: es).length + ([] : List Keyword).length + (if ([] : List Keyword).isEmpty then 0 else 1) < 30)) = true)
    (hline : (apos.endLine == pos.line) = true) (hs : starEach (e :: es) X.env = (false, eval e X.env) :: starEach es X.env) (hplain : (backTo pos (starEach es X.env)).any (·.1) = false) :
    PE X (.Call (.Attribute o name apos) (e :: es) [] pos) (tDM X.K r to t) := by
  refine ⟨fun pins s σ H Q I h => ?_⟩
  refine wpAny_Call_method_late hbase hfew hline rfl (thn (ho.run pins s σ H _ I h) fun v s1 ⟨x, H1, I1, r1, ⟨a, tb, des, kvs, hx, ha', re⟩, q1⟩ => ?_)
  subst hx
  cases r1
  have key : s1.TypeIs (.ref a) "dict" ∧ ∀ b, Value.ref a = .ref b → ∃ ob, s1.heap.get? b = some ob ∧ ob.dict = none := by
    cases tb with
    | true =>
      obtain ⟨z, hd, xs, ex, hm⟩ := dx_at W I1 ha' re
      refine ⟨hm.typeIs, fun b q => ?_⟩
      cases q
      obtain ⟨ob, _, _, h1, h2, _⟩ := hm
      exact ⟨ob, h1, h2.2.1⟩
    | false =>
      have e : H1 a = some (.dK (des.map fun e => (toK e.1, e.2.2))) := ha'
      obtain ⟨z, hd, vs, rel, dd⟩ := dk_rd I1.hok (.inl e)
      refine ⟨dd.typeIs, fun b q => ?_⟩
      cases q
      obtain ⟨ob, _, _, h1, h2, _⟩ := dd
      exact ⟨ob, h1, h2.2.1⟩
  refine ⟨"dict", id, PySem.F.plainAttrs_dict, slot, hty, key.1, key.2, ?_⟩
  have hA := ha.run pos pins s1 σ H1 _ I1 q1
  rw [hs] at hA ⊢
  refine Calls.callWith_builtin (by show (false || (backTo pos (starEach es X.env)).any (·.1)) = false; rw [hplain] <;> rfl) (Calls.evalArgs_plain ?_)
  exact thn hA fun us s2 ⟨vs, H2, I2, r2, q2⟩ => hm pins s2 σ H2 (.ref a) vs _ us Q I2 rfl r2 q2
/-- a dict's entries are told once -/
def UqD (K : PySem.W.Frag) (H : Hp) : Prop := ∀ (a : Addr) (t : Bool) (es es' : List En) (kvs kvs' : List (D × D)) (Z Z' : AS), H a = some (dO t a es) → H a = some (dO t a es') → RpE K Z H t es kvs → RpE K Z' H t es' kvs' → es = es'
def rDget (K : PySem.W.Frag) : V → List V → Hp → VK → Prop := fun x xs H Q => ∃ a t es kvs k y z, x = .ref a ∧ xs = [y, z] ∧ H a = some (dO t a es) ∧ RpE K AS.none H t es kvs ∧ Rp K AS.none H y k ∧ keyB t k = true ∧ (UqD K H → Q ((egetE es (nk k)).getD z) H)
theorem mt_dget (W : WdX X) (hu : X.A.units + 66 < cLine) : MtR X "dict.get" (rDget X.K) := by
  intro pins s σ H x xs v us Q I rx rxs h
  obtain ⟨a, t, es, kvs, k, y, z, rfl, rfl, ha, re, rk, kb, q⟩ := h
  cases rx
  obtain ⟨u1, u2, rfl, r1, r2⟩ := vals2 rxs
  exact d_getOrR W hu I ha re rk r1 kb r2 (q fun a t es es' kvs kvs' Z Z' h1 h2 r1 r2 => dic_inj W I h1 h2 r1 r2)
theorem txsD_ne : ∀ (xs : List D) (c : Nat) (fs : List D), txsD xs ≠ .exc c fs
  | [], c, fs => by simp [txsD]
  | x :: xs, c, fs => by
    have ih := txsD_ne xs
    cases x <;> simp only [txsD] <;> first | exact map_ne ih c fs | simp
theorem meD_ne (m : Me) (x : D) (ds : List D) (c : Nat) (fs : List D) : meD m x ds ≠ .exc c fs := by
  cases m with
  | get => simp only [meD]; (repeat' split) <;> simp
  | join =>
    simp only [meD]
    split
    · rename_i s xs
      cases h : txsD xs with
      | ok ts => simp only [Out.bind_ok]; split <;> simp
      | exc c' fs' => exact (txsD_ne _ _ _ h).elim
      | bad => simp
    · simp
  | _ => simp [meD]
/-- texts by their data -/
theorem txsD_rp {K : PySem.W.Frag} {Z : AS} {H : Hp} : ∀ {xs : List D} {ts : List Tx} {vs : List V}, txsD xs = .ok ts → RpL K Z H vs xs → vs = (ts.map mkS).map V.str ∧ ∀ t ∈ ts, okTx t
  | [], ts, vs, h, r => by
    cases h; cases r
    exact ⟨rfl, fun t ht => by cases ht⟩
  | x :: xs, ts, vs, h, r => by
    cases r with
    | cons r1 r2 =>
      cases x <;> simp only [txsD] at h <;> try cases h
      rename_i s
      cases e : txsD xs with
      | ok us =>
        rw [e] at h
        cases h
        obtain ⟨i1, i2⟩ := txsD_rp e r2
        cases r1 with
        | str _ ok =>
          subst i1
          exact ⟨rfl, fun t ht => by
            rcases List.mem_cons.mp ht with rfl | ht
            · exact ok
            · exact i2 t ht⟩
      | exc c fs => rw [e] at h; cases h
      | bad => rw [e] at h; cases h
theorem mkS_two (s t : Tx) : mkS s ++ mkS t = mkS (s ++ t) := by
  show Str.append _ _ = _
  simp [mkS, Str.append]
theorem mkS_join (a : Tx) : ∀ ts : List Tx, Txt.join (mkS a) (ts.map mkS) = mkS (joinT a ts)
  | [] => by rw [TL.join_eq]; rfl
  | [t] => by rw [TL.join_eq]; rfl
  | t :: u :: r => by
    have ih := mkS_join a (u :: r)
    rw [TL.join_eq] at ih ⊢
    show mkS t ++ mkS a ++ Str.join (mkS a) ((u :: r).map mkS) = mkS (t ++ (a ++ joinT a (u :: r)))
    rw [ih, mkS_two, mkS_two, List.append_assoc]
theorem joinT_ok {a : Tx} (ha : okTx a) : ∀ {ts : List Tx}, (∀ t ∈ ts, okTx t) → (ts.map (·.length)).sum + ts.length * a.length ≤ SZ → okTx (joinT a ts)
  | [], _, _ => ⟨fun c hc => (List.not_mem_nil hc).elim, Nat.zero_le _⟩
  | [t], h, _ => h t List.mem_cons_self
  | t :: u :: r, h, hz => by
    have ih := joinT_ok ha (ts := u :: r) (fun w hw => h w (List.mem_cons_of_mem _ hw)) (by
      simp only [List.map_cons, List.sum_cons, List.length_cons, Nat.add_mul, Nat.one_mul] at hz ⊢; omega)
    have hl : ∀ ts : List Tx, (joinT a ts).length ≤ (ts.map (·.length)).sum + ts.length * a.length := by
      intro ts
      induction ts with
      | nil => simp [joinT]
      | cons x xs ih =>
        cases xs with
        | nil => simp [joinT]
        | cons y ys =>
          have : joinT a (x :: y :: ys) = x ++ (a ++ joinT a (y :: ys)) := rfl
          rw [this]
          simp only [List.length_append, List.map_cons, List.sum_cons, List.length_cons, Nat.add_mul, Nat.one_mul] at ih ⊢
          omega
    have := hl (t :: u :: r)
    refine ⟨fun c hc => ?_, by omega⟩
    rcases List.mem_append.mp hc with hc | hc
    · exact (h t List.mem_cons_self).1 c hc
    · rcases List.mem_append.mp hc with hc | hc
      · exact ha.1 c hc
      · exact ih.1 c hc
theorem rpml_two {K : PySem.W.Frag} {Z : AS} {H : Hp} {vs : List V} {d e : D} (h : RpL K Z H vs [d, e]) : ∃ v w, vs = [v, w] ∧ Rp K Z H v d ∧ Rp K Z H w e := by
  cases h with
  | cons r t => cases t with
    | cons r2 t => cases t; exact ⟨_, _, rfl, r, r2⟩
theorem sE_get (W : WdX X) (hu : X.A.units + 66 < cLine) (hK : g.K = X.K) (ho : PE X o (tE g io)) (ha : PA X [e, f] (tEs g [ie, if_])) (hbase : attributeBase o "get" X.env (eval o X.env) = eval o X.env)
    (hfew : ((backTo pos (starEach [e, f] X.env)).all (fun x => !x.1) && (backToKw pos (keywordEach [] X.env)).all (fun x => x.1.isSome)
      && decide (([e, f] : List Expr).length + ([] : List Keyword).length + (if ([] : List Keyword).isEmpty then 0 else 1) < 30)) = true)
    (hline : (apos.endLine == pos.line) = true) (hs : starEach [e, f] X.env = (false, eval e X.env) :: starEach [f] X.env) (hplain : (backTo pos (starEach [f] X.env)).any (·.1) = false) :
    PE X (.Call (.Attribute o "get" apos) [e, f] [] pos) (tE g (.me .get io [ie, if_])) := by
  refine pe_weak (pe_dm W PySem.F.slot_dict_get PySem.F.type_dict_get (mt_dget W hu) ho ha hbase hfew hline hs hplain) fun σ H Q h => ?_
  obtain ⟨ρ, hρ, h⟩ := h
  simp only [evE] at h
  split at h
  · exact h.elim
  rename_i hown
  simp only [Bool.not_eq_true] at hown
  refine sub_e hρ h.bind fun x v H1 p e1 ρ1 r1 => ?_
  split at p
  case isFalse => exact p.elim
  rename_i hdk
  obtain ⟨t, kvs, rfl⟩ : ∃ t kvs, x = .dic t kvs := by
    cases x <;> first | exact ⟨_, _, rfl⟩ | cases hdk
  have p1 := p.bind
  obtain ⟨a, es, rfl, ha', re⟩ := (r1 _ Dom.no hρ).c.dicE
  rw [← hK]
  refine ⟨⟨a, t, es, kvs, rfl, ha', re⟩, ?_⟩
  refine sub_es ρ1 (post_self (p1.ex e1)) fun ds vs H2 p2 e2 ρ2 r2 => ?_
  have hl := evEs_len p2.1
  match ds, hl with
  | [kd, zd], _ =>
    have p2 := p2.2
    simp only [meD] at p2
    split at p2
    case isFalse => exact p2.elim
    rename_i kb
    obtain ⟨y, z, rfl, ry, rz⟩ := rpml_two (rpml_f (r2 _ Dom.no ρ1) hown)
    have re2 := re.ex e2
    have ha2 := e2.k ha' (dO_tb t a es)
    have fin : ∀ (v : V), (∀ Z, Dom Z H → EnvR g.K Z H σ ρ → Rp g.K Z H2 v ((dgetD kvs kd).getD zd)) → Q v H2 := fun v hv => p2 v H2 (e1.trans e2) fun Z dz hz => hv Z dz hz
    refine ⟨a, t, es, kvs, kd, y, z, rfl, rfl, ha2, re2, ry, kb, fun uq => fin _ fun Z dz hz => ?_⟩
    obtain ⟨a', es', e', ha3, re3⟩ := (r1 Z dz hz).c.dicE
    cases e'
    obtain ⟨y', z', e', ry', rz'⟩ := rpml_two (rpml_f (r2 Z (dz.ex e1) (hz.ex e1)) hown)
    cases e'
    have es_eq : es' = es := by
      rw [hK] at re2 re3 uq
      exact uq a t es' es kvs kvs Z AS.none (e2.k ha3 (dO_tb _ _ _)) ha2 (re3.ex e2) re2
    subst es_eq
    obtain ⟨g1, g2⟩ := (re3.ex e2).get kb
    cases hg : dgetD kvs kd with
    | none => rw [g2 hg]; exact rz'
    | some d0 =>
      obtain ⟨v0, h1, h2⟩ := g1 d0 hg
      rw [h1]; exact h2
theorem sE_join (W : WdX X) (hK : g.K = X.K) (ho : PE X o (tE g io)) (he : PE X e (tE g ie)) (hs : starEach [e] X.env = [(false, eval e X.env)]) (hbase : attributeBase o "join" X.env (eval o X.env) = eval o X.env) (hline : (apos.endLine == pos.line) = true) :
    PE X (.Call (.Attribute o "join" apos) [e] [] pos) (tE g (.me .join io [ie])) := by
  refine pe_weak (pe_join ho he hs hbase hline) fun σ H Q h => ?_
  obtain ⟨ρ, hρ, h⟩ := h
  simp only [evE] at h
  split at h
  · exact h.elim
  rename_i hown
  refine sub_e hρ h.bind fun x v H1 p e1 ρ1 r1 => ?_
  split at p
  case isFalse => exact p.elim
  rename_i hdk
  obtain ⟨s, rfl⟩ : ∃ s, x = .str s := by
    cases x <;> first | exact ⟨_, rfl⟩ | cases hdk
  obtain ⟨rfl, hs'⟩ := (r1 _ Dom.no hρ).c.strE
  refine ⟨⟨_, rfl⟩, ?_⟩
  have ev1 : evEs g.call [ie] ρ = (evE g.call ie ρ).map fun x => [x] := by
    simp only [evEs]
    cases evE g.call ie ρ <;> rfl
  rw [ev1] at p
  have p1 := post_map p.bind
  refine sub_e ρ1 (p1.ex e1) fun y w H2 p2 e2 ρ2 r2 => ?_
  simp only [meD] at p2
  split at p2
  case h_2 => exact p2.elim
  rename_i s' xs he1 he2
  cases he1
  cases he2
  cases ht : txsD xs with
  | exc c fs => exact (txsD_ne _ _ _ ht).elim
  | bad => rw [ht] at p2; exact p2.elim
  | ok ts =>
    rw [ht] at p2
    simp only [Out.bind_ok] at p2
    split at p2
    case isFalse => exact p2.elim
    rename_i hz
    obtain ⟨a, vs, rfl, hq, rl⟩ := (r2 _ Dom.no ρ1).c.lstE
    obtain ⟨rfl, hok⟩ := txsD_rp ht rl
    rw [hK] at hq
    refine ⟨mkS s, a, ts.map mkS, rfl, rfl, .inl hq, ?_, ?_⟩
    · have e3 : ((ts.map mkS).map (·.length)) = ts.map (·.length) := by
        rw [List.map_map]; exact List.map_congr_left fun t _ => mkS_len t
      rw [e3, List.length_map, mkS_len]
      exact Nat.le_trans hz (by decide)
    · rw [mkS_join]
      exact p2 _ H2 (e1.trans e2) fun Z dz hz' => .str _ (joinT_ok hs' hok hz)
end
end Rf

/-! part RfSound5 -/
set_option autoImplicit false
set_option linter.all false
set_option Elab.async false
set_option maxRecDepth 100000
set_option maxHeartbeats 2000000
/-! RfSound5: items stored, objects of the text's class. -/
namespace Rf
open PySem PySem.Spec PyProof.Rows L2
variable [Wd]
/-- the object of an own slot is changed -/
theorem StOk.mod {K : PySem.W.Frag} {F : AS → Prop} {He H H' : Hp} {σ : L2.St} {ρ : Env} {i : Nat} {d0 d1 : D} {a : Addr} {o : HO} (h : StOk K F He H σ ρ) (e : Ex H H') (hi : ρ[i]? = some (.own d0)) (ha : σ[i]? = some (some (.ref a)))
    (r : ∀ Z, F Z → OwnAt K (Un Z (OwnA σ ρ)) (upd H' a o) a d1) : StOk K F He (upd H' a o) σ (ρ.set i (.own d1)) := by
  have il : i < ρ.length := (List.getElem?_eq_some_iff.mp hi).1
  have g : ∀ (m : Nat) (s : Sl), (ρ.set i (.own d1))[m]? = some s → (i = m ∧ s = .own d1) ∨ (i ≠ m ∧ ρ[m]? = some s) := fun m s q => by
    by_cases e : i = m
    · subst e
      rw [List.getElem?_set_self il] at q; cases q; exact .inl ⟨rfl, rfl⟩
    · rw [List.getElem?_set_ne e] at q
      exact .inr ⟨e, q⟩
  have ow : ∀ b, OwnA σ (ρ.set i (.own d1)) b → OwnA σ ρ b := fun b ⟨j, d', h1, h2⟩ => by
    rcases g j _ h1 with ⟨e, _⟩ | ⟨n, q⟩
    · subst e; exact ⟨i, _, hi, h2⟩
    · exact ⟨j, d', q, h2⟩
  have oa : OwnA σ ρ a := ⟨i, _, hi, ha⟩
  obtain ⟨u0, hu0, hcu⟩ := h.own oa
  have hc : ∃ u, H' a = some u ∧ Cell u := ⟨_, e.k hu0 hcu.tb, hcu⟩
  have hnc : ∃ u, H' a = some u ∧ NC u := by
    obtain ⟨b, h3, h4⟩ := h.env0.at_ i _ hi
    rw [ha] at h3; cases h3
    exact (h4.ex e).nc
  refine ⟨Ex.mut (h.ex.trans e) (h.new a oa) hnc, fun b hb => h.new b (ow b hb), fun j k b d1' d2 h1 h2 h3 h4 => ?_, h.z0, h.zd, fun Z hz => ?_⟩
  · rcases g j _ h1 with ⟨e1, _⟩ | ⟨n1, q1⟩ <;> rcases g k _ h2 with ⟨e2, _⟩ | ⟨n2, q2⟩
    · rw [← e1, ← e2]
    · subst e1; exact h.dist i k b _ _ hi q2 h3 h4
    · subst e2; exact h.dist j i b _ _ q1 hi h3 h4
    · exact h.dist j k b _ _ q1 q2 h3 h4
  · have ev := (h.env Z hz).ex e
    have sub : ∀ b, Un Z (OwnA σ (ρ.set i (.own d1))) b → Un Z (OwnA σ ρ) b := fun b hb => hb.elim .inl fun o => .inr (ow b o)
    refine ⟨by simpa using ev.len, fun j s q => ?_, (let ⟨u, n1, n2⟩ := hnc; tabs_upd n1 n2 ev.tab)⟩
    rcases g j _ q with ⟨e1, e2⟩ | ⟨n, q⟩
    · subst e1; subst e2
      exact ⟨a, ha, (r Z hz).sub sub⟩
    · have old := ev.at_ j s q
      cases s with
      | no => trivial
      | val d' =>
        obtain ⟨v', h1, h2⟩ := old
        exact ⟨v', h1, (h2.upd (.inr oa) hc).sub sub⟩
      | own d' =>
        obtain ⟨b, h1, h2⟩ := old
        have hne : b ≠ a := fun e => by
          subst e
          exact n (h.dist i j b _ _ hi q ha h1)
        refine ⟨b, h1, ?_⟩
        cases d' with
        | lst es =>
          obtain ⟨ws, w1, w2⟩ := h2
          exact ⟨ws, by rw [upd_ne hne]; exact w1, (w2.upd (.inr oa) hc).sub sub⟩
        | dic t es =>
          obtain ⟨ws, w1, w2⟩ := h2
          exact ⟨ws, by rw [upd_ne hne]; exact w1, (w2.upd (.inr oa) hc).sub sub⟩
        | _ => exact h2.elim
/-- x[k] = v, by values -/
def rPut (K : PySem.W.Frag) : V → V → V → Hp → (Hp → Prop) → Prop := fun x y v H R => (∃ a t es kvs k, x = .ref a ∧ H a = some (dO t a es) ∧ RpE K AS.none H t es kvs ∧ Rp K AS.none H y k ∧ keyB t k = true ∧ es.length < sizeLine ∧ (UqD K H → R (upd H a (dO t a (eputE es (nk k) y v))))) ∨
  (∃ a xs k j, x = .ref a ∧ y = .int k ∧ H a = some (.lst xs) ∧ L2.ixN xs.length k = some j ∧ R (upd H a (.lst (xs.set j v))))
section
variable {X : Cx} {g : Gx} {w : Nat} {o i value : Expr} {io ii iv : E} {td ty tv : TE} {pos pos' : Pos}
theorem ps_putR (W : WdX X) (hu : X.A.units + 66 < cLine) (ho : PE X o td) (hi : PE X i ty) (hv : PE X value tv) (hs : swapsWith value (some (.Subscript o i pos')) pos.line X.env = pure false) :
    PS X (.Assign [.Subscript o i pos'] value pos) (fun D σ H => tv σ H fun v H1 => td σ H1 fun x H2 => ty σ H2 fun y H3 => rPut X.K x y v H3 (D.nx σ)) := by
  refine ⟨fun pins s σ H D I h => ?_⟩
  refine wpAny_Assign_Subscript (thn (hv.run pins s σ H _ I h) fun r s1 ⟨v, H1, I1, rv, q1⟩ => thn (ho.run pins s1 σ H1 _ I1 q1) fun u s2 ⟨x, H2, I2, rx, q2⟩ => thn (hi.run pins s2 σ H2 _ I2 q2) fun iv s3 ⟨y, H3, I3, ry, q3⟩ => ?_) hs
  rcases q3 with ⟨a, t, es, kvs, k, rfl, ha, re, rk, kb, hl, q⟩ | ⟨a, xs, k, j, rfl, rfl, ha, hj, q⟩
  · cases rx
    exact d_setR W hu I3 ha re rk ry kb hl rv fun s4 I4 => ⟨σ, _, I4, q fun a t es es' kvs kvs' Z Z' h1 h2 r1 r2 => dic_inj W I3 h1 h2 r1 r2⟩
  · exact wpAny_mono (set_list pins s3 σ H3 (.ref a) (.int k) v _ iv r (D.nx σ) I3 rx ry rv ⟨a, xs, k, j, rfl, rfl, ha, hj, q⟩) (fun _ s4 ⟨H4, I4, q4⟩ => ⟨σ, H4, I4, q4⟩) fun _ _ z => z
theorem eput_own {K : PySem.W.Frag} {Z : AS} {H : Hp} {t : Bool} {a : Addr} {es : List En} {kvs : List (D × D)} {k d : D} {y v : V} (hz : Z a) (hc : ∃ u, H a = some u ∧ Cell u) (r : RpE K Z H t es kvs) (kb : keyB t k = true) (hk : Rp K Z H y k) (hv : Rp K Z H v d) :
    OwnAt K Z (upd H a (dO t a (eputE es (nk k) y v))) a (.dic t (dputD kvs k d)) := ⟨_, upd_same, RpE.put kb (hk.upd hz hc) (hv.upd hz hc) (r.upd hz hc)⟩
theorem RpL.set {K : PySem.W.Frag} {Z : AS} {H : Hp} {v : V} {d : D} (h : Rp K Z H v d) : ∀ {ds : List D} {vs : List V} (n : Nat), RpL K Z H vs ds → RpL K Z H (vs.set n v) (ds.set n d)
  | _, _, _, .nil => .nil
  | _, _, 0, .cons r t => .cons h t
  | _, _, n + 1, .cons r t => .cons r (RpL.set h n t)
theorem sS_put {j : Nat} {x : Str} {p : Pos} (W : WdX X) (hu : X.A.units + 66 < cLine) (hK : g.K = X.K) (hN : X.N[j]? = some x) (hvs : Vis X.env.scope x) (hd : (x == ("__debug__" : Str)) = false) (hcd : (x == ("__classdict__" : Str)) = false) (hi : PE X i (tE g ii)) (hv : PE X value (tE g iv))
    (hs : swapsWith value (some (.Subscript (.Name x p) i pos')) pos.line X.env = pure false) : PS X (.Assign [.Subscript (.Name x p) i pos'] value pos) (tS g w (.put j ii iv)) := by
  refine ps_weak (ps_putR W hu (pe_var (pos := p) hN hvs hd hcd) hi hv hs) fun D σ H h => ?_
  obtain ⟨ρ, He, F, ok, h⟩ := h
  simp only [evS] at h
  split at h
  · exact h.elim
  rename_i hown
  simp only [Bool.or_eq_true, not_or, Bool.not_eq_true] at hown
  refine ⟨ρ, ok.env0, (fl_post ok h).mp fun d p v H1 e1 rv => ?_⟩
  have ok1 := ok.mono e1
  split at p
  · rename_i t kvs hj
    obtain ⟨a, ha, es, hes, re⟩ := ok1.env0.at_ j _ hj
    refine ⟨_, ha, ρ, ok1.env0, (fl_post ok1 p).mp fun kd p2 y H2 e2 rk => ?_⟩
    split at p2
    case isFalse => exact p2.elim
    rename_i hkb
    simp only [Bool.and_eq_true, decide_eq_true_eq] at hkb
    have hes2 := e2.k hes (dO_tb t a es)
    have re2 := re.ex e2
    have rk0 := rpm_f (rk _ Dom.no ok1.env0) hown.1
    have hl : es.length < sizeLine := by have := SZ_line; rw [re.length]; omega
    rw [hK] at re2 rk0
    refine .inl ⟨a, t, es, kvs, kd, rfl, hes2, re2, rk0, hkb.1, hl, fun uq => ?_⟩
    refine p2 σ _ (ok1.mod e2 hj ha fun Z hz => ?_)
    have dz := ok1.dom hz
    have hz1 := ok1.env Z hz
    obtain ⟨a', ha', es', hes', re'⟩ := hz1.at_ j _ hj
    rw [ha] at ha'; cases ha'
    have oa : OwnA σ ρ a := ⟨j, _, hj, ha⟩
    have re3 := re'.ex e2
    have hes3 := e2.k hes' (dO_tb t a es')
    have ee : es' = es := by
      rw [hK] at re3
      exact uq a t es' es kvs kvs _ AS.none hes3 hes2 re3 re2
    subst ee
    have rkZ := rpm_f (rk _ dz hz1) hown.1
    have rvZ := (rpm_f (rv _ (ok.dom hz) (ok.env Z hz)) hown.2).ex e2
    exact eput_own (.inr oa) ⟨_, hes2, dO_cell _ _ _⟩ re3 hkb.1 rkZ rvZ
  · rename_i xs hj
    obtain ⟨a, ha, vs, hvs, re⟩ := ok1.env0.at_ j _ hj
    refine ⟨_, ha, ρ, ok1.env0, (fl_post ok1 p).mp fun kd p2 y H2 e2 rk => ?_⟩
    cases kd with
    | int z =>
      simp only at p2
      split at p2
      case h_2 => exact p2.elim
      rename_i n hn
      have hvs2 := e2.k hvs rfl
      have rk0 := (rpm_f (rk _ Dom.no ok1.env0) hown.1).c.intE
      subst rk0
      refine .inr ⟨a, vs, z, n, rfl, rfl, hvs2, by rw [re.length]; exact hn, ?_⟩
      refine p2 σ _ (ok1.mod e2 hj ha fun Z hz => ?_)
      have dz := ok1.dom hz
      have hz1 := ok1.env Z hz
      obtain ⟨a', ha', vs', hvs', re'⟩ := hz1.at_ j _ hj
      rw [ha] at ha'; cases ha'
      rw [hvs] at hvs'; cases hvs'
      have oa : OwnA σ ρ a := ⟨j, _, hj, ha⟩
      have hc : ∃ u, H2 a = some u ∧ Cell u := ⟨_, hvs2, rfl⟩
      have rvZ := (rpm_f (rv _ (ok.dom hz) (ok.env Z hz)) hown.2).ex e2
      exact ⟨_, upd_same, RpL.set (rvZ.upd (.inr oa) hc) n ((re'.ex e2).upd (.inr oa) hc)⟩
    | _ => exact p2.elim
  · exact p.elim
end
/-! ### the class of sentences -/
/-- what the head tells of the class -/
structure ObjC (K : PySem.W.Frag) (C : Addr) : Prop where
  cl : L2.Cls K C
  n1 : NoAttr K C "given"
  n2 : NoAttr K C "claim"
  ha : PySem.W.findIn K (.ref C) "__class__" = some (some (.builtin "object.__class__"))
  hn : PySem.W.specialIn K (.builtin "object.__class__") "__get__" = some (some (.builtin "getset_descriptor.__get__"))
  ht : PySem.W.takesIn K (.builtin "object.__class__") = some true
  hm : PySem.W.mroIn K C (.type "object") = some true
  ki : PySem.W.kitOne K (.ref C) (.ref C) = some true
section
variable {X : Cx} {g : Gx} {w : Nat} {o : Expr} {io : E} {pos : Pos}
theorem zip_inj {α β : Type} : ∀ {ns : List α} {xs ys : List β}, xs.length = ns.length → ys.length = ns.length → ns.zip xs = ns.zip ys → xs = ys
  | [], xs, ys, h1, h2, _ => by
    cases xs with
    | nil => cases ys with
      | nil => rfl
      | cons => simp at h2
    | cons => simp at h1
  | n :: ns, xs, ys, h1, h2, h => by
    cases xs with
    | nil => simp at h1
    | cons x xs => cases ys with
      | nil => simp at h2
      | cons y ys =>
        simp only [List.zip_cons_cons, List.cons.injEq, Prod.mk.injEq, true_and] at h
        rw [h.1, zip_inj (by simpa using h1) (by simpa using h2) h.2]
theorem fld_at {vs : List V} (hl : vs.length = (fldN 8).length) {k : Nat} {f : Str} (hf : (fldN 8)[k]? = some f) {v : V} (hv : vs[k]? = some v) : ((fldN 8).zip vs).lookup f = some v := by
  match vs, hl with
  | [v1, v2], _ =>
    match k with
    | 0 => cases hf; cases hv; rfl
    | 1 => cases hf; cases hv; rfl
    | k + 2 => cases hv
theorem noat_of {K : PySem.W.Frag} {C : Addr} (O : ObjC K C) {k : Nat} {f : Str} (hf : (fldN 8)[k]? = some f) : NoAttr K C f := by
  match k with
  | 0 => cases hf; exact O.n1
  | 1 => cases hf; exact O.n2
  | k + 2 => cases hf
theorem sE_fld {k : Nat} {f : Str} (O : ObjC X.K (Wd.cA 8)) (hK : g.K = X.K) (ho : PE X o (tE g io)) (hf : (fldN 8)[k]? = some f) (hb : attributeBase o f X.env (eval o X.env) = eval o X.env) : PE X (.Attribute o f pos) (tE g (.fld io k)) := by
  refine pe_weak (pe_fld ho hb) fun σ H Q h => ?_
  obtain ⟨ρ, hρ, h⟩ := h
  simp only [evE] at h
  refine sub_e hρ h.bind fun x v H1 p e1 ρ1 r1 => ?_
  cases x with
  | obj c fs =>
    simp only at p
    split at p
    case isFalse => exact p.elim
    rename_i hc
    have hc := eq_of_beq hc
    subst hc
    obtain ⟨d, hd, p2⟩ := p.ok (fun c fs' => ofOpt_ne _ c fs')
    obtain ⟨a, dx, vs, rfl, ha, hl, rl⟩ := (r1 _ Dom.no hρ).c.objE
    have hk : fs[k]? = some d := by
      cases q : fs[k]? with
      | none => rw [q] at hd; cases hd
      | some y => rw [q] at hd; cases hd; rfl
    obtain ⟨u, hu, _⟩ := rl.get hk
    refine ⟨a, _, dx, _, u, rfl, ha, O.cl, noat_of O hf, fld_at hl hf hu, p2 u H1 e1 fun Z dz hz => ?_⟩
    obtain ⟨a', dx', vs', e', ha', hl', rl'⟩ := (r1 Z dz hz).c.objE
    cases e'
    rw [ha] at ha'
    have e2 := Option.some.inj ha'
    injection e2 with _ _ e3
    have := zip_inj hl hl' e3
    subst this
    obtain ⟨u', hu', ru⟩ := rl'.get hk
    rw [hu] at hu'; cases hu'
    exact ru
  | _ => exact p.elim
/-- isinstance(x, C), C the text's class -/
theorem sE_isO {a : Expr} {ia : E} {T : Str} {q1 q2 : Pos} (O : ObjC X.K (Wd.cA 8)) (hK : g.K = X.K) (ha : PE X a (tE g ia)) (hg : Gl X "isinstance") (hm : X.mg "isinstance" = none) (hT : Gl X T) (hmT : X.mg T = some (.ref (Wd.cA 8))) (hdT : (T == ("__debug__" : Str)) = false)
    (hs : starEach (a :: [.Name T q2]) X.env = (false, eval a X.env) :: starEach [.Name T q2] X.env) : PE X (.Call (.Name "isinstance" q1) [a, .Name T q2] [] pos) (tE g (.inst ia (.cls 8))) := by
  have hTy : PE X (.Name T q2) (tC (.ref (Wd.cA 8))) := pe_glob hT hmT rfl hdT
  have args : PA X [a, .Name T q2] (tCons (tE g ia) (tCons (tC (.ref (Wd.cA 8))) tNil)) := pa_cons ha (pa_cons hTy pa_nil) hs
  refine pe_weak (pe_callB call_isi hg hm (by decide +kernel) args (by decide) (by decide) hs rfl) fun σ H Q h => ?_
  obtain ⟨ρ, hρ, h⟩ := h
  simp only [evE] at h
  refine sub_e hρ h.bind fun x v H1 p e1 ρ1 r1 => ?_
  split at p
  case isFalse => exact p.elim
  rename_i ho
  cases x with
  | obj c fs =>
    have hc := eq_of_beq (show (c == 8) = true from ho)
    subst hc
    obtain ⟨a', dx, vs, rfl, ha', hl, rl⟩ := (r1 _ Dom.no hρ).c.objE
    exact ⟨_, _, _, _, true, rfl, .own _, .base (.ins ha' O.cl O.ha O.hn O.ht O.hm), O.ki, p _ H1 e1 fun Z _ _ => .bl _⟩
  | _ => cases ho
/-- what __init__ promises -/
def spInit (C : Addr) : Sp := fun vs H Q _ => ∃ x dx y z, vs = [.ref x, y, z] ∧ H x = some (.ins C dx []) ∧ Q .non (upd H x (.ins C dx [("given", y), ("claim", z)]))
theorem sE_mk {CX : CXT} {m : Nat} {C : Str} {f : Addr} {fd : FuncData} {ps : List Str} {a b : Expr} {ia ib : E} {q1 : Pos} (hK : g.K = X.K) (M : Mk X.K (Wd.cA 8) f) (F : FnOk X.prog X.w X.K X.mg X.base CX m f fd ps (spInit (Wd.cA 8))) (hr : Room (m + 1) X.A) (hg : Gl X C) (hm : X.mg C = some (.ref (Wd.cA 8))) (hb : Binds X.K fd ps [])
    (hx : Passes CX X fun _ _ _ => False) (ha : PA X [a, b] (tEs g [ia, ib])) (hdb : (C == ("__debug__" : Str)) = false) (he : starEach [a, b] X.env = (false, eval a X.env) :: starEach [b] X.env) (hpl : (backTo pos (starEach [b] X.env)).any (·.1) = false) :
    PE X (.Call (.Name C q1) [a, b] [] pos) (tE g (.mk 8 [ia, ib])) := by
  refine pe_weak (pe_make M F hr hg hm hb .nil hx ha hdb he hpl) fun σ H Q h => ?_
  obtain ⟨ρ, hρ, h⟩ := h
  simp only [evE] at h
  split at h
  · exact h.elim
  rename_i ho
  simp only [Bool.not_eq_true] at ho
  refine sub_es hρ (post_self h.bind) fun ds vs H1 p e1 ρ1 r1 x dx hx hdx hne => ?_
  have hl := evEs_len p.1
  match ds, hl with
  | [d1, d2], _ =>
    obtain ⟨y, z, rfl, ry, rz⟩ := rpml_two (rpml_f (r1 _ Dom.no hρ) ho)
    refine ⟨x, dx, y, z, rfl, upd_same, rfl, ?_⟩
    have hd2 : upd H1 dx (.own x) x = none := by rw [upd_ne (Ne.symm hne)]; exact hx
    have ex : Ex H1 (upd (upd (upd H1 dx (.own x)) x (.ins (Wd.cA 8) dx [])) x (.ins (Wd.cA 8) dx [("given", y), ("claim", z)])) := by
      rw [upd_upd]
      exact (Ex.new hdx).trans (Ex.new hd2)
    refine p.2 _ _ (e1.trans ex) fun Z dz hz => ?_
    exact .obj (vs := [y, z]) upd_same rfl ((rpml_f (r1 Z dz hz) ho).ex ex)
end
end Rf

/-! part RfCompile -/
set_option autoImplicit false
set_option linter.all false
set_option Elab.async false
set_option maxRecDepth 100000
set_option maxHeartbeats 2000000
/-! RfCompile: from the program's text to the small language; one theorem that it is right. -/
namespace Rf
open PySem L2
variable [Wd]

def ixOf : List Str → Str → Option Nat
  | [], _ => none
  | y :: ys, x => if y = x then some 0 else (ixOf ys x).map (· + 1)
theorem ixOf_ok : ∀ {N : List Str} {x : Str} {i : Nat}, ixOf N x = some i → N[i]? = some x
  | y :: ys, x, i, h => by
    unfold ixOf at h
    split at h
    · rename_i e; cases h; simp [e]
    · cases q : ixOf ys x with
      | none => rw [q] at h; cases h
      | some j => rw [q] at h; cases h; simpa using ixOf_ok q

/-- the names of a def: its own, the defs, the constants, the built-in ones that the module leaves alone -/
structure Tb where
  N : List Str
  fns : List (Str × Nat)
  consts : List (Str × D)
  frees : List Str
  cls : List (Str × Nat)
  al : Option Str
  sen : Option Str
  txt : List Str
  frs : List Nat
  fr : Bool
  thk : List (Str × Nat × Option Tx)
  low : List (Str × Nat)
/-- within a lambda -/
def Tb.lamT (T : Tb) : Tb := { T with fns := T.low, cls := [], sen := none, thk := [], low := [] }
def okName (x : Str) : Bool := !(x == ("__debug__" : Str)) && !(x == ("__classdict__" : Str)) && !decide (x = ("__name__" : Str))
theorem okName_ok {x : Str} (h : okName x = true) : (x == ("__debug__" : Str)) = false ∧ (x == ("__classdict__" : Str)) = false ∧ x ≠ ("__name__" : Str) := by
  simp only [okName, Bool.and_eq_true, Bool.not_eq_true', decide_eq_false_iff_not] at h
  exact ⟨h.1.1, h.1.2, h.2⟩
def Tb.names (T : Tb) : List Str := T.N ++ (T.fns.map (·.1) ++ (T.consts.map (·.1) ++ T.frees))

def biOf (x : Str) : Option Bi :=
  if x = ("len" : Str) then some .len else if x = ("all" : Str) then some .all else if x = ("sum" : Str) then some .sum else if x = ("max" : Str) then some .max else if x = ("min" : Str) then some .min
  else if x = ("int" : Str) then some .int else if x = ("str" : Str) then some .str else if x = ("list" : Str) then some .list else if x = ("tuple" : Str) then some .tuple else if x = ("dict" : Str) then some .dict
  else if x = ("sorted" : Str) then some .sorted else none
theorem biOf_ok {x : Str} {b : Bi} (h : biOf x = some b) : bootBuiltins x = some (biVal b) := by
  unfold biOf at h
  iterate 11 (split at h; · (rename_i e; subst e; cases h; first | exact PySem.boot_len | exact PyProof.Rows.boot_all | exact PyProof.Rows.boot_sum | exact PyProof.Rows.boot_max | exact PyProof.Rows.boot_min | exact PyProof.Rows.boot_int | exact PyProof.Rows.boot_str | exact PyProof.Rows.boot_list | exact PyProof.Rows.boot_tuple | exact PyProof.Rows.boot_dict | exact PyProof.Rows.boot_sorted | (show bootBuiltins _ = _; decide +kernel)))
  cases h
def tyOf (x : Str) : Option Ty :=
  if x = ("int" : Str) then some .int else if x = ("bool" : Str) then some .bool else if x = ("str" : Str) then some .str else if x = ("tuple" : Str) then some .tuple else if x = ("list" : Str) then some .list else if x = ("dict" : Str) then some .dict else none
theorem tyOf_ok {x : Str} {b : Ty} (h : tyOf x = some b) : bootBuiltins x = some (.type (pyT b)) ∧ b.bltn = true := by
  unfold tyOf at h
  iterate 6 (split at h; · (rename_i e; subst e; cases h; refine ⟨?_, rfl⟩; decide +kernel))
  cases h

def cBop : Operator → Option Bop
  | .Add => some .add | .Sub => some .sub | .Mult => some .mul | .FloorDiv => some .fdiv | .Mod => some .mod | .Pow => some .pow | .LShift => some .shl
  | _ => none
theorem cBop_ok {o : Operator} {b : Bop} (h : cBop o = some b) : o = pyB b := by
  cases o <;> cases h <;> rfl
def cCop : CmpOp → Option Cop
  | .Eq => some .eq | .NotEq => some .ne | .Lt => some .lt | .LtE => some .le | .Gt => some .gt | .GtE => some .ge | .Is => some .is | .IsNot => some .isn | .In => some .inn | .NotIn => some .nin
theorem cCop_ok {o : CmpOp} {b : Cop} (h : cCop o = some b) : o = pyC b := by
  cases o <;> cases h <;> rfl

def isIf : Expr → Bool
  | .IfExp _ _ _ _ => true
  | _ => false
/-- no set display, no slice, no star: what the text's side conditions ask -/
def tame : Expr → Bool
  | .Set _ _ _ => false
  | .Slice _ _ _ _ => false
  | .Starred _ _ => false
  | _ => true
def cMap (r : Expr → Option E) : List Expr → Option (List E)
  | [] => some []
  | e :: es => if tame e then (r e).bind fun ie => (cMap r es).map fun ies => ie :: ies else none
/-- operands of and, or -/
def cBool (op : BoolOp) (r : Expr → Option E) : List Expr → Option E
  | [] => none
  | [a] => if isIf a then none else r a
  | a :: b :: rest => if isIf a then none else (r a).bind fun ia => (cBool op r (b :: rest)).map fun ib => match op with | .And => .and ia ib | .Or => .or ia ib
def okTxB (s : Tx) : Bool := s.all (fun c => decide (c < 0x110000)) && decide (s.length ≤ SZ)
def cConst : Const → Option E
  | .none => some (.const .non)
  | .bool b => some (.const (.bl b))
  | .int i => some (.const (.int i))
  | .str s => if okTxB s.cps.toList then some (.const (.str s.cps.toList)) else none
  | _ => none
def cName (T : Tb) (sc : Scope) (x : Str) : Option E :=
  if okName x then (match sc.names.lookup x with
    | some .local => (ixOf T.N x).map .var
    | some .cell => (ixOf T.N x).map .var
    | some .free => (ixOf T.N x).map .var
    | some .globalImplicit => (T.consts.lookup x).map .const
    | _ => none) else none
def glB (sc : Scope) (x : Str) : Bool := match sc.names.lookup x with
  | some .globalImplicit => true
  | _ => false
def freeB (T : Tb) (sc : Scope) (x : Str) : Bool := glB sc x && (decide (x ∈ T.frees) && okName x)
/-- no bare super() -/
def notSup : Expr → Bool
  | .Call (.Name _ _) [] [] _ => false
  | _ => true
theorem notSup_ok {o : Expr} {f : Str} {env : PySem.Env} {w : Sem Value} (h : notSup o = true) : attributeBase o f env w = w := by
  cases o with
  | Call fn args kws p =>
    cases fn with
    | Name => cases args with
      | nil => cases kws with
        | nil => cases h
        | cons => rfl
      | cons => rfl
    | _ => rfl
  | _ => rfl
def isSen (T : Tb) (x : Str) : Bool := match T.sen with
  | some y => decide (y = x)
  | none => false
/-- f(..) by a name -/
def cCall (T : Tb) (r : Expr → Option E) (sc : Scope) (f : Str) (args : List Expr) : Option E :=
  match T.fns.lookup f with
  | some k => if glB sc f && okName f then (cMap r args).map fun ies => .call k ies else none
  | none => if isSen T f && (glB sc f && okName f) then (match args with
      | [a, b] => if tame a && tame b then (r a).bind fun ia => (r b).map fun ib => .mk 8 [ia, ib] else none
      | _ => none)
    else if freeB T sc f then
      (if f = ("isinstance" : Str) then (match args with
        | [a, .Name t _] => if tame a && (isSen T t && (glB sc t && okName t)) then (r a).map fun ia => .inst ia (.cls 8)
          else if tame a && freeB T sc t then (r a).bind fun ia => (tyOf t).map fun ty => .inst ia ty else none
        | _ => none)
      else (biOf f).bind fun b => match args with
        | [] => none
        | a :: as => (cMap r (a :: as)).map fun ies => .bi b ies) else none
def cOpt (r : Expr → Option E) : Option Expr → Option E
  | none => some (.const .non)
  | some e => if tame e then r e else none
/-- what is walked -/
def cIt (T : Tb) (r : Expr → Option E) (sc : Scope) (e : Expr) : Option Src :=
  if tame e then (match e with
  | .Call (.Name f _) args [] _ =>
    if f = ("range" : Str) then (if freeB T sc f then (match args with
      | [a] => (cMap r [a]).map .rng
      | [a, b] => (cMap r [a, b]).map .rng
      | [a, b, c] => (cMap r [a, b, c]).map .rng
      | _ => none) else none)
    else if f = ("reversed" : Str) then (if freeB T sc f then (match args with
      | [a] => if tame a then (r a).map .rev else none
      | _ => none) else none)
    else (r e).map .of
  | _ => (r e).map .of) else none
/-- one clause's condition -/
def cIfs (r : Expr → Option E) : List Expr → Option E
  | [] => some (.const (.bl true))
  | [c] => if isIf c then none else r c
  | _ => none
def locB (sc : Scope) (x : Str) : Bool := match sc.names.lookup x with
  | some .local => true
  | some .cell => true
  | _ => false
def cComp (T : Tb) (r : Scope → Expr → Option E) (sc : Scope) (elt : Expr) (gs : List Comprehension) (scope : Scope) : Option E := match gs with
  | [⟨.Name x _, iter, ifs, 0⟩] => (ixOf T.N x).bind fun i => if okName x && (locB scope x && blkC T.N sc scope [(x, i)]) then
      (cIt T (r sc) sc iter).bind fun src => (r scope elt).bind fun ie => (cIfs (r scope) ifs).map fun ic => .comp i ie src ic else none
  | _ => none
def isN {α : Type} : Option α → Bool
  | none => true
  | some _ => false
theorem isN_ok {α : Type} {o : Option α} (h : isN o = true) : o = none := by
  cases o with
  | none => rfl
  | some _ => cases h
def noPar (p : Arguments) : Bool := p.posonlyargs.isEmpty && (p.args.isEmpty && (isN p.vararg && (p.kwonlyargs.isEmpty && (p.kw_defaults.isEmpty && (isN p.kwarg && p.defaults.isEmpty)))))
/-- a lambda handed to a def that calls it within try -/
def cThk (T : Tb) (r : Scope → Expr → Option E) (sc : Scope) (f : Str) (params : Arguments) (body : Expr) (scope : Scope) : Option E :=
  (T.thk.lookup f).bind fun q => if glB sc f && (okName f && (noPar params && LamX.lamSB sc scope)) then (r scope body).map fun ie => .thk q.1 q.2 ie else none
/-- one step: the parts by r -/
def cE1 (T : Tb) (r r' : Scope → Expr → Option E) (sc : Scope) (e : Expr) : Option E := match e with
  | .Name x _ => cName T sc x
  | .Constant c _ _ => cConst c
  | .Tuple es _ _ => (cMap (r sc) es).bind fun ies => if ies.length ≤ 1000 then some (.tup ies) else none
  | .List es _ => (cMap (r sc) es).bind fun ies => if ies.length ≤ 1000 then some (.lst ies) else none
  | .BinOp a o b _ => (cBop o).bind fun o => (r sc a).bind fun ia => (r sc b).map fun ib => .bop o ia ib
  | .UnaryOp .USub a _ => (r sc a).map .neg
  | .UnaryOp .Not a _ => if isIf a then none else (r sc a).map .not
  | .BoolOp op es _ => cBool op (r sc) es
  | .Compare a [o] [b] _ => if tame b then (cCop o).bind fun o => (r sc a).bind fun ia => (r sc b).map fun ib => .cmp o ia ib else none
  | .Compare a [o, o'] [b, c] _ => if tame b && tame c then (cCop o).bind fun o => (cCop o').bind fun o' => (r sc a).bind fun ia => (r sc b).bind fun ib => (r sc c).map fun ic => .cmp2 o o' ia ib ic else none
  | .IfExp c a b _ => if isIf c then none else (r sc c).bind fun ic => (r sc a).bind fun ia => (r sc b).map fun ib => .ite ic ia ib
  | .Call (.Name f _) [.Lambda params body scope _] [] _ => cThk T r' sc f params body scope
  | .Call (.Name f _) args [] _ => cCall T (r sc) sc f args
  | .Call (.Attribute o m apos) [a, b] [] pos => if decide (m = ("get" : Str)) && (notSup o && ((apos.endLine == pos.line) && (tame a && tame b))) then (r sc o).bind fun io => (r sc a).bind fun ia => (r sc b).map fun ib => .me .get io [ia, ib] else none
  | .Call (.Attribute o m apos) [a] [] pos => if decide (m = ("join" : Str)) && (notSup o && ((apos.endLine == pos.line) && tame a)) then (r sc o).bind fun io => (r sc a).map fun ia => .me .join io [ia] else none
  | .Attribute o f _ => if notSup o && T.sen.isSome then (r sc o).bind fun io => (ixOf (fldN 8) f).map fun k => .fld io k else none
  | .Dict [] [] _ => some (.dct true [] [])
  | .Dict [some k] [v] _ => (r sc k).bind fun ik => (r sc v).map fun iv => .dct true [ik] [iv]
  | .Subscript a (.Slice lo hi none _) _ => (r sc a).bind fun ia => (cOpt (r sc) lo).bind fun il => (cOpt (r sc) hi).map fun ih => .slice ia il ih
  | .Subscript a i _ => if tame i then (r sc a).bind fun ia => (r sc i).map fun ii => .sub ia ii else none
  | .ListComp elt gs scope _ => cComp T r sc elt gs scope
  | _ => none
def cE : Tb → Nat → Scope → Expr → Option E
  | _, 0 => fun _ _ => none
  | T, n + 1 => cE1 T (cE T n) (cE T.lamT n)

/-! ### it is right -/
/-- what is known of the class of sentences -/
structure SenX (X : Cx) (m : Nat) : Prop where
  O : ObjC X.K (Wd.cA 8)
  init : ∃ (f : Addr) (fd : FuncData) (ps : List Str), Mk X.K (Wd.cA 8) f ∧ Binds X.K fd ps [] ∧ FnOk X.prog X.w X.K X.mg X.base (L2N.CX X.prog X.w) m f fd ps (spInit (Wd.cA 8))
structure Good (X : Cx) (T : Tb) (m : Nat) (g : Gx) : Prop where
  wd : WdX X
  sen : ∀ x, T.sen = some x → X.mg x = some (.ref (Wd.cA 8)) ∧ ∀ m', m = m' + 1 → SenX X m'
  K : g.K = X.K
  calm : X.calm = true
  room : Room m X.A
  N : X.N = T.N
  nd : T.N.Nodup
  fns : ∀ (x : Str) (k : Nat), T.fns.lookup x = some k → ∃ (f : Addr) (fd : FuncData) (ps : List Str), X.mg x = some (.ref f) ∧ PySem.W.keepIn X.K (.ref f) = true ∧ Binds X.K fd ps [] ∧ FnOk X.prog X.w X.K X.mg X.base (L2N.CX X.prog X.w) m f fd ps (spF X.K g.cA g.call g.frs k)
  consts : ∀ (x : Str) (d : D), T.consts.lookup x = some d → ∃ (v : V) (u : Value), X.mg x = some u ∧ RelV v u ∧ ∀ (Z : AS) (H : Hp), Rp X.K Z H v d
  free : ∀ x ∈ T.frees, X.mg x = none
  cls : ∀ (x : Str) (c : Nat), T.cls.lookup x = some c → X.mg x = some (.ref (g.cA c)) ∧ PySem.W.excIn X.K (g.cA c) He.veBase "ValueError.__new__" = true ∧ PySem.W.keepIn X.K (.ref (g.cA c)) = true ∧ Raises X (.ref (g.cA c))
  takes : L2N.Takes X g.W
  frs : g.frs = fun k => decide (k ∈ T.frs)
  fr : g.fr = T.fr
  thk : ∀ (x : Str) (c : Nat) (md : Option Tx), T.thk.lookup x = some (c, md) → ∃ (m' : Nat) (fa cc P : Addr), m = m' + 2 ∧ 1 ≤ m' ∧ X.mg x = some (.ref fa) ∧ PySem.W.keepIn X.K (.ref fa) = true ∧ ThkOk X.prog X.w X.K X.mg X.base g.cA m' fa c md ∧
    LamX.TabB X.base X.mg cc P ∧ X.env.code = .ref cc ∧ (P, X.env.qual ++ "<lambda>") ∈ Wd.T ∧ (∀ p ∈ Wd.T, p.1 = P → p.2 = X.env.qual ++ "<lambda>") ∧
    ∀ (y : Str) (k : Nat), T.low.lookup y = some k → ∃ (f : Addr) (fd : FuncData) (ps : List Str), X.mg y = some (.ref f) ∧ PySem.W.keepIn X.K (.ref f) = true ∧ Binds X.K fd ps [] ∧ FnOk X.prog X.w X.K X.mg X.base (L2N.CX X.prog X.w) m' f fd ps (spF X.K g.cA g.call g.frs k)
/-- the scope that runs, by the written one -/
structure ScOk (X : Cx) (sc : Scope) : Prop where
  loc : ∀ x, sc.names.lookup x = some .local → X.env.scope.names.lookup x = some .local
  cel : ∀ x, sc.names.lookup x = some .cell → X.env.scope.names.lookup x = some .cell
  fre : ∀ x, sc.names.lookup x = some .free → X.env.scope.names.lookup x = some .cell ∨ X.env.scope.names.lookup x = some .free
  gl : ∀ x, sc.names.lookup x = some .globalImplicit → X.env.scope.names.lookup x = some .globalImplicit
theorem ScOk.self {X : Cx} : ScOk X X.env.scope := ⟨fun _ h => h, fun _ h => h, fun _ h => .inr h, fun _ h => h⟩
theorem lookup_relS_free {sc : Scope} : ∀ {names : List (Str × NameKind)} {x : Str}, names.lookup x = some .free →
    (names.map fun (n, k) => if (k == NameKind.free && sc.kind == .function && sc.names.lookup n == some .cell) then (n, NameKind.cell) else (n, k)).lookup x = some .cell ∨
    (names.map fun (n, k) => if (k == NameKind.free && sc.kind == .function && sc.names.lookup n == some .cell) then (n, NameKind.cell) else (n, k)).lookup x = some .free
  | [], _, h => by simp at h
  | (n, k₀) :: r, x, h => by
    have ih := @lookup_relS_free sc r x
    show List.lookup x ((if (k₀ == NameKind.free && sc.kind == .function && sc.names.lookup n == some .cell) = true then (n, NameKind.cell) else (n, k₀)) :: (r.map _)) = _ ∨ List.lookup x ((if (k₀ == NameKind.free && sc.kind == .function && sc.names.lookup n == some .cell) = true then (n, NameKind.cell) else (n, k₀)) :: (r.map _)) = _
    cases hx : x == n with
    | true =>
      simp only [List.lookup_cons, hx] at h
      cases h
      split
      · simp only [List.lookup_cons, hx]; exact .inl trivial
      · simp only [List.lookup_cons, hx]; exact .inr trivial
    | false =>
      simp only [List.lookup_cons, hx] at h
      split <;> (simp only [List.lookup_cons, hx]; exact ih h)
section
variable {X : Cx} {T : Tb} {m : Nat} {g : Gx} {sc : Scope}
theorem ScOk.blk {s : Shared} {H : Hp} {scope : Scope} {cl : List (Str × Addr)} {C : Addr} {fp : List Addr} : ScOk (X.blk s H scope (compEnvC scope cl C X.env) fp) scope :=
  ⟨fun x h => lookup_relS_keep (by decide) h, fun x h => lookup_relS_keep (by decide) h, fun x h => lookup_relS_free h, fun x h => lookup_relS_keep (by decide) h⟩
theorem Good.blk (G : Good X T m g) {s : Shared} {H : Hp} {scope : Scope} {cl : List (Str × Addr)} {C : Addr} {fp : List Addr} : Good (X.blk s H scope (compEnvC scope cl C X.env) fp) T m g.in :=
  ⟨⟨G.wd.P, G.wd.w⟩, fun x hx => ⟨(G.sen x hx).1, fun m' hm => ⟨((G.sen x hx).2 m' hm).O, ((G.sen x hx).2 m' hm).init⟩⟩, G.K, G.calm, G.room, G.N, G.nd, G.fns, G.consts, G.free, G.cls, fun u s' ⟨a, B, sI, pins, σ, H, cls, d, _, _, _, _, _, _, _, _, w⟩ => w.elim, G.frs, G.fr, fun x c md h => G.thk x c md h⟩
theorem ScOk.vis (S : ScOk X sc) {x : Str} (h : Vis sc x) : Vis X.env.scope x := by
  rcases h with h | h | h
  · exact .inl (S.loc x h)
  · exact .inr (.inl (S.cel x h))
  · exact .inr (S.fre x h)
theorem blk_up (S : ScOk X sc) {N : List Str} {scope : Scope} {own : List (Str × Nat)} (h : BlkOk N sc scope own) : BlkOk N X.env.scope scope own :=
  ⟨h.kind, h.uniq, h.ix, fun y hy e => by
    rcases h.free y hy e with q | q
    · exact .inl (S.cel _ q)
    · exact S.fre _ q, h.own⟩
theorem glB_ok {x : Str} (S : ScOk X sc) (h : glB sc x = true) : Gl X x := by
  unfold glB at h
  split at h
  · rename_i e; exact S.gl x e
  · cases h
theorem freeB_ok {x : Str} (G : Good X T m g) (S : ScOk X sc) (h : freeB T sc x = true) : Gl X x ∧ X.mg x = none ∧ okName x = true := by
  simp only [freeB, Bool.and_eq_true, decide_eq_true_eq] at h
  exact ⟨glB_ok S h.1, G.free x h.2.1, h.2.2⟩
theorem okTxB_ok {s : Tx} (h : okTxB s = true) : okTx s := by
  simp only [okTxB, Bool.and_eq_true, List.all_eq_true, decide_eq_true_eq] at h
  exact h
theorem units_ok (G : Good X T m g) : X.A.units + 66 < cLine := by
  have := G.room.un; omega
/-- what is said of one expression -/
structure SE (X : Cx) (g : Gx) (e : Expr) (ie : E) : Prop where
  pe : PE X e (tE g ie)
  pt : isIf e = false → PT X e (tT g ie)
def Snd (T : Tb) (r : Scope → Expr → Option E) : Prop := ∀ (sc : Scope) (e : Expr) (ie : E), r sc e = some ie → ∀ (X : Cx) (m : Nat) (g : Gx), 1 ≤ m → Good X T m g → ScOk X sc → SE X g e ie
theorem star_tame {e : Expr} {es : List Expr} {env : PySem.Env} (h : tame e = true) : starEach (e :: es) env = (false, eval e env) :: starEach es env := by
  cases e <;> first | rfl | cases h
theorem cMap_ok {r : Expr → Option E} (hr : ∀ e ie, r e = some ie → PE X e (tE g ie)) : ∀ {es : List Expr} {ies : List E}, cMap r es = some ies → PA X es (tEs g ies) ∧ (∀ pos, (backTo pos (starEach es X.env)).any (·.1) = false) ∧ ies.length = es.length
  | [], ies, h => by
    cases h
    exact ⟨sEs_nil, fun _ => rfl, rfl⟩
  | e :: es, ies, h => by
    unfold cMap at h
    split at h
    case isFalse => cases h
    rename_i ht
    obtain ⟨ie, h1, h⟩ := bindSome h
    obtain ⟨ies', h2, rfl⟩ := mapSome h
    obtain ⟨p, q, l⟩ := cMap_ok hr h2
    refine ⟨sEs_cons (hr e ie h1) p (star_tame ht), fun pos => ?_, by simp [l]⟩
    rw [star_tame ht]
    show (false || (backTo pos (starEach es X.env)).any (·.1)) = false
    rw [q pos]; rfl
theorem cMap_tame {r : Expr → Option E} : ∀ {es : List Expr} {ies : List E}, cMap r es = some ies → ∀ e ∈ es, tame e = true
  | [], ies, h, e, he => by cases he
  | a :: es, ies, h, e, he => by
    unfold cMap at h
    split at h
    case isFalse => cases h
    rename_i ht
    obtain ⟨ie, h1, h⟩ := bindSome h
    obtain ⟨ies', h2, rfl⟩ := mapSome h
    rcases List.mem_cons.mp he with rfl | he
    · exact ht
    · exact cMap_tame h2 e he
theorem marks_tame {o : CmpOp} {e : Expr} (h : tame e = true) : behindInMarks o e = false := by
  cases e <;> first | rfl | cases h
theorem ix_tame {e : Expr} (h : tame e = true) : PlainIx e := by
  intro o i
  cases e <;> first | rfl | cases h
theorem folded_tame {e : Expr} {env : PySem.Env} (h : tame e = true) : ∀ x, foldedSetIterable e env x = pure x := by
  intro x
  cases e <;> first | rfl | cases h
theorem tame_name {x : Str} {p : Pos} : tame (.Name x p) = true := rfl
theorem SE.of (hK : g.K = X.K) {e : Expr} {ie : E} (h : PE X e (tE g ie)) (ht : ∀ whole, isTrue e X.env whole = (do let v ← whole; standAt e.pos; holding [v] (PySem.truthy v))) : SE X g e ie := ⟨h, fun _ => sT_val hK h ht⟩
theorem cBool_ok {r : Expr → Option E} (hK : g.K = X.K) (hr : ∀ e ie, r e = some ie → SE X g e ie) {op : BoolOp} {pos : Pos} : ∀ {es : List Expr} {ie : E}, cBool op r es = some ie → PE X (.BoolOp op es pos) (tE g ie) ∧ PW X (.BoolOp op es pos) (tT g ie)
  | [], ie, h => by cases h
  | [a], ie, h => by
    unfold cBool at h
    split at h
    · cases h
    rename_i hi
    have q := hr a ie h
    exact ⟨sE_one q.pe, sW_one (q.pt (by simpa using hi))⟩
  | a :: b :: rest, ie, h => by
    unfold cBool at h
    split at h
    · cases h
    rename_i hi
    obtain ⟨ia, h1, h⟩ := bindSome h
    obtain ⟨ib, h2, rfl⟩ := mapSome h
    have q := hr a ia h1
    obtain ⟨p1, p2⟩ := cBool_ok hK hr (op := op) (pos := pos) h2
    have qt := q.pt (by simpa using hi)
    cases op with
    | And => exact ⟨sE_and hK q.pe p1, sW_and qt p2⟩
    | Or => exact ⟨sE_or hK q.pe p1, sW_or qt p2⟩
theorem cName_ok (G : Good X T m g) (S : ScOk X sc) {x : Str} {p : Pos} {ie : E} (h : cName T sc x = some ie) : PE X (.Name x p) (tE g ie) := by
  unfold cName at h
  split at h
  case isFalse => cases h
  rename_i hn
  obtain ⟨n1, n2, n3⟩ := okName_ok hn
  have v : ∀ (hv : Vis sc x) {ie : E}, (ixOf T.N x).map E.var = some ie → PE X (.Name x p) (tE g ie) := fun hv ie h => by
    obtain ⟨i, h1, rfl⟩ := mapSome h
    exact sE_var (by rw [G.N]; exact ixOf_ok h1) (S.vis hv) n1 n2
  split at h
  · exact v (.inl (by assumption)) h
  · exact v (.inr (.inl (by assumption))) h
  · exact v (.inr (.inr (by assumption))) h
  · rename_i e
    obtain ⟨d, h1, rfl⟩ := mapSome h
    obtain ⟨w, u, h2, h3, h4⟩ := G.consts x d h1
    exact sE_c (pe_glob (S.gl x e) h2 h3 n1) (by rw [G.K]; exact h4)
  · cases h
theorem cConst_ok {c : Const} {k : Nat} {p : Pos} {ie : E} (h : cConst c = some ie) : PE X (.Constant c k p) (tE g ie) := by
  cases c with
  | none => cases h; exact sE_c pe_non fun _ _ => .non
  | bool b => cases h; exact sE_c pe_bl fun _ _ => .bl b
  | int i => cases h; exact sE_c pe_int fun _ _ => .int i
  | str s =>
    simp only [cConst] at h
    split at h
    case isFalse => cases h
    rename_i o
    cases h
    refine sE_c pe_str fun _ _ => ?_
    have e : s = mkS s.cps.toList := by cases s; simp [mkS]
    have q := Rp.str (K := g.K) (Z := by assumption) (H := by assumption) s.cps.toList (okTxB_ok o)
    rw [← e] at q
    exact q
  | _ => cases h
theorem passF {X : Cx} {P : Program} {w : World} : Passes (L2N.CX P w) X fun _ _ _ => False := fun pins σ H s e s' I c => by
  obtain ⟨_, _, _, _, _, _, _, _, _, _, _, _, z⟩ := c
  exact z.elim
theorem cCall_ok (hm : 1 ≤ m) (G : Good X T m g) (S : ScOk X sc) {r : Expr → Option E} (hr : ∀ e ie, r e = some ie → SE X g e ie) {f : Str} {p pos : Pos} {args : List Expr} {ie : E} (h : cCall T r sc f args = some ie) : PE X (.Call (.Name f p) args [] pos) (tE g ie) := by
  unfold cCall at h
  split at h
  · rename_i k hk
    split at h
    case isFalse => cases h
    rename_i hg
    simp only [Bool.and_eq_true] at hg
    obtain ⟨ies, h1, rfl⟩ := mapSome h
    obtain ⟨fa, fd, ps, m1, m2, m3, m4⟩ := G.fns f k hk
    obtain ⟨pa, bt, _⟩ := cMap_ok (fun e ie q => (hr e ie q).pe) h1
    have tm := cMap_tame h1
    cases args with
    | nil =>
      cases h1
      exact sE_call0 G.K m4 G.room (glB_ok S hg.1) m1 m2 m3 G.takes (okName_ok hg.2).1
    | cons a as =>
      refine sE_call G.K m4 G.room (glB_ok S hg.1) m1 m2 m3 G.takes pa (okName_ok hg.2).1 (star_tame (tm a List.mem_cons_self)) ?_
      have q := bt pos
      rw [star_tame (tm a List.mem_cons_self)] at q
      exact q
  · split at h
    · rename_i hs
      simp only [Bool.and_eq_true] at hs
      have hsen : T.sen = some f := by
        have q := hs.1
        unfold isSen at q
        split at q
        · rename_i y e; rw [e, of_decide_eq_true q]
        · cases q
      obtain ⟨s1, s2⟩ := G.sen f hsen
      split at h
      · rename_i a b
        split at h
        case isFalse => cases h
        rename_i ht
        simp only [Bool.and_eq_true] at ht
        obtain ⟨ia, h1, h⟩ := bindSome h
        obtain ⟨ib, h2, rfl⟩ := mapSome h
        have e1 : starEach [b] X.env = [(false, eval b X.env)] := star_tame ht.2
        have e2 : starEach [a, b] X.env = (false, eval a X.env) :: starEach [b] X.env := star_tame ht.1
        obtain ⟨m', rfl⟩ : ∃ m', m = m' + 1 := ⟨m - 1, by omega⟩
        obtain ⟨_, fa, fd, ps, M, B, F⟩ := s2 m' rfl
        refine sE_mk G.K M F G.room (glB_ok S hs.2.1) s1 B passF (sEs_cons (hr a ia h1).pe (sEs_cons (hr b ib h2).pe sEs_nil e1) e2) (okName_ok hs.2.2).1 e2 ?_
        rw [e1]; rfl
      · cases h
    split at h
    case isFalse => cases h
    rename_i hf
    obtain ⟨g1, g2, g3⟩ := freeB_ok G S hf
    split at h
    · rename_i e
      subst e
      split at h
      · rename_i a t tp
        split at h
        · rename_i hh
          simp only [Bool.and_eq_true] at hh
          have hsen : T.sen = some t := by
            have q := hh.2.1
            unfold isSen at q
            split at q
            · rename_i y e; rw [e, of_decide_eq_true q]
            · cases q
          obtain ⟨s1, s2⟩ := G.sen t hsen
          obtain ⟨ia, h1, rfl⟩ := mapSome h
          obtain ⟨m', rfl⟩ : ∃ m', m = m' + 1 := ⟨m - 1, by omega⟩
          exact sE_isO (s2 m' rfl).O G.K (hr a ia h1).pe g1 g2 (glB_ok S hh.2.2.1) s1 (okName_ok hh.2.2.2).1 (star_tame hh.1)
        split at h
        case isFalse => cases h
        rename_i hh
        simp only [Bool.and_eq_true] at hh
        obtain ⟨ia, h1, h⟩ := bindSome h
        obtain ⟨ty, h2, rfl⟩ := mapSome h
        obtain ⟨t1, t2, t3⟩ := freeB_ok G S hh.2
        obtain ⟨t4, t5⟩ := tyOf_ok h2
        exact sE_inst G.wd G.K t5 (hr a ia h1).pe g1 g2 t1 t2 t4 (okName_ok t3).2.2 (okName_ok t3).1 (star_tame hh.1)
      · cases h
    · obtain ⟨b, h1, h⟩ := bindSome h
      split at h
      · cases h
      · rename_i a as _
        obtain ⟨ies, h2, rfl⟩ := mapSome h
        obtain ⟨pa, bt, _⟩ := cMap_ok (fun e ie q => (hr e ie q).pe) h2
        have tm := cMap_tame h2
        refine sE_bi G.wd G.K G.calm g1 g2 (biOf_ok h1) pa (okName_ok g3).2.2 (okName_ok g3).1 (star_tame (tm a List.mem_cons_self)) ?_
        have q := bt pos
        rw [star_tame (tm a List.mem_cons_self)] at q
        exact q
theorem cThk_ok (G : Good X T m g) (S : ScOk X sc) {r : Scope → Expr → Option E} (R : Snd T.lamT r) {f : Str} {p lpos pos : Pos} {params : Arguments} {body : Expr} {scope : Scope} {ie : E} (h : cThk T r sc f params body scope = some ie) : PE X (.Call (.Name f p) [.Lambda params body scope lpos] [] pos) (tE g ie) := by
  unfold cThk at h
  obtain ⟨⟨c, md⟩, h1, h⟩ := bindSome h
  split at h
  case isFalse => cases h
  rename_i hh
  simp only [Bool.and_eq_true] at hh
  obtain ⟨g1, g2, g3, g4⟩ := hh
  obtain ⟨ib, h2, rfl⟩ := mapSome h
  obtain ⟨m', fa, cc, P, rfl, hm', q1, q2, q3, q4, q5, q6, q7, q8⟩ := G.thk f c md h1
  have L0 := LamX.lamS_by g4
  have L : LamX.LamS X.env.scope scope := ⟨L0.kind, L0.co, L0.gen, L0.own, fun y hy e => (L0.free y hy e).elim (fun k => .inl (S.cel _ k)) (fun k => S.fre _ k)⟩
  obtain ⟨po, ar, va, ko, kd, kw, df⟩ := params
  simp only [noPar, Bool.and_eq_true, List.isEmpty_iff] at g3
  obtain ⟨rfl, rfl, v1, rfl, rfl, v2, rfl⟩ := g3
  cases isN_ok v1
  cases isN_ok v2
  refine sE_thk G.K q3 G.room (glB_ok S g1) q1 q2 G.takes q4 q5 q6 q7 L rfl (fun q cl pm cv ctv => rfl) (fun A outer s H E f c' hr => ?_) (okName_ok g2).1
  have GL : Good (lamN X A outer s H E scope f c') T.lamT m' { g with W := fun cls d _ H' => E cls d H' } :=
    ⟨⟨G.wd.P, G.wd.w⟩, fun x hx => (by cases hx), G.K, rfl, hr, G.N, G.nd, fun y k hk => q8 y k hk, G.consts, G.free, fun x c hx => (by cases hx), L2N.takes_of rfl rfl rfl rfl, G.frs, G.fr, fun x c md hx => (by cases hx)⟩
  exact (R scope body ib h2 _ m' _ hm' GL ScOk.self).pe
theorem cOpt_ok {r : Expr → Option E} (hr : ∀ e ie, r e = some ie → SE X g e ie) {o : Option Expr} {ie : E} (h : cOpt r o = some ie) : PO X o (tB' g ie) := by
  cases o with
  | none => cases h; exact sB_none
  | some e =>
    simp only [cOpt] at h
    split at h
    case isFalse => cases h
    exact sB_some (hr e ie h).pe
theorem cIt_ok (G : Good X T m g) (S : ScOk X sc) {r : Expr → Option E} (hr : ∀ e ie, r e = some ie → SE X g e ie) {tg e : Expr} {src : Src} (h : cIt T r sc e = some src) : PI X tg e (tIt g src) ∧ tame e = true := by
  unfold cIt at h
  split at h
  case isFalse => cases h
  rename_i ht
  refine ⟨?_, ht⟩
  have pl : ∀ {src : Src}, (r e).map Src.of = some src → PI X tg e (tIt g src) := fun {src} h => by
    obtain ⟨ie, h1, rfl⟩ := mapSome h
    exact sI_of G.K (hr e ie h1).pe
  have pm := fun {es : List Expr} {ies : List E} (q : cMap r es = some ies) => cMap_ok (fun e ie q => (hr e ie q).pe) q
  split at h
  · rename_i f fp args pos
    split at h
    · rename_i ef
      subst ef
      split at h
      case isFalse => cases h
      rename_i hf
      obtain ⟨g1, g2, g3⟩ := freeB_ok G S hf
      split at h
      · rename_i a
        obtain ⟨ies, h1, rfl⟩ := mapSome h
        obtain ⟨p1, p2, p3⟩ := pm h1
        match ies, p3 with
        | [ia], _ => exact sI_rng1 g1 g2 p1 (star_tame (cMap_tame h1 a (by simp)))
      · rename_i a b
        obtain ⟨ies, h1, rfl⟩ := mapSome h
        obtain ⟨p1, p2, p3⟩ := pm h1
        have t := cMap_tame h1
        match ies, p3 with
        | [ia, ib], _ =>
          have s2 := star_tame (es := []) (env := X.env) (t b (by simp))
          exact sI_rng2 g1 g2 p1 (by rw [star_tame (t a (by simp)), s2]; rfl) s2
      · rename_i a b c
        obtain ⟨ies, h1, rfl⟩ := mapSome h
        obtain ⟨p1, p2, p3⟩ := pm h1
        have t := cMap_tame h1
        match ies, p3 with
        | [ia, ib, ic], _ =>
          refine sI_rng3 g1 g2 p1 (star_tame (t a (by simp))) ?_
          have q := p2 pos
          rw [star_tame (t a (by simp))] at q
          exact q
      · cases h
    · split at h
      · rename_i ef
        subst ef
        split at h
        case isFalse => cases h
        rename_i hf
        obtain ⟨g1, g2, g3⟩ := freeB_ok G S hf
        split at h
        · rename_i a
          split at h
          case isFalse => cases h
          rename_i ta
          obtain ⟨ia, h1, rfl⟩ := mapSome h
          have s1 := star_tame (es := []) (env := X.env) ta
          exact sI_rev G.K g1 g2 (sEs_cons (hr a ia h1).pe sEs_nil s1) s1
        · cases h
      · exact pl h
  · exact pl h
structure CompR (X : Cx) (g : Gx) (elt : Expr) (gs : List Comprehension) (scope : Scope) (ie : E) (x : Str) (xp : Pos) (iter : Expr) (ifs : List Expr) (i : Nat) (src : Src) (iel ic : E) (tt : TT) : Prop where
  gs_ : gs = [⟨.Name x xp, iter, ifs, 0⟩]
  ie_ : ie = .comp i iel src ic
  pi : PI X (.Name x xp) iter (tIt g src)
  bo : BlkOk X.N X.env.scope scope [(x, i)]
  hg : ∀ (s : Shared) (H : Hp) (C : Addr) (cl : List (Str × Addr)) (fp : List Addr), PG (X.blk s H scope (compEnvC scope cl C X.env) fp) (.Name x xp) (gName i)
  pt : ∀ (s : Shared) (H : Hp) (C : Addr) (cl : List (Str × Addr)) (fp : List Addr), PTs (X.blk s H scope (compEnvC scope cl C X.env) fp) ifs tt
  htt : ∀ σ H Q, tT g.in ic σ H Q → tt σ H Q
  he : ∀ (s : Shared) (H : Hp) (C : Addr) (cl : List (Str × Addr)) (fp : List Addr), PE (X.blk s H scope (compEnvC scope cl C X.env) fp) elt (tE g.in iel)
  hs : ∀ x, foldedSetIterable iter X.env x = pure x
theorem nodup_of (G : Good X T m g) : X.N.Nodup := by rw [G.N]; exact G.nd
theorem cComp_ok {r : Scope → Expr → Option E} (hm : 1 ≤ m) (R : Snd T r) (G : Good X T m g) (S : ScOk X sc) {elt : Expr} {gs : List Comprehension} {scope : Scope} {ie : E} (h : cComp T r sc elt gs scope = some ie) :
    ∃ x xp iter ifs i src iel ic tt, CompR X g elt gs scope ie x xp iter ifs i src iel ic tt := by
  have hr : ∀ e ie, r sc e = some ie → SE X g e ie := fun e ie q => R sc e ie q X m g hm G S
  unfold cComp at h
  split at h
  case h_2 => cases h
  rename_i x xp iter ifs
  obtain ⟨i, h1, h⟩ := bindSome h
  split at h
  case isFalse => cases h
  rename_i hh
  simp only [Bool.and_eq_true] at hh
  obtain ⟨src, h2, h⟩ := bindSome h
  obtain ⟨iel, h3, h⟩ := bindSome h
  obtain ⟨ic, h4, rfl⟩ := mapSome h
  obtain ⟨pi, ti⟩ := cIt_ok (tg := .Name x xp) G S hr h2
  have nd : X.N.Nodup := nodup_of G
  have bo : BlkOk X.N X.env.scope scope [(x, i)] := by rw [G.N]; exact blk_up S (blkOk_by hh.2.2)
  have hx : X.N[i]? = some x := by rw [G.N]; exact ixOf_ok h1
  have hin := fun (s : Shared) (H : Hp) (C : Addr) (cl : List (Str × Addr)) (fp : List Addr) (e : Expr) (ie : E) (q : r scope e = some ie) => R scope e ie q (X.blk s H scope (compEnvC scope cl C X.env) fp) m g.in hm G.blk ScOk.blk
  have hg : ∀ (s : Shared) (H : Hp) (C : Addr) (cl : List (Str × Addr)) (fp : List Addr), PG (X.blk s H scope (compEnvC scope cl C X.env) fp) (.Name x xp) (gName i) := fun s H C cl fp => by
    have lo : L2.Loc (X.blk s H scope (compEnvC scope cl C X.env) fp).env.scope x := by
      have q := hh.2.1
      unfold locB at q
      split at q
      · exact .inl (ScOk.blk.loc x (by assumption))
      · exact .inr (ScOk.blk.cel x (by assumption))
      · cases q
    refine pg_name (X := X.blk s H scope (compEnvC scope cl C X.env) fp) nd hx lo ?_
    have q := hh.2.1
    unfold locB at q
    split at q
    · exact .inr (ScOk.blk.loc x (by assumption))
    · rename_i e
      exact .inl (by show (scope.names.lookup x == some .cell) = true; rw [e]; rfl)
    · cases q
  match ifs, h4 with
  | [], h4 =>
    cases h4
    exact ⟨x, xp, iter, [], i, src, iel, _, tYes, rfl, rfl, pi, bo, hg, fun s H C cl fp => pts_nil, fun σ H Q => tt_none σ H Q, fun s H C cl fp => (hin s H C cl fp elt iel h3).pe, folded_tame ti⟩
  | [c], h4 =>
    simp only [cIfs] at h4
    split at h4
    · cases h4
    rename_i hi
    exact ⟨x, xp, iter, [c], i, src, iel, ic, tT g.in ic, rfl, rfl, pi, bo, hg, fun s H C cl fp => pts_one ((hin s H C cl fp c ic h4).pt (by simpa using hi)), fun σ H Q q => q, fun s H C cl fp => (hin s H C cl fp elt iel h3).pe, folded_tame ti⟩
  | _ :: _ :: _, h4 => cases h4
theorem cE1_ok {r r' : Scope → Expr → Option E} (R : Snd T r) (R' : Snd T.lamT r') : Snd T (cE1 T r r') := by
  intro sc e ie h X m g hm G S
  have hr : ∀ e ie, r sc e = some ie → SE X g e ie := fun e ie q => R sc e ie q X m g hm G S
  have hp : ∀ e ie, r sc e = some ie → PE X e (tE g ie) := fun e ie q => (hr e ie q).pe
  have hu := units_ok G
  unfold cE1 at h
  split at h
  · exact .of G.K (cName_ok G S h) fun _ => rfl
  · exact .of G.K (cConst_ok h) fun _ => rfl
  · obtain ⟨ies, h1, h⟩ := bindSome h
    split at h
    case isFalse => cases h
    rename_i hl
    cases h
    exact .of G.K (sE_tup hl (cMap_ok hp h1).1) fun _ => rfl
  · obtain ⟨ies, h1, h⟩ := bindSome h
    split at h
    case isFalse => cases h
    rename_i hl
    cases h
    exact .of G.K (sE_lst hl (cMap_ok hp h1).1) fun _ => rfl
  · obtain ⟨o, h1, h⟩ := bindSome h
    obtain ⟨ia, h2, h⟩ := bindSome h
    obtain ⟨ib, h3, rfl⟩ := mapSome h
    rw [cBop_ok h1]
    exact .of G.K (sE_bop G.K (hp _ _ h2) (hp _ _ h3)) fun _ => rfl
  · obtain ⟨ia, h2, rfl⟩ := mapSome h
    exact .of G.K (sE_neg G.K (hp _ _ h2)) fun _ => rfl
  · split at h
    · cases h
    rename_i hi
    obtain ⟨ia, h2, rfl⟩ := mapSome h
    exact ⟨sE_not G.K (hp _ _ h2), fun _ => sT_not ((hr _ _ h2).pt (by simpa using hi))⟩
  · obtain ⟨p1, p2⟩ := cBool_ok G.K hr h
    exact ⟨p1, fun _ => p2.pt⟩
  · split at h
    case isFalse => cases h
    rename_i ht
    obtain ⟨o, h1, h⟩ := bindSome h
    obtain ⟨ia, h2, h⟩ := bindSome h
    obtain ⟨ib, h3, rfl⟩ := mapSome h
    rw [cCop_ok h1]
    exact ⟨sE_cmp G.wd G.K hu (marks_tame ht) (hp _ _ h2) (hp _ _ h3), fun _ => sT_cmp G.wd G.K hu (marks_tame ht) (hp _ _ h2) (hp _ _ h3)⟩
  · split at h
    case isFalse => cases h
    rename_i ht
    simp only [Bool.and_eq_true] at ht
    obtain ⟨o, h1, h⟩ := bindSome h
    obtain ⟨o', h1', h⟩ := bindSome h
    obtain ⟨ia, h2, h⟩ := bindSome h
    obtain ⟨ib, h3, h⟩ := bindSome h
    obtain ⟨ic, h4, rfl⟩ := mapSome h
    rw [cCop_ok h1, cCop_ok h1']
    exact ⟨sE_cmp2 G.wd G.K hu (marks_tame ht.2) (hp _ _ h2) (hp _ _ h3) (hp _ _ h4), fun _ => sT_cmp2 G.wd G.K hu (marks_tame ht.2) (hp _ _ h2) (hp _ _ h3) (hp _ _ h4)⟩
  · split at h
    · cases h
    rename_i hi
    obtain ⟨ic, h2, h⟩ := bindSome h
    obtain ⟨ia, h3, h⟩ := bindSome h
    obtain ⟨ib, h4, rfl⟩ := mapSome h
    exact ⟨sE_ite ((hr _ _ h2).pt (by simpa using hi)) (hp _ _ h3) (hp _ _ h4), fun q => by cases q⟩
  · exact .of G.K (cThk_ok G S R' h) fun _ => rfl
  · exact .of G.K (cCall_ok hm G S hr h) fun _ => rfl
  · rename_i o m' apos a b pos
    split at h
    case isFalse => cases h
    rename_i hh
    simp only [Bool.and_eq_true, decide_eq_true_eq] at hh
    obtain ⟨rfl, hns, hl, ta, tb⟩ := hh
    obtain ⟨io, h1, h⟩ := bindSome h
    obtain ⟨ia, h2, h⟩ := bindSome h
    obtain ⟨ib, h3, rfl⟩ := mapSome h
    have e1 : starEach [b] X.env = [(false, eval b X.env)] := star_tame tb
    have e2 : starEach [a, b] X.env = (false, eval a X.env) :: starEach [b] X.env := star_tame ta
    refine .of G.K (sE_get G.wd hu G.K (hp _ _ h1) (sEs_cons (hp _ _ h2) (sEs_cons (hp _ _ h3) sEs_nil e1) e2) (notSup_ok hns) ?_ hl e2 ?_) fun _ => rfl
    · rw [e2, e1]; rfl
    · rw [e1]; rfl
  · rename_i o m' apos a pos
    split at h
    case isFalse => cases h
    rename_i hh
    simp only [Bool.and_eq_true, decide_eq_true_eq] at hh
    obtain ⟨rfl, hns, hl, ta⟩ := hh
    obtain ⟨io, h1, h⟩ := bindSome h
    obtain ⟨ia, h2, rfl⟩ := mapSome h
    have e1 : starEach [a] X.env = [(false, eval a X.env)] := star_tame ta
    exact .of G.K (sE_join G.wd G.K (hp _ _ h1) (hp _ _ h2) e1 (notSup_ok hns) hl) fun _ => rfl
  · split at h
    case isFalse => cases h
    rename_i hh
    simp only [Bool.and_eq_true] at hh
    obtain ⟨io, h1, h⟩ := bindSome h
    obtain ⟨k, h2, rfl⟩ := mapSome h
    obtain ⟨y, hy⟩ := Option.isSome_iff_exists.mp hh.2
    obtain ⟨m', rfl⟩ : ∃ m', m = m' + 1 := ⟨m - 1, by omega⟩
    exact .of G.K (sE_fld ((G.sen y hy).2 m' rfl).O G.K (hp _ _ h1) (ixOf_ok h2) (notSup_ok hh.1)) fun _ => rfl
  · cases h
    exact .of G.K (sE_dct0 G.wd true) fun _ => rfl
  · obtain ⟨ik, h1, h⟩ := bindSome h
    obtain ⟨iv, h2, rfl⟩ := mapSome h
    exact .of G.K (sE_dct1 G.wd hu G.K (hp _ _ h1) (hp _ _ h2)) fun _ => rfl
  · obtain ⟨ia, h1, h⟩ := bindSome h
    obtain ⟨il, h2, h⟩ := bindSome h
    obtain ⟨ih, h3, rfl⟩ := mapSome h
    exact .of G.K (sE_slice G.K (hp _ _ h1) (cOpt_ok hr h2) (cOpt_ok hr h3)) fun _ => rfl
  · split at h
    case isFalse => cases h
    rename_i ht
    obtain ⟨ia, h1, h⟩ := bindSome h
    obtain ⟨ii, h2, rfl⟩ := mapSome h
    exact .of G.K (sE_sub G.wd hu G.K (ix_tame ht) (hp _ _ h1) (hp _ _ h2)) fun _ => rfl
  · obtain ⟨x, xp, iter, ifs, i, src, iel, ic, tt, c⟩ := cComp_ok hm R G S h
    rw [c.gs_, c.ie_]
    exact .of G.K (sE_compE G.K G.calm (nodup_of G) c.pi c.bo c.hg c.pt c.htt c.he c.hs) fun _ => rfl
  · cases h
theorem cE_ok : ∀ (n : Nat) {T : Tb}, Snd T (cE T n)
  | 0, _ => fun sc e ie h => by cases h
  | n + 1, _ => cE1_ok (cE_ok n) (cE_ok n)
end
end Rf

/-! part RfExc -/
set_option autoImplicit false
set_option linter.all false
set_option Elab.async false
set_option maxRecDepth 100000
set_option maxHeartbeats 2000000
/-! RfExc: what an except suite asks of the exception. -/
namespace Rf
open PySem PySem.Spec PyProof.Rows L2
section
variable {X : Cx}
/-- isinstance(e, c), e's object pinned -/
theorem call_isP {a D : Addr} {oe : Obj} (hp : (a, oe) ∈ X.pn) (C : ExcC X.K D) (hz : Zc (.ref D) none oe) (hf : ∃ vs, oe.data = .fields vs) : CallR X (.builtin "isinstance") (rIsE X.K D a) := by
  intro pins s σ H xs us Q I r h
  obtain ⟨c, cv, b, rfl, hcv, e, q⟩ := h
  obtain ⟨u1, u2, rfl, r1, r2⟩ := vals2 r
  cases r1
  rw [hcv _ r2]
  have at_ := (I.pin (a, oe) (List.mem_append_left _ hp)).1
  obtain ⟨vs, hv⟩ := hf
  have J : PySem.W.InstAt s.heap a oe D none := by
    cases oe with
    | mk oc od oda osl =>
      obtain ⟨h1, h2⟩ := hz
      simp only at h1 h2 hv
      subst h1 h2 hv
      exact ⟨at_, rfl, rfl, trivial⟩
  refine PySem.W.kia_one (PySem.W.handS_kitx_exc C.hg C.hk C.hs C.hd C.ha C.hn C.ht C.hm) I.kIn J e (fun z => nomatch z) fun tk => ?_
  exact ⟨.bl b, H, I.kept (t' := tk) fun _ _ z => z, rfl, q⟩
/-- l.count(b) of truths -/
def rCntB (K : PySem.W.Frag) : V → List V → Hp → VK → Prop := fun x xs H Q => ∃ (p : Addr) (bs : List Bool) (b : Bool), x = .ref p ∧ xs = [.bl b] ∧ SqL K H p (bs.map V.bl) ∧ Q (.int (bs.count b : Nat)) H
def isB (b : Bool) : Value → Bool
  | .bool c => c == b
  | _ => false
theorem bools_of : ∀ {bs : List Bool} {us : List Value}, Vals (bs.map V.bl) us → us = bs.map Value.bool
  | [], _, .nil => rfl
  | b :: bs, _, .cons r t => by
    cases (show _ = Value.bool b from r)
    rw [bools_of t]; rfl
theorem isB_count (b : Bool) : ∀ bs : List Bool, (bs.map Value.bool).countP (isB b) = bs.count b
  | [] => rfl
  | c :: bs => by
    rw [List.map_cons, List.countP_cons, List.count_cons, isB_count b bs]
    cases c <;> cases b <;> rfl
theorem mt_countB : MtR X "list.count" (rCntB X.K) := by
  intro pins s σ H x xs v us Q I rx rxs h
  obtain ⟨p, bs, b, rfl, rfl, hs, q⟩ := h
  cases rx
  obtain ⟨u, rfl, ru⟩ := rxs.one
  cases (show u = Value.bool b from ru)
  obtain ⟨its, rv, pl, hlen⟩ := I.list hs
  have ei := bools_of rv
  subst ei
  obtain ⟨ob, n, ho, hc, hdn, hd⟩ := pl
  cases ob with
  | mk cls dd data sl =>
    simp only at hc hd
    subst hc hd
    refine call_meets PySem.F.slot_list_count ⟨_, ho, rfl⟩ PySem.F.entry_list_count (PySem.F.args_list_count_2 _ _)
      (SeqAt.list_countAt p _ n dd sl (.bool b) (isB b)) ⟨ho, fun y hy => ?_, ?_⟩
    · have hy' : y ∈ bs.map Value.bool := by simpa using hy
      obtain ⟨c, _, rfl⟩ := List.mem_map.mp hy'
      exact PySem.SeqAt.EqAt.bool_bool c b
    · have ec : ((bs.map Value.bool).toArray.toList).countP (isB b) = bs.count b := by simpa using isB_count b bs
      refine ⟨.int (bs.count b : Nat), H, I.tok _, ⟨s.toks, ?_⟩, q⟩
      rw [ec]
end
open L2H in
/-- a def of the text, called where p's exception is handled; its promise may speak of p -/
theorem fn_hot {CX : CXT} {Pr : Program} {w : World} {K : PySem.W.Frag} {mg : Str → Option Value} {base : Heap} {k : Nat} {f : Addr} {x qual : Str} {params : Arguments} {body : List Stmt} {scope : Scope} {fd : FuncData} {N ps : List Str} {sp : Sp} {p : Addr × Obj}
    (F : FunD K x qual params body scope [] [] f fd) (S : FnScope N ps scope) (len : ∀ vs H Q E, sp vs H Q E → vs.length = ps.length)
    (hbody : ∀ (cdv : Value) (A : Around) (outer : List PySem.Env) (s : Shared) (H : Hp) (vs : List V) (Q : VK) (E : XK), Hot1 A p → RoomH k (A.deeper (envOfC qual scope s.heap.objs.size f cdv)) → sp vs H Q E →
      ∃ t, PSs (cxH CX Pr w K mg base N qual scope f cdv A outer s H E p) body t ∧ t { nx := fun _ H' => Q .non H', rt := Q } (L2.start N vs) H)
    {A : Around} {outer : List PySem.Env} {s : Shared} {H : Hp} {args : Args} {us : List Value} {vs : List V} {Q : VK} {E : XK} (hr : RoomH (k + 1) A) (hot : Hot1 A p) (pin : PinOk outer H s p) (e0 : Env0 Pr w K mg base A outer s H) (hb : BindsTo s fd args (ps.zip us)) (r : Vals vs us) (h : sp vs H Q E) :
    codeAny (model Pr w) A (.call (.ref f) args) (CR CX outer Pr w H s Q E) s := by
  obtain ⟨oc, od, dV, kV, doc, pm, an, cdv, ct, osl, rfl, lk, hcd, _, _⟩ := F.ex
  have up : ∀ b o, base.get? b = some o → s.heap.get? b = some o := fun b o e => (e0.bs b o e).1
  have inK : K.In s.heap := e0.mod.kin.keeps up
  have pk : ∀ y ∈ ps.zip us, scope.names.lookup y.1 = some .local ∨ (scope.names.lookup y.1 = some .cell ∧ ((cellsFrom (s.heap.objs.size + 1) scope.names []).lookup y.1).isSome = true) := by
    rintro ⟨n, v⟩ hy
    exact (S.par n (List.of_mem_zip hy).1).imp id fun q => ⟨q, PySem.W.cellsFrom_some _ _ _ (.inl q)⟩
  refine codeAny_call_function hr.depth (inK _ _ lk) rfl S.co S.gen rfl (PySem.W.codeRec_of inK hcd) (hb _ _ _ _ ?_)
  refine wpAny_newFunctionEnv_cells S.kind pk fun env he s1 st => ?_
  cases he
  refine ⟨(e0.mod.nolimit.keeps up).keeps st.toInCall.keep, codeAny_func ?_⟩
  obtain ⟨t, ht, hq⟩ := hbody cdv A outer s H vs Q E hot (hr.deeper _) h
  have I := inv_startH (CX := CX) (E := E) S pin e0 (len _ _ _ _ h) r st
  refine wpAny_mono (ht.run [] s1 (L2.start N vs) H _ I hq) (fun fl s' hs => ?_) fun e s' hs => hs
  cases fl with
  | ret u =>
    obtain ⟨v, σ', H', J, rv, q⟩ := hs
    exact ⟨v, H', J.os, J.bare, J.base, J.hok, rv, q⟩
  | next =>
    obtain ⟨σ', H', J, q⟩ := hs
    exact ⟨V.non, H', J.os, J.bare, J.base, J.hok, rfl, q⟩
  | brk => exact hs.elim fun _ z => z.elim fun _ z => z.2.elim
  | cont => exact hs.elim fun _ z => z.elim fun _ z => z.2.elim
open L2H in
structure HotRun (Pr : Program) (w : World) (K : PySem.W.Frag) (mg : Str → Option Value) (base : Heap) (CX : CXT) (k : Nat) (f : Addr) (fd : FuncData) (ps : List Str) (sp : Sp) (p : Addr × Obj) : Prop where
  len : ∀ vs H Q E, sp vs H Q E → vs.length = ps.length
  run : ∀ (A : Around) (outer : List PySem.Env) (s : Shared) (H : Hp) (args : Args) (us : List Value) (vs : List V) (Q : VK) (E : XK), RoomH k A → Hot1 A p → PinOk outer H s p → Env0 Pr w K mg base A outer s H → BindsTo s fd args (ps.zip us) → Vals vs us → sp vs H Q E →
    codeAny (model Pr w) A (.call (.ref f) args) (CR CX outer Pr w H s Q E) s
section
open L2H
variable {X : Cx} {CX : CXT} {k : Nat} {f : Addr} {fd : FuncData} {ps : List Str} {sp : Sp} {p : Addr × Obj} {x : Str} {q pos : Pos} {e : Expr} {es : List Expr} {t : TA}
theorem run_hot {pins : List (Addr × Obj)} {σ : L2.St} {H : Hp} {s : Shared} {Q : VK} {E : XK} {us : List Value} {vs : List V} (F : HotRun X.prog X.w X.K X.mg X.base CX k f fd ps sp p) (hr : RoomH k X.A) (hot : Hot1 X.A p) (hp : p ∈ X.pn) (hb : Binds X.K fd ps []) (hx : PassesAt CX X σ E)
    (I : Inv X pins σ H s) (r : Vals vs us) (h : sp vs H Q E) : wpAny (model X.prog X.w) X.A (call (.ref f) us) (EP X pins σ Q) X.xe s := by
  have b := hb s us I.kIn (by rw [List.append_nil, ← r.length]; exact F.len _ _ _ _ h)
  rw [List.append_nil] at b
  obtain ⟨g1, g2, g3, g4, g5⟩ := I.pin p (List.mem_append_left _ hp)
  have nf : p.1 ∉ frs X.stack := fun hm => (List.mem_cons.mp (I.stkSub p.1 hm)).elim g3 g4
  refine wpAny_call (codeAny_mono (F.run X.A X.stack s H ⟨us, []⟩ us vs Q E hr hot ⟨g1, g2, nf, g5⟩ I.env0 b r h) fun r s' hq => ?_)
  cases r with
  | error e => exact hx pins H s e s' I hq
  | ok fl => cases fl with
    | ret u => exact I.after hq
    | next => exact hq.elim
    | brk => exact hq.elim
    | cont => exact hq.elim
/-- f(e, ..) in the suite -/
theorem pe_hot {E : XK} (F : HotRun X.prog X.w X.K X.mg X.base CX k f fd ps sp p) (hr : RoomH k X.A) (hot : Hot1 X.A p) (hp : p ∈ X.pn) (hg : Gl X x) (hm : X.mg x = some (.ref f)) (hk : PySem.W.keepIn X.K (.ref f) = true) (hb : Binds X.K fd ps []) (hx : ∀ σ, PassesAt CX X σ E)
    (ha : PA X (e :: es) t) (hdb : (x == ("__debug__" : Str)) = false) (he : starEach (e :: es) X.env = (false, eval e X.env) :: starEach es X.env) (hpl : (backTo pos (starEach es X.env)).any (·.1) = false) :
    PE X (.Call (.Name x q) (e :: es) [] pos) (tCallS sp (fun _ => E) t) := by
  refine ⟨fun pins s σ H Q I h => wpAny_Call_Name_kw (ld_glob I hg hm ?_ hdb)⟩
  refine PySem.W.callWith_K (h₀ := X.base) I.ok.mod.kin hk (thn (ha.run pos pins s σ H _ I h) fun us s1 ⟨vs, H1, I1, r, q1⟩ => ⟨I1.kIn, run_hot F hr hot hp hb (hx σ) I1 r q1⟩) he hpl
end
end Rf

/-! part RfExc2 -/
set_option autoImplicit false
set_option linter.all false
set_option Elab.async false
set_option maxRecDepth 100000
set_option maxHeartbeats 2000000
/-! RfExc2: what the head tells of the classes. -/
namespace Rf
open PySem L2
/-- ExcC as a test -/
def excB (K : PySem.W.Frag) (D : Addr) : Bool :=
  decide (PySem.W.findIn K (.ref D) "__getattribute__" = some (some (.builtin "BaseException.__getattribute__"))) && (decide (PySem.W.findIn K (.ref D) "__getattr__" = some none) && (decide (PySem.W.subIn K (.ref D) (.type "BaseException") = some true) &&
  (PySem.W.hasDictIn K D && (decide (PySem.W.findIn K (.ref D) "__class__" = some (some (.builtin "object.__class__"))) && (decide (PySem.W.specialIn K (.builtin "object.__class__") "__get__" = some (some (.builtin "getset_descriptor.__get__"))) &&
  (decide (PySem.W.takesIn K (.builtin "object.__class__") = some true) && decide (PySem.W.mroIn K D (.type "object") = some true)))))))
theorem excB_ok {K : PySem.W.Frag} {D : Addr} (h : excB K D = true) : ExcC K D := by
  simp only [excB, Bool.and_eq_true, decide_eq_true_eq] at h
  obtain ⟨h1, h2, h3, h4, h5, h6, h7, h8⟩ := h
  exact ⟨h1, h2, h3, h4, h5, h6, h7, h8⟩
/-- a class among the classes: isinstance, except -/
def pairB (K : PySem.W.Frag) (q r : Str × Nat) : Bool := decide (PySem.W.kitOne K (.ref (He.ga K q.1)) (.ref (He.ga K r.1)) = some (subC q.2 r.2)) && decide (PySem.W.exmOne K (.ref (He.ga K q.1)) (.ref (He.ga K r.1)) = some (subC q.2 r.2))
def clsB (K : PySem.W.Frag) (all : List (Str × Nat)) (q : Str × Nat) : Bool := excB K (He.ga K q.1) && (decide (PySem.W.kitOne K (.ref (He.ga K q.1)) (.type "ValueError") = some true) && all.all fun r => pairB K q r)
end Rf

/-! part RfAlone -/
set_option autoImplicit false
set_option linter.all false
set_option Elab.async false
set_option maxRecDepth 100000
set_option maxHeartbeats 2000000
/-! RfAlone: _law_alone, asked within an except suite. -/
namespace Rf
open PySem PySem.Spec PyProof.Rows L2
variable [Wd]
section
variable {X : Cx} {a D : Addr} {oe : Obj} {q1 q2 q3 pos : Pos} {e C : Str}
/-- isinstance(e, C), C an own class -/
def tIsE (i : Nat) (a : Addr) (b : Bool) : TE := fun σ H Q => σ[i]? = some (some (.ref a)) ∧ Q (.bl b) H
theorem pe_isE {i : Nat} {c : Addr} {b : Bool} (hp : (a, oe) ∈ X.pn) (EC : ExcC X.K D) (hz : Zc (.ref D) none oe) (hf : ∃ vs, oe.data = .fields vs) (hN : X.N[i]? = some e) (hv : Vis X.env.scope e) (hd : (e == ("__debug__" : Str)) = false) (hcd : (e == ("__classdict__" : Str)) = false)
    (gi : Gl X "isinstance") (mi : X.mg "isinstance" = none) (gC : Gl X C) (mC : X.mg C = some (.ref c)) (hdC : (C == ("__debug__" : Str)) = false) (hk : PySem.W.kitOne X.K (.ref D) (.ref c) = some b) :
    PE X (.Call (.Name "isinstance" q1) [.Name e q2, .Name C q3] [] pos) (tIsE i a b) := by
  have p1 : PE X (.Name C q3) (tC (.ref c)) := pe_glob gC mC rfl hdC
  have args : PA X [.Name e q2, .Name C q3] (tCons (tVar i) (tCons (tC (.ref c)) tNil)) := pa_cons (pe_var hN hv hd hcd) (pa_cons p1 pa_nil)
  refine pe_weak (pe_callB (call_isP hp EC hz hf) gi mi (by decide +kernel) args (by decide) (by decide) rfl rfl) fun σ H Q h => ?_
  obtain ⟨h1, h2⟩ := h
  exact ⟨_, h1, .ref c, .ref c, b, rfl, fun u r => r, hk, h2⟩
/-- .. a built-in one -/
theorem pe_isT {i : Nat} {T : String} {b : Bool} (hp : (a, oe) ∈ X.pn) (EC : ExcC X.K D) (hz : Zc (.ref D) none oe) (hf : ∃ vs, oe.data = .fields vs) (hN : X.N[i]? = some e) (hv : Vis X.env.scope e) (hd : (e == ("__debug__" : Str)) = false) (hcd : (e == ("__classdict__" : Str)) = false)
    (gi : Gl X "isinstance") (mi : X.mg "isinstance" = none) (gC : Gl X C) (mC : X.mg C = none) (bC : bootBuiltins C = some (.type T)) (hnC : C ≠ "__name__") (hdC : (C == ("__debug__" : Str)) = false) (hk : PySem.W.kitOne X.K (.ref D) (.type T) = some b) :
    PE X (.Call (.Name "isinstance" q1) [.Name e q2, .Name C q3] [] pos) (tIsE i a b) := by
  have p1 : PE X (.Name C q3) (tC (.ty T)) := pe_bltn gC mC bC rfl hnC hdC
  have args : PA X [.Name e q2, .Name C q3] (tCons (tVar i) (tCons (tC (.ty T)) tNil)) := pa_cons (pe_var hN hv hd hcd) (pa_cons p1 pa_nil)
  refine pe_weak (pe_callB (call_isP hp EC hz hf) gi mi (by decide +kernel) args (by decide) (by decide) rfl rfl) fun σ H Q h => ?_
  obtain ⟨h1, h2⟩ := h
  exact ⟨_, h1, .ty T, .type T, b, rfl, fun u r => r, hk, h2⟩
/-- what _law_alone's body reads: b0 .. b5 the six classes, bw, bv those above -/
def t_alone (K : PySem.W.Frag) (a : Addr) (b0 b1 b2 b3 b4 b5 bw bv : Bool) : TS :=
  tSeq (tAsg (tLst (tCons (tIsE 0 a b0) (tCons (tIsE 0 a b1) (tCons (tIsE 0 a b2) (tCons (tIsE 0 a b3) tNil))))) (gName 1))
    (tSeq (tAsg (tOp rCat (tVar 1) (tLst (tCons (tIsE 0 a b4) (tCons (tIsE 0 a b5) tNil)))) (gName 1))
      (tRet (tAndV (tOp rEq (tBM K "list" (rCntB K) (tVar 1) (tCons (tC (.bl true)) tNil)) (tC (.int 1))) (tAndV (tIsE 0 a bw) (tIsE 0 a bv)))))
theorem pure_alone {K : PySem.W.Frag} {b0 b1 b2 b3 b4 b5 : Bool} {H : Hp} {Dn : Ends} (h1 : [b0, b1, b2, b3, b4, b5].count true = 1) (hQ : ∀ H', Ex H H' → Dn.rt (.bl true) H') : t_alone K a b0 b1 b2 b3 b4 b5 true true Dn [some (.ref a), none] H := by
  refine ⟨rfl, rfl, rfl, rfl, (by show 4 ≤ sizeLine; decide), fun p hp => ?_⟩
  refine ⟨_, rfl, rfl, rfl, (by show 2 ≤ sizeLine; decide), fun q hq => ?_⟩
  have e1 := Ex.new (o := .lst [V.bl b0, .bl b1, .bl b2, .bl b3]) hp
  have e2 := Ex.new (o := .lst [V.bl b4, .bl b5]) hq
  have np : p ≠ q := fun e => by rw [← e, upd_same] at hq; cases hq
  refine ⟨p, q, _, _, rfl, rfl, e2.k upd_same rfl, upd_same, (by show 6 ≤ sizeLine; decide), fun r hr => ?_⟩
  have e3 := Ex.new (o := .lst ([V.bl b0, .bl b1, .bl b2, .bl b3] ++ [V.bl b4, .bl b5])) hr
  refine ⟨_, rfl, .inl ⟨rfl, _, .inl (.inl upd_same)⟩, r, [b0, b1, b2, b3, b4, b5], true, rfl, rfl, .inl (.inl upd_same), ?_⟩
  refine ⟨rfl, true, ?_, ?_⟩
  · rw [h1]; rfl
  · rw [if_pos rfl]
    refine ⟨rfl, true, rfl, ?_⟩
    rw [if_pos rfl]
    exact ⟨rfl, hQ _ ((e1.trans e2).trans e3)⟩
end
def isIsB (e C : Str) : Expr → Bool
  | .Call (.Name f _) [.Name y _, .Name Z _] [] _ => decide (f = ("isinstance" : Str)) && (decide (y = e) && decide (Z = C))
  | _ => false
theorem isIsB_ok {e C : Str} {x : Expr} (h : isIsB e C x = true) : ∃ q1 q2 q3 pos, x = .Call (.Name "isinstance" q1) [.Name e q2, .Name C q3] [] pos := by
  unfold isIsB at h
  split at h
  · simp only [Bool.and_eq_true, decide_eq_true_eq] at h
    obtain ⟨rfl, rfl, rfl⟩ := h
    exact ⟨_, _, _, _, rfl⟩
  · cases h
/-- is it _law_alone's body? -/
def aloneB (e fl : Str) : List Stmt → Bool
  | [.Assign [.Name f1 _] (.List [x1, x2, x3, x4] _) _, .Assign [.Name f2 _] (.BinOp (.Name f3 _) .Add (.List [x5, x6] _) _) _,
     .Return (some (.BoolOp .And [.Compare (.Call (.Attribute (.Name f4 _) m ap) [.Constant (.bool true) _ _] [] cp) [.Eq] [.Constant (.int 1) _ _] _, x7, x8] _)) _] =>
    decide (f1 = fl) && (decide (f2 = fl) && (decide (f3 = fl) && (decide (f4 = fl) && (decide (m = ("count" : Str)) && ((ap.endLine == cp.line) &&
      (isIsB e "NoRule" x1 && (isIsB e "TooGreat" x2 && (isIsB e "Untrue" x3 && (isIsB e "BadText" x4 && (isIsB e "BadRow" x5 && (isIsB e "NoSuch" x6 && (isIsB e "WellError" x7 && isIsB e "ValueError" x8))))))))))))
  | _ => false
/-- what the suite's context tells -/
structure AlnC (X : Cx) (a D : Addr) (oe : Obj) (e fl : Str) : Prop where
  hp : (a, oe) ∈ X.pn
  EC : ExcC X.K D
  hz : Zc (.ref D) none oe
  hf : ∃ vs, oe.data = .fields vs
  N : X.N = [e, fl]
  nd : X.N.Nodup
  le : Loc X.env.scope e
  lf : Loc X.env.scope fl
  ne : (e == ("__debug__" : Str)) = false ∧ (e == ("__classdict__" : Str)) = false
  nf : (fl == ("__debug__" : Str)) = false ∧ (fl == ("__classdict__" : Str)) = false
  fn : ∀ x, X.fn x = true
  gi : Gl X "isinstance"
  mi : X.mg "isinstance" = none
  gv : Gl X "ValueError"
  mv : X.mg "ValueError" = none
  kv : PySem.W.kitOne X.K (.ref D) (.type "ValueError") = some true
theorem Loc.vis {sc : Scope} {x : Str} (h : L2.Loc sc x) : Vis sc x := by
  rcases h with h | h
  · exact .inl h
  · exact .inr (.inl h)
theorem alone_pss {X : Cx} {a D : Addr} {oe : Obj} {e fl : Str} {body : List Stmt} {c : Str → Addr} {b : Str → Bool} (A : AlnC X a D oe e fl) (hb : aloneB e fl body = true)
    (hC : ∀ C, C ∈ ([("NoRule" : Str), "TooGreat", "Untrue", "BadText", "BadRow", "NoSuch", "WellError"] : List Str) → Gl X C ∧ X.mg C = some (.ref (c C)) ∧ (C == ("__debug__" : Str)) = false ∧ PySem.W.kitOne X.K (.ref D) (.ref (c C)) = some (b C)) :
    PSs X body (t_alone X.K a (b "NoRule") (b "TooGreat") (b "Untrue") (b "BadText") (b "BadRow") (b "NoSuch") (b "WellError") true) := by
  unfold aloneB at hb
  split at hb
  case h_2 => cases hb
  simp only [Bool.and_eq_true, decide_eq_true_eq] at hb
  obtain ⟨rfl, rfl, rfl, rfl, rfl, hl, y1, y2, y3, y4, y5, y6, y7, y8⟩ := hb
  have N0 : X.N[0]? = some e := by rw [A.N]; rfl
  have is_ : ∀ {C : Str} {x : Expr}, C ∈ ([("NoRule" : Str), "TooGreat", "Untrue", "BadText", "BadRow", "NoSuch", "WellError"] : List Str) → isIsB e C x = true → PE X x (tIsE 0 a (b C)) ∧ tame x = true := fun {C x} hm hx => by
    obtain ⟨q1, q2, q3, pos, rfl⟩ := isIsB_ok hx
    obtain ⟨g, m, d, k⟩ := hC C hm
    exact ⟨pe_isE A.hp A.EC A.hz A.hf N0 (Loc.vis A.le) A.ne.1 A.ne.2 A.gi A.mi g m d k, rfl⟩
  have z1 := is_ (by simp) y1
  have z2 := is_ (by simp) y2
  have z3 := is_ (by simp) y3
  have z4 := is_ (by simp) y4
  have z5 := is_ (by simp) y5
  have z6 := is_ (by simp) y6
  have z7 := is_ (by simp) y7
  obtain ⟨q1, q2, q3, pos8, e8⟩ := isIsB_ok y8
  subst e8
  have z8 := pe_isT (e := e) (q1 := q1) (q2 := q2) (q3 := q3) (pos := pos8) A.hp A.EC A.hz A.hf N0 (Loc.vis A.le) A.ne.1 A.ne.2 A.gi A.mi A.gv A.mv (T := "ValueError") (by decide +kernel) (by decide) (by decide) A.kv
  have N1 := (show X.N[1]? = some _ by rw [A.N]; rfl)
  have L4 := pa_cons z1.1 (pa_cons z2.1 (pa_cons z3.1 (pa_cons z4.1 pa_nil (star_tame z4.2)) (star_tame z3.2)) (star_tame z2.2)) (star_tame z1.2)
  have L2_ := pa_cons z5.1 (pa_cons z6.1 pa_nil (star_tame z6.2)) (star_tame z5.2)
  have vf := fun (p : Pos) => pe_var (pos := p) N1 (Loc.vis A.lf) A.nf.1 A.nf.2
  refine pss_cons (ps_set (i := 1) A.nd N1 A.lf (pe_lst L4) rfl (.inl (A.fn _))) (pss_cons (ps_set (i := 1) A.nd N1 A.lf (pe_op op_cat (vf _) (pe_lst L2_)) rfl (.inl (A.fn _))) (pss_one (ps_ret ?_)))
  refine pe_and (pe_cmpR op_eq (pe_bm PySem.F.plainAttrs_list PySem.F.slot_list_count PySem.F.type_list_count mt_countB (vf _) (pa_cons pe_bl pa_nil rfl) rfl rfl hl rfl rfl) pe_int (nomark _)) (pe_and z7.1 (pe_one z8))
abbrev cls7 : List Str := [("NoRule" : Str), "TooGreat", "Untrue", "BadText", "BadRow", "NoSuch", "WellError"]
/-- the names of _law_alone's body -/
def aloneSc (e fl : Str) (sc : Scope) : Bool := locB sc e && (locB sc fl && (glB sc "isinstance" && (glB sc "ValueError" && (cls7.all fun C => glB sc C && okName C) && (okName e && okName fl))))
theorem locB_ok {sc : Scope} {x : Str} (h : locB sc x = true) : L2.Loc sc x := by
  unfold locB at h
  split at h
  · exact .inl (by assumption)
  · exact .inr (by assumption)
  · cases h
theorem glB_gl {X : Cx} {x : Str} (h : glB X.env.scope x = true) : Gl X x := glB_ok ScOk.self h
open L2H in
/-- _law_alone(e) within the suite that holds p's exception: True -/
theorem alone_hot {Pr : Program} {w : World} {K : PySem.W.Frag} {mg : Str → Option Value} {base : Heap} {k : Nat} {f D : Addr} {x qual : Str} {params : Arguments} {body : List Stmt} {scope : Scope} {fd : FuncData} {p : Addr × Obj} {e fl : Str} {c : Str → Addr} {b : Str → Bool}
    (F : FunD K x qual params body scope [] [] f fd) (S : FnScope [e, fl] [e] scope) (hb : aloneB e fl body = true) (hsc : aloneSc e fl scope = true) (EC : ExcC K D) (hz : Zc (.ref D) none p.2) (hf : ∃ vs, p.2.data = .fields vs) (mi : mg "isinstance" = none) (mv : mg "ValueError" = none)
    (kv : PySem.W.kitOne K (.ref D) (.type "ValueError") = some true) (hC : ∀ C ∈ cls7, mg C = some (.ref (c C)) ∧ PySem.W.kitOne K (.ref D) (.ref (c C)) = some (b C)) (h1 : [b "NoRule", b "TooGreat", b "Untrue", b "BadText", b "BadRow", b "NoSuch"].count true = 1) (hw : b "WellError" = true) :
    HotRun Pr w K mg base (L2N.CX Pr w) (k + 1) f fd [e] (fun vs H Q _ => vs = [.ref p.1] ∧ ∀ H', Ex H H' → Q (.bl true) H') p := by
  have len : ∀ (vs : List V) (H : Hp) (Q : VK) (E : XK), (vs = [.ref p.1] ∧ ∀ H', Ex H H' → Q (.bl true) H') → vs.length = [e].length := fun vs H Q E h => by rw [h.1]; rfl
  refine ⟨len, fun A outer s H args us vs Q E hr hot pin e0 hbd r h => fn_hot (k := k) F S len (fun cdv A outer s H vs Q E hot hr h => ?_) hr hot pin e0 hbd r h⟩
  obtain ⟨rfl, hQ⟩ := h
  simp only [aloneSc, Bool.and_eq_true, List.all_eq_true] at hsc
  obtain ⟨s1, s2, s3, ⟨s4, s5⟩, s6, s7⟩ := hsc
  obtain ⟨n1, n2, _⟩ := okName_ok s6
  obtain ⟨n3, n4, _⟩ := okName_ok s7
  let X := cxH (L2N.CX Pr w) Pr w K mg base [e, fl] qual scope f cdv A outer s H E p
  have A' : AlnC X p.1 D p.2 e fl := ⟨List.mem_singleton.mpr rfl, EC, hz, hf, rfl, S.nd, locB_ok s1, locB_ok s2, ⟨n1, n2⟩, ⟨n3, n4⟩, fun _ => rfl, glB_gl (X := X) s3, mi, glB_gl (X := X) s4, mv, kv⟩
  refine ⟨_, alone_pss (X := X) (c := c) (b := b) A' hb (fun C hm => ⟨glB_gl (X := X) (s5 C hm).1, (hC C hm).1, (okName_ok (s5 C hm).2).1, (hC C hm).2⟩), ?_⟩
  rw [hw]
  exact pure_alone h1 fun H' ex => hQ H' ex
end Rf

/-! part RfTry -/
set_option autoImplicit false
set_option linter.all false
set_option Elab.async false
set_option maxRecDepth 100000
set_option maxHeartbeats 2000000
/-! RfTry: try, except. -/
namespace Rf
open PySem L2
variable [Wd]
/-- what the suite does: a constant is handed back -/
def tSu (g : Gx) (i : Nat) (v : V) (c : Nat) (a : Addr) (cls : Value) (dd : Option Addr) : TS := fun D σ H => ∃ c', plainC c' = true ∧ subC c' c = true ∧ cls = .ref (g.cA c') ∧ dd = none ∧ σ[i]? = some (some (.ref a)) ∧ ∀ H', Ex H H' → D.rt v H'
section
variable {X : Cx} {g : Gx} {w : Nat} {body suite : List Stmt} {ib : List S} {b0 : Stmt} {x n : Str} {np pos pos' : Pos} {i c : Nat} {v : V} {d : D}
theorem sS_tryH (hs : X.stack = X.env :: X.outer) (hf : X.env.frame = some X.env.locals) (hN : X.N.Nodup) (hi : X.N[i]? = some n) (hln : X.env.kindOf n = some .local) (hc : Names X x (.ref (g.cA c))) (tk : L2N.Takes X g.W)
    (hb : ∀ (W : WX) (pn : List (Addr × Obj)) (xe : Value → Shared → Prop), L2N.Takes (X.tr pn xe) W → PassesOwn (model X.prog X.w) X.A X.env xe → PSs (X.tr pn xe) body (tSs { g with W := W } w ib))
    (hx : ∀ c', plainC c' = true → PySem.W.exmOne X.K (.ref (g.cA c')) (.ref (g.cA c)) = some (subC c' c)) (hv : ∀ (Z : AS) (H : Hp), Rp g.K Z H v d) (hnc : d.cell = false)
    (hsu : ∀ (a : Addr) (oe : Obj) (cls : Value) (dd : Option Addr) (pn : List (Addr × Obj)), L2N.Zn cls dd oe → (∃ vs, oe.data = .fields vs) → PSs (X.suite a ((a, oe) :: pn)) (b0 :: suite) (tSu g i v c a cls dd)) :
    PS X (.Try body [.ExceptHandler (some (.Name x np)) (some n) (b0 :: suite) pos'] [] [] pos) (tS g w (.tryH ib c i d)) := by
  refine ps_weak (L2N.ps_try_as hs hf hN hi hln hc tk hb hsu) fun D σ H h => ?_
  obtain ⟨ρ, He, F, ok, h⟩ := h
  refine ⟨ρ, He, F, ok, ?_⟩
  simp only [evS] at h
  cases hr : evSs g.call w ib ρ with
  | exc c' fs ρ' =>
    rw [hr] at h
    show ∀ cls dd σ H, StOk g.K F He H σ ρ' → XR g.cA c' fs cls dd H → wAs X.K (.ref (g.cA c)) i (tSu g i v c) g.W D cls dd σ H
    rintro cls dd σ' H' ok' ⟨rfl, rfl, rfl⟩
    dsimp only at h
    split at h
    · rename_i hp
      refine ⟨subC c' c, hx c' hp, fun hb' a ha => ?_, fun hb' => ?_⟩
      · rw [if_pos hb'] at h
        split at h
        case isFalse => exact h.elim
        rename_i hl
        exact ⟨c', hp, hb', rfl, rfl, by rw [List.getElem?_set_self (Nat.lt_of_lt_of_le hl ok'.env0.len)], fun H2 e2 => h v H2 (ok'.ex.trans e2) (fun Z hz => hv Z H2) (fun hb => by rw [hnc, Bool.and_false] at hb; cases hb)⟩
      · rw [if_neg (by simp [hb'])] at h
        exact h _ none σ' H' ok' ⟨rfl, rfl, rfl⟩
    · exact h.elim
  | _ => rw [hr] at h; exact h
/-- the suite stores a constant -/
def tSc (g : Gx) (j : Nat) (v : V) (c : Nat) (cs : List Nat) (a : Addr) (cls : Value) (dd : Option Addr) : TS := fun D σ H => ∃ c', c' ∈ cs ∧ subC c' c = true ∧ cls = .ref (g.cA c') ∧ dd = none ∧ D.nx (σ.set j (some v)) H
theorem sS_tryC {y : Str} {yp apos : Pos} {e : Expr} {j : Nat} {cs : List Nat} (hs : X.stack = X.env :: X.outer) (hf : X.env.frame = some X.env.locals) (hN : X.N.Nodup) (hj : X.N[j]? = some y) (hy : Loc X.env.scope y) (hfn : X.fn y = true ∨ X.env.scope.names.lookup y = some .local) (hc : Names X x (.ref (g.cA c))) (tk : L2N.Takes X g.W)
    (hb : ∀ (W : WX) (pn : List (Addr × Obj)) (xe : Value → Shared → Prop), L2N.Takes (X.tr pn xe) W → PassesOwn (model X.prog X.w) X.A X.env xe → PSs (X.tr pn xe) body (tSs { g with W := W } w ib))
    (hx : ∀ c' ∈ cs, PySem.W.exmOne X.K (.ref (g.cA c')) (.ref (g.cA c)) = some (subC c' c)) (hv : ∀ (Z : AS) (H : Hp), Rp g.K Z H v d)
    (he : ∀ X : Cx, PE X e (tC v)) (hsw : ∀ env : PySem.Env, swapsWith e (some (.Name y yp)) apos.line env = pure false) :
    PS X (.Try body [.ExceptHandler (some (.Name x np)) none [.Assign [.Name y yp] e apos] pos'] [] [] pos) (tS g w (.tryC ib c cs j d)) := by
  have hsu : ∀ (a : Addr) (oe : Obj) (cls : Value) (dd : Option Addr) (pn : List (Addr × Obj)), L2N.Zn cls dd oe → (∃ vs, oe.data = .fields vs) → PSs (X.suite a ((a, oe) :: pn)) [.Assign [.Name y yp] e apos] (tSc g j v c cs a cls dd) := fun a oe cls dd pn _ _ => by
    refine pss_one (ps_weak (ps_set (X := X.suite a ((a, oe) :: pn)) hN hj hy (he _) (hsw _) hfn) fun D σ H h => ?_)
    obtain ⟨c', _, _, _, _, h⟩ := h
    exact h
  refine ps_weak (L2N.ps_try_many hs hf tk hb (.cons (ts := tSc g j v c cs) hc hsu .nil)) fun D σ H h => ?_
  obtain ⟨ρ, He, F, ok, h⟩ := h
  refine ⟨ρ, He, F, ok, ?_⟩
  simp only [evS] at h
  cases hr : evSs g.call w ib ρ with
  | exc c' fs ρ' =>
    rw [hr] at h
    show ∀ cls dd σ H, StOk g.K F He H σ ρ' → XR g.cA c' fs cls dd H → wMany X.K g.W D [(.ref (g.cA c), tSc g j v c cs)] cls dd σ H
    rintro cls dd σ' H' ok' ⟨rfl, rfl, rfl⟩
    dsimp only at h
    split at h
    · rename_i hp
      refine ⟨subC c' c, hx c' hp, fun hb' a ha => ?_, fun hb' => ?_⟩
      · rw [if_pos hb'] at h
        exact ⟨c', hp, hb', rfl, rfl, h _ _ (ok'.set (Ex.refl _) fun Z hz => hv _ _)⟩
      · rw [if_neg (by simp [hb'])] at h
        exact h _ none σ' H' ok' ⟨rfl, rfl, rfl⟩
    · exact h.elim
  | _ => rw [hr] at h; exact h
end
end Rf

/-! part RfTry2 -/
set_option autoImplicit false
set_option linter.all false
set_option Elab.async false
set_option maxRecDepth 100000
set_option maxHeartbeats 2000000
namespace Rf
open PySem PySem.Spec PyProof.Rows L2
variable [Wd]
section
variable {X : Cx} {a : Addr} {oe : Obj} {cls : Value} {dd : Option Addr} {pn : List (Addr × Obj)}
theorem hot_suite (hz : L2N.Zn cls dd oe) (hf : ∃ vs, oe.data = .fields vs) : L2H.Hot1 (X.suite a ((a, oe) :: pn)).A (a, oe) := by
  obtain ⟨vs, hv⟩ := hf
  exact ⟨rfl, vs, hv, hz.2.2 vs hv⟩
theorem pe_alone {k i : Nat} {f : Addr} {fd : FuncData} {ps : List Str} {x n : Str} {q1 q2 pos : Pos} (hz : L2N.Zn cls dd oe) (hf : ∃ vs, oe.data = .fields vs)
    (F : HotRun X.prog X.w X.K X.mg X.base (L2N.CX X.prog X.w) k f fd ps (fun vs H Q _ => vs = [.ref a] ∧ ∀ H', Ex H H' → Q (.bl true) H') (a, oe)) (hr : Room k X.A) (hg : Gl X x) (hm : X.mg x = some (.ref f)) (hk : PySem.W.keepIn X.K (.ref f) = true) (hb : L2.Binds X.K fd ps [])
    (hN : X.N[i]? = some n) (hv : Vis X.env.scope n) (n1 : (n == ("__debug__" : Str)) = false) (n2 : (n == ("__classdict__" : Str)) = false) (hd : (x == ("__debug__" : Str)) = false) :
    PE (X.suite a ((a, oe) :: pn)) (.Call (.Name x q1) [.Name n q2] [] pos) (fun σ H Q => σ[i]? = some (some (.ref a)) ∧ ∀ H', Ex H H' → Q (.bl true) H') := by
  refine pe_weak (pe_hot (X := X.suite a ((a, oe) :: pn)) (E := fun _ _ _ => False) (t := tCons (tVar i) tNil) F ⟨hr.dp, hr.un⟩ (hot_suite hz hf) List.mem_cons_self hg hm hk hb (fun σ pins H s e s' I c => ?_) (pa_cons (pe_var hN hv n1 n2) pa_nil) hd rfl rfl) fun σ H Q h => ?_
  · obtain ⟨_, _, _, _, _, _, _, _, _, _, _, _, z⟩ := c
    exact z.elim
  · exact ⟨_, h.1, rfl, h.2⟩
/-- return _law_alone(e) -/
theorem ps_ret_alone {Xs : Cx} {e : Expr} {g : Gx} {i c : Nat} {pos : Pos} (h : PE Xs e (fun σ H Q => σ[i]? = some (some (.ref a)) ∧ ∀ H', Ex H H' → Q (.bl true) H')) : PSs Xs [.Return (some e) pos] (tSu g i (.bl true) c a cls dd) :=
  pss_one (ps_weak (ps_ret h) fun D σ H ⟨c', _, _, _, _, h1, h2⟩ => ⟨h1, h2⟩)
/-- return ['s0', 's1'][int(not _law_alone(e))] -/
theorem ps_ret_pick {Xs : Cx} {e : Expr} {g : Gx} {i c : Nat} {p0 p1 p2 p3 p4 p5 p6 pos : Pos} {s0 s1 : Str} {j0 j1 : Nat} (h : PE Xs e (fun σ H Q => σ[i]? = some (some (.ref a)) ∧ ∀ H', Ex H H' → Q (.bl true) H')) (hg : Gl Xs "int") (hm : Xs.mg "int" = none) (ht : tame e = true) :
    PSs Xs [.Return (some (.Subscript (.List [.Constant (.str s0) j0 p0, .Constant (.str s1) j1 p1] p2) (.Call (.Name "int" p3) [.UnaryOp .Not e p4] [] p5) p6)) pos] (tSu g i (.str s0) c a cls dd) := by
  have L := pe_lst (X := Xs) (pos := p2) (pa_cons (pe_str (x := s0) (j := j0) (pos := p0)) (pa_cons (pe_str (x := s1) (j := j1) (pos := p1)) pa_nil rfl) rfl)
  have N := pe_callTy (X := Xs) (pos := p5) (p := p3) call_int1 hg hm PyProof.Rows.boot_int (pa_cons (pe_not (pos := p4) h) pa_nil rfl) (by decide) (by decide) rfl rfl
  refine pss_one (ps_weak (ps_ret (pe_ix (pos := p6) ix_list L N (fun _ _ => rfl))) fun D σ H ⟨c', _, _, _, _, h1, h2⟩ => ?_)
  refine ⟨(by show 2 ≤ sizeLine; decide), fun p hp => ?_⟩
  have e1 := Ex.new (o := .lst [V.str s0, .str s1]) hp
  refine ⟨h1, fun H' e2 => ⟨true, rfl, .inr ⟨false, rfl, ?_⟩⟩⟩
  exact ⟨p, _, _, _, rfl, rfl, .inl (.inl (e2.k upd_same rfl)), rfl, h2 _ (e1.trans e2)⟩
end
end Rf

/-! part RfTry3 -/
set_option autoImplicit false
set_option linter.all false
set_option Elab.async false
set_option maxRecDepth 100000
set_option maxHeartbeats 2000000
namespace Rf
open PySem PySem.Spec PyProof.Rows L2
variable [Wd]
def idC (C : Str) : Nat := if C = ("NoRule" : Str) then 0 else if C = ("TooGreat" : Str) then 1 else if C = ("Untrue" : Str) then 2 else if C = ("BadText" : Str) then 3 else if C = ("BadRow" : Str) then 4 else if C = ("NoSuch" : Str) then 5 else 6
/-- the text's _law_alone and its classes, as the head tells them -/
structure AlnF (K : PySem.W.Frag) (mg : Str → Option Value) (cA : Nat → Addr) (f : Addr) (fd : FuncData) (e : Str) : Prop where
  fn : ∃ (x qual fl : Str) (params : Arguments) (body : List Stmt) (scope : Scope), FunD K x qual params body scope [] [] f fd ∧ FnScope [e, fl] [e] scope ∧ aloneB e fl body = true ∧ aloneSc e fl scope = true
  mi : mg "isinstance" = none
  mv : mg "ValueError" = none
  ec : ∀ c, plainC c = true → ExcC K (cA c) ∧ PySem.W.kitOne K (.ref (cA c)) (.type "ValueError") = some true
  cl : ∀ C ∈ cls7, mg C = some (.ref (cA (idC C))) ∧ ∀ c, plainC c = true → PySem.W.kitOne K (.ref (cA c)) (.ref (cA (idC C))) = some (subC c (idC C))
theorem plainC_cases {c : Nat} (h : plainC c = true) : c = 0 ∨ c = 1 ∨ c = 3 ∨ c = 4 ∨ c = 5 := by
  simp only [plainC, Bool.and_eq_true, decide_eq_true_eq, bne_iff_ne, ne_eq] at h
  omega
theorem one_of {c : Nat} (h : plainC c = true) : [subC c (idC "NoRule"), subC c (idC "TooGreat"), subC c (idC "Untrue"), subC c (idC "BadText"), subC c (idC "BadRow"), subC c (idC "NoSuch")].count true = 1 ∧ subC c (idC "WellError") = true := by
  rcases plainC_cases h with rfl | rfl | rfl | rfl | rfl <;> decide +kernel
theorem aln_hot {Pr : Program} {w : World} {K : PySem.W.Frag} {mg : Str → Option Value} {base : Heap} {k : Nat} {cA : Nat → Addr} {f : Addr} {fd : FuncData} {e : Str} {c : Nat} {p : Addr × Obj} (A : AlnF K mg cA f fd e) (hc : plainC c = true) (hz : Zc (.ref (cA c)) none p.2) (hf : ∃ vs, p.2.data = .fields vs) :
    HotRun Pr w K mg base (L2N.CX Pr w) (k + 1) f fd [e] (fun vs H Q _ => vs = [.ref p.1] ∧ ∀ H', Ex H H' → Q (.bl true) H') p := by
  obtain ⟨x, qual, fl, params, body, scope, F, S, h1, h2⟩ := A.fn
  exact alone_hot (c := fun C => cA (idC C)) (b := fun C => subC c (idC C)) F S h1 h2 (A.ec c hc).1 hz hf A.mi A.mv (A.ec c hc).2 (fun C hm => ⟨(A.cl C hm).1, (A.cl C hm).2 c hc⟩) (one_of hc).1 (one_of hc).2
end Rf

/-! part RfTry4 -/
set_option autoImplicit false
set_option linter.all false
set_option Elab.async false
set_option maxRecDepth 100000
set_option maxHeartbeats 2000000
namespace Rf
open PySem PySem.Spec PyProof.Rows L2
variable [Wd]
/-- _law_alone(e)? -/
def isAlone (al e : Str) : Expr → Bool
  | .Call (.Name x _) [.Name n _] [] _ => decide (x = al) && decide (n = e)
  | _ => false
theorem isAlone_ok {al e : Str} {x : Expr} (h : isAlone al e x = true) : ∃ q1 q2 pos, x = .Call (.Name al q1) [.Name e q2] [] pos := by
  unfold isAlone at h
  split at h
  · simp only [Bool.and_eq_true, decide_eq_true_eq] at h
    obtain ⟨rfl, rfl⟩ := h
    exact ⟨_, _, _, rfl⟩
  · cases h
/-- what the suite hands back where _law_alone(e) is True -/
def handV (al e : Str) : Expr → Option V
  | .Subscript (.List [.Constant (.str s0) _ _, .Constant (.str _) _ _] _) (.Call (.Name f _) [.UnaryOp .Not c _] [] _) _ => if f = ("int" : Str) ∧ isAlone al e c = true then some (.str s0) else none
  | x => if isAlone al e x then some (.bl true) else none
section
variable {X : Cx} {g : Gx} {i c k : Nat} {f : Addr} {fd : FuncData} {al n pe : Str} {ex : Expr} {v : V} {pos : Pos}
theorem hsu_ok (hK : g.K = X.K) (A : AlnF X.K X.mg g.cA f fd pe) (hr : Room (k + 1) X.A) (hm : X.mg al = some (.ref f)) (hk : PySem.W.keepIn X.K (.ref f) = true) (hb : L2.Binds X.K fd [pe] []) (hg : Gl X al) (hd : (al == ("__debug__" : Str)) = false)
    (gi : Gl X "int") (mi : X.mg "int" = none) (hN : X.N[i]? = some n) (hv : Vis X.env.scope n) (n1 : (n == ("__debug__" : Str)) = false) (n2 : (n == ("__classdict__" : Str)) = false) (he : handV al n ex = some v) :
    ∀ (a : Addr) (oe : Obj) (cls : Value) (dd : Option Addr) (pn : List (Addr × Obj)), L2N.Zn cls dd oe → (∃ vs, oe.data = .fields vs) → PSs (X.suite a ((a, oe) :: pn)) [.Return (some ex) pos] (tSu g i v c a cls dd) := by
  intro a oe cls dd pn hz hf
  refine ⟨fun pins s σ H D I h => ?_⟩
  obtain ⟨c', hp, hs, rfl, rfl, h1, h2⟩ := id h
  have F := aln_hot (Pr := X.prog) (w := X.w) (base := X.base) (k := k) (p := (a, oe)) A hp hz.zc hf
  have E : ∀ {q1 q2 p3 : Pos}, PE (X.suite a ((a, oe) :: pn)) (.Call (.Name al q1) [.Name n q2] [] p3) (fun σ H Q => σ[i]? = some (some (.ref a)) ∧ ∀ H', Ex H H' → Q (.bl true) H') := fun {q1 q2 p3} => pe_alone hz hf F hr hg hm hk hb hN hv n1 n2 hd
  unfold handV at he
  split at he
  · split at he
    case isFalse => cases he
    rename_i hh
    obtain ⟨rfl, hc⟩ := hh
    cases he
    obtain ⟨q1, q2, p3, rfl⟩ := isAlone_ok hc
    exact (ps_ret_pick (c := c) E gi mi rfl).run pins s σ H D I h
  · split at he
    case isFalse => cases he
    rename_i hc
    cases he
    obtain ⟨q1, q2, p3, rfl⟩ := isAlone_ok hc
    exact (ps_ret_alone (c := c) E).run pins s σ H D I h
end
end Rf

/-! part RfThk -/
set_option autoImplicit false
set_option linter.all false
set_option Elab.async false
set_option maxRecDepth 100000
set_option maxHeartbeats 2000000
/-! RfThk: a def that calls what it got within try keeps its promise. -/
namespace Rf
open PySem PySem.Spec PyProof.Rows L2
variable [Wd]
/-- is it such a def's body? md: it hands back what it got (and that text), or False (and True) -/
def thkB (al a e C : Str) (md : Option Tx) (body : List Stmt) : Bool := match md, body with
  | none, [.Try [.Expr (.Call (.Name a1 _) [] [] _) _] [.ExceptHandler (some (.Name C1 _)) (some e1) [.Return (some ex) _] _] [] [] _, .Return (some (.Constant (.bool false) _ _)) _] =>
    decide (a1 = a) && (decide (C1 = C) && (decide (e1 = e) && isAlone al e ex))
  | some s, [.Try [.Return (some (.Call (.Name a1 _) [] [] _)) _] [.ExceptHandler (some (.Name C1 _)) (some e1) [.Return (some ex) _] _] [] [] _] =>
    decide (a1 = a) && (decide (C1 = C) && (decide (e1 = e) && (okTxB s && (match handV al e ex with
      | some (.str z) => decide (z = mkS s)
      | _ => false))))
  | _, _ => false
def thkSc (al a e C : Str) (md : Option Tx) (sc : Scope) : Bool := glB sc C && (okName C && (glB sc al && (okName al && (okName a && (okName e && (decide (sc.names.lookup e = some .local) && (decide (sc.names.lookup a = some .local) && (isN md || glB sc "int"))))))))
theorem thk_ok {Pr : Program} {w : World} {K : PySem.W.Frag} {mg : Str → Option Value} {base : Heap} {cA : Nat → Addr} {m : Nat} {f fal : Addr} {x qual al a e C pe : Str} {params : Arguments} {body : List Stmt} {scope : Scope} {fd fdal : FuncData} {c : Nat} {md : Option Tx}
    (F : FunD K x qual params body scope [] [] f fd) (S : FnScope [a, e] [a] scope) (hb : Binds K fd [a] []) (hB : thkB al a e C md body = true) (hsc : thkSc al a e C md scope = true) (Al : AlnF K mg cA fal fdal pe) (hal : mg al = some (.ref fal)) (hkal : PySem.W.keepIn K (.ref fal) = true) (hbal : L2.Binds K fdal [pe] [])
    (hC : mg C = some (.ref (cA c))) (hx : ∀ c', plainC c' = true → PySem.W.exmOne K (.ref (cA c')) (.ref (cA c)) = some (subC c' c)) (mi : md.isSome = true → mg "int" = none) : ThkOk Pr w K mg base cA m f c md := by
  intro A outer s H Q E fl o hr e0 act post
  obtain ⟨oc, od, dV, kV, doc, pm, an, cdv, ct, osl, rfl, lk, hcd, _, _⟩ := F.ex
  have KX : K.In s.heap := e0.mod.kin.keeps fun b o e => (e0.bs b o e).1
  have hbd := hb s [.ref fl] KX rfl
  rw [List.append_nil] at hbd
  refine LamX.run_ofS (N := [a, e]) (k := m + 1) lk hcd S hr e0 hbd (vs := [.ref fl]) (.cons rfl .nil) rfl fun hr' => ?_
  let X := cxOf (L2N.CX Pr w) Pr w K mg base [a, e] qual scope f cdv A outer s H E
  let g : Gx := ⟨K, fun _ _ => .bad, cA, fun cls d _ H' => E cls d H', fun _ => false, false⟩
  simp only [thkSc, Bool.and_eq_true, Bool.or_eq_true, decide_eq_true_eq] at hsc
  obtain ⟨s1, s2, s3, s4, s5, s6, s7, s8, s9⟩ := hsc
  have hN0 : X.N[0]? = some a := rfl
  have hN1 : X.N[1]? = some e := rfl
  have nC : Names X C (.ref (cA c)) := ⟨glB_gl (X := X) s1, (okName_ok s2).1, .inl hC⟩
  have tk : L2N.Takes X g.W := L2N.takes_of rfl rfl rfl rfl
  have hln : X.env.kindOf e = some .local := s7
  have st0 : (L2.start [a, e] [V.ref fl])[0]? = some (some (V.ref fl)) := rfl
  have st1 : 1 < (L2.start [a, e] [V.ref fl]).length := by rw [show L2.start [a, e] [V.ref fl] = [some (V.ref fl), none] from rfl]; exact Nat.lt_succ_self 1
  -- the reading of the call, at the start
  have key : ∀ (i : Nat) (v : V) (Dn : Ends) (QQ : VK), i = 1 → (∀ d, o = .ok d → ∀ v' H', Ex H H' → Rp K AS.none H' v' d → QQ v' H') → (∀ H', Ex H H' → ∀ c' fs, o = .exc c' fs → plainC c' = true → subC c' c = true → Dn.rt v H') →
      (∀ cls dd H', Ex H H' → ∀ c' fs, o = .exc c' fs → plainC c' = true → subC c' c = false → XR cA c' fs cls dd H' → E cls dd H') → (∀ c' fs, o = .exc c' fs → plainC c' = true) → o ≠ .bad →
      tAct K cA (wAs K (.ref (cA c)) i (tSu g i v c) g.W Dn) fl H o (L2.start [a, e] [V.ref fl]) H QQ := by
    rintro i v Dn QQ rfl h1 h2 h3 h4 h5
    refine ⟨st0, Ex.refl H, ?_⟩
    revert h1 h2 h3 h4 h5
    cases o with
    | ok d => exact fun h1 _ _ _ _ => h1 d rfl
    | bad => exact fun _ _ _ _ h5 => h5 rfl
    | exc c' fs =>
      intro _ h2 h3 h4 _ cls dd H' ex x
      have hp := h4 c' fs rfl
      obtain ⟨rfl, rfl, rfl⟩ := id x
      refine ⟨subC c' c, hx c' hp, fun hb' a' ha => ?_, fun hb' => ?_⟩
      · exact ⟨c', hp, hb', rfl, rfl, by rw [List.getElem?_set_self st1], fun H2 e2 => h2 H2 (ex.trans e2) c' [] rfl hp hb'⟩
      · exact h3 _ none H' ex c' [] rfl hp hb' ⟨rfl, rfl, rfl⟩
  have actN := fun (W : WX) (pn : List (Addr × Obj)) (xe : Value → Shared → Prop) (p1 p2 : Pos) (h : L2N.Takes (X.tr pn xe) W) =>
    act [a, e] qual scope cdv a pn xe W p1 p2 rfl (.inl s8) (okName_ok s5).1 (okName_ok s5).2.1 hr' h
  have gal : Gl X al := glB_gl (X := X) s3
  have nd : X.N.Nodup := S.nd
  unfold thkB at hB
  split at hB
  · -- none
    rename_i a1 p1 p2 p3 C1 p4 e1 ex p5 p6 p7 k8 p8 p9
    simp only [Bool.and_eq_true, decide_eq_true_eq] at hB
    obtain ⟨rfl, rfl, rfl, hal'⟩ := hB
    obtain ⟨q1, q2, q3, rfl⟩ := isAlone_ok hal'
    have hsu : ∀ (a' : Addr) (oe : Obj) (cls : Value) (dd : Option Addr) (pn : List (Addr × Obj)), L2N.Zn cls dd oe → (∃ vs, oe.data = .fields vs) → PSs (X.suite a' ((a', oe) :: pn)) [.Return (some (.Call (.Name al q1) [.Name e1 q2] [] q3)) p5] (tSu g 1 (.bl true) c a' cls dd) := by
      intro a' oe cls dd pn hz hf
      refine ⟨fun pins s σ H D I h => ?_⟩
      obtain ⟨c', hp, hs, rfl, rfl, h1, h2⟩ := id h
      have FF := aln_hot (Pr := X.prog) (w := X.w) (base := X.base) (k := m) (p := (a', oe)) Al hp hz.zc hf
      exact (ps_ret_alone (c := c) (pe_alone (X := X) hz hf FF hr' gal hal hkal hbal hN1 (.inl s7) (okName_ok s6).1 (okName_ok s6).2.1 (okName_ok s4).1)).run pins s σ H D I h
    refine ⟨_, pss_cons (L2N.ps_try_as (X := X) (tb := fun W => tDrop (tAct K cA W fl H o)) rfl rfl nd hN1 hln nC tk (fun W pn xe h _ => pss_one (ps_expr (actN W pn xe _ _ h))) hsu) (pss_one (ps_ret pe_bl)), ?_⟩
    show tAct K cA _ fl H o _ H _
    refine key 1 (.bl true) _ _ rfl (fun d ho v' H' ex r => ?_) (fun H' ex c' fs ho hp hb' => ?_) (fun cls dd H' ex c' fs ho hp hb' hxr => ?_) (fun c' fs ho => ?_) (fun ho => ?_)
    · subst ho
      exact post _ H' ex (.bl false)
    · subst ho
      simp only [thkO, hp, hb', if_true] at post
      exact post _ H' ex (.bl true)
    · subst ho
      simp only [thkO, hp, hb', if_true, Bool.false_eq_true, if_false] at post
      exact post cls dd H' ex hxr
    · subst ho
      cases hp : plainC c' with
      | true => rfl
      | false => simp only [thkO, hp, Bool.false_eq_true, if_false] at post; exact post.elim
    · subst ho
      exact post
  · -- told
    rename_i s0 a1 p1 p2 p3 C1 p4 e1 ex p5 p6 p7
    simp only [Bool.and_eq_true, decide_eq_true_eq] at hB
    obtain ⟨rfl, rfl, rfl, hok, hB⟩ := hB
    split at hB
    case h_2 => cases hB
    rename_i z hh
    have hz := of_decide_eq_true hB
    subst hz
    have gi : Gl X "int" := by
      rcases s9 with z | z
      · cases z
      · exact glB_gl (X := X) z
    have hsu := hsu_ok (X := X) (g := g) (i := 1) (c := c) (k := m) (pos := p5) rfl Al hr' hal hkal hbal gal (okName_ok s4).1 gi (mi rfl) hN1 (.inl s7) (okName_ok s6).1 (okName_ok s6).2.1 hh
    refine ⟨_, pss_one (L2N.ps_try_as (X := X) (tb := fun W => tRet (tAct K cA W fl H o)) rfl rfl nd hN1 hln nC tk (fun W pn xe h _ => pss_one (ps_ret (actN W pn xe _ _ h))) hsu), ?_⟩
    show tAct K cA _ fl H o _ H _
    refine key 1 _ _ _ rfl (fun d ho v' H' ex r => ?_) (fun H' ex c' fs ho hp hb' => ?_) (fun cls dd H' ex c' fs ho hp hb' hxr => ?_) (fun c' fs ho => ?_) (fun ho => ?_)
    · subst ho
      simp only [thkO] at post
      split at post
      · exact post _ H' ex r
      · exact post.elim
    · subst ho
      simp only [thkO, hp, hb', if_true] at post
      exact post _ H' ex (.str s0 (okTxB_ok hok))
    · subst ho
      simp only [thkO, hp, hb', if_true, Bool.false_eq_true, if_false] at post
      exact post cls dd H' ex hxr
    · subst ho
      cases hp : plainC c' with
      | true => rfl
      | false => simp only [thkO, hp, Bool.false_eq_true, if_false] at post; exact post.elim
    · subst ho
      exact post
  · cases hB
end Rf

/-! part RfCompS -/
set_option autoImplicit false
set_option linter.all false
set_option Elab.async false
set_option maxRecDepth 100000
set_option maxHeartbeats 2000000
/-! RfCompS: statements and defs, from the text. -/
namespace Rf
open PySem L2
variable [Wd]
mutual
/-- the names whose object the value may hold -/
def escV : E → List Nat
  | .var i => [i]
  | .tup es => escL es
  | .lst es => escL es
  | .and a b => escV a ++ escV b
  | .or a b => escV a ++ escV b
  | .ite _ a b => escV a ++ escV b
  | .comp _ e _ _ => escV e
  | _ => []
def escL : List E → List Nat
  | [] => []
  | e :: es => escV e ++ escL es
end
def escI : Src → List Nat
  | .of e => escV e
  | .rng _ => []
  | .rev e => escV e
def frzS (own : List Nat) : List Nat → S → S
  | [], s => s
  | j :: js, s => if j ∈ own then .frz j (frzS own js s) else frzS own js s
def cList (r : Stmt → Option S) : List Stmt → Option (List S)
  | [] => some []
  | s :: ss => (r s).bind fun i => (cList r ss).map fun is => i :: is
/-- a name that is stored -/
def cTgt (T : Tb) (sc : Scope) : Expr → Option Nat
  | .Name x _ => if locB sc x && okName x then ixOf T.N x else none
  | _ => none
def cTgs (T : Tb) (sc : Scope) : List Expr → Option (List Nat)
  | [] => some []
  | e :: es => (cTgt T sc e).bind fun i => (cTgs T sc es).map fun is => i :: is
def isTup : Expr → Bool
  | .Tuple _ _ _ => true
  | _ => false
def isCompE : Expr → Bool
  | .ListComp _ _ _ _ => true
  | .SetComp _ _ _ _ => true
  | .DictComp _ _ _ _ _ => true
  | _ => false
def isVar : E → Bool
  | .var _ => true
  | _ => false
/-- the comprehension's list goes to the name by a swap -/
def swB (sc : Scope) (y : Str) (py : Pos) (scope : Scope) (pos : Pos) : Bool :=
  decide (sc.names.lookup y = some .local) && ((py.line == pos.line) && !(scope.names.any fun (n, k) => n == y && (k == .local || k == .cell)))
/-- what makes a new list -/
def cFr (T : Tb) (r : Expr → Option E) (sc : Scope) : Expr → Option E
  | .Call (.Name f _) (a :: args) [] _ => (T.fns.lookup f).bind fun k => if decide (k ∈ T.frs) && (glB sc f && okName f) then (cMap r (a :: args)).map fun ies => .call k ies else none
  | .List es _ => (cMap r es).bind fun ies => if ies.length ≤ 1000 then some (.lst ies) else none
  | .BinOp a .Add b _ => (r a).bind fun ia => (r b).map fun ib => .bop .add ia ib
  | _ => none
def cRetF (T : Tb) (own : List Nat) (n : Nat) (sc : Scope) : Expr → Option S
  | .ListComp elt gs scope _ => (cComp T (cE T n) sc elt gs scope).map fun iv => frzS own (escV iv) (.retF iv)
  | e => (cFr T (cE T n sc) sc e).map fun iv => frzS own (escV iv) (.retF iv)
/-- a stored value; the list of a display, of a comprehension is one's own yet -/
def cAsg (T : Tb) (own : List Nat) (n : Nat) (sc : Scope) (i : Nat) : Expr → Option S
  | .Dict [] [] _ => if i ∈ own then some (.own i (.dct (!decide ((T.N[i]?).getD Str.empty ∈ T.txt)) [] [])) else some (.set i (.dct true [] []))
  | .Dict [some k] [v] _ => (cE T n sc k).bind fun ik => (cE T n sc v).map fun iv => if i ∈ own then frzS own (escV ik ++ escV iv) (.own i (.dct true [ik] [iv])) else frzS own (escV ik ++ escV iv) (.set i (.dct true [ik] [iv]))
  | .ListComp elt gs scope _ => (cComp T (cE T n) sc elt gs scope).map fun iv => if i ∈ own then frzS own (escV iv) (.own i iv) else frzS own (escV iv) (.set i iv)
  | .List es _ => (cMap (cE T n sc) es).bind fun ies => if ies.length ≤ 1000 then (if i ∈ own then some (frzS own (escL ies) (.own i (.lst ies))) else some (frzS own (escL ies) (.set i (.lst ies)))) else none
  | v => if isCompE v then none else if decide (i ∈ own) && (cFr T (cE T n sc) sc v).isSome then (cFr T (cE T n sc) sc v).map fun iv => frzS own (escV iv) (.own i iv) else (cE T n sc v).map fun iv => frzS own (escV iv) (.set i iv)
/-- a suite's value as data -/
def vD : V → Option D
  | .bl b => some (.bl b)
  | .str s => if okTxB s.cps.toList then some (.str s.cps.toList) else none
  | _ => none
theorem vD_ok {K : PySem.W.Frag} {v : V} {d : D} (h : vD v = some d) (Z : AS) (H : Hp) : Rp K Z H v d := by
  cases v with
  | bl b => cases h; exact .bl b
  | str s =>
    simp only [vD] at h
    split at h
    case isFalse => cases h
    rename_i o
    cases h
    have e : s = mkS s.cps.toList := by cases s; simp [mkS]
    have q := Rp.str (K := K) (Z := Z) (H := H) s.cps.toList (okTxB_ok o)
    rw [← e] at q
    exact q
  | _ => cases h
theorem vD_cell {v : V} {d : D} (h : vD v = some d) : d.cell = false := by
  cases v with
  | bl b => cases h; rfl
  | str s =>
    simp only [vD] at h
    split at h
    case isFalse => cases h
    cases h; rfl
  | _ => cases h
/-- a constant, its value -/
def cC : Const → Option (V × D)
  | .none => some (.non, .non)
  | .bool b => some (.bl b, .bl b)
  | .int i => some (.int i, .int i)
  | _ => none
theorem cC_ok {c : Const} {v : V} {d : D} (h : cC c = some (v, d)) : (∀ (X : Cx) (k : Nat) (p : Pos), PE X (.Constant c k p) (tC v)) ∧ ∀ (K : PySem.W.Frag) (Z : AS) (H : Hp), Rp K Z H v d := by
  cases c with
  | none => cases h; exact ⟨fun X k p => pe_non, fun _ _ _ => .non⟩
  | bool b => cases h; exact ⟨fun X k p => pe_bl, fun _ _ _ => .bl b⟩
  | int i => cases h; exact ⟨fun X k p => pe_int, fun _ _ _ => .int i⟩
  | _ => cases h
def Tb.cids (T : Tb) : List Nat := (T.cls.map (·.2)).filter fun c => plainC c && decide (c < 2)
def cS1 (T : Tb) (own : List Nat) (n : Nat) (sc : Scope) (rs : List Stmt → Option (List S)) : Stmt → Option S
  | .Pass _ => some .pass
  | .Break _ => some .brk
  | .Continue _ => some .cnt
  | .Return none _ => some .retN
  | .Return (some (.Name x _)) _ => if T.fr then none else match cName T sc x with
    | some (.var i) => some (.ret (.var i))
    | some (.const d) => some (.ret (.const d))
    | _ => none
  | .Return (some e) _ => if T.fr then cRetF T own n sc e else (cE T n sc e).bind fun ie => if isVar ie then none else some (frzS own (escV ie) (.ret ie))
  | .If c a b _ => if isIf c then none else (cE T n sc c).bind fun ic => (rs a).bind fun ia => (rs b).map fun ib => .ite ic ia ib
  | .Assign [.Name x p] v _ => (cTgt T sc (.Name x p)).bind fun i => cAsg T own n sc i v
  | .Assign [.Tuple ts _ _] v _ => if isCompE v || isTup v then none else (cTgs T sc ts).bind fun is => (cE T n sc v).map fun iv => frzS own (escV iv) (.unp is iv)
  | .For (.Name x p) iter body [] _ => (cTgt T sc (.Name x p)).bind fun i => (cIt T (cE T n sc) sc iter).bind fun src => (rs body).map fun ib => frzS own (escI src) (.for i src ib)
  | .For (.Tuple ts _ _) iter body [] _ => (cTgs T sc ts).bind fun is => (cIt T (cE T n sc) sc iter).bind fun src => (rs body).map fun ib => frzS own (escI src) (.forT is src ib)
  | .While c body [] _ => if isIf c then none else (cE T n sc c).bind fun ic => (rs body).map fun ib => .whl ic ib
  | .Expr (.Call (.Attribute (.Name x _) m apos) [e] [] cpos) _ => if decide (m = ("append" : Str)) && ((apos.endLine == cpos.line) && tame e) then
      (match cName T sc x with
      | some (.var i) => (cE T n sc e).map fun ie => frzS own (escV ie) (.app i ie)
      | _ => none) else none
  | .Raise (some (.Call (.Name x _) [.Constant (.str _) _ _] [] _)) none _ => (T.cls.lookup x).bind fun c => if glB sc x && okName x then some (.raise c) else none
  | .Try body [.ExceptHandler (some (.Name x _)) (some nm) [.Return (some ex) _] _] [] [] _ => (T.cls.lookup x).bind fun c => T.al.bind fun al => (ixOf T.N nm).bind fun i => (handV al nm ex).bind fun v => (vD v).bind fun d =>
      if glB sc x && (okName x && (okName nm && (glB sc al && (okName al && (freeB T sc "int" && decide (sc.names.lookup nm = some .local)))))) then (rs body).map fun ib => .tryH ib c i d else none
  | .Try body [.ExceptHandler (some (.Name x _)) none [.Assign [.Name y yp] (.Constant cc _ _) _] _] [] [] _ => (T.cls.lookup x).bind fun c => (cTgt T sc (.Name y yp)).bind fun j => (cC cc).bind fun vd => if glB sc x && okName x then (rs body).map fun ib => .tryC ib c T.cids j vd.2 else none
  | .Assign [.Subscript (.Name x _) i _] v _ => if isCompE v then none else (if tame i then (match cName T sc x with
      | some (.var j) => (cE T n sc i).bind fun ii => (cE T n sc v).map fun iv => frzS own (escV iv) (.put j ii iv)
      | _ => none) else none)
  | .Expr e _ => if isCompE e then none else (cE T n sc e).map .expr
  | _ => none
def cS (T : Tb) (own : List Nat) (n : Nat) (sc : Scope) : Nat → Stmt → Option S
  | 0 => fun _ => none
  | k + 1 => cS1 T own n sc (cList (cS T own n sc k))
structure SGood (X : Cx) (T : Tb) (m : Nat) (g : Gx) (sc : Scope) : Prop where
  stk : X.stack = X.env :: X.outer
  frm : X.env.frame = some X.env.locals
  exm : ∀ al : Str, T.al = some al → ∀ (x : Str) (c : Nat), T.cls.lookup x = some c → ∀ c', plainC c' = true → PySem.W.exmOne X.K (.ref (g.cA c')) (.ref (g.cA c)) = some (subC c' c)
  exm2 : ∀ (x : Str) (c : Nat), T.cls.lookup x = some c → ∀ c' ∈ T.cids, PySem.W.exmOne X.K (.ref (g.cA c')) (.ref (g.cA c)) = some (subC c' c)
  al : ∀ x, T.al = some x → ∃ (f : Addr) (fd : FuncData) (pe : Str), X.mg x = some (.ref f) ∧ PySem.W.keepIn X.K (.ref f) = true ∧ L2.Binds X.K fd [pe] [] ∧ AlnF X.K X.mg g.cA f fd pe
  G : Good X T m g
  S : ScOk X sc
  kind : X.env.scope.kind = .function
  pass : PassesOwn (model X.prog X.w) X.A X.env X.xe
  fn : ∀ x, X.fn x = true
section
variable {X : Cx} {T : Tb} {m w n : Nat} {g : Gx} {sc : Scope} {own : List Nat}
theorem frzS_ok {st : Stmt} {s : S} : ∀ {js : List Nat}, PS X st (tS g w s) → PS X st (tS g w (frzS own js s))
  | [], h => h
  | j :: js, h => by
    unfold frzS
    split
    · exact sS_frz (frzS_ok h)
    · exact frzS_ok h
theorem cList_ok {r : Stmt → Option S} (hr : ∀ s i, r s = some i → PS X s (tS g w i)) : ∀ {ss : List Stmt} {is : List S}, cList r ss = some is → PSs X ss (tSs g w is)
  | [], is, h => by cases h; exact sSs_nil
  | s :: ss, is, h => by
    unfold cList at h
    obtain ⟨i, h1, h⟩ := bindSome h
    obtain ⟨is', h2, rfl⟩ := mapSome h
    exact sSs_cons (hr s i h1) (cList_ok hr h2)
theorem cTgt_ok (A : SGood X T m g sc) {e : Expr} {i : Nat} (h : cTgt T sc e = some i) : ∃ x p, e = .Name x p ∧ X.N[i]? = some x ∧ Loc X.env.scope x := by
  cases e <;> try (cases h; done)
  rename_i x p
  simp only [cTgt] at h
  split at h
  case isFalse => cases h
  rename_i hh
  simp only [Bool.and_eq_true] at hh
  refine ⟨x, p, rfl, by rw [A.G.N]; exact ixOf_ok h, ?_⟩
  have q := hh.1
  unfold locB at q
  split at q
  · exact .inl (A.S.loc x (by assumption))
  · exact .inr (A.S.cel x (by assumption))
  · cases q
theorem nd_of (A : SGood X T m g sc) : X.N.Nodup := by rw [A.G.N]; exact A.G.nd
theorem cTgs_ok (A : SGood X T m g sc) : ∀ {es : List Expr} {is : List Nat}, cTgs T sc es = some is → PGs X es (gNs is) ∧ (assignEach es X.env).length = is.length ∧ (assignEach es X.env).findIdx? (·.1) = none
  | [], is, h => by cases h; exact ⟨pgs_nil, rfl, rfl⟩
  | e :: es, is, h => by
    unfold cTgs at h
    obtain ⟨i, h1, h⟩ := bindSome h
    obtain ⟨is', h2, rfl⟩ := mapSome h
    obtain ⟨x, p, rfl, hi, hx⟩ := cTgt_ok A h1
    obtain ⟨q1, q2, q3⟩ := cTgs_ok A h2
    have e1 : assignEach (.Name x p :: es) X.env = (false, assign (.Name x p) X.env) :: assignEach es X.env := rfl
    refine ⟨pgs_cons (pg_name (nd_of A) hi hx (.inl (A.fn x))) q1 rfl, ?_, ?_⟩
    · rw [e1]; simp [q2]
    · rw [e1, List.findIdx?_cons, q3]; rfl
theorem sw_none {e : Expr} {l : Nat} {env : PySem.Env} (h : isCompE e = false) : swapsWith e none l env = pure false := by
  cases e <;> first | rfl | cases h
theorem sw_name {e : Expr} {x : Str} {p : Pos} {l : Nat} {env : PySem.Env} (h : isCompE e = false) : swapsWith e (some (.Name x p)) l env = pure false := by
  cases e <;> first | rfl | cases h
theorem sw_sub {e o i : Expr} {p : Pos} {l : Nat} {env : PySem.Env} (h : isCompE e = false) : swapsWith e (some (.Subscript o i p)) l env = pure false := by
  cases e <;> first | rfl | cases h
theorem sw_sole {e : Expr} {es : List Expr} {k : Nat} {p : Pos} {l : Nat} {env : PySem.Env} (h : isCompE e = false) : swapsWithSole [.Tuple es k p] e l env = pure false := by
  cases e <;> first | rfl | cases h
theorem sw_stores {e : Expr} {es : List Expr} {k : Nat} {p : Pos} {env : PySem.Env} (h : isTup e = false) : swappedStores [.Tuple es k p] e env = pure none := by
  cases e <;> first | rfl | cases h
theorem sw_false {elt : Expr} {gs : List Comprehension} {scope : Scope} {pos py : Pos} {y : Str} {l : Nat} {env : PySem.Env} (hk : env.scope.kind = .function) (h : swB env.scope y py scope pos = false) :
    swapsWith (.ListComp elt gs scope pos) (some (.Name y py)) l env = pure false := by
  have hb : env.blockKind = .function := by unfold PySem.Env.blockKind; rw [hk]; rfl
  have ky : (env.kindOf y == some .local) = decide (env.scope.names.lookup y = some .local) := by
    show (env.scope.names.lookup y == some .local) = _
    by_cases q : env.scope.names.lookup y = some .local
    · rw [q]; simp
    · simp [q]
  unfold swB at h
  unfold swapsWith
  simp only [hb, ky, Expr.pos]
  have h' : (decide (env.scope.names.lookup y = some .local) && (py.line == pos.line) && !(scope.names.any fun (n, k) => n == y && (k == .local || k == .cell))) = false := by
    rw [Bool.and_assoc]; exact h
  show pure (((NameKind.local == NameKind.local) && decide (env.scope.names.lookup y = some .local) && (py.line == pos.line) && !(scope.names.any fun (n, k) => n == y && (k == .local || k == .cell)))) = _
  rw [show (NameKind.local == NameKind.local) = true from rfl, Bool.true_and, h']
theorem notVar {ie : E} (h : isVar ie = false) : ∀ ρ, ie.ownV ρ = false := fun ρ => by
  cases ie <;> first | rfl | cases h
theorem cFr_ok (G : Good X T m g) (S : ScOk X sc) {r : Expr → Option E} (hr : ∀ e ie, r e = some ie → SE X g e ie) {e : Expr} {ie : E} (h : cFr T r sc e = some ie) : PE X e (tFc g ie) ∧ ie.fresh = true ∧ isCompE e = false := by
  unfold cFr at h
  split at h
  · rename_i f fp a args pos
    obtain ⟨k, hk, h⟩ := bindSome h
    split at h
    case isFalse => cases h
    rename_i hg
    simp only [Bool.and_eq_true, decide_eq_true_eq] at hg
    obtain ⟨ies, h1, rfl⟩ := mapSome h
    obtain ⟨fa, fd, ps, m1, m2, m3, m4⟩ := G.fns f k hk
    obtain ⟨pa, bt, _⟩ := cMap_ok (fun e ie q => (hr e ie q).pe) h1
    have tm := cMap_tame h1
    refine ⟨sF_call G.K (by rw [G.frs]; exact decide_eq_true hg.1) m4 G.room (glB_ok S hg.2.1) m1 m2 m3 G.takes pa (okName_ok hg.2.2).1 (star_tame (tm a List.mem_cons_self)) ?_, rfl, rfl⟩
    have q := bt pos
    rw [star_tame (tm a List.mem_cons_self)] at q
    exact q
  · rename_i es lpos
    obtain ⟨ies, h1, h⟩ := bindSome h
    split at h
    case isFalse => cases h
    rename_i hl
    cases h
    exact ⟨pe_tFc (sF_lst hl (cMap_ok (fun e ie q => (hr e ie q).pe) h1).1), rfl, rfl⟩
  · obtain ⟨ia, h1, h⟩ := bindSome h
    obtain ⟨ib, h2, rfl⟩ := mapSome h
    exact ⟨sF_add G.K (hr _ _ h1).pe (hr _ _ h2).pe, rfl, rfl⟩
  · cases h
theorem cAsg_ok (hm : 1 ≤ m) (A : SGood X T m g sc) {i : Nat} {x : Str} {p pos : Pos} {v : Expr} {s : S} (hi : X.N[i]? = some x) (hx : L2.Loc X.env.scope x) (h : cAsg T own n sc i v = some s) : PS X (.Assign [.Name x p] v pos) (tS g w s) := by
  have G := A.G
  have nd := nd_of A
  have R : Snd T (cE T n) := cE_ok n
  have he : ∀ e ie, cE T n sc e = some ie → SE X g e ie := fun e ie q => R sc e ie q X m g hm G A.S
  unfold cAsg at h
  split at h
  · split at h
    · cases h
      exact sS_own nd hi hx (sF_dct0 G.wd _) rfl rfl (.inl (A.fn x))
    · cases h
      exact sS_set nd hi hx (sE_dct0 G.wd true) rfl (.inl (A.fn x))
  · obtain ⟨ik, h1, h⟩ := bindSome h
    obtain ⟨iv, h2, rfl⟩ := mapSome h
    split
    · exact frzS_ok (sS_own nd hi hx (sF_dct1 G.wd (units_ok G) G.K (he _ _ h1).pe (he _ _ h2).pe) rfl rfl (.inl (A.fn x)))
    · exact frzS_ok (sS_set nd hi hx (sE_dct1 G.wd (units_ok G) G.K (he _ _ h1).pe (he _ _ h2).pe) rfl (.inl (A.fn x)))
  · rename_i elt gs scope cpos
    obtain ⟨iv, h2, rfl⟩ := mapSome h
    obtain ⟨z, zp, iter, ifs, k, src, iel, ic, tt, c⟩ := cComp_ok hm R G A.S h2
    obtain ⟨e1, e2, pi, bo, hg, pt, htt, hel, hs⟩ := c
    subst e1 e2
    cases hsw : swB X.env.scope x p scope cpos with
    | true =>
      simp only [swB, Bool.and_eq_true, decide_eq_true_eq, Bool.not_eq_true'] at hsw
      have sw := sw_true (elt := elt) (gs := [⟨.Name z zp, iter, ifs, 0⟩]) (l := pos.line) A.kind hsw.1 hsw.2.1 hsw.2.2
      split
      · exact frzS_ok (sF_comp' G.K G.calm nd pi bo hg pt htt hel hs hi hsw.1 sw)
      · exact frzS_ok (sE_comp' G.K G.calm nd pi bo hg pt htt hel hs hi hsw.1 sw)
    | false =>
      have sw := sw_false (elt := elt) (gs := [⟨.Name z zp, iter, ifs, 0⟩]) (l := pos.line) A.kind hsw
      split
      · exact frzS_ok (sS_own nd hi hx (pe_weak (pe_lc G.calm nd pi bo hg pt hel hs) fun σ H Q h => sF_comp G.K G.calm nd pi bo hg pt htt hel hs σ H Q h) rfl sw (.inl (A.fn x)))
      · exact frzS_ok (sS_set nd hi hx (sE_compE G.K G.calm nd pi bo hg pt htt hel hs) sw (.inl (A.fn x)))
  · rename_i es lpos
    obtain ⟨ies, h1, h⟩ := bindSome h
    split at h
    case isFalse => cases h
    rename_i hl
    have pa := (cMap_ok (fun e ie q => (he e ie q).pe) h1).1
    split at h
    · cases h
      exact frzS_ok (sS_own nd hi hx (sF_lst hl pa) rfl rfl (.inl (A.fn x)))
    · cases h
      exact frzS_ok (sS_set nd hi hx (sE_lst hl pa) rfl (.inl (A.fn x)))
  · split at h
    · cases h
    rename_i hc
    split at h
    · obtain ⟨iv, h2, rfl⟩ := mapSome h
      obtain ⟨q1, q2, q3⟩ := cFr_ok G A.S he h2
      exact frzS_ok (sS_ownC nd hi hx q1 q2 (sw_name q3) (.inl (A.fn x)))
    obtain ⟨iv, h2, rfl⟩ := mapSome h
    exact frzS_ok (sS_set nd hi hx (he _ _ h2).pe (sw_name (by simpa using hc)) (.inl (A.fn x)))
theorem cRetF_ok (hm : 1 ≤ m) (A : SGood X T m g sc) {e : Expr} {pos : Pos} {s : S} (h : cRetF T own n sc e = some s) : PS X (.Return (some e) pos) (tS g w s) := by
  have G := A.G
  have R : Snd T (cE T n) := cE_ok n
  have he : ∀ e ie, cE T n sc e = some ie → SE X g e ie := fun e ie q => R sc e ie q X m g hm G A.S
  have nd := nd_of A
  unfold cRetF at h
  split at h
  · rename_i elt gs scope cpos
    obtain ⟨iv, h2, rfl⟩ := mapSome h
    obtain ⟨z, zp, iter, ifs, k, src, iel, ic, tt, c⟩ := cComp_ok hm R G A.S h2
    obtain ⟨e1, e2, pi, bo, hg, pt, htt, hel, hs⟩ := c
    subst e1 e2
    exact frzS_ok (sS_retF (pe_tFc (pe_weak (pe_lc G.calm nd pi bo hg pt hel hs) fun σ H Q h => sF_comp G.K G.calm nd pi bo hg pt htt hel hs σ H Q h)) rfl)
  · obtain ⟨iv, h2, rfl⟩ := mapSome h
    obtain ⟨q1, q2, q3⟩ := cFr_ok G A.S he h2
    exact frzS_ok (sS_retF q1 q2)
theorem cS1_ok (A : SGood X T (m + 1) g sc) {rs : List Stmt → Option (List S)} (hr' : ∀ (X : Cx) (g : Gx), SGood X T (m + 1) g sc → ∀ ss is, rs ss = some is → PSs X ss (tSs g w is)) {st : Stmt} {s : S} (h : cS1 T own n sc rs st = some s) : PS X st (tS g w s) := by
  have G := A.G
  have S := A.S
  have hr := hr' X g A
  have he : ∀ e ie, cE T n sc e = some ie → SE X g e ie := fun e ie q => cE_ok n sc e ie q X (m + 1) g (by omega) G S
  have nd := nd_of A
  unfold cS1 at h
  split at h
  · cases h; exact sS_pass
  · cases h; exact sS_brk
  · cases h; exact sS_cnt
  · cases h; exact sS_retN
  · rename_i x p pos
    have q := fun (ie : E) (e : cName T sc x = some ie) => cName_ok (p := p) G S e
    split at h
    · cases h
    rename_i hfr
    have hfr : g.fr = false := by rw [G.fr]; simpa using hfr
    split at h
    · rename_i i e
      cases h
      unfold cName at e
      split at e
      case isFalse => cases e
      rename_i hn
      obtain ⟨n1, n2, n3⟩ := okName_ok hn
      have key : ∀ (hv : Vis sc x), (ixOf T.N x).map E.var = some (.var i) → PS X (.Return (some (.Name x p)) pos) (tS g w (.ret (.var i))) := fun hv e => by
        obtain ⟨j, h1, e⟩ := mapSome e
        cases e
        exact sS_retV hfr (by rw [G.N]; exact ixOf_ok h1) (S.vis hv) n1 n2
      split at e
      · exact key (.inl (by assumption)) e
      · exact key (.inr (.inl (by assumption))) e
      · exact key (.inr (.inr (by assumption))) e
      · obtain ⟨_, _, e⟩ := mapSome e; cases e
      · cases e
    · rename_i d e
      cases h
      exact sS_ret hfr (fun _ => rfl) (q _ e)
    · cases h
  · split at h
    · exact cRetF_ok (by omega) A h
    rename_i hfr
    have hfr : g.fr = false := by rw [G.fr]; simpa using hfr
    obtain ⟨ie, h1, h⟩ := bindSome h
    split at h
    · cases h
    rename_i hv
    cases h
    exact frzS_ok (sS_ret hfr (notVar (by simpa using hv)) (he _ _ h1).pe)
  · split at h
    · cases h
    rename_i hi
    obtain ⟨ic, h1, h⟩ := bindSome h
    obtain ⟨ia, h2, h⟩ := bindSome h
    obtain ⟨ib, h3, rfl⟩ := mapSome h
    exact sS_ite ((he _ _ h1).pt (by simpa using hi)) (hr _ _ h2) (hr _ _ h3)
  · rename_i x p v pos
    obtain ⟨i, h1, h⟩ := bindSome h
    obtain ⟨x', p', e', hi, hx⟩ := cTgt_ok A h1
    cases e'
    exact cAsg_ok (by omega) A hi hx h
  · rename_i ts k p v pos
    split at h
    · cases h
    rename_i hc
    simp only [Bool.or_eq_true, not_or, Bool.not_eq_true] at hc
    obtain ⟨is, h1, h⟩ := bindSome h
    obtain ⟨iv, h2, rfl⟩ := mapSome h
    obtain ⟨q1, q2, q3⟩ := cTgs_ok A h1
    exact frzS_ok (sS_unp G.K (he _ _ h2).pe (pg_tupU G.calm q1 q2 q3) (sw_sole hc.1) (sw_stores hc.2) rfl)
  · obtain ⟨i, h1, h⟩ := bindSome h
    obtain ⟨src, h2, h⟩ := bindSome h
    obtain ⟨ib, h3, rfl⟩ := mapSome h
    obtain ⟨x', p', e', hi, hx⟩ := cTgt_ok A h1
    cases e'
    obtain ⟨pi, ti⟩ := cIt_ok G S he h2
    exact frzS_ok (sS_for G.K A.pass G.calm nd hi hx (.inl (A.fn _)) pi (hr _ _ h3) (folded_tame ti))
  · obtain ⟨is, h1, h⟩ := bindSome h
    obtain ⟨src, h2, h⟩ := bindSome h
    obtain ⟨ib, h3, rfl⟩ := mapSome h
    obtain ⟨q1, q2, q3⟩ := cTgs_ok A h1
    obtain ⟨pi, ti⟩ := cIt_ok G S he h2
    exact frzS_ok (sS_forT G.K A.pass G.calm (pg_tupU G.calm q1 q2 q3) pi (hr _ _ h3) (folded_tame ti))
  · split at h
    · cases h
    rename_i hi
    obtain ⟨ic, h1, h⟩ := bindSome h
    obtain ⟨ib, h2, rfl⟩ := mapSome h
    exact sS_whl A.pass ((he _ _ h1).pt (by simpa using hi)) (hr _ _ h2)
  · rename_i x xp mm apos e cpos pos
    split at h
    case isFalse => cases h
    rename_i hh
    simp only [Bool.and_eq_true, decide_eq_true_eq] at hh
    obtain ⟨rfl, hl, ht⟩ := hh
    split at h
    · rename_i i ex
      obtain ⟨ie, h2, rfl⟩ := mapSome h
      unfold cName at ex
      split at ex
      case isFalse => cases ex
      rename_i hn
      obtain ⟨n1, n2, n3⟩ := okName_ok hn
      have key : ∀ (hv : Vis sc x), (ixOf T.N x).map E.var = some (.var i) → PS X (.Expr (.Call (.Attribute (.Name x xp) ("append" : Str) apos) [e] [] cpos) pos) (tS g w (frzS own (escV ie) (.app i ie))) := fun hv ex => by
        obtain ⟨j, h1, ex⟩ := mapSome ex
        cases ex
        exact frzS_ok (sS_app G.K (by rw [G.N]; exact ixOf_ok h1) (S.vis hv) n1 n2 (he _ _ h2).pe (star_tame ht) hl)
      split at ex
      · exact key (.inl (by assumption)) ex
      · exact key (.inr (.inl (by assumption))) ex
      · exact key (.inr (.inr (by assumption))) ex
      · obtain ⟨_, _, ex⟩ := mapSome ex; cases ex
      · cases ex
    · cases h
  · rename_i x xp m j p2 cpos pos
    obtain ⟨c, h1, h⟩ := bindSome h
    split at h
    case isFalse => cases h
    rename_i hh
    simp only [Bool.and_eq_true] at hh
    cases h
    obtain ⟨q1, q2, q3, q4⟩ := G.cls x c h1
    exact sS_raise G.calm G.takes q1 q2 q3 q4 (glB_ok S hh.1) (okName_ok hh.2).1
  · rename_i body x xp nm ex rp hp pos
    obtain ⟨c, h1, h⟩ := bindSome h
    obtain ⟨al, h2, h⟩ := bindSome h
    obtain ⟨i, h3, h⟩ := bindSome h
    obtain ⟨v, h4, h⟩ := bindSome h
    obtain ⟨d, h5, h⟩ := bindSome h
    split at h
    case isFalse => cases h
    rename_i hh
    simp only [Bool.and_eq_true, decide_eq_true_eq] at hh
    obtain ⟨b1, b2, b3, b4, b5, b6, b7⟩ := hh
    obtain ⟨ib, h6, rfl⟩ := mapSome h
    obtain ⟨q1, q2, q3, q4⟩ := G.cls x c h1
    obtain ⟨f, fd, pe, a1, a2, a3, a4⟩ := A.al al h2
    obtain ⟨i1, i2, _⟩ := freeB_ok G S b6
    have hi : X.N[i]? = some nm := by rw [G.N]; exact ixOf_ok h3
    refine sS_tryH A.stk A.frm nd hi (S.loc nm b7) ⟨glB_ok S b1, (okName_ok b2).1, .inl q1⟩ G.takes (fun W pn xe tk pa => ?_) (A.exm al h2 x c h1) (fun Z H => vD_ok h5 Z H) (vD_cell h5)
      (hsu_ok G.K a4 G.room a1 a2 a3 (glB_ok S b4) (okName_ok b5).1 i1 i2 hi (.inl (S.loc nm b7)) (okName_ok b3).1 (okName_ok b3).2.1 h4)
    exact hr' (X.tr pn xe) { g with W := W } ⟨A.stk, A.frm, A.exm, A.exm2, A.al, ⟨⟨G.wd.P, G.wd.w⟩, fun x hx => ⟨(G.sen x hx).1, fun m' hm => ⟨((G.sen x hx).2 m' hm).O, ((G.sen x hx).2 m' hm).init⟩⟩, G.K, G.calm, G.room, G.N, G.nd, G.fns, G.consts, G.free, G.cls, tk, G.frs, G.fr, fun x c md h => G.thk x c md h⟩, ⟨S.loc, S.cel, S.fre, S.gl⟩, A.kind, pa, A.fn⟩ body ib h6
  · rename_i body x xp y yp cc ck cp apos hp pos
    obtain ⟨c, h1, h⟩ := bindSome h
    obtain ⟨j, h2, h⟩ := bindSome h
    obtain ⟨⟨v, d⟩, h3, h⟩ := bindSome h
    split at h
    case isFalse => cases h
    rename_i hh
    simp only [Bool.and_eq_true] at hh
    obtain ⟨ib, h6, rfl⟩ := mapSome h
    obtain ⟨q1, q2, q3, q4⟩ := G.cls x c h1
    obtain ⟨y', p', e', hj, hy⟩ := cTgt_ok A h2
    cases e'
    obtain ⟨c1, c2⟩ := cC_ok h3
    refine sS_tryC A.stk A.frm nd hj hy (.inl (A.fn _)) ⟨glB_ok S hh.1, (okName_ok hh.2).1, .inl q1⟩ G.takes (fun W pn xe tk pa => ?_) (A.exm2 x c h1) (fun Z H => c2 _ Z H) (fun X => c1 X ck cp) (fun env => rfl)
    exact hr' (X.tr pn xe) { g with W := W } ⟨A.stk, A.frm, A.exm, A.exm2, A.al, ⟨⟨G.wd.P, G.wd.w⟩, fun x hx => ⟨(G.sen x hx).1, fun m' hm => ⟨((G.sen x hx).2 m' hm).O, ((G.sen x hx).2 m' hm).init⟩⟩, G.K, G.calm, G.room, G.N, G.nd, G.fns, G.consts, G.free, G.cls, tk, G.frs, G.fr, fun x c md h => G.thk x c md h⟩, ⟨S.loc, S.cel, S.fre, S.gl⟩, A.kind, pa, A.fn⟩ body ib h6
  · rename_i x xp i ipos v pos
    split at h
    · cases h
    rename_i hc
    split at h
    case isFalse => cases h
    rename_i ht
    split at h
    · rename_i j ex
      obtain ⟨ii, h1, h⟩ := bindSome h
      obtain ⟨iv, h2, rfl⟩ := mapSome h
      unfold cName at ex
      split at ex
      case isFalse => cases ex
      rename_i hn
      obtain ⟨n1, n2, n3⟩ := okName_ok hn
      have key : ∀ (hv : Vis sc x), (ixOf T.N x).map E.var = some (.var j) → PS X (.Assign [.Subscript (.Name x xp) i ipos] v pos) (tS g w (frzS own (escV iv) (.put j ii iv))) := fun hv ex => by
        obtain ⟨j', h1', ex⟩ := mapSome ex
        cases ex
        exact frzS_ok (sS_put G.wd (units_ok G) G.K (by rw [G.N]; exact ixOf_ok h1') (S.vis hv) n1 n2 (he _ _ h1).pe (he _ _ h2).pe (sw_sub (by simpa using hc)))
      split at ex
      · exact key (.inl (by assumption)) ex
      · exact key (.inr (.inl (by assumption))) ex
      · exact key (.inr (.inr (by assumption))) ex
      · obtain ⟨_, _, ex⟩ := mapSome ex; cases ex
      · cases ex
    · cases h
  · rename_i e pos _
    split at h
    · cases h
    rename_i hc
    obtain ⟨ie, h2, rfl⟩ := mapSome h
    exact sS_expr (he _ _ h2).pe (sw_none (by simpa using hc))
  · cases h
theorem cS_ok : ∀ (k : Nat) (X : Cx) (g : Gx), SGood X T (m + 1) g sc → ∀ (st : Stmt) (s : S), cS T own n sc k st = some s → PS X st (tS g w s)
  | 0, X, g, A, st, s, h => by cases h
  | k + 1, X, g, A, st, s, h => cS1_ok A (fun X g A ss is q => cList_ok (cS_ok k X g A) q) h
end
end Rf

/-! part RfBind -/
set_option autoImplicit false
set_option linter.all false
set_option Elab.async false
set_option maxRecDepth 100000
set_option maxHeartbeats 2000000
/-! RfBind: how a plain def's parameters are bound. -/
namespace Rf
open PySem L2
variable [Wd]
theorem zip_lookup {β : Type} : ∀ {ps : List Str} {us : List β}, ps.Nodup → us.length = ps.length → ∀ {i : Nat} {x : Str} {u : β}, ps[i]? = some x → us[i]? = some u → (ps.zip us).lookup x = some u
  | p :: ps, v :: us, nd, hl, 0, x, u, h1, h2 => by
    simp at h1 h2; subst h1 h2; simp
  | p :: ps, v :: us, nd, hl, i + 1, x, u, h1, h2 => by
    have h1' : ps[i]? = some x := by simpa using h1
    have n := List.nodup_cons.mp nd
    have ne : x ≠ p := fun e => n.1 (e ▸ List.mem_of_getElem? h1')
    rw [List.zip_cons_cons, List.lookup_cons, beq_false_of_ne ne]
    exact zip_lookup n.2 (by simpa using hl) h1' (by simpa using h2)
  | [], us, nd, hl, i, x, u, h1, h2 => by cases h1
  | p :: ps, [], nd, hl, i, x, u, h1, h2 => by cases hl
theorem zip_some {β : Type} {ps : List Str} {us : List β} (nd : ps.Nodup) (hl : us.length = ps.length) {x : Str} (hx : x ∈ ps) : ((ps.zip us).lookup x).isNone = false := by
  obtain ⟨i, hi, e⟩ := List.mem_iff_getElem.mp hx
  rw [zip_lookup nd hl (i := i) (x := x) (u := us[i]'(by omega)) (by rw [List.getElem?_eq_getElem hi, e]) (List.getElem?_eq_getElem (by omega))]
  rfl
theorem fm_congr {α β : Type} {f g : α → Option β} : ∀ {l : List α}, (∀ a ∈ l, f a = g a) → l.filterMap f = l.filterMap g
  | [], _ => rfl
  | a :: l, h => by
    simp only [List.filterMap_cons, h a List.mem_cons_self]
    rw [fm_congr fun b hb => h b (List.mem_cons_of_mem _ hb)]
theorem zip_fm {β : Type} : ∀ {ps : List Str} {us : List β}, ps.Nodup → us.length = ps.length → (ps.filterMap fun n => ((ps.zip us).lookup n).map (n, ·)) = ps.zip us
  | [], [], _, _ => rfl
  | [], _ :: _, _, h => by cases h
  | _ :: _, [], _, h => by cases h
  | p :: ps, u :: us, nd, hl => by
    have n := List.nodup_cons.mp nd
    have ih := zip_fm n.2 (show us.length = ps.length by simpa using hl)
    have e1 : (((p :: ps).zip (u :: us)).lookup p).map (p, ·) = some (p, u) := by simp
    rw [List.filterMap_cons, e1]
    show (p, u) :: _ = (p, u) :: ps.zip us
    congr 1
    refine Eq.trans ?_ ih
    exact fm_congr fun x hx => by
      have ne : x ≠ p := fun e => n.1 (e ▸ hx)
      rw [List.zip_cons_cons, List.lookup_cons, beq_false_of_ne ne]
theorem bind_plain {x qual : Str} {params : Arguments} {body : List Stmt} {scope : Scope} {kV doc pm : Value} {an : Option Addr} {cdv ct : Value} {us : List Value} (h1 : params.posonlyargs = []) (h2 : params.vararg = none) (h3 : params.kwonlyargs = []) (h4 : params.kwarg = none)
    (nd : (params.args.map (·.arg)).Nodup) (hl : us.length = (params.args.map (·.arg)).length) : bindArgs (PySem.W.fnOf x qual params body scope .none kV doc pm an cdv ct) ⟨us, []⟩ = pure ((params.args.map (·.arg)).zip us) := by
  obtain ⟨po, ar, va, ko, kd, kw, df⟩ := params
  simp only at h1 h2 h3 h4 nd hl
  subst h1 h2 h3 h4
  have e0 : ((ar.map (·.arg)).filter fun n => (((ar.map (·.arg)).zip us).lookup n).isNone) = [] := by
    rw [List.filter_eq_nil_iff]
    intro a ha
    rw [zip_some nd hl ha]; decide
  have e1 := zip_fm (us := us) nd hl
  have hng : ¬ us.length > (ar.map (·.arg)).length := by omega
  have hs : ∀ {β : Type} (k : Option (Array Value) → Sem β), (seqItems? Value.none >>= k) = k none := fun k => rfl
  unfold bindArgs PySem.W.fnOf
  simp only [List.map_nil, List.nil_append, List.append_nil, List.forIn_nil, pure_bind, hs, hng, Option.isNone_none, decide_false, Bool.false_and, Bool.and_true, Bool.false_eq_true, if_false, Option.getD_none, List.length_nil, Nat.sub_zero, Nat.zero_sub, List.drop_nil, List.drop_zero, List.take_length, e0, List.isEmpty_nil, Bool.not_true, List.zip_nil_right, e1]
end Rf

/-! part RfFn -/
set_option autoImplicit false
set_option linter.all false
set_option Elab.async false
set_option maxRecDepth 100000
set_option maxHeartbeats 2000000
/-! RfFn: defs of the text keep what their small programs say; by the depth of calls. -/
namespace Rf
open PySem L2
variable [Wd]
/-- a def: its datum, its names (parameters ahead), the places of the names whose list it changes -/
structure Df where
  id : Nat
  d : He.DefD
  N : List Str
  own : List Nat
def Df.ps (f : Df) : List Str := f.d.params.args.map (·.arg)
structure Pg where
  dfs : List Df
  consts : List (Str × D)
  frees : List Str
  cls : List (Str × Nat)
  al : Option Df
  sen : Option (Str × Df)
  txt : List Str
  frs : List Nat
  /-- the defs in which lambdas stand; the defs that call what they got; the defs that lambdas call -/
  lam : List Nat
  thk : List (Df × Nat × Option Tx)
  low : List Nat
def Pg.alN (P : Pg) : Option Str := P.al.map fun f => f.d.name
def nameIx (fs : List Df) : List (Str × Nat) := fs.map fun f => (f.d.name, f.id)
def Pg.fns (P : Pg) : List (Str × Nat) := nameIx P.dfs
def Pg.lows (P : Pg) : List Df := P.dfs.filter fun f => decide (f.id ∈ P.low)
def lowIx (fs : List Df) : List (Str × Nat) := fs.map fun f => (f.d.name, 1000 + f.id)
def thkIx (ts : List (Df × Nat × Option Tx)) : List (Str × Nat × Option Tx) := ts.map fun q => (q.1.d.name, q.2)
def Pg.tb (P : Pg) (f : Df) : Tb := ⟨f.N, P.fns, P.consts, P.frees, P.cls, P.alN, P.sen.map (·.1), P.txt, P.frs, decide (f.id ∈ P.frs), if f.id ∈ P.lam then thkIx P.thk else [], if f.id ∈ P.lam then lowIx P.lows else []⟩
omit [Wd] in
theorem lookup_map {α β : Type} {n : α → Str} {v : α → β} : ∀ {l : List α} {x : Str} {b : β}, (l.map fun a => (n a, v a)).lookup x = some b → ∃ a ∈ l, n a = x ∧ v a = b
  | [], x, b, h => by cases h
  | a :: l, x, b, h => by
    have h : List.lookup x ((n a, v a) :: l.map fun a => (n a, v a)) = some b := h
    rw [List.lookup_cons] at h
    cases hx : x == n a with
    | true =>
      rw [hx] at h
      cases h
      exact ⟨a, List.mem_cons_self, (eq_of_beq hx).symm, rfl⟩
    | false =>
      rw [hx] at h
      obtain ⟨a', h0, h1, h2⟩ := lookup_map h
      exact ⟨a', List.mem_cons_of_mem _ h0, h1, h2⟩
omit [Wd] in
theorem nameIx_ok : ∀ {fs : List Df} {k : Nat} {x : Str}, (nameIx fs).lookup x = some k → ∃ f ∈ fs, f.id = k ∧ f.d.name = x
  | [], k, x, h => by cases h
  | f :: fs, k, x, h => by
    have h : List.lookup x ((f.d.name, f.id) :: nameIx fs) = some k := h
    rw [List.lookup_cons] at h
    cases hx : x == f.d.name with
    | true =>
      rw [hx] at h
      cases h
      exact ⟨f, List.mem_cons_self, rfl, (eq_of_beq hx).symm⟩
    | false =>
      rw [hx] at h
      obtain ⟨f', h0, h1, h2⟩ := nameIx_ok h
      exact ⟨f', List.mem_cons_of_mem _ h0, h1, h2⟩
def isFunK : ScopeKind → Bool
  | .function => true
  | _ => false
def noneB {α : Type} : Option α → Bool
  | none => true
  | some _ => false
def fnB (f : Df) : Bool :=
  isFunK f.d.scope.kind && (!f.d.scope.isCoroutine && (!f.d.scope.isGenerator && (decide f.N.Nodup && (decide (f.N.take f.ps.length = f.ps) && ((f.ps.all fun x => locB f.d.scope x) && ((f.d.scope.names.all fun y => decide (y.2 ≠ .free)) &&
    (f.d.params.posonlyargs.isEmpty && (noneB f.d.params.vararg && (f.d.params.kwonlyargs.isEmpty && (noneB f.d.params.kwarg && (f.d.dfl.isEmpty && (f.d.kwd.isEmpty && decide f.ps.Nodup))))))))))))
omit [Wd] in
theorem noneB_ok {α : Type} {o : Option α} (h : noneB o = true) : o = none := by
  cases o with
  | none => rfl
  | some _ => cases h
structure FnB (f : Df) : Prop where
  sc : FnScope f.N f.ps f.d.scope
  po : f.d.params.posonlyargs = []
  va : f.d.params.vararg = none
  ko : f.d.params.kwonlyargs = []
  kw : f.d.params.kwarg = none
  dfl : f.d.dfl = []
  kwd : f.d.kwd = []
  pnd : f.ps.Nodup
omit [Wd] in
theorem fnB_ok {f : Df} (h : fnB f = true) : FnB f := by
  simp only [fnB, Bool.and_eq_true, Bool.not_eq_true', decide_eq_true_eq, List.all_eq_true, List.isEmpty_iff] at h
  obtain ⟨h1, h2, h3, h4, h5, h6, h7, h8, h9, h10, h11, h12, h13, h14⟩ := h
  refine ⟨⟨?_, h2, h3, h4, h5, fun x hx => ?_, h7⟩, h8, noneB_ok h9, h10, noneB_ok h11, h12, h13, h14⟩
  · cases e : f.d.scope.kind <;> rw [e] at h1 <;> first | rfl | cases h1
  · have q := h6 x hx
    unfold locB at q
    split at q
    · exact .inl (by assumption)
    · exact .inr (by assumption)
    · cases q
/-- a def, compiled -/
def cDef (P : Pg) (n : Nat) (f : Df) : Option Fn := if fnB f then (cList (cS (P.tb f) f.own n f.d.scope n) f.d.body).map fun b => ⟨f.ps.length, f.N.length, b⟩ else none
def cDefs (P : Pg) (n : Nat) : List Df → Option (List (Nat × Fn))
  | [] => some []
  | f :: fs => (cDef P n f).bind fun g => (cDefs P n fs).map fun gs => (f.id, g) :: gs
omit [Wd] in
theorem cDefs_ok {P : Pg} {n : Nat} : ∀ {fs : List Df} {gs : List (Nat × Fn)}, cDefs P n fs = some gs → ∀ f ∈ fs, ∃ g, (f.id, g) ∈ gs ∧ cDef P n f = some g
  | [], gs, h, f, hk => by cases hk
  | f :: fs, gs, h, f', hk => by
    unfold cDefs at h
    obtain ⟨g, h1, h⟩ := bindSome h
    obtain ⟨gs', h2, rfl⟩ := mapSome h
    rcases List.mem_cons.mp hk with rfl | hk
    · exact ⟨g, List.mem_cons_self, h1⟩
    · obtain ⟨g', q1, q2⟩ := cDefs_ok h2 f' hk
      exact ⟨g', List.mem_cons_of_mem _ q1, q2⟩
/-- each def's small program is Φ's -/
def CompOk (P : Pg) (fu : Nat) (Φ : Nat → Option Fn) : Prop := ∀ f ∈ P.dfs, ∃ g, Φ f.id = some g ∧ cDef P fu f = some g
def subF (Φ : Nat → Option Fn) : List (Nat × Fn) → Prop
  | [] => True
  | (k, g) :: r => Φ k = some g ∧ subF Φ r
omit [Wd] in
theorem subF_ok {Φ : Nat → Option Fn} {k : Nat} {g : Fn} : ∀ {l : List (Nat × Fn)}, subF Φ l → (k, g) ∈ l → Φ k = some g
  | [], _, h => by cases h
  | (j, f) :: r, s, h => by
    rcases List.mem_cons.mp h with e | h
    · cases e; exact s.1
    · exact subF_ok s.2 h
omit [Wd] in
theorem compOk_of {P : Pg} {fu : Nat} {Φ : Nat → Option Fn} {l : List (Nat × Fn)} (hc : cDefs P fu P.dfs = some l) (hs : subF Φ l) : CompOk P fu Φ := fun f hf => by
  obtain ⟨g, h1, h2⟩ := cDefs_ok hc f hf
  exact ⟨g, subF_ok hs h1, h2⟩
def lowL (P : Pg) : List (Nat × Fn) := P.lows.flatMap fun f => [(1000 + f.id, wrapF (2000 + f.id) f.ps.length), (2000 + f.id, wrapF f.id f.ps.length)]
/-- is it the class's __init__? -/
def initB (f : Df) : Bool := fnB f && (match f.N, f.d.body with
  | [s, gv, cv], [.Assign [.Attribute (.Name s1 _) f1 _] (.Name g1 _) _, .Assign [.Attribute (.Name s2 _) f2 _] (.Name c1 _) _] =>
    decide (f.ps = [s, gv, cv]) && (decide (s1 = s) && (decide (s2 = s) && (decide (f1 = ("given" : Str)) && (decide (f2 = ("claim" : Str)) && (decide (g1 = gv) && (decide (c1 = cv) && (okName s && (okName gv && okName cv))))))))
  | _, _ => false)
theorem init_ok {K : PySem.W.Frag} {mg : Str → Option Value} {base : Heap} {Pr : Program} {w : World} {CX : CXT} {f : Df} {a C : Addr} {fd : FuncData} {k : Nat} (O : ObjC K C) (hB : initB f = true) (F : FunD K f.d.name f.d.qual f.d.params f.d.body f.d.scope [] [] a fd) : FnOk Pr w K mg base CX (k + 1) a fd f.ps (spInit C) := by
  simp only [initB, Bool.and_eq_true] at hB
  obtain ⟨b1, b2⟩ := hB
  have B := fnB_ok b1
  split at b2
  case h_2 => cases b2
  rename_i s gv cv s1 q1 f1 q2 g1 q3 q4 s2 q5 f2 q6 c1 q7 q8 hN hb
  simp only [Bool.and_eq_true, decide_eq_true_eq] at b2
  obtain ⟨hps, rfl, rfl, rfl, rfl, rfl, rfl, n1, n2, n3⟩ := b2
  obtain ⟨n11, n12, _⟩ := okName_ok n1
  obtain ⟨n21, n22, _⟩ := okName_ok n2
  obtain ⟨n31, n32, _⟩ := okName_ok n3
  have S := B.sc
  refine F.ok S (fun vs H Q E h => by obtain ⟨x, dx, y, z, rfl, _⟩ := h; rw [hps]; rfl) fun cdv A outer st H vs Q E hr h => ?_
  obtain ⟨x, dx, y, z, rfl, hx, q⟩ := h
  let X := cxOf CX Pr w K mg base f.N f.d.qual f.d.scope a cdv A outer st H E
  have hXN : X.N = [s2, g1, c1] := hN
  have par : ∀ n ∈ f.ps, Vis X.env.scope n := fun n hn => by
    rcases S.par n hn with h | h
    · exact .inl h
    · exact .inr (.inl h)
  rw [hps] at par
  have v0 := fun (p : Pos) => pe_var (X := X) (i := 0) (pos := p) (by rw [hXN]; rfl) (par s2 (by simp)) n11 n12
  have v1 := fun (p : Pos) => pe_var (X := X) (i := 1) (pos := p) (by rw [hXN]; rfl) (par g1 (by simp)) n21 n22
  have v2 := fun (p : Pos) => pe_var (X := X) (i := 2) (pos := p) (by rw [hXN]; rfl) (par c1 (by simp)) n31 n32
  rw [hb]
  refine ⟨_, pss_cons (ps_fld (v0 _) (v1 _) rfl) (pss_one (ps_fld (v0 _) (v2 _) rfl)), ?_⟩
  have hst : ∀ (i : Nat) (v : V), (L2.start f.N [.ref x, y, z])[i]? = some (some v) ↔ ([V.ref x, y, z])[i]? = some v := fun i v => by
    rw [hN]
    have e0 : L2.start [s2, g1, c1] [V.ref x, y, z] = [some (V.ref x), some y, some z] := rfl
    rw [e0]
    match i with
    | 0 => simp
    | 1 => simp
    | 2 => simp
    | i + 3 => simp
  refine ⟨y, (hst 1 y).mpr rfl, _, (hst 0 _).mpr rfl, x, C, dx, [], rfl, hx, O.cl, O.n1, by decide, ?_⟩
  refine ⟨z, (hst 2 z).mpr rfl, _, (hst 0 _).mpr rfl, x, C, dx, _, rfl, upd_same, O.cl, O.n2, by show 1 < 1000; decide, ?_⟩
  rw [upd_upd]
  exact q
/-- the name of the lambdas of a def -/
def Tq (f : Df) : Str := (PyProof.Rows.envOfC f.d.qual f.d.scope 0 0 .none).qual ++ "<lambda>"
/-- what the head tells -/
structure Con (P : Pg) (K : PySem.W.Frag) (mg : Str → Option Value) (cA : Nat → Addr) : Prop where
  fn : ∀ f ∈ P.dfs, ∃ (fd : FuncData), mg f.d.name = some (.ref (He.fAd K f.d.at_)) ∧ FunD K f.d.name f.d.qual f.d.params f.d.body f.d.scope [] [] (He.fAd K f.d.at_) fd
  thk : ∀ q ∈ P.thk, ∃ (a : Addr) (fd : FuncData), mg q.1.d.name = some (.ref a) ∧ FunD K q.1.d.name q.1.d.qual q.1.d.params q.1.d.body q.1.d.scope [] [] a fd ∧ fnB q.1 = true ∧ (q.2.2.isSome = true → mg "int" = none) ∧
    ∃ (al av e C : Str), P.alN = some al ∧ q.1.N = [av, e] ∧ q.1.ps = [av] ∧ thkB al av e C q.2.2 q.1.d.body = true ∧ thkSc al av e C q.2.2 q.1.d.scope = true ∧ P.cls.lookup C = some q.2.1
  lam : ∀ f ∈ P.dfs, f.id ∈ P.lam → ((He.cT K f.d.at_).2, Tq f) ∈ Wd.T ∧ ∀ p ∈ Wd.T, p.1 = (He.cT K f.d.at_).2 → p.2 = Tq f
  low : ∀ i ∈ P.low, (1000 + i) ∉ P.frs
  consts : ∀ (x : Str) (d : D), P.consts.lookup x = some d → ∃ (v : V) (u : Value), mg x = some u ∧ RelV v u ∧ ∀ (Z : AS) (H : Hp), Rp K Z H v d
  free : ∀ x ∈ P.frees, mg x = none
  cls : ∀ (x : Str) (c : Nat), P.cls.lookup x = some c → mg x = some (.ref (cA c)) ∧ PySem.W.excIn K (cA c) He.veBase "ValueError.__new__" = true ∧ PySem.W.keepIn K (.ref (cA c)) = true ∧ PySem.W.subIn K (.ref (cA c)) (.type "BaseException") = some true ∧ PySem.W.typeIn K (.ref (cA c)) = some (.type "type")
  exm : ∀ al : Str, P.alN = some al → ∀ (x : Str) (c : Nat), P.cls.lookup x = some c → ∀ c', plainC c' = true → PySem.W.exmOne K (.ref (cA c')) (.ref (cA c)) = some (subC c' c)
  exm2 : ∀ (x : Str) (c : Nat), P.cls.lookup x = some c → ∀ c' ∈ ((P.cls.map (·.2)).filter fun c => plainC c && decide (c < 2)), PySem.W.exmOne K (.ref (cA c')) (.ref (cA c)) = some (subC c' c)
  al : ∀ x, P.alN = some x → ∃ (f : Addr) (fd : FuncData) (pe : Str), mg x = some (.ref f) ∧ PySem.W.keepIn K (.ref f) = true ∧ L2.Binds K fd [pe] [] ∧ AlnF K mg cA f fd pe
  cA : cA = Wd.cA
  sen : ∀ x, P.sen.map (·.1) = some x → mg x = some (.ref (Wd.cA 8)) ∧ ObjC K (Wd.cA 8) ∧ ∃ (f : Df) (a : Addr) (fd : FuncData), Mk K (Wd.cA 8) a ∧ initB f = true ∧ FunD K f.d.name f.d.qual f.d.params f.d.body f.d.scope [] [] a fd
section
variable {P : Pg} {K : PySem.W.Frag} {mg : Str → Option Value} {base : Heap} {Pr : Program} {w : World} {cA : Nat → Addr} {Φ : Nat → Option Fn} {fu nf : Nat}
theorem binds_of {f : Df} (B : FnB f) {a : Addr} {fd : FuncData} (F : FunD K f.d.name f.d.qual f.d.params f.d.body f.d.scope [] [] a fd) : Binds K fd f.ps [] :=
  F.bindsN fun kV doc pm an cdv ct us hl => bind_plain B.po B.va B.ko B.kw B.pnd hl
theorem start_at {vs : List V} {ds : List D} {fn : Fn} {N : List Str} {Z : AS} {H : Hp} (hN : fn.slots = N.length) (hp : ds.length = fn.params) (hle : fn.params ≤ fn.slots) (hT : LamX.Tabs Wd.T H) (r : RpL K Z H vs ds) : EnvR K Z H (L2.start N vs) (Rf.start fn ds) ∧ ∀ (i : Nat) (d : D), (Rf.start fn ds)[i]? ≠ some (Sl.own d) := by
  have hl := r.length
  refine ⟨⟨?_, fun i s q => ?_, hT⟩, fun i d q => ?_⟩
  · simp only [Rf.start, L2.start, List.length_append, List.length_map, List.length_replicate]; omega
  · unfold Rf.start at q
    by_cases hi : i < ds.length
    · rw [List.getElem?_append_left (by simpa using hi), List.getElem?_map, List.getElem?_eq_getElem hi] at q
      cases q
      obtain ⟨v, hv, rv⟩ := r.get (List.getElem?_eq_getElem hi)
      refine ⟨v, ?_, rv⟩
      unfold L2.start
      rw [List.getElem?_append_left (by rw [List.length_map]; omega), List.getElem?_map, hv]; rfl
    · rw [List.getElem?_append_right (by simpa using hi), List.getElem?_replicate] at q
      split at q
      · cases q; trivial
      · cases q
  · unfold Rf.start at q
    by_cases hi : i < ds.length
    · rw [List.getElem?_append_left (by simpa using hi), List.getElem?_map, List.getElem?_eq_getElem hi] at q
      cases q
    · rw [List.getElem?_append_right (by simpa using hi), List.getElem?_replicate] at q
      split at q <;> cases q
/-- THE RULE -/
theorem fn_all (hP : Wd.P = Pr) (hw : Wd.w = w) (C : Con P K mg cA) (hc : CompOk P fu Φ) (hl : subF Φ (lowL P)) (hTB : ∀ f ∈ P.dfs, f.id ∈ P.lam → LamX.TabB base mg (He.cT K f.d.at_).1 (He.cT K f.d.at_).2) : ∀ (n : Nat) (f : Df) (fd : FuncData), f ∈ P.dfs → FunD K f.d.name f.d.qual f.d.params f.d.body f.d.scope [] [] (He.fAd K f.d.at_) fd →
    FnOk Pr w K mg base (L2N.CX Pr w) (n + 3) (He.fAd K f.d.at_) fd f.ps (spF K cA (run Φ nf n) (fun k => decide (k ∈ P.frs)) f.id) := by
  intro n
  induction n using Nat.strongRecOn with
  | ind n ih =>
  intro f fd hk F
  cases n with
  | zero => exact ⟨fun vs H Q E h => by obtain ⟨ds, _, _, h⟩ := h; exact h.elim, fun A outer s H args us vs Q E _ _ _ _ h => by obtain ⟨ds, _, _, h⟩ := h; exact h.elim⟩
  | succ n =>
    obtain ⟨fn, hf, hcd⟩ := hc f hk
    unfold cDef at hcd
    split at hcd
    case isFalse => cases hcd
    rename_i hB
    have B := fnB_ok hB
    obtain ⟨b, hb, rfl⟩ := mapSome hcd
    have hle : f.ps.length ≤ f.N.length := by
      have q := congrArg List.length B.sc.pre
      rw [List.length_take] at q
      omega
    have key : ∀ (ds : List D), run Φ nf (n + 1) f.id ds = if ds.length = f.ps.length then (evSs (run Φ nf n) nf b (Rf.start ⟨f.ps.length, f.N.length, b⟩ ds)).out else .bad := fun ds => by
      simp only [run, hf]
    have fnp : ∀ f' ∈ P.dfs, ∃ (fd' : FuncData), mg f'.d.name = some (.ref (He.fAd K f'.d.at_)) ∧ PySem.W.keepIn K (.ref (He.fAd K f'.d.at_)) = true ∧ Binds K fd' f'.ps [] ∧ FunD K f'.d.name f'.d.qual f'.d.params f'.d.body f'.d.scope [] [] (He.fAd K f'.d.at_) fd' := fun f' hi => by
      obtain ⟨fd', m1, F'⟩ := C.fn f' hi
      obtain ⟨_, _, hcd'⟩ := hc f' hi
      have B' : FnB f' := by
        unfold cDef at hcd'
        split at hcd'
        · exact fnB_ok (by assumption)
        · cases hcd'
      exact ⟨fd', m1, F'.kp, binds_of B' F', F'⟩
    obtain ⟨oc, od, dV, kV, doc, pm, an, cdv, ct, osl, rfl, lk, hcdv, _, _⟩ := F.ex
    refine fn_of lk hcdv B.sc (fun vs H Q E h => ?_) (fun A outer s H vs Q E hr h => ?_)
    · obtain ⟨ds, r, _, h⟩ := h
      rw [key] at h
      split at h
      · rename_i e
        split at e
        · rename_i q; rw [r.length]; exact q
        · cases e
      · rename_i e
        split at e
        · rename_i q; rw [r.length]; exact q
        · cases e
      · exact h.elim
    · obtain ⟨ds, r, hT, h⟩ := h
      rw [key] at h
      have hlen : ds.length = f.ps.length := by
        by_cases e : ds.length = f.ps.length
        · exact e
        · rw [if_neg e] at h; exact h.elim
      rw [if_pos hlen] at h
      let X := cxOf (L2N.CX Pr w) Pr w K mg base f.N f.d.qual f.d.scope (He.fAd K f.d.at_) cdv A outer s H E
      let g : Gx := ⟨K, run Φ nf n, cA, fun cls d _ H' => E cls d H', fun k => decide (k ∈ P.frs), decide (f.id ∈ P.frs)⟩
      have G : Good X (P.tb f) (n + 3) g := by
        refine ⟨⟨hP, hw⟩, fun x hx => ?_, rfl, rfl, hr, rfl, B.sc.nd, fun x j hx => ?_, C.consts, C.free, fun x c hx => ?_, L2N.takes_of rfl rfl rfl rfl, rfl, rfl, fun x c md hx => ?_⟩
        · obtain ⟨s1, s2, f', a', fd', M, hB, F'⟩ := C.sen x hx
          refine ⟨s1, fun m' hm => ?_⟩
          have em : m' = n + 2 := by omega
          subst em
          have B' : FnB f' := by
            simp only [initB, Bool.and_eq_true] at hB
            exact fnB_ok hB.1
          exact ⟨s2, a', fd', f'.ps, M, binds_of B' F', init_ok s2 hB F'⟩
        · obtain ⟨f', hi, rfl, hnm⟩ := nameIx_ok (fs := P.dfs) hx
          obtain ⟨fd', m1, m2, m3, F'⟩ := fnp f' hi
          exact ⟨_, fd', f'.ps, by rw [← hnm]; exact m1, m2, m3, ih n (by omega) f' fd' hi F'⟩
        · obtain ⟨q1, q2, q3, q4, q5⟩ := C.cls x c hx
          exact ⟨q1, q2, q3, raises_own q4 q5⟩
        · -- lambdas
          have hx : (if f.id ∈ P.lam then thkIx P.thk else []).lookup x = some (c, md) := hx
          split at hx
          case isFalse => cases hx
          rename_i hlam
          obtain ⟨q, hq, rfl, e2⟩ := lookup_map hx
          obtain ⟨a', fd', t1, t2, t3, t4, al, av, e, Cn, t5, t6, t7, t8, t9, t10⟩ := C.thk q hq
          obtain ⟨fal, fdal, pe, u1, u2, u3, u4⟩ := C.al al t5
          have B' := fnB_ok t3
          have S' := B'.sc
          have hb' := binds_of B' t2
          rw [t7] at hb'
          rw [t6, t7] at S'
          rw [e2] at t4 t8 t9 t10
          have T0 := C.lam f hk hlam
          obtain ⟨cc, ecc⟩ := He.codeIn_ref hcdv
          have e1 : He.codeOf K f.d.at_ = cc := He.codeOf_eq lk (by rw [ecc])
          have TB := hTB f hk hlam
          have ec : (He.cT K f.d.at_).1 = cc := e1
          rw [ec] at TB
          have TK : ThkOk Pr w K mg base cA (n + 1) a' c md := thk_ok t2 S' hb' t8 t9 u4 u1 u2 u3 (C.cls Cn c t10).1 (C.exm al t5 Cn c t10) t4
          have eq : X.env.qual ++ "<lambda>" = Tq f := rfl
          refine ⟨n + 1, a', cc, (He.cT K f.d.at_).2, rfl, Nat.succ_le_succ (Nat.zero_le n), t1, t2.kp, TK, TB, ecc, by rw [eq]; exact T0.1, by rw [eq]; exact T0.2, fun y k hy => ?_⟩
          have hy : (if f.id ∈ P.lam then lowIx P.lows else []).lookup y = some k := hy
          rw [if_pos hlam] at hy
          obtain ⟨f', hf', rfl, rfl⟩ := lookup_map hy
          obtain ⟨hi, hlo⟩ := List.mem_filter.mp hf'
          have hlo := of_decide_eq_true hlo
          obtain ⟨fd2, m1, m2, m3, F'⟩ := fnp f' hi
          have w1 : Φ (1000 + f'.id) = some (wrapF (2000 + f'.id) f'.ps.length) := subF_ok hl (List.mem_flatMap.mpr ⟨f', hf', by simp⟩)
          have w2 : Φ (2000 + f'.id) = some (wrapF f'.id f'.ps.length) := subF_ok hl (List.mem_flatMap.mpr ⟨f', hf', by simp⟩)
          refine ⟨_, fd2, f'.ps, m1, m2, m3, ?_⟩
          have bad : ∀ {n : Nat}, (∀ ds, run Φ nf n (1000 + f'.id) ds = .bad) → FnOk Pr w K mg base (L2N.CX Pr w) (n + 1) (He.fAd K f'.d.at_) fd2 f'.ps (spF K cA (run Φ nf n) (fun k => decide (k ∈ P.frs)) (1000 + f'.id)) := fun {n} hb =>
            ⟨fun vs H Q E h => by obtain ⟨ds, _, _, h⟩ := h; rw [hb] at h; exact h.elim, fun A outer s H args us vs Q E _ _ _ _ h => by obtain ⟨ds, _, _, h⟩ := h; rw [hb] at h; exact h.elim⟩
          have key2 : ∀ j : Nat, (∀ i, i + 2 = j → FnOk Pr w K mg base (L2N.CX Pr w) (i + 3) (He.fAd K f'.d.at_) fd2 f'.ps (spF K cA (run Φ nf i) (fun k => decide (k ∈ P.frs)) f'.id)) →
              FnOk Pr w K mg base (L2N.CX Pr w) (j + 1) (He.fAd K f'.d.at_) fd2 f'.ps (spF K cA (run Φ nf j) (fun k => decide (k ∈ P.frs)) (1000 + f'.id)) := fun j ihj => by
           match j, ihj with
           | 0, _ => exact bad fun ds => rfl
           | 1, _ => exact bad fun ds => by rw [run_wrap w1]; split <;> rfl
           | j + 2, ihj =>
            refine (ihj j rfl).imp fun vs H Q E h => ?_
            obtain ⟨ds, r, hT, h⟩ := h
            refine ⟨ds, r, hT, ?_⟩
            rw [run_wrap w1, run_wrap w2] at h
            by_cases hl' : ds.length = f'.ps.length
            · rw [if_pos hl', if_pos hl'] at h
              revert h
              cases run Φ nf j f'.id ds with
              | ok d =>
                intro h v H' e r _
                refine h v H' e r fun hb => ?_
                have z := C.low _ hlo
                have hb : (decide (1000 + f'.id ∈ P.frs) && d.cell) = true := hb
                rw [decide_eq_false z] at hb
                cases hb
              | exc c fs => exact fun h => h
              | bad => exact fun h => h
            · rw [if_neg hl'] at h
              exact h.elim
          exact key2 n fun i hi' => ih i (by omega) f' fd2 hi F'
      have SG : SGood X (P.tb f) (n + 2 + 1) g f.d.scope := ⟨rfl, rfl, C.exm, C.exm2, C.al, G, ScOk.self (X := X), B.sc.kind, passes_of (X := X) rfl, fun _ => rfl⟩
      refine ⟨tSs g nf b, cList_ok (fun st i q => cS_ok fu X g SG st i q) hb, ?_⟩
      have st0 := start_at (fn := ⟨f.ps.length, f.N.length, b⟩) (N := f.N) (Z := AS.none) (H := H) rfl hlen hle hT r
      have noOwn : ∀ a, ¬ OwnA (L2.start f.N vs) (Rf.start ⟨f.ps.length, f.N.length, b⟩ ds) a := fun a ⟨i, d, q, _⟩ => st0.2 i d q
      refine ⟨Rf.start ⟨f.ps.length, f.N.length, b⟩ ds, H, fun Z => Dom Z H ∧ RpL K Z H vs ds, ⟨Ex.refl H, fun a ha => (noOwn a ha).elim, fun i j a d d' q => (st0.2 i d q).elim, ⟨Dom.no, r⟩, fun Z hz => hz.1, fun Z hz => ?_⟩, ?_⟩
      · exact (start_at (fn := ⟨f.ps.length, f.N.length, b⟩) (N := f.N) rfl hlen hle hT hz.2).1.sub fun a ha => ha.elim id fun o => (noOwn a o).elim
      · show FPost g _ H _ (evSs (run Φ nf n) nf b (Rf.start ⟨f.ps.length, f.N.length, b⟩ ds))
        generalize evSs (run Φ nf n) nf b (Rf.start ⟨f.ps.length, f.N.length, b⟩ ds) = o at h ⊢
        cases o with
        | nxt ρ' => exact fun σ' H' ok => h _ H' ok.ex (fun _ _ _ => .non) (fun hb => by simp [D.cell] at hb)
        | ret d => exact fun v H' ex rr fr => h v H' ex (fun Z dz az => rr Z ⟨dz, az⟩) fun hb => (let ⟨p, e1, hp, o⟩ := fr hb; ⟨p, e1, hp, fun Z dz az => o Z ⟨dz, az⟩⟩)
        | brk ρ' => exact h.elim
        | cnt ρ' => exact h.elim
        | exc c fs ρ' => exact fun cls dd σ' H' ok x => h cls dd H' ok.ex x
        | bad => exact h.elim
end
end Rf

/-! part RfTop -/
set_option autoImplicit false
set_option linter.all false
set_option Elab.async false
set_option maxRecDepth 100000
set_option maxHeartbeats 2000000
/-! RfTop: a law of the text by its small program. -/
namespace Rf
open PySem L2
variable [Wd]
def constFa : Str × D → Option He.Fa
  | (x, .int i) => some (.int x i)
  | (x, .str s) => if okTxB s then some (.str x (mkS s)) else none
  | _ => none
mutual
/-- the value is the datum's, all its tuples stand in K -/
def constB (K : PySem.W.Frag) (u : Value) : D → Bool
  | .int i => (match u with
    | .int j _ => decide (j = i)
    | _ => false)
  | .str s => okTxB s && (match u with
    | .str y _ => decide (y = mkS s)
    | _ => false)
  | .tup ds => (match u with
    | .ref a => (match K.lookup a with
      | some ⟨.type c, _, .seq its _, _⟩ => decide (c = "tuple") && (decide (its.size ≤ sizeLine) && constBL K its.toList ds)
      | _ => false)
    | _ => false)
  | _ => false
def constBL (K : PySem.W.Frag) (us : List Value) : List D → Bool
  | [] => us.isEmpty
  | d :: ds => (match us with
    | u :: us => constB K u d && constBL K us ds
    | [] => false)
end
mutual
theorem constB_ok {K : PySem.W.Frag} : ∀ {d : D} {u : Value}, constB K u d = true → ∃ v, RelV v u ∧ ∀ (Z : AS) (H : Hp), Rp K Z H v d
  | .int i, u, h => by
    unfold constB at h
    split at h
    · rw [decide_eq_true_eq] at h
      subst h
      exact ⟨.int _, ⟨_, rfl⟩, fun Z H => .int _⟩
    · cases h
  | .str s, u, h => by
    unfold constB at h
    rw [Bool.and_eq_true] at h
    obtain ⟨h1, h⟩ := h
    split at h
    · rw [decide_eq_true_eq] at h
      subst h
      exact ⟨.str _, ⟨_, rfl⟩, fun Z H => .str s (okTxB_ok h1)⟩
    · cases h
  | .tup ds, u, h => by
    unfold constB at h
    split at h
    case h_2 => cases h
    rename_i a
    split at h
    case h_2 => cases h
    rename_i c od its n osl e
    simp only [Bool.and_eq_true, decide_eq_true_eq] at h
    obtain ⟨rfl, hz, h⟩ := h
    obtain ⟨vs, h1, h2⟩ := constBL_ok h
    exact ⟨.ref a, rfl, fun Z H => .tup (.inr ⟨_, its, n, e, rfl, rfl, hz, h1⟩) (h2 Z H)⟩
  | .non, _, h => by simp [constB] at h
  | .bl _, _, h => by simp [constB] at h
  | .lst _, _, h => by simp [constB] at h
  | .dic _ _, _, h => by simp [constB] at h
  | .obj _ _, _, h => by simp [constB] at h
  | .exn _ _, _, h => by simp [constB] at h
theorem constBL_ok {K : PySem.W.Frag} : ∀ {ds : List D} {us : List Value}, constBL K us ds = true → ∃ vs, Vals vs us ∧ ∀ (Z : AS) (H : Hp), RpL K Z H vs ds
  | [], us, h => by
    unfold constBL at h
    rw [List.isEmpty_iff] at h
    subst h
    exact ⟨[], .nil, fun Z H => .nil⟩
  | d :: ds, us, h => by
    unfold constBL at h
    split at h
    · rw [Bool.and_eq_true] at h
      obtain ⟨v, h1, h2⟩ := constB_ok h.1
      obtain ⟨vs, h3, h4⟩ := constBL_ok h.2
      exact ⟨v :: vs, .cons h1 h3, fun Z H => .cons (h2 Z H) (h4 Z H)⟩
    · cases h
end
/-- a constant that is a tuple -/
def isTupD : D → Bool
  | .tup _ => true
  | _ => false
def tcB (K : PySem.W.Frag) (c : Str × D) : Bool := !isTupD c.2 || (match PySem.W.nsIn K mainGlobals c.1 with
  | some (some u) => constB K u c.2
  | _ => false)
def optL {α : Type} : Option α → List α
  | none => []
  | some a => [a]
def Pg.all (P : Pg) : List Df := P.dfs ++ (optL P.al ++ P.thk.map (·.1))
/-- the defs in which lambdas stand: their tables -/
def Pg.lamD (P : Pg) : List Df := P.dfs.filter fun f => decide (f.id ∈ P.lam)
def Pg.tf (P : Pg) : List He.Defn := P.lamD.map fun f => f.d.at_
def Pg.tabs (P : Pg) (K : PySem.W.Frag) : List (Addr × Str) := P.lamD.map fun f => ((He.cT K f.d.at_).2, Tq f)
def senFa (x : Str) : List He.Fa := [.glo x, .cls x, .noat x "given", .noat x "claim", .mkr x]
def Pg.fa (P : Pg) : List He.Fa := (optL P.sen).flatMap (fun q => senFa q.1) ++ (P.all.map (fun f => He.Fa.glo f.d.name) ++ (P.consts.flatMap (fun c => optL (constFa c)) ++ (P.frees.map He.Fa.free ++ (P.cls.map (fun q => He.Fa.glo q.1) ++ P.cls.map (fun q => He.Fa.exc q.1)))))
/-- the seven classes of refusals, and those that bear nothing -/
def all7 : List (Str × Nat) := [("NoRule", 0), ("TooGreat", 1), ("Untrue", 2), ("BadText", 3), ("BadRow", 4), ("NoSuch", 5), ("WellError", 6)]
def plain5 : List (Str × Nat) := [("NoRule", 0), ("TooGreat", 1), ("BadText", 3), ("BadRow", 4), ("NoSuch", 5)]
/-- a class's name, its place -/
def clsNm (c : Nat) : Str := match (all7 ++ [(("Sentence" : Str), 8)]).find? (fun (q : Str × Nat) => q.2 == c) with
  | some q => q.1
  | none => Str.empty
def cAt (K : PySem.W.Frag) (c : Nat) : Addr := He.ga K (clsNm c)
def Pg.fn (P : Pg) : List He.DefD := P.all.map (·.d) ++ (optL P.sen).map (·.2.d)
theorem lookup_mem' {α : Type} {x : Str} {d : α} : ∀ {l : List (Str × α)}, l.lookup x = some d → (x, d) ∈ l
  | [], h => by cases h
  | (y, e) :: r, h => by
    rw [List.lookup_cons] at h
    cases hx : x == y with
    | true =>
      rw [hx] at h
      cases h
      rw [eq_of_beq hx]
      exact List.mem_cons_self
    | false =>
      rw [hx] at h
      exact List.mem_cons_of_mem _ (lookup_mem' h)
/-- the hook's own test: nothing where no _law_alone stands -/
def senB (K : PySem.W.Frag) : Bool :=
  decide (PySem.W.findIn K (.ref (cAt K 8)) "__class__" = some (some (.builtin "object.__class__"))) && (decide (PySem.W.specialIn K (.builtin "object.__class__") "__get__" = some (some (.builtin "getset_descriptor.__get__"))) &&
    (decide (PySem.W.takesIn K (.builtin "object.__class__") = some true) && (decide (PySem.W.mroIn K (cAt K 8) (.type "object") = some true) && decide (PySem.W.kitOne K (.ref (cAt K 8)) (.ref (cAt K 8)) = some true))))
def Pg.pairs (P : Pg) (K : PySem.W.Frag) : Bool := P.cls.all fun q => P.cls.all fun r => !plainC r.2 || decide (PySem.W.exmOne K (.ref (He.ga K r.1)) (.ref (He.ga K q.1)) = some (subC r.2 q.2))
def Pg.ex (P : Pg) (K : PySem.W.Frag) : Bool := decide ((P.tabs K).map (·.1)).Nodup && (P.pairs K && (P.consts.all (tcB K) && ((noneB P.sen || senB K) && (noneB P.al || ((plain5.all (clsB K all7)) && all7.all fun q => decide (PySem.W.nsIn K mainGlobals q.1 = some (some (.ref (He.ga K q.1)))))))))
/-- what is asked of the tables -/
def alD (f : Df) : Bool := (fnB f && (match f.N with
  | [e, fl] => decide (f.ps = [e]) && (aloneB e fl f.d.body && aloneSc e fl f.d.scope)
  | _ => false))
def Pg.alOk (P : Pg) : Bool := match P.al with
  | none => true
  | some f => alD f && (decide (("isinstance" : Str) ∈ P.frees) && (decide (("ValueError" : Str) ∈ P.frees) && P.cls.all fun q => decide (q ∈ all7)))
def Pg.senOk (P : Pg) : Bool := match P.sen with
  | none => true
  | some (x, f) => decide (x = ("Sentence" : Str)) && (initB f && (decide (f.d.at_ = (x, some ("__init__" : Str))) && (f.d.dfl.isEmpty && f.d.kwd.isEmpty)))
def thkC : List Stmt → Option Str
  | .Try _ [.ExceptHandler (some (.Name C _)) _ _ _] _ _ _ :: _ => some C
  | _ => none
def thkD (P : Pg) (q : Df × Nat × Option Tx) : Bool := fnB q.1 && (match P.alN, q.1.N, thkC q.1.d.body with
  | some al, [av, e], some C => decide (q.1.ps = [av]) && (thkB al av e C q.2.2 q.1.d.body && (thkSc al av e C q.2.2 q.1.d.scope && (decide (P.cls.lookup C = some q.2.1) && (isN q.2.2 || decide (("int" : Str) ∈ P.frees)))))
  | _, _, _ => false)
def Pg.lamOk (P : Pg) : Bool := P.thk.all (thkD P) && P.low.all fun i => !decide (1000 + i ∈ P.frs)
def Pg.ok (P : Pg) : Bool := P.lamOk && (P.senOk && (P.alOk && (P.all.all fun f => decide (f.d.at_ = (f.d.name, none)) && (f.d.dfl.isEmpty && f.d.kwd.isEmpty)) && ((P.consts.all fun c => isTupD c.2 || (constFa c).isSome) && P.cls.all fun q => decide (clsNm q.2 = q.1))))
theorem plain5_of {c : Nat} (h : plainC c = true) : ∃ nm, (nm, c) ∈ plain5 ∧ clsNm c = nm := by
  rcases plainC_cases h with rfl | rfl | rfl | rfl | rfl
  · exact ⟨"NoRule", by simp [plain5], by rfl⟩
  · exact ⟨"TooGreat", by simp [plain5], by rfl⟩
  · exact ⟨"BadText", by simp [plain5], by rfl⟩
  · exact ⟨"BadRow", by simp [plain5], by rfl⟩
  · exact ⟨"NoSuch", by simp [plain5], by rfl⟩
theorem cls7_of {C : Str} (h : C ∈ cls7) : (C, idC C) ∈ all7 ∧ clsNm (idC C) = C := by
  simp only [cls7, List.mem_cons, List.not_mem_nil, or_false] at h
  rcases h with rfl | rfl | rfl | rfl | rfl | rfl | rfl <;> exact ⟨by decide +kernel, by decide +kernel⟩
theorem con_of {P : Pg} {K : PySem.W.Frag} {mg : Str → Option Value} {h : Heap} (ok : P.ok = true) (c0 : He.SaysD P.fa P.fn K) (hex : P.ex K = true) (X : K.In h) (G : h.Ns mainGlobals mg) (hW : cAt K = Wd.cA) (hT : P.tabs K = Wd.T) : Con P K mg (cAt K) := by
  unfold Pg.ok at ok
  simp only [Bool.and_assoc] at ok
  rw [Bool.and_eq_true, Bool.and_eq_true, Bool.and_eq_true] at ok
  obtain ⟨okL, okS, okA, ok⟩ := ok
  simp only [Bool.and_eq_true, List.all_eq_true, decide_eq_true_eq, List.isEmpty_iff] at ok
  have cf : ∀ {f : He.Fa}, f ∈ P.all.map (fun f => He.Fa.glo f.d.name) ++ (P.consts.flatMap (fun c => optL (constFa c)) ++ (P.frees.map He.Fa.free ++ (P.cls.map (fun q => He.Fa.glo q.1) ++ P.cls.map (fun q => He.Fa.exc q.1)))) → f.ok K = true := fun h => c0.facts (List.mem_append.mpr (.inr h))
  unfold Pg.ex at hex
  rw [Bool.and_eq_true, Bool.and_eq_true, Bool.and_eq_true, Bool.and_eq_true] at hex
  obtain ⟨hexN, hexP, hexT, hexS, hex⟩ := hex
  have fnp : ∀ f ∈ P.all, ∃ (fd : FuncData), mg f.d.name = some (.ref (He.fAd K f.d.at_)) ∧ FunD K f.d.name f.d.qual f.d.params f.d.body f.d.scope [] [] (He.fAd K f.d.at_) fd := fun f hm => by
    obtain ⟨o1, o2, o3⟩ := ok.1 f hm
    obtain ⟨fd, F⟩ := c0.defs (d := f.d) (List.mem_append.mpr (.inl (List.mem_map.mpr ⟨f, hm, rfl⟩)))
    have g1 := He.glo_ok X G (x := f.d.name) (cf (List.mem_append.mpr (.inl (List.mem_map.mpr ⟨f, hm, rfl⟩))))
    have e : He.fAd K f.d.at_ = He.ga K f.d.name := by rw [o1]; rfl
    have e1 : f.d.dvs K = [] := by unfold He.DefD.dvs; rw [o2]; rfl
    have e2 : f.d.kws K = [] := by unfold He.DefD.kws; rw [o3]; rfl
    rw [e1, e2] at F
    exact ⟨fd, by rw [e]; exact g1, F⟩
  have frp : ∀ x ∈ P.frees, mg x = none := fun x hx => He.free_ok X G (cf (List.mem_append.mpr (.inr (List.mem_append.mpr (.inr (List.mem_append.mpr (.inl (List.mem_map.mpr ⟨x, hx, rfl⟩))))))))
  have alo : ∀ x, P.alN = some x → ∃ f, P.al = some f ∧ f.d.name = x := fun x hx => by
    unfold Pg.alN at hx
    obtain ⟨f, h1, h2⟩ := mapSome hx
    exact ⟨f, h1, h2.symm⟩
  have exd : ∀ al, P.al = some al → (∀ q ∈ plain5, clsB K all7 q = true) ∧ ∀ q ∈ all7, PySem.W.nsIn K mainGlobals q.1 = some (some (.ref (He.ga K q.1))) := fun al ha => by
    rw [ha] at hex
    simp only [noneB, Bool.false_or, Bool.and_eq_true, List.all_eq_true, decide_eq_true_eq] at hex
    exact hex
  have alk : ∀ al, P.al = some al → alD al = true ∧ ("isinstance" : Str) ∈ P.frees ∧ ("ValueError" : Str) ∈ P.frees ∧ ∀ q ∈ P.cls, q ∈ all7 := fun al ha => by
    unfold Pg.alOk at okA
    rw [ha] at okA
    simp only [Bool.and_eq_true, List.all_eq_true, decide_eq_true_eq] at okA
    exact okA
  simp only [Pg.lamOk, Bool.and_eq_true, List.all_eq_true, Bool.not_eq_true', decide_eq_false_iff_not] at okL
  have tabU : ∀ {l : List (Addr × Str)}, (l.map (·.1)).Nodup → ∀ p ∈ l, ∀ q ∈ l, p.1 = q.1 → p = q := fun {l} hn => by
    induction l with
    | nil => intro p hp; cases hp
    | cons a l ih =>
      rw [List.map_cons, List.nodup_cons] at hn
      intro p hp q hq e
      rcases List.mem_cons.mp hp with hp | hp <;> rcases List.mem_cons.mp hq with hq | hq
      · rw [hp, hq]
      · exact (hn.1 (List.mem_map.mpr ⟨q, hq, by rw [← e, hp]⟩)).elim
      · exact (hn.1 (List.mem_map.mpr ⟨p, hp, by rw [e, hq]⟩)).elim
      · exact ih hn.2 p hp q hq e
  refine ⟨fun f hf => fnp f (List.mem_append.mpr (.inl hf)), fun q hq => ?_, fun f hf hl => ?_, fun i hi => okL.2 i hi, fun x d hx => ?_, frp, fun x cc hx => ?_, fun al ha x cc hx c' hc' => ?_, fun x cc hx c' hc' => ?_, fun al ha => ?_, hW, fun x hx => ?_⟩
  · obtain ⟨fd, m1, F⟩ := fnp q.1 (List.mem_append.mpr (.inr (List.mem_append.mpr (.inr (List.mem_map.mpr ⟨q, hq, rfl⟩)))))
    have hd := okL.1 q hq
    unfold thkD at hd
    rw [Bool.and_eq_true] at hd
    obtain ⟨d1, hd⟩ := hd
    split at hd
    case h_2 => cases hd
    rename_i al av e C h1 h2 h3
    simp only [Bool.and_eq_true, Bool.or_eq_true, decide_eq_true_eq] at hd
    obtain ⟨d2, d3, d4, d5, d6⟩ := hd
    refine ⟨_, fd, m1, F, d1, fun hm => ?_, al, av, e, C, h1, h2, d2, d3, d4, d5⟩
    rcases d6 with z | z
    · rw [isN_ok z] at hm; cases hm
    · exact frp _ z
  · have hm : ((He.cT K f.d.at_).2, Tq f) ∈ P.tabs K := List.mem_map.mpr ⟨f, List.mem_filter.mpr ⟨hf, decide_eq_true hl⟩, rfl⟩
    rw [← hT]
    exact ⟨hm, fun p hp e => congrArg Prod.snd (tabU (of_decide_eq_true hexN) p hp _ hm e)⟩
  · have hm := lookup_mem' hx
    have o := ok.2.1 _ hm
    cases ht : isTupD d with
    | true =>
      have q := List.all_eq_true.mp hexT _ hm
      simp only [tcB, ht, Bool.not_true, Bool.false_or] at q
      split at q
      · rename_i u e
        obtain ⟨v, h1, h2⟩ := constB_ok q
        exact ⟨v, u, PySem.W.mg_of X G e, h1, h2⟩
      · cases q
    | false =>
    simp only [ht, Bool.false_eq_true, false_or] at o
    obtain ⟨fa, hfa⟩ := Option.isSome_iff_exists.mp o
    have inF : fa ∈ P.all.map (fun f => He.Fa.glo f.d.name) ++ (P.consts.flatMap (fun c => optL (constFa c)) ++ (P.frees.map He.Fa.free ++ (P.cls.map (fun q => He.Fa.glo q.1) ++ P.cls.map (fun q => He.Fa.exc q.1)))) := List.mem_append.mpr (.inr (List.mem_append.mpr (.inl (List.mem_flatMap.mpr ⟨_, hm, by rw [hfa]; exact List.mem_singleton.mpr rfl⟩))))
    have q := cf inF
    cases d with
    | int i =>
      cases hfa
      obtain ⟨t, e⟩ := He.int_ok X G q
      exact ⟨.int i, _, e, ⟨t, rfl⟩, fun Z H => .int i⟩
    | str s =>
      simp only [constFa] at hfa
      split at hfa
      case isFalse => cases hfa
      rename_i o
      cases hfa
      obtain ⟨t, e⟩ := He.str_ok X G q
      exact ⟨.str (mkS s), _, e, ⟨t, rfl⟩, fun Z H => .str s (okTxB_ok o)⟩
    | _ => cases hfa
  · have hm := lookup_mem' hx
    have e : cAt K cc = He.ga K x := by
      have := ok.2.2 _ hm
      unfold cAt
      rw [this]
    have g1 := He.glo_ok X G (x := x) (cf (List.mem_append.mpr (.inr (List.mem_append.mpr (.inr (List.mem_append.mpr (.inr (List.mem_append.mpr (.inl (List.mem_map.mpr ⟨_, hm, rfl⟩)))))))))) 
    have g2 := He.exc_ok (x := x) (cf (List.mem_append.mpr (.inr (List.mem_append.mpr (.inr (List.mem_append.mpr (.inr (List.mem_append.mpr (.inr (List.mem_map.mpr ⟨_, hm, rfl⟩))))))))))
    rw [e]
    exact ⟨g1, g2⟩
  · have hm := lookup_mem' hx
    obtain ⟨al, ha, _⟩ := alo al ha
    obtain ⟨h1, _⟩ := exd al ha
    have q := (alk al ha).2.2.2 _ hm
    obtain ⟨nm, n5, e5⟩ := plain5_of hc'
    have e1 : cAt K c' = He.ga K nm := by unfold cAt; rw [e5]
    have e2 : cAt K cc = He.ga K x := by
      have := ok.2.2 _ hm
      unfold cAt
      rw [this]
    have q2 := h1 _ n5
    simp only [clsB, Bool.and_eq_true, List.all_eq_true, decide_eq_true_eq] at q2
    have q3 := q2.2.2 _ q
    simp only [pairB, Bool.and_eq_true, decide_eq_true_eq] at q3
    rw [e1, e2]
    exact q3.2
  · have hm := lookup_mem' hx
    obtain ⟨hc1, hc2⟩ := List.mem_filter.mp hc'
    obtain ⟨⟨y, c2⟩, hy, rfl⟩ := List.mem_map.mp hc1
    have q := List.all_eq_true.mp (List.all_eq_true.mp hexP _ hm) _ hy
    dsimp only at q hc2
    rw [Bool.and_eq_true] at hc2
    rw [hc2.1, Bool.not_true, Bool.false_or, decide_eq_true_eq] at q
    have e1 : cAt K c2 = He.ga K y := by
      have := ok.2.2 _ hy
      unfold cAt
      rw [this]
    have e2 : cAt K cc = He.ga K x := by
      have := ok.2.2 _ hm
      unfold cAt
      rw [this]
    rw [e1, e2]
    exact q
  · obtain ⟨f, ha, d1⟩ := alo al ha
    obtain ⟨h1, h2⟩ := exd f ha
    obtain ⟨hd, mi, mv, _⟩ := alk f ha
    simp only [alD, Bool.and_eq_true, decide_eq_true_eq] at hd
    obtain ⟨d2, d3⟩ := hd
    have B := fnB_ok d2
    obtain ⟨fd, g1, F⟩ := fnp f (List.mem_append.mpr (.inr (List.mem_append.mpr (.inl (by rw [ha]; exact List.mem_singleton.mpr rfl)))))
    split at d3
    case h_2 => cases d3
    rename_i e fl hN
    simp only [Bool.and_eq_true, decide_eq_true_eq] at d3
    obtain ⟨p1, p2, p3⟩ := d3
    have hb := F.bindsN (ps := f.ps) fun kV doc pm an cdv ct us hl => bind_plain B.po B.va B.ko B.kw B.pnd hl
    rw [p1] at hb
    refine ⟨_, fd, e, by rw [← d1]; exact g1, F.kp, hb, ⟨⟨_, _, fl, _, _, _, F, ?_, p2, p3⟩, frp _ mi, frp _ mv, fun c hc => ?_, fun C hC => ?_⟩⟩
    · have q := B.sc
      rw [hN, p1] at q
      exact q
    · obtain ⟨nm, n5, e5⟩ := plain5_of hc
      have q2 := h1 _ n5
      simp only [clsB, Bool.and_eq_true, List.all_eq_true, decide_eq_true_eq] at q2
      have e1 : cAt K c = He.ga K nm := by unfold cAt; rw [e5]
      rw [e1]
      exact ⟨excB_ok q2.1, q2.2.1⟩
    · have m7 := cls7_of hC
      have e2 : cAt K (idC C) = He.ga K C := by unfold cAt; rw [m7.2]
      rw [e2]
      refine ⟨PySem.W.mg_of X G (h2 _ m7.1), fun c hc => ?_⟩
      obtain ⟨nm, n5, e5⟩ := plain5_of hc
      have q2 := h1 _ n5
      simp only [clsB, Bool.and_eq_true, List.all_eq_true, decide_eq_true_eq] at q2
      have q3 := q2.2.2 _ m7.1
      simp only [pairB, Bool.and_eq_true, decide_eq_true_eq] at q3
      have e1 : cAt K c = He.ga K nm := by unfold cAt; rw [e5]
      rw [e1]
      exact q3.1
  · obtain ⟨⟨x', f⟩, hs, rfl⟩ := mapSome hx
    unfold Pg.senOk at okS
    rw [hs] at okS hexS
    simp only [Bool.and_eq_true, decide_eq_true_eq, List.isEmpty_iff] at okS
    obtain ⟨rfl, s2, s3, s4, s5⟩ := okS
    simp only [noneB, Bool.false_or, senB, Bool.and_eq_true, decide_eq_true_eq] at hexS
    obtain ⟨e1, e2, e3, e4, e5⟩ := hexS
    have sf : ∀ {fa : He.Fa}, fa ∈ senFa ("Sentence" : Str) → fa.ok K = true := fun h => c0.facts (List.mem_append.mpr (.inl (by rw [hs]; simpa [optL] using h)))
    have eC : Wd.cA 8 = He.ga K ("Sentence" : Str) := by rw [← hW]; rfl
    have eC' : cAt K 8 = He.ga K ("Sentence" : Str) := rfl
    rw [eC'] at e1 e4 e5
    obtain ⟨fd, F⟩ := c0.defs (d := f.d) (List.mem_append.mpr (.inr (by rw [hs]; exact List.mem_singleton.mpr rfl)))
    have q1 : He.fAd K f.d.at_ = He.ma K (He.ga K ("Sentence" : Str)) ("__init__" : Str) := by rw [s3]; rfl
    have q2 : f.d.dvs K = [] := by unfold He.DefD.dvs; rw [s4]; rfl
    have q3 : f.d.kws K = [] := by unfold He.DefD.kws; rw [s5]; rfl
    rw [q1, q2, q3] at F
    rw [eC]
    exact ⟨He.glo_ok X G (sf (by simp [senFa])), ⟨He.cls_ok (sf (by simp [senFa])), He.noat_ok (sf (by simp [senFa])), He.noat_ok (sf (by simp [senFa])), e1, e2, e3, e4, e5⟩, f, _, fd, He.mkr_ok (sf (by simp [senFa])), s2, F⟩
omit [Wd] in
theorem walk_rf {l : PySem.W.OpenLaw} {q : Program} {loose : List Str} {XP : (Str → Option Value) → Heap → Prop} {d : DefRec} (hn : l.most = some 63) (hdf : d.params.defaults = []) {P : Pg} {fu nf : Nat} {Φ : Nat → Option Fn} {f : Df}
    (ok : P.ok = true) (hc : CompOk P fu Φ) (hl : subF Φ (lowL P)) (hk : f ∈ P.dfs) (hps : f.ps.length = 1) (hnm : f.d.name = d.name)
    (hrun : ∀ ns : List Int, ns.length ≤ 63 → run Φ nf 228 f.id [.lst (ns.map .int)] = .ok (.bl true)) :
    PySem.W.WalkO q loose XP (fun w h => ∃ K : PySem.W.Frag, K.In h ∧ He.SaysX P.fa P.fn [] P.tf P.ex w h K) l.row.toRowW d [] (fun f vs => PySem.call f vs) := by
  obtain ⟨x, hx⟩ : ∃ x, f.ps = [x] := by
    match e : f.ps, hps with
    | [x], _ => exact ⟨x, rfl⟩
  refine Att.attach_call hn hdf fun w s₀ s₁ mg mb fa o pm cd doc a vs ns G Y ho hd hcd hmg hobj hints hlen hg => ?_
  obtain ⟨K, KX, c⟩ := Y
  letI : Wd := ⟨l.prog, w, cAt K, P.tabs K⟩
  have C := con_of ok c.t.d c.more KX G.T.g rfl rfl
  obtain ⟨fd, m1, F⟩ := C.fn f hk
  rw [hnm, hmg] at m1
  cases m1
  obtain ⟨fn, _, hcd'⟩ := hc f hk
  have B : FnB f := by
    unfold cDef at hcd'
    split at hcd'
    · exact fnB_ok (by assumption)
    · cases hcd'
  have inT : ∀ {f : Df}, f ∈ P.dfs → f.id ∈ P.lam → f.d.at_ ∈ P.tf := fun {f} h1 h2 => List.mem_map.mpr ⟨f, List.mem_filter.mpr ⟨h1, decide_eq_true h2⟩, rfl⟩
  have tfc : ∀ p ∈ P.tf.map (He.cT K), ∃ t ∈ P.tf, He.cT K t = p := fun p hp => List.mem_map.mp hp
  refine LamX.law_callTs (CX := L2N.CX l.prog w) (k := 231) (cs := P.tf.map (He.cT K)) (fd := fd) (x := x) (sp := spF K (cAt K) (run Φ nf 228) (fun k => decide (k ∈ P.frs)) f.id) KX G.T.g G.T.b G.T.builtins G.T.nolimit hg (fun p hp => ?_) (fun p hp => ?_) (fun p hp => ?_) G.T.bmain hobj hints (Nat.le_trans hlen (by decide)) ⟨rfl, by decide, by decide⟩
    (fun base hb hn hTB => by rw [← hx]; exact fn_all rfl rfl C hc hl (fun f h1 h2 => hTB _ (List.mem_map.mpr ⟨_, inT h1 h2, rfl⟩)) 228 f fd hk F) (fun s u => ?_) (fun H hO hS => ?_) (fun H e s' h => ?_)
  · obtain ⟨t, ht, rfl⟩ := tfc p hp
    exact c.empty t ht
  · obtain ⟨t, ht, rfl⟩ := tfc p hp
    exact c.out t ht
  · obtain ⟨t, ht, rfl⟩ := tfc p hp
    exact PySem.W.codeHd_of_K KX (c.hd t ht)
  · have q := F.bindsA (ps := f.ps) (fun kV doc pm an cdv ct us hl => bind_plain B.po B.va B.ko B.kw B.pnd hl) s [u] (by rw [hx]; rfl)
    rw [hx] at q
    exact q
  · refine ⟨[.lst (ns.map .int)], .cons (.lst ?_ RpL.ints) .nil, fun p hp => ?_, ?_⟩
    · rcases hS with h | h
      · exact .inl ⟨fun z => z, h⟩
      · exact .inr h
    · obtain ⟨f', hf', rfl⟩ := List.mem_map.mp hp
      obtain ⟨h1, h2⟩ := List.mem_filter.mp hf'
      exact LamX.TabS.nil (hO _ (List.mem_map.mpr ⟨_, inT h1 (of_decide_eq_true h2), rfl⟩))
    · rw [hrun ns hlen]
      intro v H' e r _
      cases r AS.none Dom.no (.cons (.lst (by
        rcases hS with h | h
        · exact .inl ⟨fun z => z, h⟩
        · exact .inr h) RpL.ints) .nil)
      rfl
  · obtain ⟨_, _, _, _, _, _, _, _, _, _, _, _, z⟩ := h
    exact z
end Rf

/-! part RfHook -/
set_option autoImplicit false
set_option linter.all false
set_option Elab.async false
set_option maxRecDepth 100000
set_option maxHeartbeats 2000000
/-! RfHook: what the head tells, over a given list of addresses. -/
namespace Rf
open PySem L2
abbrev AlA : Type := He.AlT × Bool
def obsA (as : List Addr) (fa : List He.Fa) (fn : List He.DefD) (tf : List He.Defn) (ex : PySem.W.Frag → Bool) (g : Addr → Option Obj) : AlA := (He.obsT fa fn [] (He.frT g as), ex (He.frT g as) && He.tabsB g tf (He.frT g as))
def valA (fn : List He.DefD) (w : World) : AlA := (He.valT fn [] w, true)
theorem saysA_of {as : List Addr} {fa : List He.Fa} {fn : List He.DefD} {tf : List He.Defn} {ex : PySem.W.Frag → Bool} {w : World} {h : Heap} (e : obsA as fa fn tf ex h.get? = valA fn w) : He.SaysX fa fn [] tf ex w h (He.frT h.get? as) := by
  have e2 : (ex (He.frT h.get? as) && He.tabsB h.get? tf (He.frT h.get? as)) = true := congrArg (fun z : AlA => z.2) e
  rw [Bool.and_eq_true] at e2
  obtain ⟨h1, h2⟩ := e2
  have key : ∀ p ∈ tf, PySem.W.codeHdIn (He.frT h.get? as) (He.cT (He.frT h.get? as) p).1 (He.cT (He.frT h.get? as) p).2 = true ∧ ∃ o, h.get? (He.cT (He.frT h.get? as) p).2 = some o ∧ He.emptyTab o = true := fun p hp => by
    have q := List.all_eq_true.mp h2 p hp
    rw [Bool.and_eq_true] at q
    refine ⟨q.1, ?_⟩
    have q2 := q.2
    split at q2
    · rename_i o e; exact ⟨o, e, q2⟩
    · cases q2
  refine ⟨congrArg (fun z : AlA => z.1) e, h1, fun p hp => (key p hp).1, fun p hp => ?_, fun p hp => ?_⟩
  · obtain ⟨_, o, q, z⟩ := key p hp
    exact He.frT_none q z
  · obtain ⟨_, o, q, z⟩ := key p hp
    rw [q, He.emptyTab_eq z]
def hookA (as : List Addr) (fa : List He.Fa) (fn : List He.DefD) (tf : List He.Defn) (ex : PySem.W.Frag → Bool) : PySem.W.Hook where
  α := AlA
  obs := fun s => obsA as fa fn tf ex s.heap.get?
  val := fun w => valA fn w
  says := fun w h => ∃ K : PySem.W.Frag, K.In h ∧ He.SaysX fa fn [] tf ex w h K
  of := fun w h e => ⟨_, He.frT_in, saysA_of e⟩
  keeps := fun _ _ _ ⟨K, hK, c⟩ k => ⟨K, PySem.W.Frag.In.keeps hK k, ⟨c.t, c.more, c.hd, c.out, fun p hp => k _ _ (c.empty p hp)⟩⟩
theorem obsA_eq {as : List Addr} {fa : List He.Fa} {fn : List He.DefD} {tf : List He.Defn} {ex : PySem.W.Frag → Bool} {g : Addr → Option Obj} {s : Shared} (h : ∀ a, g a = s.heap.get? a) : obsA as fa fn tf ex g = (hookA as fa fn tf ex).obs s := by
  have e : g = s.heap.get? := funext h
  rw [e] <;> rfl
end Rf

section
set_option maxRecDepth 100000
set_option maxHeartbeats 0
namespace K29
open PySem L2 Rf
/-! the tables of the text -/
def top (i : Nat) : Stmt := PySem.Challenge.pw_soundwell_k29_whole_unfolded_to_the_end.main.body.getD i (.Pass ⟨0, 0, 0, 0⟩)
def mk (i id : Nat) (n : Str) (N : List Str) (own : List Nat) : Df := ⟨id, ⟨(n, none), n, n, defArgs (top i), defBody (top i), defScope (top i), [], []⟩, N, own⟩
abbrev d10 : Df := mk 10 8 "sort_depth" ["sort"] []
abbrev d11 : Df := mk 11 9 "is_made" ["thing", "left"] []
abbrev d12 : Df := mk 12 10 "is_sort" ["thing"] []
abbrev d13 : Df := mk 13 11 "sort_text" ["sort"] []
abbrev d20 : Df := mk 20 22 "is_name" ["thing", "sign"] []
abbrev d21 : Df := mk 21 12 "is_whole" ["thing"] []
abbrev d22 : Df := mk 22 24 "good_sort" ["sort"] []
abbrev d23 : Df := mk 23 25 "leaf_sort" ["thing", "around"] []
abbrev d24 : Df := mk 24 26 "sort_in" ["thing", "around", "inner", "first", "second"] []
abbrev d25 : Df := mk 25 27 "size_of" ["term"] []
abbrev d26 : Df := mk 26 28 "depth_of" ["term"] []
abbrev d27 : Df := mk 27 29 "is_small" ["term"] []
abbrev d28 : Df := mk 28 30 "is_term" ["thing"] []
abbrev d29 : Df := mk 29 40 "sort_of" ["term"] []
abbrev d30 : Df := mk 30 41 "bounded" ["term"] []
abbrev d31 : Df := mk 31 43 "equality" ["one", "other"] []
abbrev d33 : Df := mk 33 85 "lifted" ["part", "by", "level"] []
abbrev d34 : Df := mk 34 86 "opened" ["part", "other", "level"] []
abbrev d35 : Df := mk 35 87 "is_fold" ["part"] []
abbrev d37 : Df := mk 37 58 "written" ["term"] []
abbrev d41 : Df := mk 41 117 "by_text" ["terms", "texts", "term", "text"] [1]
abbrev d42 : Df := mk 42 118 "follows" ["given", "claim", "term"] []
abbrev d45 : Df := mk 45 219 "one_step" ["part", "inner", "first", "second"] []
abbrev d46 : Df := mk 46 220 "reduced" ["term", "steps", "after"] []
abbrev d47 : Df := mk 47 221 "reduction" ["term"] []
abbrev d49 : Df := mk 49 3 "_law_cell" ["_law_script", "_law_k"] []
abbrev d50 : Df := mk 50 4 "_law_drawn" ["_law_cell_here", "_law_k", "_law_more"] []
abbrev d51 : Df := mk 51 5 "_law_alone" ["_law_e", "_law_flags"] []
abbrev d52 : Df := mk 52 8 "_law_sort_depth" ["_law_sort_here"] []
abbrev d53 : Df := mk 53 31 "_law_some_sort" ["_law_more"] []
abbrev d54 : Df := mk 54 32 "_law_leaf" ["_law_sort_here", "_law_more"] []
abbrev d55 : Df := mk 55 33 "_law_part" ["_law_script", "_law_k", "_law_sort_here", "_law_around", "_law_deep", "_law_more", "_law_places", "_law_j", "_law_some"] []
abbrev d56 : Df := mk 56 48 "_law_sort" ["_law_part_here", "_law_around"] []
abbrev d57 : Df := mk 57 27 "_law_size" ["_law_part_here"] []
abbrev d58 : Df := mk 58 28 "_law_depth" ["_law_part_here"] []
abbrev d59 : Df := mk 59 52 "_law_equal" ["_law_one", "_law_other"] []
abbrev d60 : Df := mk 60 53 "_law_good" ["_law_part_here", "_law_around"] []
abbrev d61 : Df := mk 61 54 "_law_is_term" ["_law_part_here"] []
abbrev d62 : Df := mk 62 85 "_law_lifted" ["_law_part_here", "_law_by", "_law_level"] []
abbrev d63 : Df := mk 63 86 "_law_opened" ["_law_part_here", "_law_other", "_law_level"] []
abbrev d64 : Df := mk 64 230 "_law_step" ["_law_part_here", "_law_one", "_law_first"] []
abbrev d65 : Df := mk 65 231 "_law_folded" ["_law_script", "_law_k", "_law_sort_here", "_law_around", "_law_deep", "_law_more", "_law_some", "_law_first"] []
abbrev d66 : Df := mk 66 232 "_law_doubling" ["_law_more", "_law_twice", "_law_made", "_law_k"] []
abbrev d67 : Df := mk 67 233 "_law_wide" ["_law_many", "_law_more", "_law_made", "_law_two", "_law_rest", "_law_k"] [4]
abbrev d68 : Df := mk 68 234 "_law_end" ["_law_term", "_law_k", "_law_after"] []
abbrev d69 : Df := mk 69 235 "_law_told" ["_law_rule", "_law_e"] []
abbrev d70 : Df := mk 70 236 "law" ["_law_script", "_law_k", "_law_more", "_law_term", "_law_due", "_law_told_here", "_law_sentence", "_law_claim"] []
def consts : List (Str × D) := [("MOST_SORT", .int (5)), ("MOST_SIZE", .int (600)), ("MOST_DEPTH", .int (40)), ("MOST_NAME", .int (8)), ("LETTERS", .str [97, 98, 99, 100, 101, 102, 103, 104, 105, 106, 107, 108, 109, 110, 111, 112, 113, 114, 115, 116, 117, 118, 119, 120, 121, 122]), ("FIGURES", .str [48, 49, 50, 51, 52, 53, 54, 55, 56, 57]), ("MOST_GIVEN", .int (12)), ("MOST_STEPS", .int (60))]
def cTop : Stmt := match top 40 with | .ClassDef _ _ _ b _ _ _ _ _ _ _ => b.getD 0 (.Pass ⟨0, 0, 0, 0⟩) | _ => .Pass ⟨0, 0, 0, 0⟩
def senD : Df := ⟨0, ⟨("Sentence", some "__init__"), "__init__", "Sentence.__init__", defArgs cTop, defBody cTop, defScope cTop, [], []⟩, ["self", "given", "claim"], []⟩
def pg : Pg := ⟨[d10, d11, d12, d13, d20, d21, d22, d23, d24, d25, d26, d27, d28, d29, d30, d31, d33, d34, d35, d37, d41, d42, d45, d46, d47, d49, d50, d52, d53, d54, d55, d56, d57, d58, d59, d60, d61, d62, d63, d64, d65, d66, d67, d68, d70], consts, ["len", "all", "max", "min", "int", "str", "tuple", "dict", "sorted", "isinstance", "range", "bool", "ValueError"], [("WellError", 6), ("NoRule", 0), ("TooGreat", 1), ("BadText", 3), ("BadRow", 4), ("NoSuch", 5)], some d51, some ("Sentence", senD), ["texts", "_law_texts"], [], [236], [(d69, 1, some [103, 114, 101, 97, 116])], [220, 221]⟩
-- 8 sort_depth, 9 is_made, 10 is_sort, 11 sort_text, 22 is_name, 12 is_whole, 24 good_sort, 25 leaf_sort, 26 sort_in, 27 size_of, 28 depth_of, 29 is_small, 30 is_term, 40 sort_of, 41 bounded, 43 equality, 85 lifted, 86 opened, 87 is_fold, 58 written, 117 by_text, 118 follows, 219 one_step, 220 reduced, 221 reduction, 3 _law_cell, 4 _law_drawn, 5 _law_alone, 8 _law_sort_depth, 31 _law_some_sort, 32 _law_leaf, 33 _law_part, 48 _law_sort, 27 _law_size, 28 _law_depth, 52 _law_equal, 53 _law_good, 54 _law_is_term, 85 _law_lifted, 86 _law_opened, 230 _law_step, 231 _law_folded, 232 _law_doubling, 233 _law_wide, 234 _law_end, 235 _law_told, 236 law
abbrev lawD : Df := d70
-- LOW 220 221
abbrev lawAt : Nat := 70
abbrev loose : List Str := (["WellError", "NoRule", "TooGreat", "Untrue", "BadText", "BadRow", "NoSuch", "MOST_SORT", "sort_depth", "is_made", "is_sort", "sort_text", "MOST_SIZE", "MOST_DEPTH", "MOST_NAME", "LETTERS", "FIGURES", "is_name", "is_whole", "good_sort", "leaf_sort", "sort_in", "size_of", "depth_of", "is_small", "is_term", "sort_of", "bounded", "equality", "lifted"] : List Str) ++ (["opened", "is_fold", "written", "MOST_GIVEN", "Sentence", "by_text", "follows", "MOST_STEPS", "one_step", "reduced", "reduction", "_law_cell", "_law_drawn", "_law_alone", "_law_sort_depth", "_law_some_sort", "_law_leaf", "_law_part", "_law_sort", "_law_size", "_law_depth", "_law_equal", "_law_good", "_law_is_term", "_law_lifted", "_law_opened", "_law_step", "_law_folded", "_law_doubling", "_law_wide"] : List Str) ++ (["_law_end", "_law_told"] : List Str)

abbrev Rw : PySem.W.OpenRow := PySem.W.OpenLaw.row PySem.Challenge.rw_soundwell_k29_whole_unfolded_to_the_end
def asL : List Addr := [3, 6, 4, 24, 37, 49, 69, 81, 93, 105, 114, 121, 128, 135, 140, 147, 154, 161, 168, 175, 182, 189, 196, 203, 210, 217, 224, 231, 238, 245, 262, 271, 276, 283, 290, 297, 304, 311, 318, 325, 332, 339, 344, 351, 358, 365, 372, 379, 386, 393, 400, 405, 412, 419, 424, 431, 438, 445, 0, 23, 36, 48, 68, 80, 92, 104, 113, 120, 127, 134, 139, 146, 153, 160, 167, 174, 181, 188, 195, 202, 209, 216, 223, 230, 237, 244, 261, 270, 275, 282, 289, 296, 303, 310, 317, 324, 331, 338, 343, 350, 357, 364, 371, 378, 385, 392, 399, 404, 411, 418, 423, 430, 437, 444, 22, 25, 35, 47, 66, 67, 79, 91, 103, 108, 110, 111, 112, 115, 117, 118, 119, 122, 124, 125, 126, 129, 131, 132, 133, 136, 138, 141, 143, 144, 145, 148, 150, 151, 152, 155, 157, 158, 159, 162, 164, 165, 166, 169, 171, 172, 173, 176, 178, 179, 180, 183, 185, 186, 187, 190, 192, 193, 194, 197, 199, 200, 201, 204, 206, 207, 208, 211, 213, 214, 215, 218, 220, 221, 222, 225, 227, 228, 229, 232, 234, 235, 236, 239, 241, 242, 243, 259, 260, 263, 264, 267, 269, 272, 274, 277, 279, 280, 281, 284, 286, 287, 288, 291, 293, 294, 295, 298, 300, 301, 302, 305, 307, 308, 309, 312, 314, 315, 316, 319, 321, 322, 323, 326, 328, 329, 330, 333, 335, 336, 337, 340, 342, 345, 347, 348, 349, 352, 354, 355, 356, 359, 361, 362, 363, 366, 368, 369, 370, 373, 375, 376, 377, 380, 382, 383, 384, 387, 389, 390, 391, 394, 396, 397, 398, 401, 403, 406, 408, 409, 410, 413, 415, 416, 417, 420, 422, 425, 427, 428, 429, 432, 434, 435, 436, 439, 441, 442, 443, 65, 59, 258]
abbrev hk : PySem.W.Hook := Rf.hookA asL pg.fa pg.fn pg.tf pg.ex
def ob (s : PySem.W.SharedT) : Rf.AlA := Rf.obsA asL pg.fa pg.fn pg.tf pg.ex (HandSHeadRun.getT s)
theorem ob_eq (s : PySem.W.SharedT) : ob s = hk.obs s.abs := Rf.obsA_eq (HandSHeadRun.getT_eq s)
theorem topRun (w : World) : HandSHeadRun.RunEq Rw (PySem.W.view Rw.prog [lawAt]) hk ob 12000 loose w := by
  intro os
  kernel_rfl
end K29
end

/-! part RfIr -/
set_option autoImplicit false
set_option maxRecDepth 100000
namespace Rf
open Rf.D Rf.E Rf.S
-- sort_from
def F1 : Fn := ⟨3, 6, [
  (.set 3 (.slice (.var 0) (.var 1) (.bop (.add) (.var 1) (.const (.int (1)))))),
  (.ite (.or (.cmp (.eq) (.var 3) (.const (.str [116]))) (.cmp (.eq) (.var 3) (.const (.str [105])))) [(.ret (.tup [(.var 3), (.bop (.add) (.var 1) (.const (.int (1))))]))] []),
  (.ite (.or (.cmp (.ne) (.var 3) (.const (.str [40]))) (.cmp (.eq) (.var 2) (.const (.int (0))))) [(.raise 3)] []),
  (.unp [4, 1] (.call 1 [(.var 0), (.bop (.add) (.var 1) (.const (.int (1)))), (.bop (.sub) (.var 2) (.const (.int (1))))])),
  (.ite (.cmp (.ne) (.slice (.var 0) (.var 1) (.bop (.add) (.var 1) (.const (.int (1))))) (.const (.str [62]))) [(.raise 3)] []),
  (.unp [5, 1] (.call 1 [(.var 0), (.bop (.add) (.var 1) (.const (.int (1)))), (.bop (.sub) (.var 2) (.const (.int (1))))])),
  (.ite (.cmp (.ne) (.slice (.var 0) (.var 1) (.bop (.add) (.var 1) (.const (.int (1))))) (.const (.str [41]))) [(.raise 3)] []),
  (.ret (.tup [(.tup [(.var 4), (.var 5)]), (.bop (.add) (.var 1) (.const (.int (1))))]))]⟩
-- _law_cell
def F3 : Fn := ⟨2, 2, [
  (.ite (.cmp (.eq) (.var 0) (.lst [])) [(.ret (.bop (.mul) (.var 1) (.const (.int (7919)))))] []),
  (.ret (.bop (.add) (.sub (.var 0) (.bop (.mod) (.var 1) (.bi (.len) [(.var 0)]))) (.bop (.mul) (.bop (.fdiv) (.var 1) (.bi (.len) [(.var 0)])) (.const (.int (104729))))))]⟩
-- _law_drawn
def F4 : Fn := ⟨2, 3, [
  (.set 2 (.bop (.mod) (.bop (.add) (.bop (.mul) (.var 0) (.const (.int (6364136223846793005)))) (.bop (.mul) (.bop (.add) (.var 1) (.const (.int (1)))) (.const (.int (1442695040888963407))))) (.const (.int (340282366920938463463374607431768211507))))),
  (.set 2 (.bop (.mod) (.bop (.mul) (.var 2) (.var 2)) (.const (.int (340282366920938463463374607431768211297))))),
  (.set 2 (.bop (.mul) (.bop (.mul) (.bop (.add) (.bop (.mod) (.var 2) (.const (.int (18446744073709551557)))) (.const (.int (1)))) (.bop (.add) (.bop (.fdiv) (.var 2) (.const (.int (18446744073709551557)))) (.const (.int (1))))) (.var 2))),
  (.ret (.bop (.mod) (.var 2) (.const (.int (340282366920938463463374607431768211507)))))]⟩
-- sort_depth
def F8 : Fn := ⟨1, 1, [
  (.ite (.inst (.var 0) (.tuple)) [(.ret (.bop (.add) (.const (.int (1))) (.bi (.max) [(.call 8 [(.sub (.var 0) (.const (.int (0))))]), (.call 8 [(.sub (.var 0) (.const (.int (1))))])])))] []),
  (.ret (.const (.int (0))))]⟩
-- is_made
def F9 : Fn := ⟨2, 2, [
  (.ite (.or (.cmp (.eq) (.var 0) (.const (.str [116]))) (.cmp (.eq) (.var 0) (.const (.str [105])))) [(.ret (.const (.bl true)))] []),
  (.ite (.or (.not (.inst (.var 0) (.tuple))) (.or (.cmp (.ne) (.bi (.len) [(.var 0)]) (.const (.int (2)))) (.cmp (.eq) (.var 1) (.const (.int (0)))))) [(.ret (.const (.bl false)))] []),
  (.ret (.and (.call 9 [(.sub (.var 0) (.const (.int (0)))), (.bop (.sub) (.var 1) (.const (.int (1))))]) (.call 9 [(.sub (.var 0) (.const (.int (1)))), (.bop (.sub) (.var 1) (.const (.int (1))))])))]⟩
-- is_sort
def F10 : Fn := ⟨1, 1, [
  (.ret (.call 9 [(.var 0), (.const (.int (5)))]))]⟩
-- sort_text
def F11 : Fn := ⟨1, 1, [
  (.ite (.inst (.var 0) (.tuple)) [(.ret (.bop (.add) (.bop (.add) (.bop (.add) (.bop (.add) (.const (.str [40])) (.call 11 [(.sub (.var 0) (.const (.int (0))))])) (.const (.str [62]))) (.call 11 [(.sub (.var 0) (.const (.int (1))))])) (.const (.str [41]))))] []),
  (.ret (.var 0))]⟩
-- _law_whole
def F12 : Fn := ⟨1, 1, [
  (.ret (.and (.inst (.var 0) (.int)) (.not (.inst (.var 0) (.bool)))))]⟩
-- is_name
def F22 : Fn := ⟨1, 2, [
  (.ite (.or (.not (.inst (.var 0) (.str))) (.or (.not (.cmp2 (.le) (.le) (.const (.int (1))) (.bi (.len) [(.var 0)]) (.const (.int (8))))) (.cmp (.nin) (.sub (.var 0) (.const (.int (0)))) (.const (.str [97, 98, 99, 100, 101, 102, 103, 104, 105, 106, 107, 108, 109, 110, 111, 112, 113, 114, 115, 116, 117, 118, 119, 120, 121, 122]))))) [(.ret (.const (.bl false)))] []),
  (.ret (.bi (.all) [(.comp 1 (.or (.cmp (.inn) (.var 1) (.const (.str [97, 98, 99, 100, 101, 102, 103, 104, 105, 106, 107, 108, 109, 110, 111, 112, 113, 114, 115, 116, 117, 118, 119, 120, 121, 122]))) (.cmp (.inn) (.var 1) (.const (.str [48, 49, 50, 51, 52, 53, 54, 55, 56, 57])))) (.of (.var 0)) (.const (.bl true)))]))]⟩
-- good_sort
def F24 : Fn := ⟨1, 1, [
  (.ite (.cmp (.gt) (.call 8 [(.var 0)]) (.const (.int (5)))) [(.ret (.const .non))] []),
  (.ret (.var 0))]⟩
-- leaf_sort
def F25 : Fn := ⟨2, 2, [
  (.ite (.and (.cmp (.eq) (.sub (.var 0) (.const (.int (0)))) (.const (.str [102, 114, 101, 101]))) (.and (.cmp (.eq) (.bi (.len) [(.var 0)]) (.const (.int (3)))) (.and (.call 22 [(.sub (.var 0) (.const (.int (1))))]) (.call 10 [(.sub (.var 0) (.const (.int (2))))])))) [(.ret (.sub (.var 0) (.const (.int (2)))))] []),
  (.ite (.and (.cmp (.eq) (.sub (.var 0) (.const (.int (0)))) (.const (.str [98, 111, 117, 110, 100]))) (.and (.cmp (.eq) (.bi (.len) [(.var 0)]) (.const (.int (2)))) (.and (.call 12 [(.sub (.var 0) (.const (.int (1))))]) (.cmp2 (.le) (.lt) (.const (.int (0))) (.sub (.var 0) (.const (.int (1)))) (.bi (.len) [(.var 1)]))))) [(.ret (.sub (.var 1) (.bop (.sub) (.bop (.sub) (.bi (.len) [(.var 1)]) (.const (.int (1)))) (.sub (.var 0) (.const (.int (1)))))))] []),
  (.ite (.and (.cmp (.eq) (.sub (.var 0) (.const (.int (0)))) (.const (.str [115, 97, 109, 101]))) (.and (.cmp (.eq) (.bi (.len) [(.var 0)]) (.const (.int (2)))) (.call 10 [(.sub (.var 0) (.const (.int (1))))]))) [(.ret (.call 24 [(.tup [(.sub (.var 0) (.const (.int (1)))), (.tup [(.sub (.var 0) (.const (.int (1)))), (.const (.str [116]))])])]))] []),
  (.ret (.const .non))]⟩
-- sort_in
def F26 : Fn := ⟨2, 5, [
  (.ite (.or (.not (.inst (.var 0) (.tuple))) (.or (.cmp (.nin) (.bi (.len) [(.var 0)]) (.tup [(.const (.int (2))), (.const (.int (3)))])) (.not (.inst (.sub (.var 0) (.const (.int (0)))) (.str))))) [(.ret (.const .non))] []),
  (.ite (.and (.cmp (.eq) (.sub (.var 0) (.const (.int (0)))) (.const (.str [102, 111, 114]))) (.cmp (.eq) (.bi (.len) [(.var 0)]) (.const (.int (3))))) [(.ite (.not (.call 10 [(.sub (.var 0) (.const (.int (1))))])) [(.ret (.const .non))] []), (.set 2 (.call 26 [(.sub (.var 0) (.const (.int (2)))), (.bop (.add) (.var 1) (.lst [(.sub (.var 0) (.const (.int (1))))]))])), (.ite (.cmp (.is) (.var 2) (.const .non)) [(.ret (.const .non))] []), (.ret (.call 24 [(.tup [(.sub (.var 0) (.const (.int (1)))), (.var 2)])]))] []),
  (.ite (.and (.cmp (.eq) (.sub (.var 0) (.const (.int (0)))) (.const (.str [111, 102]))) (.cmp (.eq) (.bi (.len) [(.var 0)]) (.const (.int (3))))) [(.set 3 (.call 26 [(.sub (.var 0) (.const (.int (1)))), (.var 1)])), (.set 4 (.call 26 [(.sub (.var 0) (.const (.int (2)))), (.var 1)])), (.ite (.or (.not (.inst (.var 3) (.tuple))) (.or (.cmp (.is) (.var 4) (.const .non)) (.cmp (.ne) (.sub (.var 3) (.const (.int (0)))) (.var 4)))) [(.ret (.const .non))] []), (.ret (.sub (.var 3) (.const (.int (1)))))] []),
  (.ret (.call 25 [(.var 0), (.var 1)]))]⟩
-- size_of
def F27 : Fn := ⟨1, 1, [
  (.ite (.cmp (.eq) (.sub (.var 0) (.const (.int (0)))) (.const (.str [111, 102]))) [(.ret (.bop (.add) (.bop (.add) (.const (.int (1))) (.call 27 [(.sub (.var 0) (.const (.int (1))))])) (.call 27 [(.sub (.var 0) (.const (.int (2))))])))] []),
  (.ite (.cmp (.eq) (.sub (.var 0) (.const (.int (0)))) (.const (.str [102, 111, 114]))) [(.ret (.bop (.add) (.const (.int (1))) (.call 27 [(.sub (.var 0) (.const (.int (2))))])))] []),
  (.ret (.const (.int (1))))]⟩
-- depth_of
def F28 : Fn := ⟨1, 1, [
  (.ite (.cmp (.eq) (.sub (.var 0) (.const (.int (0)))) (.const (.str [111, 102]))) [(.ret (.bop (.add) (.const (.int (1))) (.bi (.max) [(.call 28 [(.sub (.var 0) (.const (.int (1))))]), (.call 28 [(.sub (.var 0) (.const (.int (2))))])])))] []),
  (.ite (.cmp (.eq) (.sub (.var 0) (.const (.int (0)))) (.const (.str [102, 111, 114]))) [(.ret (.bop (.add) (.const (.int (1))) (.call 28 [(.sub (.var 0) (.const (.int (2))))])))] []),
  (.ret (.const (.int (0))))]⟩
-- is_small
def F29 : Fn := ⟨1, 1, [
  (.ret (.and (.cmp (.le) (.call 28 [(.var 0)]) (.const (.int (40)))) (.cmp (.le) (.call 27 [(.var 0)]) (.const (.int (600))))))]⟩
-- is_term
def F30 : Fn := ⟨1, 1, [
  (.ret (.and (.cmp (.isn) (.call 26 [(.var 0), (.lst [])]) (.const .non)) (.call 29 [(.var 0)])))]⟩
-- _law_some_sort
def F31 : Fn := ⟨1, 1, [
  (.ret (.sub (.lst [(.const (.str [116])), (.const (.str [105])), (.const (.str [116])), (.tup [(.const (.str [105])), (.const (.str [116]))]), (.tup [(.const (.str [116])), (.const (.str [116]))]), (.tup [(.const (.str [105])), (.const (.str [105]))])]) (.bop (.mod) (.var 0) (.const (.int (6))))))]⟩
-- _law_leaf
def F32 : Fn := ⟨2, 2, [
  (.ret (.tup [(.const (.str [102, 114, 101, 101])), (.sub (.lst [(.const (.str [120])), (.const (.str [121])), (.const (.str [112])), (.const (.str [113, 55])), (.const (.str [102])), (.const (.str [97, 98, 99, 100, 101, 102, 103, 104]))]) (.bop (.mod) (.var 1) (.sub (.lst [(.const (.int (3))), (.const (.int (6)))]) (.bop (.mod) (.bop (.fdiv) (.var 1) (.const (.int (6)))) (.const (.int (2))))))), (.var 0)]))]⟩
-- _law_part
def F33 : Fn := ⟨5, 9, [
  (.set 5 (.call 4 [(.call 3 [(.var 0), (.var 1)]), (.var 1)])),
  (.set 6 (.comp 7 (.var 7) (.rng [(.bi (.len) [(.var 3)])]) (.cmp (.eq) (.sub (.var 3) (.bop (.sub) (.bop (.sub) (.bi (.len) [(.var 3)]) (.const (.int (1)))) (.var 7))) (.var 2)))),
  (.ite (.and (.cmp (.ne) (.var 6) (.lst [])) (.cmp (.lt) (.bop (.mod) (.var 5) (.const (.int (3)))) (.const (.int (2))))) [(.ret (.tup [(.const (.str [98, 111, 117, 110, 100])), (.sub (.var 6) (.bop (.mod) (.bop (.fdiv) (.var 5) (.const (.int (3)))) (.bi (.len) [(.var 6)])))]))] []),
  (.set 5 (.bop (.fdiv) (.var 5) (.const (.int (16))))),
  (.ite (.or (.cmp (.eq) (.var 4) (.const (.int (0)))) (.or (.cmp (.eq) (.bop (.mod) (.var 5) (.const (.int (7)))) (.const (.int (0)))) (.cmp (.gt) (.call 8 [(.var 2)]) (.const (.int (2)))))) [(.ite (.and (.inst (.var 2) (.tuple)) (.and (.cmp (.eq) (.bop (.mod) (.bop (.fdiv) (.var 5) (.const (.int (7)))) (.const (.int (3)))) (.const (.int (0)))) (.cmp (.eq) (.var 2) (.tup [(.sub (.var 2) (.const (.int (0)))), (.tup [(.sub (.var 2) (.const (.int (0)))), (.const (.str [116]))])])))) [(.ret (.tup [(.const (.str [115, 97, 109, 101])), (.sub (.var 2) (.const (.int (0))))]))] []), (.ret (.call 32 [(.var 2), (.bop (.fdiv) (.var 5) (.const (.int (7))))]))] []),
  (.ite (.and (.inst (.var 2) (.tuple)) (.cmp (.lt) (.bop (.mod) (.var 5) (.const (.int (7)))) (.const (.int (5))))) [(.ret (.tup [(.const (.str [102, 111, 114])), (.sub (.var 2) (.const (.int (0)))), (.call 33 [(.var 0), (.bop (.add) (.bop (.mul) (.const (.int (3))) (.var 1)) (.const (.int (1)))), (.sub (.var 2) (.const (.int (1)))), (.bop (.add) (.var 3) (.lst [(.sub (.var 2) (.const (.int (0))))])), (.bop (.sub) (.var 4) (.const (.int (1))))])]))] []),
  (.set 8 (.call 31 [(.bop (.fdiv) (.var 5) (.const (.int (7))))])),
  (.ite (.and (.cmp (.eq) (.var 2) (.const (.str [116]))) (.cmp (.eq) (.bop (.mod) (.bop (.fdiv) (.var 5) (.const (.int (49)))) (.const (.int (2)))) (.const (.int (0))))) [(.ret (.tup [(.const (.str [111, 102])), (.tup [(.const (.str [111, 102])), (.tup [(.const (.str [115, 97, 109, 101])), (.var 8)]), (.call 33 [(.var 0), (.bop (.add) (.bop (.mul) (.const (.int (3))) (.var 1)) (.const (.int (1)))), (.var 8), (.var 3), (.bop (.sub) (.var 4) (.const (.int (1))))])]), (.call 33 [(.var 0), (.bop (.add) (.bop (.mul) (.const (.int (3))) (.var 1)) (.const (.int (2)))), (.var 8), (.var 3), (.bop (.sub) (.var 4) (.const (.int (1))))])]))] []),
  (.ret (.tup [(.const (.str [111, 102])), (.call 33 [(.var 0), (.bop (.add) (.bop (.mul) (.const (.int (3))) (.var 1)) (.const (.int (1)))), (.tup [(.var 8), (.var 2)]), (.var 3), (.bop (.sub) (.var 4) (.const (.int (1))))]), (.call 33 [(.var 0), (.bop (.add) (.bop (.mul) (.const (.int (3))) (.var 1)) (.const (.int (2)))), (.var 8), (.var 3), (.bop (.sub) (.var 4) (.const (.int (1))))])]))]⟩
-- sort_of
def F40 : Fn := ⟨1, 1, [
  (.ret (.call 26 [(.var 0), (.lst [])]))]⟩
-- bounded
def F41 : Fn := ⟨1, 1, [
  (.ite (.not (.call 30 [(.var 0)])) [(.raise 1)] []),
  (.ret (.var 0))]⟩
-- frees
def F42 : Fn := ⟨1, 3, [
  (.ite (.cmp (.eq) (.sub (.var 0) (.const (.int (0)))) (.const (.str [102, 114, 101, 101]))) [(.retF (.lst [(.var 0)]))] []),
  (.ite (.cmp (.eq) (.sub (.var 0) (.const (.int (0)))) (.const (.str [102, 111, 114]))) [(.retF (.call 42 [(.sub (.var 0) (.const (.int (2))))]))] []),
  (.ite (.cmp (.ne) (.sub (.var 0) (.const (.int (0)))) (.const (.str [111, 102]))) [(.retF (.lst []))] []),
  (.set 1 (.call 42 [(.sub (.var 0) (.const (.int (1))))])),
  (.retF (.bop (.add) (.var 1) (.comp 2 (.var 2) (.of (.call 42 [(.sub (.var 0) (.const (.int (2))))])) (.cmp (.nin) (.var 2) (.var 1)))))]⟩
-- equality
def F43 : Fn := ⟨2, 2, [
  (.ret (.call 41 [(.tup [(.const (.str [111, 102])), (.tup [(.const (.str [111, 102])), (.tup [(.const (.str [115, 97, 109, 101])), (.call 40 [(.var 0)])]), (.var 0)]), (.var 1)])]))]⟩
-- sides
def F44 : Fn := ⟨1, 1, [
  (.ite (.or (.cmp (.ne) (.sub (.var 0) (.const (.int (0)))) (.const (.str [111, 102]))) (.or (.cmp (.ne) (.sub (.sub (.var 0) (.const (.int (1)))) (.const (.int (0)))) (.const (.str [111, 102]))) (.cmp (.ne) (.sub (.sub (.sub (.var 0) (.const (.int (1)))) (.const (.int (1)))) (.const (.int (0)))) (.const (.str [115, 97, 109, 101]))))) [(.raise 0)] []),
  (.ret (.tup [(.sub (.sub (.var 0) (.const (.int (1)))) (.const (.int (2)))), (.sub (.var 0) (.const (.int (2))))]))]⟩
-- _law_sort
def F48 : Fn := ⟨2, 2, [
  (.ite (.cmp (.eq) (.sub (.var 0) (.const (.int (0)))) (.const (.str [102, 114, 101, 101]))) [(.ret (.sub (.var 0) (.const (.int (2)))))] []),
  (.ite (.cmp (.eq) (.sub (.var 0) (.const (.int (0)))) (.const (.str [98, 111, 117, 110, 100]))) [(.ret (.sub (.var 1) (.bop (.sub) (.bop (.sub) (.bi (.len) [(.var 1)]) (.const (.int (1)))) (.sub (.var 0) (.const (.int (1)))))))] []),
  (.ite (.cmp (.eq) (.sub (.var 0) (.const (.int (0)))) (.const (.str [115, 97, 109, 101]))) [(.ret (.tup [(.sub (.var 0) (.const (.int (1)))), (.tup [(.sub (.var 0) (.const (.int (1)))), (.const (.str [116]))])]))] []),
  (.ite (.cmp (.eq) (.sub (.var 0) (.const (.int (0)))) (.const (.str [102, 111, 114]))) [(.ret (.tup [(.sub (.var 0) (.const (.int (1)))), (.call 48 [(.sub (.var 0) (.const (.int (2)))), (.bop (.add) (.var 1) (.lst [(.sub (.var 0) (.const (.int (1))))]))])]))] []),
  (.ret (.sub (.call 48 [(.sub (.var 0) (.const (.int (1)))), (.var 1)]) (.const (.int (1)))))]⟩
-- _law_frees
def F51 : Fn := ⟨1, 3, [
  (.ite (.cmp (.eq) (.sub (.var 0) (.const (.int (0)))) (.const (.str [102, 114, 101, 101]))) [(.ret (.lst [(.var 0)]))] []),
  (.ite (.cmp (.eq) (.sub (.var 0) (.const (.int (0)))) (.const (.str [102, 111, 114]))) [(.ret (.call 51 [(.sub (.var 0) (.const (.int (2))))]))] []),
  (.ite (.cmp (.ne) (.sub (.var 0) (.const (.int (0)))) (.const (.str [111, 102]))) [(.ret (.lst []))] []),
  (.set 1 (.call 51 [(.sub (.var 0) (.const (.int (1))))])),
  (.ret (.bop (.add) (.var 1) (.comp 2 (.var 2) (.of (.call 51 [(.sub (.var 0) (.const (.int (2))))])) (.cmp (.nin) (.var 2) (.var 1)))))]⟩
-- _law_equal
def F52 : Fn := ⟨2, 2, [
  (.ret (.tup [(.const (.str [111, 102])), (.tup [(.const (.str [111, 102])), (.tup [(.const (.str [115, 97, 109, 101])), (.call 48 [(.var 0), (.lst [])])]), (.var 0)]), (.var 1)]))]⟩
-- _law_good
def F53 : Fn := ⟨2, 2, [
  (.ite (.cmp (.gt) (.call 8 [(.call 48 [(.var 0), (.var 1)])]) (.const (.int (5)))) [(.ret (.const (.bl false)))] []),
  (.ite (.cmp (.eq) (.sub (.var 0) (.const (.int (0)))) (.const (.str [111, 102]))) [(.ret (.and (.call 53 [(.sub (.var 0) (.const (.int (1)))), (.var 1)]) (.call 53 [(.sub (.var 0) (.const (.int (2)))), (.var 1)])))] []),
  (.ite (.cmp (.eq) (.sub (.var 0) (.const (.int (0)))) (.const (.str [102, 111, 114]))) [(.ret (.call 53 [(.sub (.var 0) (.const (.int (2)))), (.bop (.add) (.var 1) (.lst [(.sub (.var 0) (.const (.int (1))))]))]))] []),
  (.ret (.const (.bl true)))]⟩
-- _law_is_term
def F54 : Fn := ⟨1, 1, [
  (.ret (.and (.call 53 [(.var 0), (.lst [])]) (.and (.cmp (.le) (.call 27 [(.var 0)]) (.const (.int (600)))) (.cmp (.le) (.call 28 [(.var 0)]) (.const (.int (40)))))))]⟩
-- _law_sides
def F55 : Fn := ⟨1, 2, [
  (.tryH [(.ret (.call 44 [(.var 0)]))] 0 1 (.str [110, 111, 110, 101]))]⟩
-- _law_equality
def F56 : Fn := ⟨2, 3, [
  (.tryH [(.ret (.call 43 [(.var 0), (.var 1)]))] 1 2 (.str [103, 114, 101, 97, 116]))]⟩
-- written
def F58 : Fn := ⟨1, 1, [
  (.ite (.cmp (.eq) (.sub (.var 0) (.const (.int (0)))) (.const (.str [102, 114, 101, 101]))) [(.ret (.bop (.add) (.bop (.add) (.sub (.var 0) (.const (.int (1)))) (.const (.str [58]))) (.call 11 [(.sub (.var 0) (.const (.int (2))))])))] []),
  (.ite (.cmp (.eq) (.sub (.var 0) (.const (.int (0)))) (.const (.str [98, 111, 117, 110, 100]))) [(.ret (.bop (.add) (.const (.str [35])) (.bi (.str) [(.sub (.var 0) (.const (.int (1))))])))] []),
  (.ite (.cmp (.eq) (.sub (.var 0) (.const (.int (0)))) (.const (.str [115, 97, 109, 101]))) [(.ret (.bop (.add) (.const (.str [61])) (.call 11 [(.sub (.var 0) (.const (.int (1))))])))] []),
  (.ite (.cmp (.eq) (.sub (.var 0) (.const (.int (0)))) (.const (.str [102, 111, 114]))) [(.ret (.bop (.add) (.bop (.add) (.bop (.add) (.bop (.add) (.const (.str [91])) (.call 11 [(.sub (.var 0) (.const (.int (1))))])) (.const (.str [32]))) (.call 58 [(.sub (.var 0) (.const (.int (2))))])) (.const (.str [93]))))] []),
  (.ret (.bop (.add) (.bop (.add) (.bop (.add) (.bop (.add) (.const (.str [40])) (.call 58 [(.sub (.var 0) (.const (.int (1))))])) (.const (.str [32]))) (.call 58 [(.sub (.var 0) (.const (.int (2))))])) (.const (.str [41]))))]⟩
-- need_sign
def F59 : Fn := ⟨3, 3, [
  (.ite (.cmp (.ne) (.slice (.var 0) (.var 1) (.bop (.add) (.var 1) (.const (.int (1))))) (.var 2)) [(.raise 3)] []),
  (.ret (.bop (.add) (.var 1) (.const (.int (1)))))]⟩
-- run_end
def F60 : Fn := ⟨3, 3, [
  (.whl (.and (.cmp (.lt) (.var 1) (.bi (.len) [(.var 0)])) (.cmp (.inn) (.sub (.var 0) (.var 1)) (.var 2))) [(.set 1 (.bop (.add) (.var 1) (.const (.int (1)))))]),
  (.ret (.var 1))]⟩
-- bound_from
def F61 : Fn := ⟨2, 4, [
  (.set 2 (.call 60 [(.var 0), (.var 1), (.const (.str [48, 49, 50, 51, 52, 53, 54, 55, 56, 57]))])),
  (.set 3 (.slice (.var 0) (.var 1) (.var 2))),
  (.ite (.or (.not (.cmp2 (.le) (.le) (.const (.int (1))) (.bi (.len) [(.var 3)]) (.const (.int (2))))) (.and (.cmp (.eq) (.sub (.var 3) (.const (.int (0)))) (.const (.str [48]))) (.cmp (.ne) (.var 3) (.const (.str [48]))))) [(.raise 3)] []),
  (.ret (.tup [(.tup [(.const (.str [98, 111, 117, 110, 100])), (.bi (.int) [(.var 3)])]), (.var 2)]))]⟩
-- free_from
def F62 : Fn := ⟨2, 5, [
  (.set 2 (.call 60 [(.var 0), (.var 1), (.bop (.add) (.const (.str [97, 98, 99, 100, 101, 102, 103, 104, 105, 106, 107, 108, 109, 110, 111, 112, 113, 114, 115, 116, 117, 118, 119, 120, 121, 122])) (.const (.str [48, 49, 50, 51, 52, 53, 54, 55, 56, 57])))])),
  (.set 3 (.slice (.var 0) (.var 1) (.var 2))),
  (.ite (.not (.call 22 [(.var 3)])) [(.raise 3)] []),
  (.unp [4, 2] (.call 1 [(.var 0), (.call 59 [(.var 0), (.var 2), (.const (.str [58]))]), (.const (.int (5)))])),
  (.ret (.tup [(.tup [(.const (.str [102, 114, 101, 101])), (.var 3), (.var 4)]), (.var 2)]))]⟩
-- part_from
def F63 : Fn := ⟨3, 8, [
  (.set 3 (.slice (.var 0) (.var 1) (.bop (.add) (.var 1) (.const (.int (1)))))),
  (.ite (.cmp (.eq) (.var 3) (.const (.str [35]))) [(.ret (.call 61 [(.var 0), (.bop (.add) (.var 1) (.const (.int (1))))]))] []),
  (.ite (.cmp (.eq) (.var 3) (.const (.str [61]))) [(.unp [4, 1] (.call 1 [(.var 0), (.bop (.add) (.var 1) (.const (.int (1)))), (.const (.int (5)))])), (.ret (.tup [(.tup [(.const (.str [115, 97, 109, 101])), (.var 4)]), (.var 1)]))] []),
  (.ite (.and (.cmp (.ne) (.var 3) (.const (.str [91]))) (.cmp (.ne) (.var 3) (.const (.str [40])))) [(.ret (.call 62 [(.var 0), (.var 1)]))] []),
  (.ite (.cmp (.eq) (.var 2) (.const (.int (0)))) [(.raise 3)] []),
  (.ite (.cmp (.eq) (.var 3) (.const (.str [91]))) [(.unp [4, 1] (.call 1 [(.var 0), (.bop (.add) (.var 1) (.const (.int (1)))), (.const (.int (5)))])), (.unp [5, 1] (.call 63 [(.var 0), (.call 59 [(.var 0), (.var 1), (.const (.str [32]))]), (.bop (.sub) (.var 2) (.const (.int (1))))])), (.ret (.tup [(.tup [(.const (.str [102, 111, 114])), (.var 4), (.var 5)]), (.call 59 [(.var 0), (.var 1), (.const (.str [93]))])]))] []),
  (.unp [6, 1] (.call 63 [(.var 0), (.bop (.add) (.var 1) (.const (.int (1)))), (.bop (.sub) (.var 2) (.const (.int (1))))])),
  (.unp [7, 1] (.call 63 [(.var 0), (.call 59 [(.var 0), (.var 1), (.const (.str [32]))]), (.bop (.sub) (.var 2) (.const (.int (1))))])),
  (.ret (.tup [(.tup [(.const (.str [111, 102])), (.var 6), (.var 7)]), (.call 59 [(.var 0), (.var 1), (.const (.str [41]))])]))]⟩
-- read_term
def F64 : Fn := ⟨1, 3, [
  (.unp [1, 2] (.call 63 [(.var 0), (.const (.int (0))), (.const (.int (40)))])),
  (.ite (.or (.cmp (.lt) (.var 2) (.bi (.len) [(.var 0)])) (.not (.call 30 [(.var 1)]))) [(.raise 3)] []),
  (.ret (.var 1))]⟩
-- put_raw
def F77 : Fn := ⟨2, 2, [
  (.ite (.cmp (.eq) (.sub (.var 0) (.const (.int (0)))) (.const (.str [102, 114, 101, 101]))) [(.ret (.me (.get) (.var 1) [(.var 0), (.var 0)]))] []),
  (.ite (.cmp (.eq) (.sub (.var 0) (.const (.int (0)))) (.const (.str [111, 102]))) [(.ret (.tup [(.const (.str [111, 102])), (.call 77 [(.sub (.var 0) (.const (.int (1)))), (.var 1)]), (.call 77 [(.sub (.var 0) (.const (.int (2)))), (.var 1)])]))] []),
  (.ite (.cmp (.eq) (.sub (.var 0) (.const (.int (0)))) (.const (.str [102, 111, 114]))) [(.ret (.tup [(.const (.str [102, 111, 114])), (.sub (.var 0) (.const (.int (1)))), (.call 77 [(.sub (.var 0) (.const (.int (2)))), (.var 1)])]))] []),
  (.ret (.var 0))]⟩
-- put_all
def F78 : Fn := ⟨2, 2, [
  (.ret (.call 41 [(.call 77 [(.var 0), (.var 1)])]))]⟩
-- put
def F79 : Fn := ⟨3, 3, [
  (.ret (.call 78 [(.var 0), (.dct true [(.var 1)] [(.var 2)])]))]⟩
-- bound_raw
def F83 : Fn := ⟨3, 3, [
  (.ite (.cmp (.eq) (.var 0) (.var 1)) [(.ret (.tup [(.const (.str [98, 111, 117, 110, 100])), (.var 2)]))] []),
  (.ite (.cmp (.eq) (.sub (.var 0) (.const (.int (0)))) (.const (.str [111, 102]))) [(.ret (.tup [(.const (.str [111, 102])), (.call 83 [(.sub (.var 0) (.const (.int (1)))), (.var 1), (.var 2)]), (.call 83 [(.sub (.var 0) (.const (.int (2)))), (.var 1), (.var 2)])]))] []),
  (.ite (.cmp (.eq) (.sub (.var 0) (.const (.int (0)))) (.const (.str [102, 111, 114]))) [(.ret (.tup [(.const (.str [102, 111, 114])), (.sub (.var 0) (.const (.int (1)))), (.call 83 [(.sub (.var 0) (.const (.int (2)))), (.var 1), (.bop (.add) (.var 2) (.const (.int (1))))])]))] []),
  (.ret (.var 0))]⟩
-- bound_over
def F84 : Fn := ⟨2, 2, [
  (.ret (.call 41 [(.tup [(.const (.str [102, 111, 114])), (.sub (.var 0) (.const (.int (2)))), (.call 83 [(.var 1), (.var 0), (.const (.int (0)))])])]))]⟩
-- lifted
def F85 : Fn := ⟨3, 3, [
  (.ite (.and (.cmp (.eq) (.sub (.var 0) (.const (.int (0)))) (.const (.str [98, 111, 117, 110, 100]))) (.cmp (.ge) (.sub (.var 0) (.const (.int (1)))) (.var 2))) [(.ret (.tup [(.const (.str [98, 111, 117, 110, 100])), (.bop (.add) (.sub (.var 0) (.const (.int (1)))) (.var 1))]))] []),
  (.ite (.cmp (.eq) (.sub (.var 0) (.const (.int (0)))) (.const (.str [111, 102]))) [(.ret (.tup [(.const (.str [111, 102])), (.call 85 [(.sub (.var 0) (.const (.int (1)))), (.var 1), (.var 2)]), (.call 85 [(.sub (.var 0) (.const (.int (2)))), (.var 1), (.var 2)])]))] []),
  (.ite (.cmp (.eq) (.sub (.var 0) (.const (.int (0)))) (.const (.str [102, 111, 114]))) [(.ret (.tup [(.const (.str [102, 111, 114])), (.sub (.var 0) (.const (.int (1)))), (.call 85 [(.sub (.var 0) (.const (.int (2)))), (.var 1), (.bop (.add) (.var 2) (.const (.int (1))))])]))] []),
  (.ret (.var 0))]⟩
-- opened
def F86 : Fn := ⟨3, 3, [
  (.ite (.cmp (.eq) (.sub (.var 0) (.const (.int (0)))) (.const (.str [98, 111, 117, 110, 100]))) [(.ite (.cmp (.eq) (.sub (.var 0) (.const (.int (1)))) (.var 2)) [(.ret (.call 85 [(.var 1), (.var 2), (.const (.int (0)))]))] []), (.ret (.tup [(.const (.str [98, 111, 117, 110, 100])), (.bop (.sub) (.sub (.var 0) (.const (.int (1)))) (.bi (.int) [(.cmp (.gt) (.sub (.var 0) (.const (.int (1)))) (.var 2))]))]))] []),
  (.ite (.cmp (.eq) (.sub (.var 0) (.const (.int (0)))) (.const (.str [111, 102]))) [(.ret (.tup [(.const (.str [111, 102])), (.call 86 [(.sub (.var 0) (.const (.int (1)))), (.var 1), (.var 2)]), (.call 86 [(.sub (.var 0) (.const (.int (2)))), (.var 1), (.var 2)])]))] []),
  (.ite (.cmp (.eq) (.sub (.var 0) (.const (.int (0)))) (.const (.str [102, 111, 114]))) [(.ret (.tup [(.const (.str [102, 111, 114])), (.sub (.var 0) (.const (.int (1)))), (.call 86 [(.sub (.var 0) (.const (.int (2)))), (.var 1), (.bop (.add) (.var 2) (.const (.int (1))))])]))] []),
  (.ret (.var 0))]⟩
-- is_fold
def F87 : Fn := ⟨1, 1, [
  (.ret (.and (.cmp (.eq) (.sub (.var 0) (.const (.int (0)))) (.const (.str [111, 102]))) (.cmp (.eq) (.sub (.sub (.var 0) (.const (.int (1)))) (.const (.int (0)))) (.const (.str [102, 111, 114])))))]⟩
-- unfolded
def F88 : Fn := ⟨1, 1, [
  (.ite (.not (.call 87 [(.var 0)])) [(.raise 0)] []),
  (.ret (.call 41 [(.call 86 [(.sub (.sub (.var 0) (.const (.int (1)))) (.const (.int (2)))), (.sub (.var 0) (.const (.int (2)))), (.const (.int (0)))])]))]⟩
-- _law_told
def F90 : Fn := ⟨1, 2, [
  (.tryH [(.ret (.call 88 [(.var 0)]))] 0 1 (.str [110, 111, 110, 101]))]⟩
-- _law_opened
def F91 : Fn := ⟨3, 3, [
  (.ite (.cmp (.eq) (.var 0) (.tup [(.const (.str [98, 111, 117, 110, 100])), (.var 2)])) [(.ret (.var 1))] []),
  (.ite (.cmp (.eq) (.sub (.var 0) (.const (.int (0)))) (.const (.str [111, 102]))) [(.ret (.tup [(.const (.str [111, 102])), (.call 91 [(.sub (.var 0) (.const (.int (1)))), (.var 1), (.var 2)]), (.call 91 [(.sub (.var 0) (.const (.int (2)))), (.var 1), (.var 2)])]))] []),
  (.ite (.cmp (.eq) (.sub (.var 0) (.const (.int (0)))) (.const (.str [102, 111, 114]))) [(.ret (.tup [(.const (.str [102, 111, 114])), (.sub (.var 0) (.const (.int (1)))), (.call 91 [(.sub (.var 0) (.const (.int (2)))), (.var 1), (.bop (.add) (.var 2) (.const (.int (1))))])]))] []),
  (.ret (.var 0))]⟩
-- is_truth
def F115 : Fn := ⟨1, 1, [
  (.ret (.cmp (.eq) (.call 40 [(.var 0)]) (.const (.str [116]))))]⟩
-- by_text
def F117 : Fn := ⟨1, 4, [
  (.own 1 (.dct false [] [])),
  (.for 2 (.of (.var 0)) [(.put 1 (.call 58 [(.var 2)]) (.var 2))]),
  (.ret (.bi (.tuple) [(.comp 3 (.sub (.var 1) (.var 3)) (.of (.bi (.sorted) [(.var 1)])) (.const (.bl true)))]))]⟩
-- follows
def F118 : Fn := ⟨2, 3, [
  (.set 0 (.call 117 [(.var 0)])),
  (.ite (.or (.cmp (.gt) (.bi (.len) [(.var 0)]) (.const (.int (12)))) (.or (.not (.bi (.all) [(.comp 2 (.call 30 [(.var 2)]) (.of (.var 0)) (.const (.bl true)))])) (.not (.call 30 [(.var 1)])))) [(.raise 1)] []),
  (.ret (.mk 8 [(.var 0), (.var 1)]))]⟩
-- but_one
def F119 : Fn := ⟨2, 3, [
  (.ret (.comp 2 (.var 2) (.of (.var 0)) (.cmp (.ne) (.var 2) (.var 1))))]⟩
-- same_self
def F120 : Fn := ⟨1, 1, [
  (.ret (.call 118 [(.tup []), (.call 43 [(.var 0), (.var 0)])]))]⟩
-- together
def F122 : Fn := ⟨2, 7, [
  (.unp [2, 3] (.call 44 [(.fld (.var 0) 1)])),
  (.unp [4, 5] (.call 44 [(.fld (.var 1) 1)])),
  (.set 6 (.call 40 [(.var 2)])),
  (.ite (.or (.not (.inst (.var 6) (.tuple))) (.cmp (.ne) (.sub (.var 6) (.const (.int (0)))) (.call 40 [(.var 4)]))) [(.raise 0)] []),
  (.ret (.call 118 [(.bop (.add) (.fld (.var 0) 0) (.fld (.var 1) 0)), (.call 43 [(.call 41 [(.tup [(.const (.str [111, 102])), (.var 2), (.var 4)])]), (.call 41 [(.tup [(.const (.str [111, 102])), (.var 3), (.var 5)])])])]))]⟩
-- need_truth
def F124 : Fn := ⟨1, 1, [
  (.ite (.not (.call 115 [(.var 0)])) [(.raise 0)] [])]⟩
-- supposed
def F125 : Fn := ⟨1, 1, [
  (.expr (.call 124 [(.var 0)])),
  (.ret (.call 118 [(.tup [(.var 0)]), (.var 0)]))]⟩
-- carried
def F126 : Fn := ⟨2, 4, [
  (.unp [2, 3] (.call 44 [(.fld (.var 0) 1)])),
  (.ite (.cmp (.ne) (.var 2) (.fld (.var 1) 1)) [(.raise 0)] []),
  (.ret (.call 118 [(.bop (.add) (.fld (.var 0) 0) (.fld (.var 1) 0)), (.var 3)]))]⟩
-- each_other
def F127 : Fn := ⟨2, 3, [
  (.set 2 (.bop (.add) (.call 119 [(.fld (.var 0) 0), (.fld (.var 1) 1)]) (.call 119 [(.fld (.var 1) 0), (.fld (.var 0) 1)]))),
  (.ret (.call 118 [(.var 2), (.call 43 [(.fld (.var 0) 1), (.fld (.var 1) 1)])]))]⟩
-- _law_claimed
def F132 : Fn := ⟨2, 4, [
  (.set 2 (.call 125 [(.var 0)])),
  (.for 3 (.of (.var 1)) [(.set 2 (.call 126 [(.call 127 [(.call 125 [(.var 3)]), (.var 2)]), (.call 125 [(.var 3)])]))]),
  (.ret (.var 2))]⟩
-- _law_right
def F133 : Fn := ⟨3, 7, [
  (.own 3 (.dct false [] [])),
  (.for 4 (.of (.var 1)) [(.put 3 (.call 58 [(.var 4)]) (.var 4))]),
  (.set 5 (.bi (.tuple) [(.comp 6 (.sub (.var 3) (.var 6)) (.of (.bi (.sorted) [(.var 3)])) (.const (.bl true)))])),
  (.ret (.and (.inst (.var 0) (.cls 8)) (.and (.cmp (.eq) (.fld (.var 0) 0) (.var 5)) (.cmp (.eq) (.fld (.var 0) 1) (.var 2)))))]⟩
-- need_truths
def F139 : Fn := ⟨1, 2, [
  (.for 1 (.of (.var 0)) [(.ite (.not (.call 115 [(.var 1)])) [(.raise 0)] [])])]⟩
-- always
def F140 : Fn := ⟨0, 1, [
  (.set 0 (.tup [(.const (.str [102, 111, 114])), (.const (.str [116])), (.tup [(.const (.str [98, 111, 117, 110, 100])), (.const (.int (0)))])])),
  (.ret (.tup [(.const (.str [111, 102])), (.tup [(.const (.str [111, 102])), (.tup [(.const (.str [115, 97, 109, 101])), (.tup [(.const (.str [116])), (.const (.str [116]))])]), (.var 0)]), (.var 0)]))]⟩
-- all_of
def F141 : Fn := ⟨2, 2, [
  (.expr (.call 139 [(.lst [(.var 1)])])),
  (.ret (.call 43 [(.call 84 [(.var 0), (.var 1)]), (.call 41 [(.tup [(.const (.str [102, 111, 114])), (.sub (.var 0) (.const (.int (2)))), (.call 140 [])])])]))]⟩
-- never
def F142 : Fn := ⟨0, 1, [
  (.set 0 (.tup [(.const (.str [102, 114, 101, 101])), (.const (.str [118])), (.const (.str [116]))])),
  (.ret (.call 141 [(.var 0), (.var 0)]))]⟩
-- need_apart
def F143 : Fn := ⟨2, 3, [
  (.for 2 (.of (.var 1)) [(.ite (.cmp (.inn) (.var 0) (.call 42 [(.var 2)])) [(.raise 0)] [])])]⟩
-- by_cases
def F146 : Fn := ⟨3, 4, [
  (.expr (.call 124 [(.var 2)])),
  (.ite (.cmp (.ne) (.fld (.var 0) 1) (.fld (.var 1) 1)) [(.raise 0)] []),
  (.set 3 (.bop (.add) (.call 119 [(.fld (.var 0) 0), (.call 43 [(.var 2), (.call 140 [])])]) (.call 119 [(.fld (.var 1) 0), (.call 43 [(.var 2), (.call 142 [])])]))),
  (.ret (.call 118 [(.var 3), (.fld (.var 0) 1)]))]⟩
-- fresh
def F151 : Fn := ⟨1, 4, [
  (.set 1 (.lst [])),
  (.for 2 (.of (.var 0)) [(.set 1 (.bop (.add) (.var 1) (.call 152 [(.var 2)])))]),
  (.set 3 (.const (.int (0)))),
  (.whl (.cmp (.inn) (.bop (.add) (.const (.str [118])) (.bi (.str) [(.var 3)])) (.var 1)) [(.set 3 (.bop (.add) (.var 3) (.const (.int (1)))))]),
  (.ret (.tup [(.const (.str [102, 114, 101, 101])), (.bop (.add) (.const (.str [118])) (.bi (.str) [(.var 3)])), (.const (.str [116]))]))]⟩
-- names_of
def F152 : Fn := ⟨1, 1, [
  (.ite (.cmp (.eq) (.sub (.var 0) (.const (.int (0)))) (.const (.str [102, 114, 101, 101]))) [(.ret (.lst [(.sub (.var 0) (.const (.int (1))))]))] []),
  (.ite (.cmp (.eq) (.sub (.var 0) (.const (.int (0)))) (.const (.str [111, 102]))) [(.ret (.bop (.add) (.call 152 [(.sub (.var 0) (.const (.int (1))))]) (.call 152 [(.sub (.var 0) (.const (.int (2))))])))] []),
  (.ite (.cmp (.eq) (.sub (.var 0) (.const (.int (0)))) (.const (.str [102, 111, 114]))) [(.ret (.call 152 [(.sub (.var 0) (.const (.int (2))))]))] []),
  (.ret (.lst []))]⟩
-- pair_of
def F153 : Fn := ⟨2, 2, [
  (.ret (.call 41 [(.tup [(.const (.str [102, 111, 114])), (.const (.tup [(.str [116]), (.tup [(.str [116]), (.str [116])])])), (.tup [(.const (.str [111, 102])), (.tup [(.const (.str [111, 102])), (.tup [(.const (.str [98, 111, 117, 110, 100])), (.const (.int (0)))]), (.var 0)]), (.var 1)])])]))]⟩
-- both
def F154 : Fn := ⟨2, 2, [
  (.expr (.call 139 [(.lst [(.var 0), (.var 1)])])),
  (.ret (.call 43 [(.call 153 [(.var 0), (.var 1)]), (.call 153 [(.call 140 []), (.call 140 [])])]))]⟩
-- implied
def F155 : Fn := ⟨2, 2, [
  (.ret (.call 43 [(.call 154 [(.var 0), (.var 1)]), (.var 0)]))]⟩
-- negated
def F156 : Fn := ⟨1, 1, [
  (.ret (.call 155 [(.var 0), (.call 142 [])]))]⟩
-- either
def F157 : Fn := ⟨2, 3, [
  (.expr (.call 139 [(.lst [(.var 0), (.var 1)])])),
  (.set 2 (.call 151 [(.lst [(.var 0), (.var 1)])])),
  (.ret (.call 141 [(.var 2), (.call 155 [(.call 155 [(.var 0), (.var 2)]), (.call 155 [(.call 155 [(.var 1), (.var 2)]), (.var 2)])])]))]⟩
-- some_of
def F158 : Fn := ⟨2, 3, [
  (.expr (.call 139 [(.lst [(.var 1)])])),
  (.set 2 (.call 151 [(.lst [(.var 0), (.var 1)])])),
  (.ret (.call 141 [(.var 2), (.call 155 [(.call 141 [(.var 0), (.call 155 [(.var 1), (.var 2)])]), (.var 2)])]))]⟩
-- _law_all
def F161 : Fn := ⟨2, 2, [
  (.ret (.call 52 [(.tup [(.const (.str [102, 111, 114])), (.sub (.var 0) (.const (.int (2)))), (.call 83 [(.var 1), (.var 0), (.const (.int (0)))])]), (.tup [(.const (.str [102, 111, 114])), (.sub (.var 0) (.const (.int (2)))), (.call 140 [])])]))]⟩
-- _law_never
def F162 : Fn := ⟨0, 0, [
  (.ret (.call 161 [(.tup [(.const (.str [102, 114, 101, 101])), (.const (.str [122])), (.const (.str [116]))]), (.tup [(.const (.str [102, 114, 101, 101])), (.const (.str [122])), (.const (.str [116]))])]))]⟩
-- _law_both
def F163 : Fn := ⟨2, 4, [
  (.set 2 (.tup [(.const (.str [116])), (.tup [(.const (.str [116])), (.const (.str [116]))])])),
  (.set 3 (.tup [(.const (.str [102, 111, 114])), (.var 2), (.tup [(.const (.str [111, 102])), (.tup [(.const (.str [111, 102])), (.tup [(.const (.str [98, 111, 117, 110, 100])), (.const (.int (0)))]), (.var 0)]), (.var 1)])])),
  (.ret (.call 52 [(.var 3), (.tup [(.const (.str [102, 111, 114])), (.var 2), (.tup [(.const (.str [111, 102])), (.tup [(.const (.str [111, 102])), (.tup [(.const (.str [98, 111, 117, 110, 100])), (.const (.int (0)))]), (.call 140 [])]), (.call 140 [])])])]))]⟩
-- _law_implied
def F164 : Fn := ⟨2, 2, [
  (.ret (.call 52 [(.call 163 [(.var 0), (.var 1)]), (.var 0)]))]⟩
-- _law_either
def F165 : Fn := ⟨2, 3, [
  (.set 2 (.tup [(.const (.str [102, 114, 101, 101])), (.const (.str [111, 116, 104, 101, 114, 48, 48])), (.const (.str [116]))])),
  (.ret (.call 161 [(.var 2), (.call 164 [(.call 164 [(.var 0), (.var 2)]), (.call 164 [(.call 164 [(.var 1), (.var 2)]), (.var 2)])])]))]⟩
-- _law_some
def F166 : Fn := ⟨2, 3, [
  (.set 2 (.tup [(.const (.str [102, 114, 101, 101])), (.const (.str [111, 116, 104, 101, 114, 48, 48])), (.const (.str [116]))])),
  (.ret (.call 161 [(.var 2), (.call 164 [(.call 161 [(.var 0), (.call 164 [(.var 1), (.var 2)])]), (.var 2)])]))]⟩
-- both_parts
def F178 : Fn := ⟨1, 4, [
  (.unp [1, 2] (.call 44 [(.var 0)])),
  (.ite (.or (.cmp (.ne) (.sub (.var 1) (.const (.int (0)))) (.const (.str [102, 111, 114]))) (.or (.cmp (.ne) (.sub (.var 1) (.const (.int (1)))) (.const (.tup [(.str [116]), (.tup [(.str [116]), (.str [116])])]))) (.cmp (.ne) (.var 2) (.call 153 [(.call 140 []), (.call 140 [])])))) [(.raise 0)] []),
  (.set 3 (.sub (.var 1) (.const (.int (2))))),
  (.ite (.or (.cmp (.ne) (.sub (.var 3) (.const (.int (0)))) (.const (.str [111, 102]))) (.or (.cmp (.ne) (.sub (.sub (.var 3) (.const (.int (1)))) (.const (.int (0)))) (.const (.str [111, 102]))) (.cmp (.ne) (.sub (.sub (.var 3) (.const (.int (1)))) (.const (.int (1)))) (.tup [(.const (.str [98, 111, 117, 110, 100])), (.const (.int (0)))])))) [(.raise 0)] []),
  (.ite (.or (.not (.call 30 [(.sub (.sub (.var 3) (.const (.int (1)))) (.const (.int (2))))])) (.not (.call 30 [(.sub (.var 3) (.const (.int (2))))]))) [(.raise 0)] []),
  (.ret (.tup [(.sub (.sub (.var 3) (.const (.int (1)))) (.const (.int (2)))), (.sub (.var 3) (.const (.int (2))))]))]⟩
-- implied_parts
def F179 : Fn := ⟨1, 5, [
  (.unp [1, 2] (.call 44 [(.var 0)])),
  (.unp [3, 4] (.call 178 [(.var 1)])),
  (.ite (.cmp (.ne) (.var 3) (.var 2)) [(.raise 0)] []),
  (.ret (.tup [(.var 3), (.var 4)]))]⟩
-- it_is
def F180 : Fn := ⟨1, 1, [
  (.ret (.call 118 [(.fld (.var 0) 0), (.call 43 [(.fld (.var 0) 1), (.call 140 [])])]))]⟩
-- it_holds
def F181 : Fn := ⟨1, 3, [
  (.unp [1, 2] (.call 44 [(.fld (.var 0) 1)])),
  (.ite (.cmp (.ne) (.var 2) (.call 140 [])) [(.raise 0)] []),
  (.ret (.call 118 [(.fld (.var 0) 0), (.var 1)]))]⟩
-- told_always
def F182 : Fn := ⟨0, 0, [
  (.ret (.call 118 [(.tup []), (.call 140 [])]))]⟩
-- never_used
def F183 : Fn := ⟨2, 2, [
  (.expr (.call 124 [(.var 1)])),
  (.ite (.cmp (.ne) (.fld (.var 0) 1) (.call 142 [])) [(.raise 0)] []),
  (.ret (.call 118 [(.fld (.var 0) 0), (.var 1)]))]⟩
-- both_told
def F184 : Fn := ⟨2, 2, [
  (.ret (.call 118 [(.bop (.add) (.fld (.var 0) 0) (.fld (.var 1) 0)), (.call 154 [(.fld (.var 0) 1), (.fld (.var 1) 1)])]))]⟩
-- first_told
def F185 : Fn := ⟨1, 1, [
  (.ret (.call 118 [(.fld (.var 0) 0), (.sub (.call 178 [(.fld (.var 0) 1)]) (.const (.int (0))))]))]⟩
-- second_told
def F186 : Fn := ⟨1, 1, [
  (.ret (.call 118 [(.fld (.var 0) 0), (.sub (.call 178 [(.fld (.var 0) 1)]) (.const (.int (1))))]))]⟩
-- implied_told
def F187 : Fn := ⟨2, 2, [
  (.expr (.call 124 [(.var 0)])),
  (.ret (.call 118 [(.call 119 [(.fld (.var 1) 0), (.var 0)]), (.call 155 [(.var 0), (.fld (.var 1) 1)])]))]⟩
-- implied_used
def F188 : Fn := ⟨2, 4, [
  (.unp [2, 3] (.call 179 [(.fld (.var 0) 1)])),
  (.ite (.cmp (.ne) (.var 2) (.fld (.var 1) 1)) [(.raise 0)] []),
  (.ret (.call 118 [(.bop (.add) (.fld (.var 0) 0) (.fld (.var 1) 0)), (.var 3)]))]⟩
-- is_some
def F193 : Fn := ⟨3, 4, [
  (.set 3 (.const (.bl false))),
  (.tryC [(.set 3 (.cmp (.eq) (.call 158 [(.var 1), (.var 2)]) (.var 0)))] 1 [0, 1] 3 (.bl false)),
  (.ret (.var 3))]⟩
-- all_parts
def F194 : Fn := ⟨1, 3, [
  (.unp [1, 2] (.call 44 [(.var 0)])),
  (.ite (.or (.cmp (.ne) (.sub (.var 1) (.const (.int (0)))) (.const (.str [102, 111, 114]))) (.cmp (.ne) (.var 2) (.tup [(.const (.str [102, 111, 114])), (.sub (.var 1) (.const (.int (1)))), (.call 140 [])]))) [(.raise 0)] []),
  (.ret (.tup [(.sub (.var 1) (.const (.int (1)))), (.sub (.var 1) (.const (.int (2))))]))]⟩
-- all_told
def F195 : Fn := ⟨2, 2, [
  (.expr (.call 143 [(.var 0), (.fld (.var 1) 0)])),
  (.ret (.call 118 [(.fld (.var 1) 0), (.call 141 [(.var 0), (.fld (.var 1) 1)])]))]⟩
-- all_used
def F196 : Fn := ⟨2, 4, [
  (.unp [2, 3] (.call 194 [(.fld (.var 0) 1)])),
  (.ite (.cmp (.ne) (.call 40 [(.var 1)]) (.var 2)) [(.raise 0)] []),
  (.ret (.call 118 [(.fld (.var 0) 0), (.call 41 [(.call 86 [(.var 3), (.var 1), (.const (.int (0)))])])]))]⟩
-- some_told
def F197 : Fn := ⟨4, 4, [
  (.expr (.call 124 [(.var 1)])),
  (.ite (.or (.cmp (.ne) (.call 40 [(.var 2)]) (.sub (.var 0) (.const (.int (2))))) (.cmp (.ne) (.call 77 [(.var 1), (.dct true [(.var 0)] [(.var 2)])]) (.fld (.var 3) 1))) [(.raise 0)] []),
  (.ret (.call 118 [(.fld (.var 3) 0), (.call 158 [(.var 0), (.var 1)])]))]⟩
-- some_used
def F198 : Fn := ⟨4, 5, [
  (.expr (.call 124 [(.var 2)])),
  (.ite (.not (.call 193 [(.fld (.var 0) 1), (.var 1), (.var 2)])) [(.raise 0)] []),
  (.set 4 (.call 119 [(.fld (.var 3) 0), (.var 2)])),
  (.expr (.call 143 [(.var 1), (.bop (.add) (.var 4) (.lst [(.fld (.var 3) 1)]))])),
  (.ret (.call 118 [(.bop (.add) (.bi (.list) [(.fld (.var 0) 0)]) (.var 4)), (.fld (.var 3) 1)]))]⟩
-- either_parts
def F202 : Fn := ⟨1, 10, [
  (.unp [1, 2] (.call 194 [(.var 0)])),
  (.ite (.cmp (.ne) (.var 1) (.const (.str [116]))) [(.raise 0)] []),
  (.set 3 (.call 151 [(.lst [(.var 0)])])),
  (.unp [4, 5] (.call 179 [(.call 86 [(.var 2), (.var 3), (.const (.int (0)))])])),
  (.unp [6, 7] (.call 179 [(.var 5)])),
  (.set 8 (.sub (.call 179 [(.var 4)]) (.const (.int (0))))),
  (.set 9 (.sub (.call 179 [(.var 6)]) (.const (.int (0))))),
  (.ite (.cmp (.ne) (.call 157 [(.var 8), (.var 9)]) (.var 0)) [(.raise 0)] []),
  (.ret (.tup [(.var 8), (.var 9)]))]⟩
-- either_first
def F203 : Fn := ⟨2, 2, [
  (.ret (.call 118 [(.fld (.var 0) 0), (.call 157 [(.fld (.var 0) 1), (.var 1)])]))]⟩
-- either_second
def F204 : Fn := ⟨2, 2, [
  (.ret (.call 118 [(.fld (.var 1) 0), (.call 157 [(.var 0), (.fld (.var 1) 1)])]))]⟩
-- either_used
def F205 : Fn := ⟨3, 6, [
  (.unp [3, 4] (.call 202 [(.fld (.var 0) 1)])),
  (.ite (.cmp (.ne) (.fld (.var 1) 1) (.fld (.var 2) 1)) [(.raise 0)] []),
  (.set 5 (.bop (.add) (.bop (.add) (.bi (.list) [(.fld (.var 0) 0)]) (.call 119 [(.fld (.var 1) 0), (.var 3)])) (.call 119 [(.fld (.var 2) 0), (.var 4)]))),
  (.ret (.call 118 [(.var 5), (.fld (.var 1) 1)]))]⟩
-- one_step
def F219 : Fn := ⟨1, 4, [
  (.ite (.call 87 [(.var 0)]) [(.ret (.call 86 [(.sub (.sub (.var 0) (.const (.int (1)))) (.const (.int (2)))), (.sub (.var 0) (.const (.int (2)))), (.const (.int (0)))]))] []),
  (.ite (.cmp (.eq) (.sub (.var 0) (.const (.int (0)))) (.const (.str [102, 111, 114]))) [(.set 1 (.call 219 [(.sub (.var 0) (.const (.int (2))))])), (.ite (.cmp (.is) (.var 1) (.const .non)) [(.ret (.const .non))] []), (.ret (.tup [(.const (.str [102, 111, 114])), (.sub (.var 0) (.const (.int (1)))), (.var 1)]))] []),
  (.ite (.cmp (.ne) (.sub (.var 0) (.const (.int (0)))) (.const (.str [111, 102]))) [(.ret (.const .non))] []),
  (.set 2 (.call 219 [(.sub (.var 0) (.const (.int (1))))])),
  (.ite (.cmp (.isn) (.var 2) (.const .non)) [(.ret (.tup [(.const (.str [111, 102])), (.var 2), (.sub (.var 0) (.const (.int (2))))]))] []),
  (.set 3 (.call 219 [(.sub (.var 0) (.const (.int (2))))])),
  (.ite (.cmp (.is) (.var 3) (.const .non)) [(.ret (.const .non))] []),
  (.ret (.tup [(.const (.str [111, 102])), (.sub (.var 0) (.const (.int (1)))), (.var 3)]))]⟩
-- reduced
def F220 : Fn := ⟨1, 3, [
  (.set 1 (.const (.int (0)))),
  (.set 2 (.call 219 [(.var 0)])),
  (.whl (.cmp (.isn) (.var 2) (.const .non)) [(.set 1 (.bop (.add) (.var 1) (.const (.int (1))))), (.ite (.cmp (.gt) (.var 1) (.const (.int (60)))) [(.raise 1)] []), (.set 0 (.call 41 [(.var 2)])), (.set 2 (.call 219 [(.var 0)]))]),
  (.ret (.var 0))]⟩
-- reduction
def F221 : Fn := ⟨1, 1, [
  (.ret (.call 118 [(.tup []), (.call 43 [(.var 0), (.call 220 [(.var 0)])])]))]⟩
-- _law_step
def F230 : Fn := ⟨1, 3, [
  (.ite (.and (.cmp (.eq) (.sub (.var 0) (.const (.int (0)))) (.const (.str [111, 102]))) (.cmp (.eq) (.sub (.sub (.var 0) (.const (.int (1)))) (.const (.int (0)))) (.const (.str [102, 111, 114])))) [(.ret (.lst [(.call 86 [(.sub (.sub (.var 0) (.const (.int (1)))) (.const (.int (2)))), (.sub (.var 0) (.const (.int (2)))), (.const (.int (0)))])]))] []),
  (.ite (.cmp (.eq) (.sub (.var 0) (.const (.int (0)))) (.const (.str [102, 111, 114]))) [(.ret (.comp 1 (.tup [(.const (.str [102, 111, 114])), (.sub (.var 0) (.const (.int (1)))), (.var 1)]) (.of (.call 230 [(.sub (.var 0) (.const (.int (2))))])) (.const (.bl true))))] []),
  (.ite (.cmp (.ne) (.sub (.var 0) (.const (.int (0)))) (.const (.str [111, 102]))) [(.ret (.lst []))] []),
  (.set 2 (.call 230 [(.sub (.var 0) (.const (.int (1))))])),
  (.ite (.cmp (.ne) (.var 2) (.lst [])) [(.ret (.lst [(.tup [(.const (.str [111, 102])), (.sub (.var 2) (.const (.int (0)))), (.sub (.var 0) (.const (.int (2))))])]))] []),
  (.ret (.comp 1 (.tup [(.const (.str [111, 102])), (.sub (.var 0) (.const (.int (1)))), (.var 1)]) (.of (.call 230 [(.sub (.var 0) (.const (.int (2))))])) (.const (.bl true))))]⟩
-- _law_folded
def F231 : Fn := ⟨5, 8, [
  (.set 5 (.call 4 [(.call 3 [(.var 0), (.var 1)]), (.bop (.add) (.var 1) (.const (.int (300))))])),
  (.ite (.cmp (.eq) (.var 4) (.const (.int (0)))) [(.ret (.call 33 [(.var 0), (.var 1), (.var 2), (.var 3), (.const (.int (1)))]))] []),
  (.ite (.cmp (.lt) (.bop (.mod) (.var 5) (.const (.int (4)))) (.const (.int (2)))) [(.set 6 (.sub (.lst [(.const (.str [116])), (.const (.str [105])), (.tup [(.const (.str [116])), (.const (.str [116]))]), (.tup [(.const (.str [105])), (.const (.str [105]))])]) (.bop (.mod) (.bop (.fdiv) (.var 5) (.const (.int (4)))) (.const (.int (4)))))), (.set 7 (.call 231 [(.var 0), (.bop (.add) (.bop (.mul) (.const (.int (3))) (.var 1)) (.const (.int (1)))), (.var 2), (.bop (.add) (.var 3) (.lst [(.var 6)])), (.bop (.sub) (.var 4) (.const (.int (1))))])), (.ret (.tup [(.const (.str [111, 102])), (.tup [(.const (.str [102, 111, 114])), (.var 6), (.var 7)]), (.call 231 [(.var 0), (.bop (.add) (.bop (.mul) (.const (.int (3))) (.var 1)) (.const (.int (2)))), (.var 6), (.var 3), (.bop (.sub) (.var 4) (.const (.int (1))))])]))] []),
  (.ite (.inst (.var 2) (.tuple)) [(.ret (.tup [(.const (.str [102, 111, 114])), (.sub (.var 2) (.const (.int (0)))), (.call 231 [(.var 0), (.bop (.add) (.bop (.mul) (.const (.int (3))) (.var 1)) (.const (.int (1)))), (.sub (.var 2) (.const (.int (1)))), (.bop (.add) (.var 3) (.lst [(.sub (.var 2) (.const (.int (0))))])), (.bop (.sub) (.var 4) (.const (.int (1))))])]))] []),
  (.ite (.cmp (.eq) (.bop (.mod) (.var 5) (.const (.int (4)))) (.const (.int (2)))) [(.set 6 (.sub (.lst [(.const (.str [116])), (.const (.str [105]))]) (.bop (.mod) (.bop (.fdiv) (.var 5) (.const (.int (4)))) (.const (.int (2)))))), (.ret (.tup [(.const (.str [111, 102])), (.call 231 [(.var 0), (.bop (.add) (.bop (.mul) (.const (.int (3))) (.var 1)) (.const (.int (1)))), (.tup [(.var 6), (.var 2)]), (.var 3), (.bop (.sub) (.var 4) (.const (.int (1))))]), (.call 231 [(.var 0), (.bop (.add) (.bop (.mul) (.const (.int (3))) (.var 1)) (.const (.int (2)))), (.var 6), (.var 3), (.bop (.sub) (.var 4) (.const (.int (1))))])]))] []),
  (.ret (.call 33 [(.var 0), (.var 1), (.var 2), (.var 3), (.const (.int (2)))]))]⟩
-- _law_doubling
def F232 : Fn := ⟨1, 4, [
  (.set 1 (.tup [(.const (.str [102, 111, 114])), (.tup [(.const (.str [116])), (.const (.str [116]))]), (.tup [(.const (.str [102, 111, 114])), (.const (.str [116])), (.tup [(.const (.str [111, 102])), (.tup [(.const (.str [98, 111, 117, 110, 100])), (.const (.int (1)))]), (.tup [(.const (.str [111, 102])), (.tup [(.const (.str [98, 111, 117, 110, 100])), (.const (.int (1)))]), (.tup [(.const (.str [98, 111, 117, 110, 100])), (.const (.int (0)))])])])])])),
  (.set 2 (.tup [(.const (.str [102, 114, 101, 101])), (.const (.str [102])), (.tup [(.const (.str [116])), (.const (.str [116]))])])),
  (.for 3 (.rng [(.bop (.add) (.const (.int (1))) (.bop (.mod) (.var 0) (.const (.int (6)))))]) [(.set 2 (.tup [(.const (.str [111, 102])), (.var 1), (.var 2)]))]),
  (.ret (.tup [(.const (.str [111, 102])), (.var 2), (.tup [(.const (.str [102, 114, 101, 101])), (.const (.str [120])), (.const (.str [116]))])]))]⟩
-- _law_wide
def F233 : Fn := ⟨2, 6, [
  (.set 2 (.bop (.mul) (.lst [(.tup [(.const (.str [111, 102])), (.tup [(.const (.str [102, 111, 114])), (.const (.str [116])), (.tup [(.const (.str [98, 111, 117, 110, 100])), (.const (.int (0)))])]), (.tup [(.const (.str [102, 114, 101, 101])), (.const (.str [120])), (.const (.str [116]))])])]) (.var 0))),
  (.set 3 (.tup [(.const (.str [102, 114, 101, 101])), (.const (.str [103])), (.tup [(.const (.str [116])), (.tup [(.const (.str [116])), (.const (.str [116]))])])])),
  (.whl (.cmp (.gt) (.bi (.len) [(.var 2)]) (.const (.int (1)))) [(.own 4 (.comp 5 (.tup [(.const (.str [111, 102])), (.tup [(.const (.str [111, 102])), (.var 3), (.sub (.var 2) (.var 5))]), (.sub (.var 2) (.bop (.add) (.var 5) (.const (.int (1)))))]) (.rng [(.const (.int (0))), (.bop (.sub) (.bi (.len) [(.var 2)]) (.const (.int (1)))), (.const (.int (2)))]) (.const (.bl true)))), (.ite (.cmp (.eq) (.bop (.mod) (.bi (.len) [(.var 2)]) (.const (.int (2)))) (.const (.int (1)))) [(.app 4 (.sub (.var 2) (.neg (.const (.int (1))))))] []), (.frz 4 (.set 2 (.var 4)))]),
  (.ite (.cmp (.eq) (.bop (.mod) (.var 1) (.const (.int (2)))) (.const (.int (0)))) [(.ret (.sub (.var 2) (.const (.int (0)))))] []),
  (.ret (.tup [(.const (.str [111, 102])), (.tup [(.const (.str [111, 102])), (.tup [(.const (.str [102, 111, 114])), (.const (.str [116])), (.tup [(.const (.str [102, 111, 114])), (.const (.str [116])), (.tup [(.const (.str [102, 114, 101, 101])), (.const (.str [120])), (.const (.str [116]))])])]), (.tup [(.const (.str [102, 114, 101, 101])), (.const (.str [121])), (.const (.str [116]))])]), (.sub (.var 2) (.const (.int (0))))]))]⟩
-- _law_end
def F234 : Fn := ⟨1, 3, [
  (.for 1 (.rng [(.const (.int (61)))]) [(.set 2 (.call 230 [(.var 0)])), (.ite (.cmp (.eq) (.var 2) (.lst [])) [(.ret (.var 0))] []), (.ite (.or (.cmp (.eq) (.var 1) (.const (.int (60)))) (.not (.call 54 [(.sub (.var 2) (.const (.int (0))))]))) [(.ret (.const .non))] []), (.set 0 (.sub (.var 2) (.const (.int (0)))))]),
  (.ret (.const .non))]⟩
-- law
def F236 : Fn := ⟨1, 8, [
  (.for 1 (.rng [(.bi (.max) [(.const (.int (1))), (.bi (.min) [(.const (.int (4))), (.bi (.len) [(.var 0)])])])]) [(.set 2 (.call 4 [(.call 3 [(.var 0), (.var 1)]), (.bop (.add) (.var 1) (.const (.int (5000))))])), (.set 3 (.call 231 [(.var 0), (.bop (.mul) (.const (.int (40))) (.var 1)), (.sub (.lst [(.const (.str [116])), (.const (.str [105])), (.tup [(.const (.str [116])), (.const (.str [116]))])]) (.bop (.mod) (.var 2) (.const (.int (3))))), (.lst []), (.bop (.add) (.const (.int (2))) (.bop (.mod) (.bop (.fdiv) (.var 2) (.const (.int (3)))) (.const (.int (3)))))])), (.ite (.cmp (.eq) (.bop (.mod) (.bop (.fdiv) (.var 2) (.const (.int (9)))) (.const (.int (5)))) (.const (.int (0)))) [(.set 3 (.call 232 [(.bop (.fdiv) (.var 2) (.const (.int (45))))]))] []), (.ite (.cmp (.eq) (.bop (.mod) (.bop (.fdiv) (.var 2) (.const (.int (9)))) (.const (.int (5)))) (.const (.int (1)))) [(.set 3 (.call 233 [(.bop (.add) (.const (.int (59))) (.bop (.mod) (.bop (.fdiv) (.var 2) (.const (.int (45)))) (.const (.int (4))))), (.bop (.fdiv) (.var 2) (.const (.int (180))))]))] []), (.ite (.not (.call 30 [(.var 3)])) [.cnt] []), (.set 4 (.call 234 [(.var 3)])), (.set 5 (.thk 1 (some [103, 114, 101, 97, 116]) (.call 1220 [(.var 3)]))), (.set 6 (.thk 1 (some [103, 114, 101, 97, 116]) (.call 1221 [(.var 3)]))), (.ite (.cmp (.is) (.var 4) (.const .non)) [(.ite (.or (.cmp (.ne) (.var 5) (.const (.str [103, 114, 101, 97, 116]))) (.cmp (.ne) (.var 6) (.const (.str [103, 114, 101, 97, 116])))) [(.ret (.const (.bl false)))] []), .cnt] []), (.ite (.or (.cmp (.ne) (.var 5) (.var 4)) (.or (.cmp (.ne) (.call 40 [(.var 5)]) (.call 40 [(.var 3)])) (.cmp (.ne) (.call 220 [(.var 5)]) (.var 5)))) [(.ret (.const (.bl false)))] []), (.set 7 (.call 52 [(.var 3), (.var 4)])), (.ite (.not (.call 54 [(.var 7)])) [(.ite (.cmp (.ne) (.var 6) (.const (.str [103, 114, 101, 97, 116]))) [(.ret (.const (.bl false)))] [])] [(.ite (.or (.not (.inst (.var 6) (.cls 8))) (.or (.cmp (.ne) (.fld (.var 6) 0) (.tup [])) (.cmp (.ne) (.fld (.var 6) 1) (.var 7)))) [(.ret (.const (.bl false)))] [])])]),
  (.ret (.const (.bl true)))]⟩
-- _law_is
def F372 : Fn := ⟨2, 2, [
  (.ret (.and (.inst (.var 0) (.cls 8)) (.and (.cmp (.eq) (.fld (.var 0) 0) (.tup [])) (.cmp (.eq) (.fld (.var 0) 1) (.var 1)))))]⟩
-- _law_turned_about
def F373 : Fn := ⟨2, 6, [
  (.set 2 (.call 125 [(.call 154 [(.var 0), (.var 1)])])),
  (.set 3 (.call 187 [(.call 154 [(.var 0), (.var 1)]), (.call 184 [(.call 186 [(.var 2)]), (.call 185 [(.var 2)])])])),
  (.ite (.not (.call 372 [(.var 3), (.call 155 [(.call 154 [(.var 0), (.var 1)]), (.call 154 [(.var 1), (.var 0)])])])) [(.ret (.const (.bl false)))] []),
  (.set 2 (.call 125 [(.call 157 [(.var 0), (.var 1)])])),
  (.set 4 (.call 204 [(.var 1), (.call 125 [(.var 0)])])),
  (.set 5 (.call 203 [(.call 125 [(.var 1)]), (.var 0)])),
  (.set 3 (.call 205 [(.var 2), (.var 4), (.var 5)])),
  (.ret (.and (.inst (.var 3) (.cls 8)) (.and (.cmp (.eq) (.fld (.var 3) 0) (.tup [(.call 157 [(.var 0), (.var 1)])])) (.cmp (.eq) (.fld (.var 3) 1) (.call 157 [(.var 1), (.var 0)])))))]⟩
-- _law_contrary
def F374 : Fn := ⟨2, 5, [
  (.set 2 (.call 188 [(.call 125 [(.call 155 [(.var 0), (.var 1)])]), (.call 125 [(.var 0)])])),
  (.set 3 (.call 188 [(.call 125 [(.call 156 [(.var 1)])]), (.var 2)])),
  (.set 4 (.call 187 [(.call 156 [(.var 1)]), (.call 187 [(.var 0), (.var 3)])])),
  (.set 4 (.call 187 [(.call 155 [(.var 0), (.var 1)]), (.var 4)])),
  (.ite (.not (.call 372 [(.var 4), (.call 155 [(.call 155 [(.var 0), (.var 1)]), (.call 155 [(.call 156 [(.var 1)]), (.call 156 [(.var 0)])])])])) [(.ret (.const (.bl false)))] []),
  (.set 2 (.call 187 [(.var 0), (.call 187 [(.var 1), (.call 125 [(.var 0)])])])),
  (.ret (.call 372 [(.var 2), (.call 155 [(.var 0), (.call 155 [(.var 1), (.var 0)])])]))]⟩
-- _law_alls
def F375 : Fn := ⟨3, 7, [
  (.set 3 (.call 196 [(.call 125 [(.call 141 [(.var 0), (.call 154 [(.var 1), (.var 2)])])]), (.var 0)])),
  (.set 4 (.call 195 [(.var 0), (.call 185 [(.var 3)])])),
  (.set 5 (.call 195 [(.var 0), (.call 186 [(.var 3)])])),
  (.set 6 (.call 187 [(.call 141 [(.var 0), (.call 154 [(.var 1), (.var 2)])]), (.call 184 [(.var 4), (.var 5)])])),
  (.ret (.call 372 [(.var 6), (.call 155 [(.call 141 [(.var 0), (.call 154 [(.var 1), (.var 2)])]), (.call 154 [(.call 141 [(.var 0), (.var 1)]), (.call 141 [(.var 0), (.var 2)])])])]))]⟩
-- _law_exchanged
def F376 : Fn := ⟨3, 6, [
  (.set 3 (.call 141 [(.var 1), (.var 2)])),
  (.set 4 (.call 196 [(.call 125 [(.var 3)]), (.var 1)])),
  (.set 5 (.call 195 [(.var 1), (.call 197 [(.var 0), (.var 2), (.var 0), (.var 4)])])),
  (.set 5 (.call 198 [(.call 125 [(.call 158 [(.var 0), (.var 3)])]), (.var 0), (.var 3), (.var 5)])),
  (.ret (.and (.cmp (.eq) (.fld (.var 5) 0) (.tup [(.call 158 [(.var 0), (.var 3)])])) (.cmp (.eq) (.fld (.var 5) 1) (.call 141 [(.var 1), (.call 158 [(.var 0), (.var 2)])]))))]⟩
-- _law_cases
def F377 : Fn := ⟨1, 5, [
  (.set 1 (.tup [(.const (.str [111, 102])), (.tup [(.const (.str [111, 102])), (.tup [(.const (.str [115, 97, 109, 101])), (.const (.str [116]))]), (.var 0)]), (.call 140 [])])),
  (.set 2 (.tup [(.const (.str [111, 102])), (.tup [(.const (.str [111, 102])), (.tup [(.const (.str [115, 97, 109, 101])), (.const (.str [116]))]), (.var 0)]), (.call 142 [])])),
  (.set 3 (.call 203 [(.call 181 [(.call 125 [(.var 1)])]), (.call 156 [(.var 0)])])),
  (.set 4 (.call 204 [(.var 0), (.call 187 [(.var 0), (.call 126 [(.call 125 [(.var 2)]), (.call 125 [(.var 0)])])])])),
  (.ret (.call 372 [(.call 146 [(.var 3), (.var 4), (.var 0)]), (.call 157 [(.var 0), (.call 156 [(.var 0)])])]))]⟩
def F1220 : Fn := wrapF 2220 1
def F2220 : Fn := wrapF 220 1
def F1221 : Fn := wrapF 2221 1
def F2221 : Fn := wrapF 221 1
def libL : List (Nat × Fn) := [(1, F1), (3, F3), (4, F4), (8, F8), (9, F9), (10, F10), (11, F11), (12, F12), (22, F22), (24, F24), (25, F25), (26, F26), (27, F27), (28, F28), (29, F29), (30, F30), (31, F31), (32, F32), (33, F33), (40, F40), (41, F41), (42, F42), (43, F43), (44, F44), (48, F48), (51, F51), (52, F52), (53, F53), (54, F54), (55, F55), (56, F56), (58, F58), (59, F59), (60, F60), (61, F61), (62, F62), (63, F63), (64, F64), (77, F77), (78, F78), (79, F79), (83, F83), (84, F84), (85, F85), (86, F86), (87, F87), (88, F88), (90, F90), (91, F91), (115, F115), (117, F117), (118, F118), (119, F119), (120, F120), (122, F122), (124, F124), (125, F125), (126, F126), (127, F127), (132, F132), (133, F133), (139, F139), (140, F140), (141, F141), (142, F142), (143, F143), (146, F146), (151, F151), (152, F152), (153, F153), (154, F154), (155, F155), (156, F156), (157, F157), (158, F158), (161, F161), (162, F162), (163, F163), (164, F164), (165, F165), (166, F166), (178, F178), (179, F179), (180, F180), (181, F181), (182, F182), (183, F183), (184, F184), (185, F185), (186, F186), (187, F187), (188, F188), (193, F193), (194, F194), (195, F195), (196, F196), (197, F197), (198, F198), (202, F202), (203, F203), (204, F204), (205, F205), (219, F219), (220, F220), (221, F221), (230, F230), (231, F231), (232, F232), (233, F233), (234, F234), (236, F236), (372, F372), (373, F373), (374, F374), (375, F375), (376, F376), (377, F377), (1220, F1220), (2220, F2220), (1221, F1221), (2221, F2221)]
def libF (k : Nat) : Option Fn := libL.lookup k
theorem lib1 : libF 1 = some F1 := by kernel_rfl
theorem lib3 : libF 3 = some F3 := by kernel_rfl
theorem lib4 : libF 4 = some F4 := by kernel_rfl
theorem lib8 : libF 8 = some F8 := by kernel_rfl
theorem lib9 : libF 9 = some F9 := by kernel_rfl
theorem lib10 : libF 10 = some F10 := by kernel_rfl
theorem lib11 : libF 11 = some F11 := by kernel_rfl
theorem lib12 : libF 12 = some F12 := by kernel_rfl
theorem lib22 : libF 22 = some F22 := by kernel_rfl
theorem lib24 : libF 24 = some F24 := by kernel_rfl
theorem lib25 : libF 25 = some F25 := by kernel_rfl
theorem lib26 : libF 26 = some F26 := by kernel_rfl
theorem lib27 : libF 27 = some F27 := by kernel_rfl
theorem lib28 : libF 28 = some F28 := by kernel_rfl
theorem lib29 : libF 29 = some F29 := by kernel_rfl
theorem lib30 : libF 30 = some F30 := by kernel_rfl
theorem lib31 : libF 31 = some F31 := by kernel_rfl
theorem lib32 : libF 32 = some F32 := by kernel_rfl
theorem lib33 : libF 33 = some F33 := by kernel_rfl
theorem lib40 : libF 40 = some F40 := by kernel_rfl
theorem lib41 : libF 41 = some F41 := by kernel_rfl
theorem lib42 : libF 42 = some F42 := by kernel_rfl
theorem lib43 : libF 43 = some F43 := by kernel_rfl
theorem lib44 : libF 44 = some F44 := by kernel_rfl
theorem lib48 : libF 48 = some F48 := by kernel_rfl
theorem lib51 : libF 51 = some F51 := by kernel_rfl
theorem lib52 : libF 52 = some F52 := by kernel_rfl
theorem lib53 : libF 53 = some F53 := by kernel_rfl
theorem lib54 : libF 54 = some F54 := by kernel_rfl
theorem lib55 : libF 55 = some F55 := by kernel_rfl
theorem lib56 : libF 56 = some F56 := by kernel_rfl
theorem lib58 : libF 58 = some F58 := by kernel_rfl
theorem lib59 : libF 59 = some F59 := by kernel_rfl
theorem lib60 : libF 60 = some F60 := by kernel_rfl
theorem lib61 : libF 61 = some F61 := by kernel_rfl
theorem lib62 : libF 62 = some F62 := by kernel_rfl
theorem lib63 : libF 63 = some F63 := by kernel_rfl
theorem lib64 : libF 64 = some F64 := by kernel_rfl
theorem lib77 : libF 77 = some F77 := by kernel_rfl
theorem lib78 : libF 78 = some F78 := by kernel_rfl
theorem lib79 : libF 79 = some F79 := by kernel_rfl
theorem lib83 : libF 83 = some F83 := by kernel_rfl
theorem lib84 : libF 84 = some F84 := by kernel_rfl
theorem lib85 : libF 85 = some F85 := by kernel_rfl
theorem lib86 : libF 86 = some F86 := by kernel_rfl
theorem lib87 : libF 87 = some F87 := by kernel_rfl
theorem lib88 : libF 88 = some F88 := by kernel_rfl
theorem lib90 : libF 90 = some F90 := by kernel_rfl
theorem lib91 : libF 91 = some F91 := by kernel_rfl
theorem lib115 : libF 115 = some F115 := by kernel_rfl
theorem lib117 : libF 117 = some F117 := by kernel_rfl
theorem lib118 : libF 118 = some F118 := by kernel_rfl
theorem lib119 : libF 119 = some F119 := by kernel_rfl
theorem lib120 : libF 120 = some F120 := by kernel_rfl
theorem lib122 : libF 122 = some F122 := by kernel_rfl
theorem lib124 : libF 124 = some F124 := by kernel_rfl
theorem lib125 : libF 125 = some F125 := by kernel_rfl
theorem lib126 : libF 126 = some F126 := by kernel_rfl
theorem lib127 : libF 127 = some F127 := by kernel_rfl
theorem lib132 : libF 132 = some F132 := by kernel_rfl
theorem lib133 : libF 133 = some F133 := by kernel_rfl
theorem lib139 : libF 139 = some F139 := by kernel_rfl
theorem lib140 : libF 140 = some F140 := by kernel_rfl
theorem lib141 : libF 141 = some F141 := by kernel_rfl
theorem lib142 : libF 142 = some F142 := by kernel_rfl
theorem lib143 : libF 143 = some F143 := by kernel_rfl
theorem lib146 : libF 146 = some F146 := by kernel_rfl
theorem lib151 : libF 151 = some F151 := by kernel_rfl
theorem lib152 : libF 152 = some F152 := by kernel_rfl
theorem lib153 : libF 153 = some F153 := by kernel_rfl
theorem lib154 : libF 154 = some F154 := by kernel_rfl
theorem lib155 : libF 155 = some F155 := by kernel_rfl
theorem lib156 : libF 156 = some F156 := by kernel_rfl
theorem lib157 : libF 157 = some F157 := by kernel_rfl
theorem lib158 : libF 158 = some F158 := by kernel_rfl
theorem lib161 : libF 161 = some F161 := by kernel_rfl
theorem lib162 : libF 162 = some F162 := by kernel_rfl
theorem lib163 : libF 163 = some F163 := by kernel_rfl
theorem lib164 : libF 164 = some F164 := by kernel_rfl
theorem lib165 : libF 165 = some F165 := by kernel_rfl
theorem lib166 : libF 166 = some F166 := by kernel_rfl
theorem lib178 : libF 178 = some F178 := by kernel_rfl
theorem lib179 : libF 179 = some F179 := by kernel_rfl
theorem lib180 : libF 180 = some F180 := by kernel_rfl
theorem lib181 : libF 181 = some F181 := by kernel_rfl
theorem lib182 : libF 182 = some F182 := by kernel_rfl
theorem lib183 : libF 183 = some F183 := by kernel_rfl
theorem lib184 : libF 184 = some F184 := by kernel_rfl
theorem lib185 : libF 185 = some F185 := by kernel_rfl
theorem lib186 : libF 186 = some F186 := by kernel_rfl
theorem lib187 : libF 187 = some F187 := by kernel_rfl
theorem lib188 : libF 188 = some F188 := by kernel_rfl
theorem lib193 : libF 193 = some F193 := by kernel_rfl
theorem lib194 : libF 194 = some F194 := by kernel_rfl
theorem lib195 : libF 195 = some F195 := by kernel_rfl
theorem lib196 : libF 196 = some F196 := by kernel_rfl
theorem lib197 : libF 197 = some F197 := by kernel_rfl
theorem lib198 : libF 198 = some F198 := by kernel_rfl
theorem lib202 : libF 202 = some F202 := by kernel_rfl
theorem lib203 : libF 203 = some F203 := by kernel_rfl
theorem lib204 : libF 204 = some F204 := by kernel_rfl
theorem lib205 : libF 205 = some F205 := by kernel_rfl
theorem lib219 : libF 219 = some F219 := by kernel_rfl
theorem lib220 : libF 220 = some F220 := by kernel_rfl
theorem lib221 : libF 221 = some F221 := by kernel_rfl
theorem lib230 : libF 230 = some F230 := by kernel_rfl
theorem lib231 : libF 231 = some F231 := by kernel_rfl
theorem lib232 : libF 232 = some F232 := by kernel_rfl
theorem lib233 : libF 233 = some F233 := by kernel_rfl
theorem lib234 : libF 234 = some F234 := by kernel_rfl
theorem lib236 : libF 236 = some F236 := by kernel_rfl
theorem lib372 : libF 372 = some F372 := by kernel_rfl
theorem lib373 : libF 373 = some F373 := by kernel_rfl
theorem lib374 : libF 374 = some F374 := by kernel_rfl
theorem lib375 : libF 375 = some F375 := by kernel_rfl
theorem lib376 : libF 376 = some F376 := by kernel_rfl
theorem lib377 : libF 377 = some F377 := by kernel_rfl
theorem lib1220 : libF 1220 = some F1220 := by kernel_rfl
theorem lib2220 : libF 2220 = some F2220 := by kernel_rfl
theorem lib1221 : libF 1221 = some F1221 := by kernel_rfl
theorem lib2221 : libF 2221 = some F2221 := by kernel_rfl
end Rf

/-! part RfEv -/
set_option autoImplicit false
set_option linter.all false
set_option Elab.async false
set_option maxRecDepth 100000
set_option maxHeartbeats 2000000
/-! RfEv: running small programs, lemmas. -/
namespace Rf
abbrev R (n : Nat) : Nat → List D → Out D := run libF 2000 n
theorem R_succ (n k : Nat) (args : List D) : R (n + 1) k args = (match libF k with
  | none => .bad
  | some fn => if args.length = fn.params then (evSs (R n) 2000 fn.body (start fn args)).out else .bad) := rfl
theorem R_at {n k : Nat} {fn : Fn} {args : List D} (h : libF k = some fn) (hl : args.length = fn.params) : R (n + 1) k args = (evSs (R n) 2000 fn.body (start fn args)).out := by
  rw [R_succ, h]; simp only [hl, if_true]
theorem R_wrap {n k p : Nat} {ds : List D} (h1 : libF (1000 + k) = some (wrapF (2000 + k) p)) (h2 : libF (2000 + k) = some (wrapF k p)) (hl : ds.length = p) : R (n + 2) (1000 + k) ds = R n k ds := by
  show run libF 2000 (n + 1 + 1) _ _ = _
  rw [run_wrap h1, if_pos hl, run_wrap h2, if_pos hl]
theorem fl_ret_out {x : Out D} {ρ : Env} : (x.fl ρ fun d => Fl.ret d).out = x := by cases x <;> rfl
theorem seq_fl_ret {x : Out D} {ρ : Env} {f : Env → Fl} : (x.fl ρ fun d => Fl.ret d).seq f = x.fl ρ fun d => Fl.ret d := by cases x <;> rfl
@[simp] theorem out_nxt (ρ : Env) : (Fl.nxt ρ).out = .ok .non := rfl
@[simp] theorem out_ret (d : D) : (Fl.ret d).out = .ok d := rfl
@[simp] theorem out_exc (c : Nat) (fs : List D) (ρ : Env) : (Fl.exc c fs ρ).out = .exc c fs := rfl
@[simp] theorem out_bad : (Fl.bad).out = .bad := rfl
@[simp] theorem truthy_bl (b : Bool) : truthy (.bl b) = .ok b := rfl
@[simp] theorem truthy_int (i : Int) : truthy (.int i) = .ok (i != 0) := rfl
@[simp] theorem truthy_lst (xs : List D) : truthy (.lst xs) = .ok (!xs.isEmpty) := rfl
theorem atD_nat {α : Type} {xs : List α} {i : Nat} {x : α} (h : xs[i]? = some x) : atD xs (i : Int) = .ok x := by
  have hl := (List.getElem?_eq_some_iff.mp h).1
  unfold atD ixn
  rw [if_pos (by omega), if_pos (by omega)]
  simp [h]
theorem at0 {α : Type} (x : α) (xs : List α) : atD (x :: xs) 0 = .ok x := atD_nat (i := 0) rfl
theorem at1 {α : Type} (x y : α) (xs : List α) : atD (x :: y :: xs) 1 = .ok y := atD_nat (i := 1) rfl
theorem at2 {α : Type} (x y z : α) (xs : List α) : atD (x :: y :: z :: xs) 2 = .ok z := atD_nat (i := 2) rfl
/-! ### evaluation, call by value: what comes behind a part stands folded until the part has its value -/
section
variable {call : Nat → List D → Out D} {w : Nat} {ρ : Env}
def kBop (call : Nat → List D → Out D) (o : Bop) (b : E) (ρ : Env) (x : D) : Out D := (evE call b ρ).bind (bopD o x)
def kNeg (x : D) : Out D := match x with | .int i => .ok (.int (-i)) | _ => .bad
def kNt (t : Bool) : Out D := .ok (.bl (!t))
def kNot (x : D) : Out D := (truthy x).bind kNt
def kCmp (call : Nat → List D → Out D) (o : Cop) (b : E) (ρ : Env) (x : D) : Out D := (evE call b ρ).bind (cmpD o x)
def kCmpD (call : Nat → List D → Out D) (o' : Cop) (c : E) (ρ : Env) (y z : D) (t : Bool) : Out D := if t then (evE call c ρ).bind (cmpD o' y) else .ok z
def kCmpC (call : Nat → List D → Out D) (o' : Cop) (c : E) (ρ : Env) (y z : D) : Out D := (truthy z).bind (kCmpD call o' c ρ y z)
def kCmpB (call : Nat → List D → Out D) (o o' : Cop) (c : E) (ρ : Env) (x y : D) : Out D := (cmpD o x y).bind (kCmpC call o' c ρ y)
def kCmpA (call : Nat → List D → Out D) (o o' : Cop) (b c : E) (ρ : Env) (x : D) : Out D := (evE call b ρ).bind (kCmpB call o o' c ρ x)
def kAnB (call : Nat → List D → Out D) (b : E) (ρ : Env) (x : D) (t : Bool) : Out D := if t then evE call b ρ else .ok x
def kAnd (call : Nat → List D → Out D) (b : E) (ρ : Env) (x : D) : Out D := (truthy x).bind (kAnB call b ρ x)
def kOrB (call : Nat → List D → Out D) (b : E) (ρ : Env) (x : D) (t : Bool) : Out D := if t then .ok x else evE call b ρ
def kOr (call : Nat → List D → Out D) (b : E) (ρ : Env) (x : D) : Out D := (truthy x).bind (kOrB call b ρ x)
def kItB (call : Nat → List D → Out D) (a b : E) (ρ : Env) (t : Bool) : Out D := if t then evE call a ρ else evE call b ρ
def kFin (own : Bool) (d : D) : Out D := if own && !d.flat then .bad else .ok d
def kCall (call : Nat → List D → Out D) (f : Nat) (own : Bool) (ds : List D) : Out D := match own with
  | false => call f ds
  | true => (call f ds).bind (kFin true)
def kInst (t : Ty) (x : D) : Out D := if instOk x t then .ok (.bl (instD x t)) else .bad
def kMe (call : Nat → List D → Out D) (m : Me) (es : List E) (ρ : Env) (x : D) : Out D := if meOk m x then (evEs call es ρ).bind (meD m x) else .bad
def kDcC (t : Bool) (kvs : List (D × D)) : Out D := .ok (.dic t kvs)
def kDcB (t : Bool) (kds vds : List D) : Out D := (zipPut t kds vds []).bind (kDcC t)
def kDcA (call : Nat → List D → Out D) (t : Bool) (vs : List E) (ρ : Env) (kds : List D) : Out D := (evEs call vs ρ).bind (kDcB t kds)
def kMk (c : Nat) (ds : List D) : Out D := .ok (.obj c ds)
def kFld (f : Nat) (x : D) : Out D := match x with | .obj c fs => if c == 8 then .ofOpt fs[f]? else .bad | _ => .bad
def kSub (call : Nat → List D → Out D) (i : E) (ρ : Env) (x : D) : Out D := (evE call i ρ).bind (subD x)
def kSlB (x : D) (l h : Option Int) : Out D := sliceD x l h
def kSlA (call : Nat → List D → Out D) (hi : E) (ρ : Env) (x : D) (l : Option Int) : Out D := ((evE call hi ρ).bind boundD).bind (kSlB x l)
def kSl (call : Nat → List D → Out D) (lo hi : E) (ρ : Env) (x : D) : Out D := ((evE call lo ρ).bind boundD).bind (kSlA call hi ρ x)
def kCons (x : D) (xs : List D) : Out (List D) := .ok (x :: xs)
def kEs (call : Nat → List D → Out D) (es : List E) (ρ : Env) (x : D) : Out (List D) := (evEs call es ρ).bind (kCons x)
def kLst (ys : List D) : Out D := if ys.length ≤ SZ then .ok (.lst ys) else .bad
def kGo (call : Nat → List D → Out D) (x : Nat) (elt c : E) (ρ : Env) (ds : List D) : Out (List D) := compGo (fun ρ' => evE call elt ρ') (fun ρ' => evE call c ρ') x ρ ds
def kComp (call : Nat → List D → Out D) (x : Nat) (elt c : E) (ρ : Env) (ds : List D) : Out D := if elt.ownV ρ then .bad else (kGo call x elt c ρ ds).bind kLst
def kRev (x : D) : Out (List D) := match x with | .lst xs => .ok xs.reverse | _ => .bad
@[simp] theorem kNeg_int (i : Int) : kNeg (.int i) = .ok (.int (-i)) := rfl
@[simp] theorem kRev_lst (xs : List D) : kRev (.lst xs) = .ok xs.reverse := rfl
theorem evE_var (i : Nat) : evE call (.var i) ρ = getV ρ i := rfl
theorem evE_const (d : D) : evE call (.const d) ρ = .ok d := rfl
theorem evE_tup (es : List E) : evE call (.tup es) ρ = if ownL es ρ then .bad else (evEs call es ρ).map .tup := rfl
theorem evE_lst (es : List E) : evE call (.lst es) ρ = if ownL es ρ then .bad else (evEs call es ρ).map .lst := rfl
theorem evE_bop (o : Bop) (a b : E) : evE call (.bop o a b) ρ = (evE call a ρ).bind (kBop call o b ρ) := rfl
theorem evE_neg (a : E) : evE call (.neg a) ρ = (evE call a ρ).bind kNeg := rfl
theorem evE_not (a : E) : evE call (.not a) ρ = (evE call a ρ).bind kNot := rfl
theorem evE_cmp (o : Cop) (a b : E) : evE call (.cmp o a b) ρ = (evE call a ρ).bind (kCmp call o b ρ) := rfl
theorem evE_cmp2 (o o' : Cop) (a b c : E) : evE call (.cmp2 o o' a b c) ρ = (evE call a ρ).bind (kCmpA call o o' b c ρ) := rfl
theorem evE_and (a b : E) : evE call (.and a b) ρ = if a.ownV ρ || b.ownV ρ then .bad else (evE call a ρ).bind (kAnd call b ρ) := rfl
theorem evE_or (a b : E) : evE call (.or a b) ρ = if a.ownV ρ || b.ownV ρ then .bad else (evE call a ρ).bind (kOr call b ρ) := rfl
theorem evE_ite (c a b : E) : evE call (.ite c a b) ρ = if a.ownV ρ || b.ownV ρ then .bad else ((evE call c ρ).bind truthy).bind (kItB call a b ρ) := by
  show (if _ then _ else (evE call c ρ).bind fun x => (truthy x).bind fun t => if t then evE call a ρ else evE call b ρ) = _
  cases evE call c ρ <;> rfl
theorem evE_call (f : Nat) (es : List E) : evE call (.call f es) ρ = (evEs call es ρ).bind (kCall call f (ownL es ρ)) := by
  show ((evEs call es ρ).bind fun ds => (call f ds).bind fun d => if ownL es ρ && !d.flat then .bad else .ok d) = _
  cases evEs call es ρ with
  | ok ds =>
    show ((call f ds).bind fun d => if ownL es ρ && !d.flat then .bad else .ok d) = kCall call f (ownL es ρ) ds
    cases ownL es ρ with
    | true => rfl
    | false =>
      show ((call f ds).bind fun d => .ok d) = call f ds
      cases call f ds <;> rfl
  | exc c fs => rfl
  | bad => rfl
theorem evE_bi (b : Bi) (es : List E) : evE call (.bi b es) ρ = (evEs call es ρ).bind (biD b) := rfl
theorem evE_inst (a : E) (t : Ty) : evE call (.inst a t) ρ = (evE call a ρ).bind (kInst t) := rfl
theorem evE_me (m : Me) (a : E) (es : List E) : evE call (.me m a es) ρ = if ownL es ρ then .bad else (evE call a ρ).bind (kMe call m es ρ) := rfl
theorem evE_dct (t : Bool) (ks vs : List E) : evE call (.dct t ks vs) ρ = if ownL ks ρ || ownL vs ρ then .bad else (evEs call ks ρ).bind (kDcA call t vs ρ) := rfl
theorem evE_mk (c : Nat) (es : List E) : evE call (.mk c es) ρ = if ownL es ρ then .bad else (evEs call es ρ).bind (kMk c) := rfl
theorem evE_fld (a : E) (f : Nat) : evE call (.fld a f) ρ = (evE call a ρ).bind (kFld f) := rfl
theorem evE_sub (a i : E) : evE call (.sub a i) ρ = (evE call a ρ).bind (kSub call i ρ) := rfl
theorem evE_slice (a l h : E) : evE call (.slice a l h) ρ = (evE call a ρ).bind (kSl call l h ρ) := rfl
theorem evE_comp (x : Nat) (e : E) (it : Src) (c : E) : evE call (.comp x e it c) ρ = (evIt call it ρ).bind (kComp call x e c ρ) := rfl
theorem evE_thk (c : Nat) (md : Option Tx) (e : E) : evE call (.thk c md e) ρ = if e.ownV ρ then .bad else thkO c md (evE call e ρ) := rfl
theorem thk_e0 : thkO 0 none (.exc 0 []) = .ok (.bl true) := rfl
theorem thk_e1 : thkO 1 none (.exc 1 []) = .ok (.bl true) := rfl
theorem thk_ok' {c : Nat} {d : D} : thkO c none (.ok d) = .ok (.bl false) := rfl
theorem evEs_nil : evEs call [] ρ = .ok [] := rfl
theorem evEs_cons (e : E) (es : List E) : evEs call (e :: es) ρ = (evE call e ρ).bind (kEs call es ρ) := rfl
theorem evIt_of (e : E) : evIt call (.of e) ρ = (evE call e ρ).bind itemsD := rfl
theorem evIt_rng (es : List E) : evIt call (.rng es) ρ = (evEs call es ρ).bind rngD := rfl
theorem evIt_rev (e : E) : evIt call (.rev e) ρ = (evE call e ρ).bind kRev := rfl
theorem kNot_ok (x : D) : kNot x = (truthy x).bind kNt := rfl
theorem kBop_ok (o : Bop) (b : E) (x : D) : kBop call o b ρ x = (evE call b ρ).bind (bopD o x) := rfl
theorem kCmp_ok (o : Cop) (b : E) (x : D) : kCmp call o b ρ x = (evE call b ρ).bind (cmpD o x) := rfl
theorem kCmpA_ok (o o' : Cop) (b c : E) (x : D) : kCmpA call o o' b c ρ x = (evE call b ρ).bind (kCmpB call o o' c ρ x) := rfl
theorem kCmpB_ok (o o' : Cop) (c : E) (x y : D) : kCmpB call o o' c ρ x y = (cmpD o x y).bind (kCmpC call o' c ρ y) := rfl
theorem kCmpC_ok (o' : Cop) (c : E) (y z : D) : kCmpC call o' c ρ y z = (truthy z).bind (kCmpD call o' c ρ y z) := rfl
theorem kCmpD_t (o' : Cop) (c : E) (y z : D) : kCmpD call o' c ρ y z true = (evE call c ρ).bind (cmpD o' y) := rfl
theorem kCmpD_f (o' : Cop) (c : E) (y z : D) : kCmpD call o' c ρ y z false = .ok z := rfl
theorem kAnd_ok (b : E) (x : D) : kAnd call b ρ x = (truthy x).bind (kAnB call b ρ x) := rfl
theorem kAnB_t (b : E) (x : D) : kAnB call b ρ x true = evE call b ρ := rfl
theorem kAnB_f (b : E) (x : D) : kAnB call b ρ x false = .ok x := rfl
theorem kOr_ok (b : E) (x : D) : kOr call b ρ x = (truthy x).bind (kOrB call b ρ x) := rfl
theorem kOrB_t (b : E) (x : D) : kOrB call b ρ x true = .ok x := rfl
theorem kOrB_f (b : E) (x : D) : kOrB call b ρ x false = evE call b ρ := rfl
theorem kItB_t (a b : E) : kItB call a b ρ true = evE call a ρ := rfl
theorem kItB_f (a b : E) : kItB call a b ρ false = evE call b ρ := rfl
theorem kCall_f (f : Nat) (ds : List D) : kCall call f false ds = call f ds := rfl
theorem kCall_t (f : Nat) (ds : List D) : kCall call f true ds = (call f ds).bind (kFin true) := rfl
theorem kSub_ok (i : E) (x : D) : kSub call i ρ x = (evE call i ρ).bind (subD x) := rfl
theorem kSl_ok (l h : E) (x : D) : kSl call l h ρ x = ((evE call l ρ).bind boundD).bind (kSlA call h ρ x) := rfl
theorem kSlA_ok (h : E) (x : D) (l : Option Int) : kSlA call h ρ x l = ((evE call h ρ).bind boundD).bind (kSlB x l) := rfl
theorem kEs_ok (es : List E) (x : D) : kEs call es ρ x = (evEs call es ρ).bind (kCons x) := rfl
theorem kCons_ok (x : D) (xs : List D) : kCons x xs = .ok (x :: xs) := rfl
theorem kComp_ok (x : Nat) (e c : E) (ds : List D) : kComp call x e c ρ ds = if e.ownV ρ then .bad else (kGo call x e c ρ ds).bind kLst := rfl
theorem kInst_ok (t : Ty) (x : D) (h : instOk x t = true) : kInst t x = .ok (.bl (instD x t)) := by simp only [kInst, h, if_true]
def D.inB : D → Bool
  | .obj _ _ => false | .exn _ _ => false | _ => true
theorem inB_tup (xs : List D) : D.inB (.tup xs) = true := rfl
theorem inB_lst (xs : List D) : D.inB (.lst xs) = true := rfl
theorem inB_int (i : Int) : D.inB (.int i) = true := rfl
theorem inB_str (s : Tx) : D.inB (.str s) = true := rfl
theorem inB_bl (b : Bool) : D.inB (.bl b) = true := rfl
theorem inB_non  : D.inB (.non) = true := rfl
theorem inB_dic (t : Bool) (kvs : List (D × D)) : D.inB (.dic t kvs) = true := rfl
theorem kInst_tuple (x : D) (h : x.inB = true) : kInst .tuple x = .ok (.bl (instD x .tuple)) := by
  cases x <;> first | rfl | cases h
theorem kInst_list (x : D) (h : x.inB = true) : kInst .list x = .ok (.bl (instD x .list)) := by
  cases x <;> first | rfl | cases h
theorem kInst_int (x : D) (h : x.inB = true) : kInst .int x = .ok (.bl (instD x .int)) := by
  cases x <;> first | rfl | cases h
theorem kInst_str (x : D) (h : x.inB = true) : kInst .str x = .ok (.bl (instD x .str)) := by
  cases x <;> first | rfl | cases h
theorem kInst_bool (x : D) (h : x.inB = true) : kInst .bool x = .ok (.bl (instD x .bool)) := by
  cases x <;> first | rfl | cases h
theorem kInst_dict (x : D) (h : x.inB = true) : kInst .dict x = .ok (.bl (instD x .dict)) := by
  cases x <;> first | rfl | cases h
theorem inB_plain {x : D} (h : x.plain = true) : x.inB = true := by cases x <;> first | rfl | cases h
theorem kGet_ok (es : List E) (t : Bool) (kvs : List (D × D)) : kMe call .get es ρ (.dic t kvs) = (evEs call es ρ).bind (meD .get (.dic t kvs)) := rfl
theorem meD_get (t : Bool) (kvs : List (D × D)) (k d : D) (h : keyB t k = true) : meD .get (.dic t kvs) [k, d] = .ok ((dgetD kvs k).getD d) := by simp only [meD, h, if_true]
theorem kDcA_ok (t : Bool) (vs : List E) (kds : List D) : kDcA call t vs ρ kds = (evEs call vs ρ).bind (kDcB t kds) := rfl
theorem kDcB_nil (t : Bool) : kDcB t [] [] = .ok (.dic t []) := rfl
theorem kDcB_one (t : Bool) (k v : D) (h : keyB t k = true) : kDcB t [k] [v] = .ok (.dic t [(k, v)]) := by simp only [kDcB, zipPut, h, if_true]; rfl
theorem kMk_ok (c : Nat) (ds : List D) : kMk c ds = .ok (.obj c ds) := rfl
theorem kFld_ok (f : Nat) (fs : List D) : kFld f (.obj 8 fs) = .ofOpt fs[f]? := rfl
theorem kNt_ok (t : Bool) : kNt t = .ok (.bl (!t)) := rfl
/-! statements -/
def kSet (ρ : Env) (i : Nat) (d : D) : Fl := .nxt (ρ.set i (.val d))
def kOwn (ρ : Env) (i : Nat) (d : D) : Fl := match d with | .lst xs => .nxt (ρ.set i (.own (.lst xs))) | .dic t kvs => .nxt (ρ.set i (.own (.dic t kvs))) | _ => .bad
def kRetF (d : D) : Fl := if d.cell then .ret d else .bad
def kPutD (ρ : Env) (i : Nat) (t : Bool) (kvs : List (D × D)) (v k : D) : Fl := if keyB t k && decide (kvs.length < SZ) then .nxt (ρ.set i (.own (.dic t (dputD kvs k v)))) else .bad
def kPutL (ρ : Env) (i : Nat) (xs : List D) (v k : D) : Fl := match k with
  | .int j => (match ixn xs.length j with
    | some n => .nxt (ρ.set i (.own (.lst (xs.set n v))))
    | none => .bad)
  | _ => .bad
def putK (call : Nat → List D → Out D) (i : Nat) (ke : E) (ρ : Env) (s : Option Sl) (v : D) : Fl := match s with
  | some (.own (.dic t kvs)) => (evE call ke ρ).fl ρ (kPutD ρ i t kvs v)
  | some (.own (.lst xs)) => (evE call ke ρ).fl ρ (kPutL ρ i xs v)
  | _ => .bad
def kUnp (ρ : Env) (is : List Nat) (d : D) : Fl := match unpackD ρ is d with | some ρ' => .nxt ρ' | none => .bad
def kApp (ρ : Env) (i : Nat) (xs : List D) (d : D) : Fl := if xs.length < SZ then .nxt (ρ.set i (.own (.lst (xs ++ [d])))) else .bad
def kIf (call : Nat → List D → Out D) (w : Nat) (a b : List S) (ρ : Env) (t : Bool) : Fl := if t then evSs call w a ρ else evSs call w b ρ
def kFor (call : Nat → List D → Out D) (w : Nat) (i : Nat) (body : List S) (ρ : Env) (ds : List D) : Fl := forGo (fun ρ' => evSs call w body ρ') (fun ρ' d => some (ρ'.set i (.val d))) ds ρ
def kForT (call : Nat → List D → Out D) (w : Nat) (is : List Nat) (body : List S) (ρ : Env) (ds : List D) : Fl := forGo (fun ρ' => evSs call w body ρ') (fun ρ' d => unpackD ρ' is d) ds ρ
def kWhl (call : Nat → List D → Out D) (w : Nat) (c : E) (body : List S) (ρ : Env) : Fl := whlGo (fun ρ' => (evE call c ρ').bind truthy) (fun ρ' => evSs call w body ρ') w ρ
def kNx (ρ : Env) (_ : D) : Fl := .nxt ρ
def appK (call : Nat → List D → Out D) (i : Nat) (e : E) (ρ : Env) (s : Option Sl) : Fl := match s with
  | some (.own (.lst xs)) => (evE call e ρ).fl ρ (kApp ρ i xs)
  | _ => .bad
theorem evSs_nil : evSs call w [] ρ = .nxt ρ := rfl
theorem evSs_cons (s : S) (ss : List S) : evSs call w (s :: ss) ρ = (evS call w s ρ).seq (evSs call w ss) := rfl
theorem evS_set (i : Nat) (e : E) : evS call w (.set i e) ρ = if e.ownV ρ then .bad else (evE call e ρ).fl ρ (kSet ρ i) := rfl
theorem evS_own (i : Nat) (e : E) : evS call w (.own i e) ρ = if e.fresh then (evE call e ρ).fl ρ (kOwn ρ i) else .bad := rfl
theorem evS_retF (e : E) : evS call w (.retF e) ρ = if e.fresh then (evE call e ρ).fl ρ kRetF else .bad := rfl
theorem kRetF_lst (xs : List D) : kRetF (.lst xs) = .ret (.lst xs) := rfl
theorem evS_put (i : Nat) (ke ve : E) : evS call w (.put i ke ve) ρ = if ke.ownV ρ || ve.ownV ρ then .bad else (evE call ve ρ).fl ρ (putK call i ke ρ ρ[i]?) := rfl
theorem putK_dic (i : Nat) (ke : E) (t : Bool) (kvs : List (D × D)) (v : D) : putK call i ke ρ (some (.own (.dic t kvs))) v = (evE call ke ρ).fl ρ (kPutD ρ i t kvs v) := rfl
theorem putK_lst (i : Nat) (ke : E) (xs : List D) (v : D) : putK call i ke ρ (some (.own (.lst xs))) v = (evE call ke ρ).fl ρ (kPutL ρ i xs v) := rfl
theorem kPutD_ok (i : Nat) (t : Bool) (kvs : List (D × D)) (v k : D) (h : keyB t k = true) (h2 : kvs.length < SZ) : kPutD ρ i t kvs v k = .nxt (ρ.set i (.own (.dic t (dputD kvs k v)))) := by simp only [kPutD, h, decide_eq_true h2, Bool.and_self, if_true]
theorem evS_unp (is : List Nat) (e : E) : evS call w (.unp is e) ρ = if e.ownV ρ then .bad else (evE call e ρ).fl ρ (kUnp ρ is) := rfl
theorem evS_app (i : Nat) (e : E) : evS call w (.app i e) ρ = if e.ownV ρ then .bad else appK call i e ρ ρ[i]? := rfl
theorem appK_ok (i : Nat) (e : E) (xs : List D) : appK call i e ρ (some (.own (.lst xs))) = (evE call e ρ).fl ρ (kApp ρ i xs) := rfl
theorem evS_ret (e : E) : evS call w (.ret e) ρ = (evE call e ρ).fl ρ Fl.ret := rfl
theorem evS_retN : evS call w .retN ρ = .ret .non := rfl
theorem evS_ite (c : E) (a b : List S) : evS call w (.ite c a b) ρ = ((evE call c ρ).bind truthy).fl ρ (kIf call w a b ρ) := rfl
theorem evS_for (i : Nat) (it : Src) (b : List S) : evS call w (.for i it b) ρ = if it.ownV ρ then .bad else (evIt call it ρ).fl ρ (kFor call w i b ρ) := rfl
theorem evS_forT (is : List Nat) (it : Src) (b : List S) : evS call w (.forT is it b) ρ = if it.ownV ρ then .bad else (evIt call it ρ).fl ρ (kForT call w is b ρ) := rfl
theorem evS_whl (c : E) (b : List S) : evS call w (.whl c b) ρ = kWhl call w c b ρ := rfl
theorem evS_raise (c : Nat) : evS call w (.raise c) ρ = .exc c [] ρ := rfl
theorem evS_brk : evS call w .brk ρ = .brk ρ := rfl
theorem evS_cnt : evS call w .cnt ρ = .cnt ρ := rfl
theorem evS_pass : evS call w .pass ρ = .nxt ρ := rfl
theorem evS_expr (e : E) : evS call w (.expr e) ρ = (evE call e ρ).fl ρ (kNx ρ) := rfl
theorem evS_frz (j : Nat) (s : S) : evS call w (.frz j s) ρ = evS call w s (frzE ρ j) := rfl
def kTry (c i : Nat) (d : D) (x : Fl) : Fl := match x with
  | .exc c' fs ρ' => if plainC c' then (if subC c' c then (if i < ρ'.length then .ret d else .bad) else .exc c' fs ρ') else .bad
  | y => y
theorem evS_tryH (body : List S) (c i : Nat) (d : D) : evS call w (.tryH body c i d) ρ = kTry c i d (evSs call w body ρ) := rfl
def kTryC (c : Nat) (cs : List Nat) (j : Nat) (d : D) (x : Fl) : Fl := match x with
  | .exc c' fs ρ' => if c' ∈ cs then (if subC c' c then .nxt (ρ'.set j (.val d)) else .exc c' fs ρ') else .bad
  | y => y
theorem evS_tryC (body : List S) (c : Nat) (cs : List Nat) (j : Nat) (d : D) : evS call w (.tryC body c cs j d) ρ = kTryC c cs j d (evSs call w body ρ) := rfl
theorem kTry_ret (c i : Nat) (d e : D) : kTry c i d (.ret e) = .ret e := rfl
theorem kTry_nxt (c i : Nat) (d : D) : kTry c i d (.nxt ρ) = .nxt ρ := rfl
theorem kTry_same (c i : Nat) (d : D) (fs : List D) (hp : plainC c = true) (hi : decide (i < ρ.length) = true) : kTry c i d (.exc c fs ρ) = .ret d := by
  simp only [kTry, hp, subC, beq_self_eq_true, Bool.true_or, if_true, if_pos (of_decide_eq_true hi)]
theorem kSet_ok (i : Nat) (d : D) : kSet ρ i d = .nxt (ρ.set i (.val d)) := rfl
theorem kOwn_dic (i : Nat) (t : Bool) (kvs : List (D × D)) : kOwn ρ i (.dic t kvs) = .nxt (ρ.set i (.own (.dic t kvs))) := rfl
theorem kOwn_ok (i : Nat) (xs : List D) : kOwn ρ i (.lst xs) = .nxt (ρ.set i (.own (.lst xs))) := rfl
theorem kApp_ok (i : Nat) (xs : List D) (d : D) : kApp ρ i xs d = if xs.length < SZ then .nxt (ρ.set i (.own (.lst (xs ++ [d])))) else .bad := rfl
theorem kUnp_tup (is : List Nat) (xs : List D) : kUnp ρ is (.tup xs) = match setAll ρ is xs with | some ρ' => .nxt ρ' | none => .bad := rfl
theorem kIf_t (a b : List S) : kIf call w a b ρ true = evSs call w a ρ := rfl
theorem kIf_f (a b : List S) : kIf call w a b ρ false = evSs call w b ρ := rfl
theorem kNx_ok (d : D) : kNx ρ d = .nxt ρ := rfl
end
/-! values -/
section
variable (i j : Int) (a b : Tx) (xs ys : List D)
@[simp] theorem v_add : bopD .add (.int i) (.int j) = .ok (.int (i + j)) := rfl
@[simp] theorem v_sub : bopD .sub (.int i) (.int j) = .ok (.int (i - j)) := rfl
theorem v_addS (h : a.length + b.length ≤ SZ) : bopD .add (.str a) (.str b) = .ok (.str (a ++ b)) := by simp only [bopD, if_pos h]
theorem v_addL (h : xs.length + ys.length ≤ SZ) : bopD .add (.lst xs) (.lst ys) = .ok (.lst (xs ++ ys)) := by simp only [bopD, if_pos h]
theorem v_addT (h : xs.length + ys.length ≤ SZ) : bopD .add (.tup xs) (.tup ys) = .ok (.tup (xs ++ ys)) := by simp only [bopD, if_pos h]
theorem v_mul (h : mulOk i j = true) : bopD .mul (.int i) (.int j) = .ok (.int (i * j)) := by simp only [bopD, if_pos h]
theorem v_mulL {n : Nat} (h : n < 2 ^ 32) (h2 : xs.length * n ≤ SZ) : bopD .mul (.lst xs) (.int n) = .ok (.lst (List.replicate n xs).flatten) := by
  simp only [bopD]
  rw [if_pos ⟨by omega, by omega, by simpa using h2⟩]; simp
theorem v_fdiv (h0 : 0 < j) (h1 : j < 2 ^ 8000) : bopD .fdiv (.int i) (.int j) = .ok (.int (i / j)) := by simp only [bopD]; rw [if_pos ⟨h0, h1⟩]
theorem big_pow {j : Int} (h : j < 2 ^ 128) : j < 2 ^ 8000 := Int.lt_trans h (by decide +kernel)
theorem v_fdivK (h0 : decide (0 < j) = true) (h1 : decide (j < 2 ^ 128) = true) : bopD .fdiv (.int i) (.int j) = .ok (.int (i / j)) := v_fdiv i j (of_decide_eq_true h0) (big_pow (of_decide_eq_true h1))
theorem v_mod (h0 : 0 < j) : bopD .mod (.int i) (.int j) = .ok (.int (i % j)) := by simp only [bopD, if_pos h0]
theorem v_modK (h0 : decide (0 < j) = true) : bopD .mod (.int i) (.int j) = .ok (.int (i % j)) := v_mod i j (of_decide_eq_true h0)
theorem v_mulR (h : decide (j.natAbs < 2 ^ 64) = true) : bopD .mul (.int i) (.int j) = .ok (.int (i * j)) := v_mul i j (by simp only [mulOk, h, Bool.or_true, Bool.true_or])
theorem v_mulL' (h : decide (i.natAbs < 2 ^ 64) = true) : bopD .mul (.int i) (.int j) = .ok (.int (i * j)) := v_mul i j (by simp only [mulOk, h, Bool.true_or])
@[simp] theorem v_lt : cmpD .lt (.int i) (.int j) = .ok (.bl (decide (i < j))) := rfl
@[simp] theorem v_le : cmpD .le (.int i) (.int j) = .ok (.bl (decide (i ≤ j))) := rfl
@[simp] theorem v_gt : cmpD .gt (.int i) (.int j) = .ok (.bl (decide (j < i))) := rfl
@[simp] theorem v_ge : cmpD .ge (.int i) (.int j) = .ok (.bl (decide (j ≤ i))) := rfl
theorem v_eq (x y : D) : cmpD .eq x y = (eqD x y).map .bl := rfl
def kNe (b : Bool) : D := .bl (!b)
theorem v_ne (x y : D) : cmpD .ne x y = (eqD x y).map kNe := rfl
theorem kNe_ok (b : Bool) : kNe b = .bl (!b) := rfl
theorem v_in (x y : D) : cmpD .inn x y = (inD x y).map .bl := rfl
theorem v_nin (x y : D) : cmpD .nin x y = (inD x y).map kNe := rfl
def nonD : D → Bool
  | .non => true
  | _ => false
theorem nonD_non : nonD .non = true := rfl
theorem nonD_tup (xs : List D) : nonD (.tup xs) = false := rfl
theorem nonD_lst (xs : List D) : nonD (.lst xs) = false := rfl
theorem nonD_int (i : Int) : nonD (.int i) = false := rfl
theorem nonD_str (s : Tx) : nonD (.str s) = false := rfl
theorem nonD_bl (b : Bool) : nonD (.bl b) = false := rfl
theorem v_is (x : D) : cmpD .is x .non = .ok (.bl (nonD x)) := by cases x <;> rfl
theorem v_isn (x : D) : cmpD .isn x .non = .ok (.bl (!nonD x)) := by cases x <;> rfl
@[simp] theorem v_subT : subD (.tup xs) (.int i) = atD xs i := rfl
@[simp] theorem v_subL : subD (.lst xs) (.int i) = atD xs i := rfl
def kStr (c : Nat) : D := .str [c]
theorem v_subS : subD (.str a) (.int i) = (atD a i).map kStr := rfl
theorem kStr_ok (c : Nat) : kStr c = .str [c] := rfl
@[simp] theorem v_lenT : biD .len [.tup xs] = .ok (.int xs.length) := rfl
@[simp] theorem v_lenL : biD .len [.lst xs] = .ok (.int xs.length) := rfl
@[simp] theorem v_lenS : biD .len [.str a] = .ok (.int a.length) := rfl
@[simp] theorem v_max : biD .max [.int i, .int j] = .ok (.int (if j > i then j else i)) := rfl
@[simp] theorem v_min : biD .min [.int i, .int j] = .ok (.int (if j < i then j else i)) := rfl
@[simp] theorem v_listT : biD .list [.tup xs] = .ok (.lst xs) := rfl
@[simp] theorem v_listL : biD .list [.lst xs] = .ok (.lst xs) := rfl
@[simp] theorem v_tupleL : biD .tuple [.lst xs] = .ok (.tup xs) := rfl
@[simp] theorem v_intI : biD .int [.int i] = .ok (.int i) := rfl
@[simp] theorem it_lst : itemsD (.lst xs) = .ok xs := rfl
@[simp] theorem it_tup : itemsD (.tup xs) = .ok xs := rfl
@[simp] theorem it_str : itemsD (.str a) = .ok (a.map fun c => .str [c]) := rfl
end
theorem ret_out {x : Out D} {ρ : Env} : (x.fl ρ Fl.ret).out = x := by cases x <;> rfl
theorem ret_seq {x : Out D} {ρ : Env} {f : Env → Fl} : (x.fl ρ Fl.ret).seq f = x.fl ρ Fl.ret := by cases x <;> rfl
theorem eqD_int (i j : Int) : eqD (.int i) (.int j) = .ok (i == j) := by
  unfold eqD eqOk
  rw [if_pos (by simp [D.plain, D.dep])]; rfl
theorem eqD_bl (i j : Bool) : eqD (.bl i) (.bl j) = .ok (i == j) := by
  unfold eqD eqOk
  rw [if_pos (by simp [D.plain, D.dep])]; rfl
theorem eqD_ss (a b : Tx) : eqD (.str a) (.str b) = .ok (a == b) := by
  unfold eqD eqOk
  rw [if_pos (by simp [D.plain, D.dep])]; rfl
theorem eqD_lstE (xs : List D) (h : plainL xs = true) : eqD (.lst xs) (.lst []) = .ok xs.isEmpty := by
  unfold eqD eqOk
  rw [if_pos (by simp [D.plain, D.dep, depL, h, plainL])]
  cases xs <;> rfl
theorem b_int (i : Int) : boundD (.int i) = .ok (some i) := rfl
theorem b_non : boundD .non = .ok none := rfl
theorem kSlB_ok (x : D) (l h : Option Int) : kSlB x l h = sliceD x l h := rfl
theorem v_slS (s : Tx) (l h : Option Int) : sliceD (.str s) l h = .ok (.str (cut s l h)) := rfl
theorem v_slL (s : List D) (l h : Option Int) : sliceD (.lst s) l h = .ok (.lst (cut s l h)) := rfl

/-! ### pieces -/
/-- an index within -/
theorem at_mod {α : Type} {xs : List α} {i : Int} (h0 : 0 ≤ i) (h1 : i < xs.length) : ∃ x ∈ xs, atD xs i = .ok x := by
  obtain ⟨k, rfl⟩ := Int.eq_ofNat_of_zero_le h0
  have hk : k < xs.length := by omega
  exact ⟨xs[k], List.getElem_mem hk, atD_nat (List.getElem?_eq_getElem hk)⟩
theorem at_modn {α : Type} {xs : List α} (m : Int) (h : xs ≠ []) : ∃ x ∈ xs, atD xs (m % (xs.length : Int)) = .ok x := by
  have hl : 0 < xs.length := List.length_pos_iff.mpr h
  exact at_mod (Int.emod_nonneg _ (by omega)) (Int.emod_lt_of_pos _ (by omega))
theorem plain_mem : ∀ {xs : List D} {x : D}, plainL xs = true → x ∈ xs → x.plain = true
  | y :: ys, x, h, hx => by
    simp only [plainL, Bool.and_eq_true] at h
    rcases List.mem_cons.mp hx with rfl | hx
    · exact h.1
    · exact plain_mem h.2 hx
theorem dep_mem : ∀ {xs : List D} {x : D}, x ∈ xs → x.dep ≤ depL xs
  | y :: ys, x, hx => by
    rcases List.mem_cons.mp hx with rfl | hx
    · simp only [depL]; omega
    · have := dep_mem hx
      simp only [depL]; omega
theorem depL_le {xs : List D} {n : Nat} (h : ∀ x ∈ xs, x.dep ≤ n) : depL xs ≤ n := by
  induction xs with
  | nil => simp [depL]
  | cons x xs ih =>
    have h1 := h x List.mem_cons_self
    have h2 := ih fun y hy => h y (List.mem_cons_of_mem _ hy)
    simp only [depL]; omega
theorem plainL_of {xs : List D} (h : ∀ x ∈ xs, x.plain = true) : plainL xs = true := by
  induction xs with
  | nil => rfl
  | cons x xs ih => simp only [plainL, h x List.mem_cons_self, ih fun y hy => h y (List.mem_cons_of_mem _ hy), Bool.and_self]
theorem plainL_app {xs ys : List D} : plainL (xs ++ ys) = (plainL xs && plainL ys) := by
  induction xs with
  | nil => simp [plainL]
  | cons x xs ih => simp [plainL, ih, Bool.and_assoc]
theorem depL_app {xs ys : List D} : depL (xs ++ ys) = max (depL xs) (depL ys) := by
  induction xs with
  | nil => simp [depL]
  | cons x xs ih => simp only [List.cons_append, depL, ih]; omega
theorem eqD_str {x : D} (s : Tx) (h : x.plain = true) : eqD x (.str s) = .ok (x.eqv (.str s)) := by
  unfold eqD eqOk
  rw [if_pos]
  simp [h, D.plain, D.dep]
theorem eqD_of {x y : D} (hx : x.plain = true) (hy : y.plain = true) (hd : min x.dep y.dep ≤ 64) : eqD x y = .ok (x.eqv y) := by
  unfold eqD eqOk
  rw [if_pos]
  simp only [hx, hy, Bool.and_self, Bool.true_and, decide_eq_true_eq]; exact hd
theorem forGo_inv {body : Env → Fl} {bnd : Env → D → Option Env} (I : Env → Prop) : ∀ {ds : List D} {ρ : Env}, I ρ → (∀ d ∈ ds, ∀ ρ, I ρ → ∃ ρ1 ρ2, bnd ρ d = some ρ1 ∧ (body ρ1 = .nxt ρ2 ∨ body ρ1 = .cnt ρ2) ∧ I ρ2) → ∃ ρ', forGo body bnd ds ρ = .nxt ρ' ∧ I ρ'
  | [], ρ, h, _ => ⟨ρ, rfl, h⟩
  | d :: ds, ρ, h, k => by
    obtain ⟨ρ1, ρ2, h1, h2, h3⟩ := k d List.mem_cons_self ρ h
    obtain ⟨ρ', q1, q2⟩ := forGo_inv I (ds := ds) h3 fun d hd => k d (List.mem_cons_of_mem _ hd)
    refine ⟨ρ', ?_, q2⟩
    unfold forGo
    rw [h1]
    rcases h2 with h2 | h2 <;> (simp only [h2]; exact q1)
/-- with the place that is reached -/
theorem forGo_ix {body : Env → Fl} {bnd : Env → D → Option Env} (I : Nat → Env → Prop) : ∀ {ds : List D} {ρ : Env} (i : Nat), I i ρ → (∀ j d, ds[j]? = some d → ∀ ρ, I (i + j) ρ → ∃ ρ1 ρ2, bnd ρ d = some ρ1 ∧ (body ρ1 = .nxt ρ2 ∨ body ρ1 = .cnt ρ2) ∧ I (i + j + 1) ρ2) → ∃ ρ', forGo body bnd ds ρ = .nxt ρ' ∧ I (i + ds.length) ρ'
  | [], ρ, i, h, _ => ⟨ρ, rfl, h⟩
  | d :: ds, ρ, i, h, k => by
    obtain ⟨ρ1, ρ2, h1, h2, h3⟩ := k 0 d rfl ρ h
    obtain ⟨ρ', q1, q2⟩ := forGo_ix I (ds := ds) (i + 1) h3 fun j d hd ρ hI => by
      have e : i + 1 + j = i + (j + 1) := by omega
      have e2 : i + 1 + j + 1 = i + (j + 1) + 1 := by omega
      rw [e2]
      rw [e] at hI
      exact k (j + 1) d (by simpa using hd) ρ hI
    refine ⟨ρ', ?_, by have e : i + 1 + ds.length = i + (d :: ds).length := by simp; omega
                       rw [← e]; exact q2⟩
    unfold forGo
    rw [h1]
    rcases h2 with h2 | h2 <;> (simp only [h2]; exact q1)
theorem whlGo_inv {c : Env → Out Bool} {body : Env → Fl} (I : Nat → Env → Prop) (st : ∀ m ρ, I m ρ → c ρ = .ok false ∨ (c ρ = .ok true ∧ ∃ ρ' m', (body ρ = .nxt ρ' ∨ body ρ = .cnt ρ') ∧ m' < m ∧ I m' ρ')) : ∀ (n m : Nat) (ρ : Env), m < n → I m ρ → ∃ ρ' m', whlGo c body n ρ = .nxt ρ' ∧ I m' ρ' ∧ c ρ' = .ok false
  | 0, m, ρ, h, _ => by omega
  | n + 1, m, ρ, h, hI => by
    rcases st m ρ hI with q | ⟨q, ρ', m', q2, q3, q4⟩
    · exact ⟨ρ, m, by simp [whlGo, q], hI, q⟩
    · obtain ⟨ρ2, m2, r1, r2⟩ := whlGo_inv I st n m' ρ' (by omega) q4
      refine ⟨ρ2, m2, ?_, r2⟩
      rcases q2 with q2 | q2 <;> (simp only [whlGo, q, fl_ok, if_true, q2]; exact r1)
/-- a comprehension whose condition, element raise nothing -/
theorem compGo_all {elt c : Env → Out D} {x : Nat} {ρ : Env} (f : D → D) (b : D → Bool) : ∀ {ds : List D}, (∀ d ∈ ds, ((c (ρ.set x (.val d))).bind truthy) = .ok (b d) ∧ (b d = true → elt (ρ.set x (.val d)) = .ok (f d))) → compGo elt c x ρ ds = .ok ((ds.filter b).map f)
  | [], _ => rfl
  | d :: ds, h => by
    obtain ⟨h1, h2⟩ := h d List.mem_cons_self
    have ih := compGo_all (elt := elt) (c := c) f b (ds := ds) fun e he => h e (List.mem_cons_of_mem _ he)
    unfold compGo
    rw [h1]
    simp only [calm_ok, Out.bind_ok, ih]
    cases e : b d with
    | false => simp [e]
    | true => simp [e, h2 e]
theorem compGo_map {elt c : Env → Out D} {x : Nat} {ρ : Env} (f : D → D) {ds : List D} (hc : ∀ ρ, c ρ = .ok (.bl true)) (h : ∀ d ∈ ds, elt (ρ.set x (.val d)) = .ok (f d)) : compGo elt c x ρ ds = .ok (ds.map f) := by
  rw [compGo_all f (fun _ => true) fun d hd => ⟨by rw [hc]; rfl, fun _ => h d hd⟩, List.filter_eq_self.mpr fun _ _ => rfl]
/-- the same told by a promise on each item -/
theorem compGo_ex {elt c : Env → Out D} {x : Nat} {ρ : Env} (P : D → Prop) (hc : ∀ ρ, c ρ = .ok (.bl true)) : ∀ {ds : List D}, (∀ d ∈ ds, ∃ y, elt (ρ.set x (.val d)) = .ok y ∧ P y) → ∃ ys, compGo elt c x ρ ds = .ok ys ∧ ys.length = ds.length ∧ ∀ y ∈ ys, P y
  | [], _ => ⟨[], rfl, rfl, fun y hy => by cases hy⟩
  | d :: ds, h => by
    obtain ⟨y, h1, h2⟩ := h d List.mem_cons_self
    obtain ⟨ys, q1, q2, q3⟩ := compGo_ex P hc (ds := ds) fun e he => h e (List.mem_cons_of_mem _ he)
    refine ⟨y :: ys, ?_, by simp [q2], fun z hz => by
      rcases List.mem_cons.mp hz with rfl | hz
      · exact h2
      · exact q3 z hz⟩
    unfold compGo
    simp [hc, h1, q1]
theorem rngL_mem {lo st : Int} {n : Nat} {d : D} (h : d ∈ rngL lo st n) : ∃ k : Nat, k < n ∧ d = .int (lo + k * st) := by
  unfold rngL at h
  obtain ⟨k, hk, rfl⟩ := List.mem_map.mp h
  exact ⟨k, List.mem_range.mp hk, rfl⟩
theorem small_of {i : Int} (h0 : -1000000000 ≤ i) (h1 : i ≤ 1000000000) : small62 i = true := by
  simp only [small62, Bool.and_eq_true, decide_eq_true_eq]; omega
theorem rngD1 {i : Int} (h0 : -1000000000 ≤ i) (h1 : i ≤ 1000000000) : rngD [.int i] = .ok (rngL 0 1 i.toNat) := by
  simp [rngD, small_of h0 h1]
section
variable {call : Nat → List D → Out D} {w : Nat}
theorem kFor_ix {i : Nat} {body : List S} (I : Nat → Env → Prop) {ds : List D} {ρ : Env} (h0 : I 0 ρ) (st : ∀ j d, ds[j]? = some d → ∀ ρ, I j ρ → ∃ ρ2, (evSs call w body (ρ.set i (.val d)) = .nxt ρ2 ∨ evSs call w body (ρ.set i (.val d)) = .cnt ρ2) ∧ I (j + 1) ρ2) :
    ∃ ρ', kFor call w i body ρ ds = .nxt ρ' ∧ I ds.length ρ' := by
  obtain ⟨ρ', q1, q2⟩ := forGo_ix (body := fun ρ' => evSs call w body ρ') (bnd := fun ρ' d => some (ρ'.set i (.val d))) I (ds := ds) (ρ := ρ) 0 h0 fun j d hd ρ hI => by
    rw [Nat.zero_add] at hI
    obtain ⟨ρ2, h1, h2⟩ := st j d hd ρ hI
    exact ⟨_, ρ2, rfl, h1, by rw [Nat.zero_add]; exact h2⟩
  exact ⟨ρ', q1, by rw [Nat.zero_add] at q2; exact q2⟩
theorem kFor_inv {i : Nat} {body : List S} (I : Env → Prop) {ds : List D} {ρ : Env} (h0 : I ρ) (st : ∀ d ∈ ds, ∀ ρ, I ρ → ∃ ρ2, (evSs call w body (ρ.set i (.val d)) = .nxt ρ2 ∨ evSs call w body (ρ.set i (.val d)) = .cnt ρ2) ∧ I ρ2) :
    ∃ ρ', kFor call w i body ρ ds = .nxt ρ' ∧ I ρ' := kFor_ix (fun _ => I) h0 fun _ d hd ρ hI => st d (List.mem_of_getElem? hd) ρ hI
theorem kWhl_inv {c : E} {body : List S} (I : Nat → Env → Prop) (st : ∀ m ρ, I m ρ → ((evE call c ρ).bind truthy) = .ok false ∨ (((evE call c ρ).bind truthy) = .ok true ∧ ∃ ρ' m', (evSs call w body ρ = .nxt ρ' ∨ evSs call w body ρ = .cnt ρ') ∧ m' < m ∧ I m' ρ')) {m : Nat} {ρ : Env} (h : m < w) (h0 : I m ρ) :
    ∃ ρ' m', kWhl call w c body ρ = .nxt ρ' ∧ I m' ρ' ∧ ((evE call c ρ').bind truthy) = .ok false := whlGo_inv (c := fun ρ' => (evE call c ρ').bind truthy) (body := fun ρ' => evSs call w body ρ') I st w m ρ h h0
theorem kGo_ex {x : Nat} {e : E} {ρ : Env} (P : D → Prop) {ds : List D} (h : ∀ d ∈ ds, ∃ y, evE call e (ρ.set x (.val d)) = .ok y ∧ P y) : ∃ ys, kGo call x e (.const (.bl true)) ρ ds = .ok ys ∧ ys.length = ds.length ∧ ∀ y ∈ ys, P y :=
  compGo_ex (elt := fun ρ' => evE call e ρ') (c := fun ρ' => evE call (.const (.bl true)) ρ') P (fun _ => rfl) h
theorem kGo_map {x : Nat} {e : E} {ρ : Env} (f : D → D) {ds : List D} (h : ∀ d ∈ ds, evE call e (ρ.set x (.val d)) = .ok (f d)) : kGo call x e (.const (.bl true)) ρ ds = .ok (ds.map f) :=
  compGo_map (elt := fun ρ' => evE call e ρ') (c := fun ρ' => evE call (.const (.bl true)) ρ') f (fun _ => rfl) h
theorem kGo_all {x : Nat} {e c : E} {ρ : Env} (f : D → D) (b : D → Bool) {ds : List D} (h : ∀ d ∈ ds, ((evE call c (ρ.set x (.val d))).bind truthy) = .ok (b d) ∧ (b d = true → evE call e (ρ.set x (.val d)) = .ok (f d))) : kGo call x e c ρ ds = .ok ((ds.filter b).map f) :=
  compGo_all (elt := fun ρ' => evE call e ρ') (c := fun ρ' => evE call c ρ') f b h
end
end Rf

local macro_rules | `(tactic| simp! [$ls,*]) => `(tactic| simp -implicitDefEqProofs -failIfUnchanged only [Rf.evSs_nil, Rf.evSs_cons, Rf.evE_var, Rf.evE_const, Rf.evE_tup, Rf.evE_lst, Rf.evE_bop, Rf.evE_neg, Rf.evE_not, Rf.evE_cmp, Rf.evE_cmp2, Rf.evE_and, Rf.evE_or, Rf.evE_ite, Rf.evE_call, Rf.evE_bi, Rf.evE_inst, Rf.evE_me, Rf.evE_dct, Rf.evE_mk, Rf.evE_fld, Rf.evE_sub, Rf.evE_slice, Rf.evE_comp, Rf.evE_thk, Rf.thk_e0, Rf.thk_e1, Rf.thk_ok', Rf.evEs_nil, Rf.evEs_cons, Rf.evIt_of, Rf.evIt_rng, Rf.evIt_rev, Rf.kNot_ok, Rf.kBop_ok, Rf.kCmp_ok, Rf.kCmpA_ok, Rf.kCmpB_ok, Rf.kCmpC_ok, Rf.kCmpD_t, Rf.kCmpD_f, Rf.kAnd_ok, Rf.kAnB_t, Rf.kAnB_f, Rf.kOr_ok, Rf.kOrB_t, Rf.kOrB_f, Rf.kItB_t, Rf.kItB_f, Rf.kCall_f, Rf.kSub_ok, Rf.kSl_ok, Rf.kSlA_ok, Rf.kEs_ok, Rf.kCons_ok, Rf.kComp_ok, Rf.kInst_tuple, Rf.kInst_list, Rf.kInst_int, Rf.kInst_str, Rf.kInst_bool, Rf.kInst_dict, Rf.inB_tup, Rf.inB_lst, Rf.inB_int, Rf.inB_str, Rf.inB_bl, Rf.inB_non, Rf.inB_dic, Rf.kGet_ok, Rf.kDcA_ok, Rf.kDcB_nil, Rf.kMk_ok, Rf.kFld_ok, Rf.kNt_ok, Rf.kNeg_int, Rf.kRev_lst, Rf.evS_set, Rf.evS_own, Rf.evS_unp, Rf.evS_app, Rf.appK_ok, Rf.evS_put, Rf.putK_dic, Rf.putK_lst, Rf.evS_retF, Rf.kRetF_lst, Rf.kOwn_dic, Rf.evS_ret, Rf.evS_retN, Rf.evS_ite, Rf.evS_for, Rf.evS_forT, Rf.evS_whl, Rf.evS_raise, Rf.evS_brk, Rf.evS_cnt, Rf.evS_pass, Rf.evS_expr, Rf.evS_frz, Rf.evS_tryH, Rf.kTry_ret, Rf.kTry_nxt, Rf.kSet_ok, Rf.kOwn_ok, Rf.kIf_t, Rf.kIf_f, Rf.kNx_ok, Rf.getV, Rf.frzE, List.getElem?_cons_zero, List.getElem?_cons_succ, Rf.Out.bind_ok, Rf.Out.bind_exc, Rf.Out.bind_bad, Rf.Out.map_ok, Rf.Out.ofOpt_some, Rf.fl_ok, Rf.fl_exc, Rf.fl_bad, Rf.seq_nxt, Rf.seq_ret, Rf.seq_brk, Rf.seq_cnt, Rf.seq_exc, Rf.seq_bad, Rf.out_nxt, Rf.out_ret, Rf.out_exc, Rf.out_bad, Rf.ret_out, Rf.ret_seq, Rf.E.ownV, Rf.Src.ownV, Rf.ownL, List.any_cons, List.any_nil, Bool.or_false, Bool.false_or, Bool.or_self, if_true, if_false, ite_true, ite_false, Bool.false_eq_true, List.set_cons_zero, List.set_cons_succ, Rf.truthy_bl, Rf.truthy_int, Bool.not_true, Bool.not_false, Rf.instD, Rf.E.fresh, Bool.or_true, Bool.true_or, Rf.v_add, Rf.v_sub, Rf.v_lt, Rf.v_le, Rf.v_gt, Rf.v_ge, Rf.v_eq, Rf.v_ne, Rf.kNe_ok, Rf.v_in, Rf.v_nin, Rf.v_is, Rf.v_isn, Rf.v_subT, Rf.v_subL, Rf.v_lenT, Rf.v_lenL, Rf.v_lenS, Rf.v_listT, Rf.v_listL, Rf.v_tupleL, Rf.v_intI, Rf.it_lst, Rf.it_tup, Rf.eqD_int, Rf.eqD_ss, Rf.eqD_bl, Rf.at0, Rf.at1, Rf.at2, Rf.nonD_non, Rf.nonD_tup, Rf.nonD_lst, Rf.nonD_int, Rf.nonD_str, Rf.nonD_bl, Bool.not_not, List.length_cons, List.length_nil, Nat.zero_add, Nat.reduceAdd, Int.cast_ofNat_Int, Int.reduceBEq, Int.reduceLT, Int.reduceLE, Int.reduceGT, Int.reduceAdd, Int.reduceSub, Int.reduceMul, Int.reduceMod, Int.reduceDiv, Int.reduceNeg, decide_true, decide_false, Int.add_zero, Int.zero_add, Int.sub_zero, Rf.v_modK, Rf.v_fdivK, Rf.v_mulR, Rf.v_mulL', Int.reducePow, Nat.reducePow, Nat.reduceLT, Int.reduceAbs, eq_self, Rf.b_int, Rf.b_non, Rf.kSlB_ok, Rf.v_slS, Rf.v_slL, Rf.kUnp_tup, Rf.setAll, $ls,*])

/-! part RfDat -/
set_option autoImplicit false
set_option linter.all false
set_option Elab.async false
set_option maxRecDepth 100000
set_option maxHeartbeats 2000000
/-! RfDat: sorts, terms; the defs about sorts. -/
namespace Rf
inductive Srt where
  | t | i | f (a b : Srt)
  deriving DecidableEq, Inhabited
def Srt.d : Srt → D
  | .t => .str [116]
  | .i => .str [105]
  | .f a b => .tup [a.d, b.d]
def Srt.dp : Srt → Nat
  | .t => 0
  | .i => 0
  | .f a b => 1 + max a.dp b.dp
theorem Srt.plain : ∀ s : Srt, s.d.plain = true
  | .t => rfl
  | .i => rfl
  | .f a b => by simp [Srt.d, D.plain, plainL, Srt.plain a, Srt.plain b]
theorem Srt.dep : ∀ s : Srt, s.d.dep = s.dp
  | .t => rfl
  | .i => rfl
  | .f a b => by simp only [Srt.d, D.dep, depL, Srt.dep a, Srt.dep b, Srt.dp]; omega
theorem Srt.inj : ∀ {a b : Srt}, a.d = b.d → a = b
  | .t, .t, _ => rfl
  | .t, .i, h => by simp [Srt.d] at h
  | .t, .f _ _, h => by simp [Srt.d] at h
  | .i, .t, h => by simp [Srt.d] at h
  | .i, .i, _ => rfl
  | .i, .f _ _, h => by simp [Srt.d] at h
  | .f _ _, .t, h => by simp [Srt.d] at h
  | .f _ _, .i, h => by simp [Srt.d] at h
  | .f a b, .f c e, h => by
    simp only [Srt.d, D.tup.injEq, List.cons.injEq, and_true] at h
    rw [Srt.inj h.1, Srt.inj h.2]
theorem Srt.eqv : ∀ (a b : Srt), a.d.eqv b.d = decide (a = b)
  | .t, .t => rfl
  | .t, .i => rfl
  | .t, .f _ _ => rfl
  | .i, .t => rfl
  | .i, .i => rfl
  | .i, .f _ _ => rfl
  | .f _ _, .t => rfl
  | .f _ _, .i => rfl
  | .f a b, .f c e => by
    simp only [Srt.d, D.eqv, eqvL, Srt.eqv a c, Srt.eqv b e, Bool.and_true]
    by_cases h : a = c <;> by_cases h2 : b = e <;> simp [h, h2]
theorem Srt.eqD (a b : Srt) (h : min a.dp b.dp ≤ 64) : eqD a.d b.d = .ok (decide (a = b)) := by
  rw [eqD_of a.plain b.plain (by rw [a.dep, b.dep]; exact h), Srt.eqv]
/-- sort_depth -/
theorem maxI (a b : Nat) : (if (b : Int) > (a : Int) then (b : Int) else a) = ((max a b : Nat) : Int) := by
  split <;> omega
theorem sort_depth_ok : ∀ (s : Srt) (n : Nat), s.dp < n → R n 8 [s.d] = .ok (.int s.dp)
  | .t, n + 1, _ => by (rw [R_at lib8 rfl]; simp only [F8, start, List.map_cons, List.map_nil, List.cons_append, List.nil_append, Nat.reduceSub, List.replicate, List.append_nil, Nat.sub_self]); simp! []; rfl
  | .i, n + 1, _ => by (rw [R_at lib8 rfl]; simp only [F8, start, List.map_cons, List.map_nil, List.cons_append, List.nil_append, Nat.reduceSub, List.replicate, List.append_nil, Nat.sub_self]); simp! []; rfl
  | .f a b, n + 1, h => by
    have h1 : a.dp < n := by simp only [Srt.dp] at h; omega
    have h2 : b.dp < n := by simp only [Srt.dp] at h; omega
    (rw [R_at lib8 rfl]; simp only [F8, start, List.map_cons, List.map_nil, List.cons_append, List.nil_append, Nat.reduceSub, List.replicate, List.append_nil, Nat.sub_self])
    simp only [Srt.d]
    simp! []
    simp! [sort_depth_ok a n h1, sort_depth_ok b n h2, v_max, maxI]
    simp [Srt.dp]
  | s, 0, h => by omega
end Rf

/-! part RfDat2 -/
set_option autoImplicit false
set_option linter.all false
set_option Elab.async false
set_option maxRecDepth 100000
set_option maxHeartbeats 2000000
namespace Rf
/-- a sort at most n deep -/
def mde : Nat → D → Bool
  | 0, x => x.eqv (.str [116]) || x.eqv (.str [105])
  | n + 1, x => (x.eqv (.str [116]) || x.eqv (.str [105])) || (match x with | .tup [a, b] => mde n a && mde n b | _ => false)
theorem eqv_str {x : D} {s : Tx} (h : x.eqv (.str s) = true) : x = .str s := by
  cases x <;> simp [D.eqv] at h
  rw [h]
theorem mde_srt : ∀ {n : Nat} {x : D}, mde n x = true → ∃ s : Srt, x = s.d ∧ s.dp ≤ n
  | 0, x, h => by
    simp only [mde, Bool.or_eq_true] at h
    rcases h with h | h
    · exact ⟨.t, eqv_str h, Nat.le_refl _⟩
    · exact ⟨.i, eqv_str h, Nat.le_refl _⟩
  | n + 1, x, h => by
    simp only [mde, Bool.or_eq_true] at h
    rcases h with (h | h) | h
    · exact ⟨.t, eqv_str h, Nat.zero_le _⟩
    · exact ⟨.i, eqv_str h, Nat.zero_le _⟩
    · split at h
      · rename_i a b
        simp only [Bool.and_eq_true] at h
        obtain ⟨s, rfl, h1⟩ := mde_srt h.1
        obtain ⟨u, rfl, h2⟩ := mde_srt h.2
        exact ⟨.f s u, rfl, by simp only [Srt.dp]; omega⟩
      · cases h
theorem mde_d : ∀ {n : Nat} (s : Srt), mde n s.d = decide (s.dp ≤ n)
  | 0, .t => rfl
  | 0, .i => rfl
  | 0, .f a b => by simp [mde, Srt.d, D.eqv, Srt.dp]
  | n + 1, .t => by simp [mde, Srt.d, D.eqv, Srt.dp]
  | n + 1, .i => by simp [mde, Srt.d, D.eqv, Srt.dp]
  | n + 1, .f a b => by
    simp only [mde, Srt.d, D.eqv, Bool.false_or, mde_d a, mde_d b, Srt.dp]
    rw [Bool.eq_iff_iff]
    simp only [Bool.and_eq_true, decide_eq_true_eq]
    constructor
    · intro h; exact decide_eq_true (by omega)
    · intro h; have h := of_decide_eq_true h; omega
theorem int_eq0 (k : Nat) : ((k : Int) == 0) = (k == 0) := by
  cases k <;> simp <;> omega
theorem ob {α : Type} (x : α) : (Out.ok x).bind = fun (f : α → Out D) => f x := rfl
theorem made_ok : ∀ (left n : Nat) (x : D), x.plain = true → left < n → R n 9 [x, .int left] = .ok (.bl (mde left x))
  | left, 0, x, _, h => by omega
  | left, n + 1, x, hp, h => by
    (rw [R_at lib9 rfl]; simp only [F9, start, List.map_cons, List.map_nil, List.cons_append, List.nil_append, Nat.reduceSub, List.replicate, List.append_nil, Nat.sub_self])
    simp! [eqD_str _ hp]
    cases h1 : x.eqv (.str [116]) with
    | true => simp! []; cases left <;> simp [mde, h1]
    | false =>
      simp! [eqD_str _ hp]
      cases h2 : x.eqv (.str [105]) with
      | true => simp! []; cases left <;> simp [mde, h2]
      | false =>
        simp! []
        cases x with
        | tup xs =>
          simp! []
          match xs with
          | [] => simp! []; cases left <;> simp [mde, h1, h2]
          | [a] => simp! []; cases left <;> simp [mde, h1, h2]
          | [a, b] =>
            simp only [D.plain, plainL, Bool.and_eq_true] at hp
            cases left with
            | zero => simp! [show (((0:Nat):Int) == 0) = true from rfl]; simp [mde, h1, h2]
            | succ left =>
              have e : ((left + 1 : Nat) : Int) - 1 = (left : Int) := by omega
              have e2 : (((left + 1 : Nat) : Int) == 0) = false := by rw [int_eq0]; rfl
              have e3 : ((([a, b] : List D).length : Int) == 2) = true := rfl
              simp! [e, e2, e3, made_ok left n a hp.1 (by omega)]
              cases h3 : mde left a <;> simp! [e, made_ok left n b hp.2.1 (by omega)] <;> simp [mde, h1, h2, h3]
          | a :: b :: c :: r => 
            have e : ((((r.length + 1 + 1 + 1 : Nat) : Int)) == 2) = false := by
              simp only [beq_eq_false_iff_ne, ne_eq]; omega
            simp! [e]
            cases left <;> simp [mde, h1, h2]
        | obj c fs => cases hp
        | exn c fs => cases hp
        | _ => simp! []; cases left <;> simp [mde, h1, h2]
theorem is_sort_ok (n : Nat) (x : D) (hp : x.plain = true) (h : 6 < n) : R n 10 [x] = .ok (.bl (mde 5 x)) := by
  obtain ⟨n, rfl⟩ : ∃ m, n = m + 1 := ⟨n - 1, by omega⟩
  (rw [R_at lib10 rfl]; simp only [F10, start, List.map_cons, List.map_nil, List.cons_append, List.nil_append, Nat.reduceSub, List.replicate, List.append_nil, Nat.sub_self])
  have q : R n 9 [x, .int 5] = _ := made_ok 5 n x hp (by omega)
  simp! [q]
end Rf

/-! part RfTm -/
set_option autoImplicit false
set_option linter.all false
set_option Elab.async false
set_option maxRecDepth 100000
set_option maxHeartbeats 2000000
/-! RfTm: names, terms and what sort they are of. -/
namespace Rf
abbrev LET : Tx := [97, 98, 99, 100, 101, 102, 103, 104, 105, 106, 107, 108, 109, 110, 111, 112, 113, 114, 115, 116, 117, 118, 119, 120, 121, 122]
abbrev FIG : Tx := [48, 49, 50, 51, 52, 53, 54, 55, 56, 57]
abbrev FREE : Tx := [102, 114, 101, 101]
abbrev BOUND : Tx := [98, 111, 117, 110, 100]
abbrev SAME : Tx := [115, 97, 109, 101]
abbrev FOR : Tx := [102, 111, 114]
abbrev OF : Tx := [111, 102]
/-! ### names -/
def sgn (c : Nat) : Bool := decide (c ∈ LET) || decide (c ∈ FIG)
def nmB : Tx → Bool
  | [] => false
  | c :: r => decide (r.length ≤ 7) && (decide (c ∈ LET) && (c :: r).all sgn)
def nmD : D → Bool
  | .str x => nmB x
  | _ => false
theorem v_inS (c : Nat) (s : Tx) : inD (.str [c]) (.str s) = .ok (decide (c ∈ s)) := rfl
theorem bools_map (bs : List Bool) : boolsD (bs.map .bl) = .ok bs := by
  induction bs with
  | nil => rfl
  | cons b bs ih => simp [boolsD, ih]
theorem all_bl (bs : List Bool) : biD .all [.lst (bs.map .bl)] = .ok (.bl (bs.all id)) := by simp [biD, bools_map]
def sgnD (f : Nat → Bool) : D → D
  | .str [c] => .bl (f c)
  | _ => .bl false
theorem sgn_map (f : Nat → Bool) (s : Tx) : (s.map fun c => D.str [c]).map (sgnD f) = (s.map f).map D.bl := by
  induction s with
  | nil => rfl
  | cons c s ih => simp [sgnD]
theorem all_map (f : Nat → Bool) (s : Tx) : (s.map f).all id = s.all f := by
  induction s with
  | nil => rfl
  | cons c s ih => simp [ih]
theorem sz_le {n : Nat} (h : n ≤ 1000000) : n ≤ SZ := Nat.le_trans h (by decide)
theorem is_name_ok (n : Nat) (x : D) (hb : x.inB = true) : R (n + 1) 22 [x] = .ok (.bl (nmD x)) := by
  (rw [R_at lib22 rfl]; simp only [F22, start, List.map_cons, List.map_nil, List.cons_append, List.nil_append, Nat.reduceSub, List.replicate, List.append_nil, Nat.sub_self])
  simp! [hb]
  cases x with
  | str s =>
    match s with
    | [] => simp! []; rfl
    | c :: r =>
      have e1 : decide ((1 : Int) ≤ ((r.length + 1 : Nat) : Int)) = true := by simp; omega
      simp! [e1]
      by_cases h8 : r.length ≤ 7
      · have e2 : decide (((r.length + 1 : Nat) : Int) ≤ 8) = true := by simp; omega
        simp! [e2, v_subS, kStr_ok, v_inS]
        by_cases hc : c ∈ LET
        · have e3 : decide (c ∈ LET) = true := decide_eq_true hc
          simp! [e3, it_str, kGo]
          rw [compGo_map (sgnD sgn) (fun _ => rfl) (fun d hd => ?_)]
          · rw [sgn_map]
            simp! [kLst, List.length_map, sz_le (show r.length + 1 ≤ 1000000 by omega), all_bl, all_map]
            simp [nmD, nmB, h8, hc]
          · obtain ⟨k, hk, rfl⟩ := List.mem_map.mp hd
            simp! [v_inS]
            cases h1 : decide (k ∈ LET) <;> simp! [v_inS] <;> simp only [sgnD, sgn, h1, Bool.true_or, Bool.false_or]
        · have e3 : decide (c ∈ LET) = false := decide_eq_false hc
          simp! [e3]
          simp [nmD, nmB, hc]
      · have e2 : decide (((r.length + 1 : Nat) : Int) ≤ 8) = false := by simp; omega
        simp! [e2]
        simp [nmD, nmB, h8]
  | obj c fs => cases hb
  | exn c fs => cases hb
  | _ => simp! []; rfl
theorem sgn_app (c : Nat) : decide (c ∈ LET ++ FIG) = sgn c := by
  rw [Bool.eq_iff_iff]; simp only [List.mem_append, decide_eq_true_eq, sgn, Bool.or_eq_true]
theorem is_whole_ok (n : Nat) (x : D) (hb : x.inB = true) : R (n + 1) 12 [x] = .ok (.bl (match x with | .int _ => true | _ => false)) := by
  (rw [R_at lib12 rfl]; simp only [F12, start, List.map_cons, List.map_nil, List.cons_append, List.nil_append, Nat.reduceSub, List.replicate, List.append_nil, Nat.sub_self])
  cases x <;> first | (cases hb; done) | (simp! [] <;> rfl)
/-! ### sorts told of any thing -/
open Classical in
noncomputable def asS (x : D) : Option Srt := if h : mde 5 x = true then some (mde_srt h).choose else none
theorem asS_of {x : D} {s : Srt} (h : asS x = some s) : x = s.d ∧ s.dp ≤ 5 ∧ mde 5 x = true := by
  unfold asS at h
  split at h
  · rename_i q
    cases h
    exact ⟨(mde_srt q).choose_spec.1, (mde_srt q).choose_spec.2, q⟩
  · cases h
theorem asS_d (s : Srt) : asS s.d = if s.dp ≤ 5 then some s else none := by
  unfold asS
  by_cases h : s.dp ≤ 5
  · have q : mde 5 s.d = true := by rw [mde_d]; exact decide_eq_true h
    rw [dif_pos q, if_pos h]
    exact congrArg some (Srt.inj (mde_srt q).choose_spec.1).symm
  · have q : ¬ mde 5 s.d = true := by rw [mde_d]; simp [h]
    rw [dif_neg q, if_neg h]
theorem asS_none {x : D} : asS x = none ↔ mde 5 x = false := by
  unfold asS
  split
  · rename_i h; simp [h]
  · rename_i h; simpa using h
theorem mde_asS (x : D) : mde 5 x = (asS x).isSome := by
  cases h : asS x with
  | none => simpa using asS_none.mp h
  | some s => simpa using (asS_of h).2.2
/-! ### what a thing is of, its size, its depth: none of what is no term -/
abbrev Inf : Type := Srt × Nat × Nat
def gd (s : Srt) (z e : Nat) : Option Inf := if s.dp ≤ 5 then some (s, z, e) else none
noncomputable def leaf (x : D) (ar : List Srt) : Option Inf := match x with
  | .tup [.str k, a, b] => if k = FREE then (if nmD a then (asS b).map fun s => (s, 1, 0) else none) else none
  | .tup [.str k, a] => if k = BOUND then (match a with | .int i => if 0 ≤ i ∧ i < ar.length then (ar[ar.length - 1 - i.toNat]?).map fun s => (s, 1, 0) else none | _ => none)
      else if k = SAME then (asS a).bind fun s => gd (.f s (.f s .t)) 1 0 else none
  | _ => none
def app2 (p q : Inf) : Option Inf := match p.1 with
  | .f u v => if u = q.1 then some (v, 1 + p.2.1 + q.2.1, 1 + max p.2.2 q.2.2) else none
  | _ => none
noncomputable def sin : D → List Srt → Option Inf
  | .tup [.str k, a, b], ar =>
    if k = FOR then (asS a).bind fun s => (sin b (ar ++ [s])).bind fun p => gd (.f s p.1) (1 + p.2.1) (1 + p.2.2)
    else if k = OF then (sin a ar).bind fun p => (sin b ar).bind fun q => app2 p q
    else leaf (.tup [.str k, a, b]) ar
  | x, ar => leaf x ar
termination_by x _ => sizeOf x
theorem gd_le {s : Srt} {z e : Nat} {p : Inf} (h : gd s z e = some p) : p = (s, z, e) ∧ s.dp ≤ 5 := by
  unfold gd at h
  split at h
  · cases h; exact ⟨rfl, by assumption⟩
  · cases h
theorem leaf_dp {x : D} {ar : List Srt} (har : ∀ s ∈ ar, s.dp ≤ 5) {p : Inf} (h : leaf x ar = some p) : p.1.dp ≤ 5 := by
  unfold leaf at h
  split at h
  · split at h
    · split at h
      · cases q : asS _ with
        | none => rw [q] at h; cases h
        | some s => rw [q] at h; cases h; exact (asS_of q).2.1
      · cases h
    · cases h
  · split at h
    · split at h
      · split at h
        · cases q : ar[ar.length - 1 - _]? with
          | none => rw [q] at h; cases h
          | some s => rw [q] at h; cases h; exact har s (List.mem_of_getElem? q)
        · cases h
      · cases h
    · split at h
      · cases q : asS _ with
        | none => rw [q] at h; cases h
        | some s => rw [q] at h; obtain ⟨e, h5⟩ := gd_le h; rw [e]; exact h5
      · cases h
  · cases h
theorem sin_dp : ∀ (x : D) (ar : List Srt), (∀ s ∈ ar, s.dp ≤ 5) → ∀ p, sin x ar = some p → p.1.dp ≤ 5 := by
  intro x ar
  induction x, ar using sin.induct with
  | case1 ar a b ih =>
    intro har p hp
    rw [sin, if_pos rfl] at hp
    obtain ⟨s, h1, hp⟩ := bindSome hp
    obtain ⟨q, h2, hp⟩ := bindSome hp
    obtain ⟨e, h5⟩ := gd_le hp
    rw [e]; exact h5
  | case2 ar a b h ih1 ih2 =>
    intro har p hp
    rw [sin, if_neg h, if_pos rfl] at hp
    obtain ⟨u, h3, hp⟩ := bindSome hp
    obtain ⟨v, h4, hp⟩ := bindSome hp
    have q := ih1 har u h3
    unfold app2 at hp
    split at hp
    · rename_i c d e
      split at hp
      · cases hp
        rw [e] at q
        simp only [Srt.dp] at q
        show d.dp ≤ 5
        omega
      · cases hp
    · cases hp
  | case3 ar k a b h h2 =>
    intro har p hp
    rw [sin, if_neg h, if_neg h2] at hp
    exact leaf_dp har hp
  | case4 x ar h =>
    intro har p hp
    rw [sin] at hp
    · exact leaf_dp har hp
    · exact h
end Rf

/-! part RfTm2 -/
set_option autoImplicit false
set_option linter.all false
set_option Elab.async false
set_option maxRecDepth 100000
set_option maxHeartbeats 2000000
namespace Rf
def eI : Option Inf → D
  | some p => p.1.d
  | none => .non
theorem nonD_srt (s : Srt) : nonD s.d = false := by cases s <;> rfl
theorem nonD_eI (o : Option Inf) : nonD (eI o) = o.isNone := by
  cases o with
  | none => rfl
  | some p => exact nonD_srt _
theorem good_sort_ok (n : Nat) (s : Srt) (h : s.dp < n) : R (n + 1) 24 [s.d] = .ok (if s.dp ≤ 5 then s.d else .non) := by
  (rw [R_at lib24 rfl]; simp only [F24, start, List.map_cons, List.map_nil, List.cons_append, List.nil_append, Nat.reduceSub, List.replicate, List.append_nil, Nat.sub_self])
  simp! [sort_depth_ok s n h]
  by_cases h5 : s.dp ≤ 5
  · have e : decide ((5 : Int) < (s.dp : Int)) = false := by simp; omega
    simp! [e]
    rw [if_pos h5]
  · have e : decide ((5 : Int) < (s.dp : Int)) = true := by simp; omega
    simp! [e]
    rw [if_neg h5]
theorem eI_gd (s : Srt) (z e : Nat) : eI (gd s z e) = if s.dp ≤ 5 then s.d else .non := by
  unfold gd; split <;> rfl
theorem leaf3_ok (n : Nat) (k : Tx) (a b : D) (ar : List Srt) (ha : a.plain = true) (hb : b.plain = true) (h : 7 < n) : R (n + 1) 25 [.tup [.str k, a, b], .lst (ar.map Srt.d)] = .ok (eI (leaf (.tup [.str k, a, b]) ar)) := by
  obtain ⟨m, rfl⟩ : ∃ m, n = m + 1 := ⟨n - 1, by omega⟩
  (rw [R_at lib25 rfl]; simp only [F25, start, List.map_cons, List.map_nil, List.cons_append, List.nil_append, Nat.reduceSub, List.replicate, List.append_nil, Nat.sub_self])
  simp! []
  by_cases hk : k = FREE
  · subst hk
    simp only [leaf, if_true]
    simp! [show (FREE == FREE) = true from rfl, show (FREE == BOUND) = false from rfl, show (FREE == SAME) = false from rfl, is_name_ok m a (inB_plain ha)]
    cases hn : nmD a with
    | false => simp! [show (FREE == FREE) = true from rfl, show (FREE == BOUND) = false from rfl, show (FREE == SAME) = false from rfl]; rfl
    | true =>
      simp! [is_sort_ok (m + 1) b hb (by omega), mde_asS]
      cases hs : asS b with
      | none =>
        simp! [Option.isSome_none, show (FREE == BOUND) = false from rfl, show (FREE == SAME) = false from rfl]; rfl
      | some s =>
        simp! [Option.isSome_some]
        rw [(asS_of hs).1]; rfl
  · have h1 : (k == FREE) = false := beq_eq_false_iff_ne.mpr hk
    simp only [leaf, if_neg hk]
    simp! [h1]
    cases h2 : (k == BOUND) <;> cases h3 : (k == SAME) <;> simp! [h2, h3] <;> rfl
theorem leaf2_ok (n : Nat) (k : Tx) (a : D) (ar : List Srt) (ha : a.plain = true) (h : 8 < n) : R (n + 1) 25 [.tup [.str k, a], .lst (ar.map Srt.d)] = .ok (eI (leaf (.tup [.str k, a]) ar)) := by
  obtain ⟨m, rfl⟩ : ∃ m, n = m + 1 := ⟨n - 1, by omega⟩
  (rw [R_at lib25 rfl]; simp only [F25, start, List.map_cons, List.map_nil, List.cons_append, List.nil_append, Nat.reduceSub, List.replicate, List.append_nil, Nat.sub_self])
  simp! []
  by_cases hk : k = BOUND
  · subst hk
    simp only [leaf, if_true]
    simp! [show (BOUND == FREE) = false from rfl, show (BOUND == BOUND) = true from rfl, show (BOUND == SAME) = false from rfl, is_whole_ok m a (inB_plain ha)]
    cases a with
    | int i =>
      simp! []
      by_cases h0 : 0 ≤ i
      · by_cases h1 : i < ar.length
        · have e0 : decide ((0 : Int) ≤ i) = true := decide_eq_true h0
          have e1 : decide (i < ((ar.length : Nat) : Int)) = true := decide_eq_true h1
          have hlt : ar.length - 1 - i.toNat < ar.length := by omega
          have e2 : ((ar.length : Int)) - 1 - i = ((ar.length - 1 - i.toNat : Nat) : Int) := by omega
          have e3 : atD (ar.map Srt.d) ((ar.length - 1 - i.toNat : Nat) : Int) = .ok (ar[ar.length - 1 - i.toNat]'hlt).d := atD_nat (by rw [List.getElem?_map, List.getElem?_eq_getElem hlt]; rfl)
          simp! [e0, e1, List.length_map, e2, e3]
          rw [if_pos ⟨h0, h1⟩, List.getElem?_eq_getElem hlt]; rfl
        · have e0 : decide ((0 : Int) ≤ i) = true := decide_eq_true h0
          have e1 : decide (i < ((ar.length : Nat) : Int)) = false := decide_eq_false h1
          simp! [e0, e1, List.length_map, show (BOUND == SAME) = false from rfl]
          rw [if_neg (fun q => h1 q.2)]; rfl
      · have e0 : decide ((0 : Int) ≤ i) = false := decide_eq_false h0
        simp! [e0, show (BOUND == SAME) = false from rfl]
        rw [if_neg (fun q => h0 q.1)]; rfl
    | _ => simp! [show (BOUND == SAME) = false from rfl]; rfl
  · have h1 : (k == BOUND) = false := beq_eq_false_iff_ne.mpr hk
    simp only [leaf, if_neg hk]
    by_cases hs : k = SAME
    · subst hs
      simp only [if_true]
      simp! [show (SAME == FREE) = false from rfl, show (SAME == BOUND) = false from rfl, show (SAME == SAME) = true from rfl, is_sort_ok (m + 1) a ha (by omega), mde_asS]
      cases q : asS a with
      | none => simp! [Option.isSome_none]; rfl
      | some s =>
        simp! [Option.isSome_some]
        obtain ⟨e1, e2, _⟩ := asS_of q
        have g := good_sort_ok m (.f s (.f s .t)) (by simp only [Srt.dp]; omega)
        rw [e1]
        have e : (D.tup [s.d, .tup [s.d, .str [116]]]) = (Srt.f s (.f s .t)).d := rfl
        rw [e, g, Option.bind_some, eI_gd]
    · have h2 : (k == SAME) = false := beq_eq_false_iff_ne.mpr hs
      simp only [if_neg hs]
      cases h3 : (k == FREE) <;> simp! [h1, h2, h3] <;> rfl
theorem mem23 (k : Int) : inD (.int k) (.tup [.int 2, .int 3]) = .ok ((2 : Int) == k || (3 : Int) == k) := by
  simp [inD, memD, D.plain, plainL, depL, D.dep, D.eqv]
theorem sin_leaf {x : D} (ar : List Srt) (h : ∀ k a b, x ≠ .tup [.str k, a, b]) : sin x ar = leaf x ar := by
  rw [sin]; exact fun k a b e => h k a b e
theorem leaf_len {xs : List D} {ar : List Srt} (h2 : xs.length ≠ 2) (h3 : xs.length ≠ 3) : leaf (.tup xs) ar = none := by
  unfold leaf
  split
  · rename_i e; cases e; exact absurd rfl h3
  · rename_i e; cases e; exact absurd rfl h2
  · rfl
theorem eI_some {o : Option Inf} {p : Inf} (h : o = some p) : eI o = p.1.d := by rw [h]; rfl
theorem sort_in_ok : ∀ (n : Nat) (x : D) (ar : List Srt), x.plain = true → (∀ s ∈ ar, s.dp ≤ 5) → x.dep + 10 < n → ar.length + n ≤ 1000 → R n 26 [x, .lst (ar.map Srt.d)] = .ok (eI (sin x ar))
  | 0, x, ar, _, _, h, _ => by omega
  | n + 1, x, ar, hp, har, h, hl => by
    (rw [R_at lib26 rfl]; simp only [F26, start, List.map_cons, List.map_nil, List.cons_append, List.nil_append, Nat.reduceSub, List.replicate, List.append_nil, Nat.sub_self])
    simp! []
    cases x with
    | tup xs =>
      simp! []
      match xs with
      | [] => simp! [mem23]; rw [sin_leaf _ (by simp)]; rfl
      | [k] => simp! [mem23]; rw [sin_leaf _ (by simp), leaf_len (by simp) (by simp)]; rfl
      | [k, a] =>
        simp! [mem23]
        simp only [D.plain, plainL, Bool.and_eq_true] at hp
        simp only [D.dep, depL] at h
        cases k with
        | str k =>
          have l2 := leaf2_ok (n - 1) k a ar hp.2.1 (by omega)
          rw [show n - 1 + 1 = n by omega] at l2
          simp! []
          rw [sin_leaf _ (by simp)]
          cases h1 : (k == FOR) <;> cases h2 : (k == OF) <;> simp! [h1, h2, l2]
        | obj c fs => cases hp.1
        | exn c fs => cases hp.1
        | _ => simp! []; rw [sin_leaf _ (by simp)]; rfl
      | [k, a, b] =>
        simp! [mem23]
        simp only [D.plain, plainL, Bool.and_eq_true] at hp
        simp only [D.dep, depL] at h
        cases k with
        | str k =>
          have l3 := leaf3_ok (n - 1) k a b ar hp.2.1 hp.2.2.1 (by omega)
          rw [show n - 1 + 1 = n by omega] at l3
          simp! []
          by_cases hF : k = FOR
          · subst hF
            rw [sin, if_pos rfl]
            simp! [show (FOR == FOR) = true from rfl, is_sort_ok n a hp.2.1 (by omega), mde_asS]
            cases hs : asS a with
            | none => simp! [Option.isSome_none]; rfl
            | some s =>
              obtain ⟨e1, e2, _⟩ := asS_of hs
              have ih := sort_in_ok n b (ar ++ [s]) hp.2.2.1 (fun u hu => by
                rcases List.mem_append.mp hu with hu | hu
                · exact har u hu
                · rw [List.mem_singleton.mp hu]; exact e2) (by omega) (by simp; omega)
              rw [List.map_append] at ih
              have ih : R n 26 [b, .lst (ar.map Srt.d ++ [a])] = .ok (eI (sin b (ar ++ [s]))) := by rw [e1]; exact ih
              simp! [Option.isSome_some, v_addL _ _ (show (ar.map Srt.d).length + [a].length ≤ SZ from sz_le (by simp; omega)), ih, nonD_eI]
              cases hi : sin b (ar ++ [s]) with
              | none => simp! [Option.isNone_none]; simp [hi]; rfl
              | some p =>
                have g := good_sort_ok (n - 1) (.f s p.1) (by
                  have := sin_dp b (ar ++ [s]) (fun u hu => by
                    rcases List.mem_append.mp hu with hu | hu
                    · exact har u hu
                    · rw [List.mem_singleton.mp hu]; exact e2) p hi
                  simp only [Srt.dp]; omega)
                rw [show n - 1 + 1 = n by omega] at g
                have e : D.tup [a, eI (some p)] = (Srt.f s p.1).d := by rw [e1]; rfl
                simp! [Option.isNone_some, e, g]
                simp [hi, eI_gd]
          · have h1 : (k == FOR) = false := beq_eq_false_iff_ne.mpr hF
            rw [sin, if_neg hF]
            by_cases hO : k = OF
            · subst hO
              rw [if_pos rfl]
              have i1 := sort_in_ok n a ar hp.2.1 har (by omega) (by omega)
              have i2 := sort_in_ok n b ar hp.2.2.1 har (by omega) (by omega)
              simp! [h1, show (OF == OF) = true from rfl, i1, i2]
              cases q1 : sin a ar with
              | none => simp! [eI]; rfl
              | some p =>
                obtain ⟨u, z, e⟩ := p
                have d1 := sin_dp a ar har _ q1
                cases u with
                | t => simp! [eI, Srt.d]; cases sin b ar <;> rfl
                | i => simp! [eI, Srt.d]; cases sin b ar <;> rfl
                | f u v =>
                  cases q2 : sin b ar with
                  | none => simp! [eI, Srt.d]; rfl
                  | some q =>
                    simp only [Srt.dp] at d1
                    simp! [eI, Srt.d, nonD_srt, Srt.eqD u q.1 (by omega)]
                    by_cases he : u = q.1
                    · have e0 : decide (u = q.1) = true := decide_eq_true he
                      simp! [e0]; simp [app2, he, eI]
                    · have e0 : decide (u = q.1) = false := decide_eq_false he
                      simp! [e0]; simp [app2, he, eI]
            · have h2 : (k == OF) = false := beq_eq_false_iff_ne.mpr hO
              rw [if_neg hO]
              simp! [h1, h2, l3]
        | obj c fs => cases hp.1
        | exn c fs => cases hp.1
        | _ => simp! []; rw [sin_leaf _ (by simp)]; rfl
      | a :: b :: c :: e :: r =>
        have e1 : ((2 : Int) == ((r.length + 1 + 1 + 1 + 1 : Nat) : Int) || (3 : Int) == ((r.length + 1 + 1 + 1 + 1 : Nat) : Int)) = false := by simp; omega
        simp! [mem23, e1]
        rw [sin_leaf _ (by simp), leaf_len (by simp) (by simp)]; rfl
    | obj c fs => cases hp
    | exn c fs => cases hp
    | _ => simp! []; rw [sin_leaf _ (by simp)]; rfl
end Rf

/-! part RfTm3 -/
set_option autoImplicit false
set_option linter.all false
set_option Elab.async false
set_option maxRecDepth 100000
set_option maxHeartbeats 2000000
namespace Rf
theorem leaf_sz {x : D} {ar : List Srt} {p : Inf} (h : leaf x ar = some p) : p.2 = (1, 0) ∧ ((∃ k a b, x = .tup [.str k, a, b] ∧ k = FREE) ∨ ∃ k a, x = .tup [.str k, a] ∧ (k = BOUND ∨ k = SAME)) := by
  unfold leaf at h
  split at h
  · rename_i k a b
    split at h
    · rename_i hk
      split at h
      · cases q : asS b with
        | none => rw [q] at h; cases h
        | some s => rw [q] at h; cases h; exact ⟨rfl, .inl ⟨k, a, b, rfl, hk⟩⟩
      · cases h
    · cases h
  · rename_i k a
    split at h
    · rename_i hk
      split at h
      · split at h
        · cases q : ar[ar.length - 1 - _]? with
          | none => rw [q] at h; cases h
          | some s => rw [q] at h; cases h; exact ⟨rfl, .inr ⟨k, _, rfl, .inl hk⟩⟩
        · cases h
      · cases h
    · split at h
      · rename_i hk
        cases q : asS a with
        | none => rw [q] at h; cases h
        | some s => rw [q] at h; obtain ⟨e, h5⟩ := gd_le h; rw [e]; exact ⟨rfl, .inr ⟨k, a, rfl, .inr hk⟩⟩
      · cases h
  · cases h
theorem size_leaf {x : D} {ar : List Srt} {p : Inf} (n : Nat) (h : leaf x ar = some p) : R (n + 1) 27 [x] = .ok (.int p.2.1) ∧ R (n + 1) 28 [x] = .ok (.int p.2.2) := by
  obtain ⟨e, q⟩ := leaf_sz h
  rw [e]
  rcases q with ⟨k, a, b, rfl, rfl⟩ | ⟨k, a, rfl, rfl | rfl⟩ <;> refine ⟨?_, ?_⟩ <;> (first | (rw [R_at lib27 rfl]; simp only [F27, start, List.map_cons, List.map_nil, List.cons_append, List.nil_append, Nat.reduceSub, List.replicate, List.append_nil, Nat.sub_self]) | (rw [R_at lib28 rfl]; simp only [F28, start, List.map_cons, List.map_nil, List.cons_append, List.nil_append, Nat.reduceSub, List.replicate, List.append_nil, Nat.sub_self])) <;>
    (simp! [show (FREE == OF) = false from rfl, show (FREE == FOR) = false from rfl, show (BOUND == OF) = false from rfl, show (BOUND == FOR) = false from rfl, show (SAME == OF) = false from rfl, show (SAME == FOR) = false from rfl]) <;> rfl
theorem size_ok : ∀ (n : Nat) (x : D) (ar : List Srt) (p : Inf), x.dep < n → sin x ar = some p → R n 27 [x] = .ok (.int p.2.1) ∧ R n 28 [x] = .ok (.int p.2.2)
  | 0, x, ar, p, h, _ => by omega
  | n + 1, x, ar, p, h, hs => by
    by_cases hx : ∃ k a b, x = .tup [.str k, a, b]
    · obtain ⟨k, a, b, rfl⟩ := hx
      simp only [D.dep, depL] at h
      rw [sin] at hs
      split at hs
      · rename_i hk
        subst hk
        obtain ⟨s, h1, hs⟩ := bindSome hs
        obtain ⟨q, h2, hs⟩ := bindSome hs
        obtain ⟨e, _⟩ := gd_le hs
        obtain ⟨i1, i2⟩ := size_ok n b _ q (by omega) h2
        rw [e]
        refine ⟨?_, ?_⟩
        · (rw [R_at lib27 rfl]; simp only [F27, start, List.map_cons, List.map_nil, List.cons_append, List.nil_append, Nat.reduceSub, List.replicate, List.append_nil, Nat.sub_self])
          simp! [show (FOR == OF) = false from rfl, show (FOR == FOR) = true from rfl, i1]
          simp
        · (rw [R_at lib28 rfl]; simp only [F28, start, List.map_cons, List.map_nil, List.cons_append, List.nil_append, Nat.reduceSub, List.replicate, List.append_nil, Nat.sub_self])
          simp! [show (FOR == OF) = false from rfl, show (FOR == FOR) = true from rfl, i2]
          simp
      · split at hs
        · rename_i hk
          subst hk
          obtain ⟨u, h1, hs⟩ := bindSome hs
          obtain ⟨v, h2, hs⟩ := bindSome hs
          obtain ⟨i1, i2⟩ := size_ok n a _ u (by omega) h1
          obtain ⟨j1, j2⟩ := size_ok n b _ v (by omega) h2
          unfold app2 at hs
          split at hs
          · split at hs
            · cases hs
              refine ⟨?_, ?_⟩
              · (rw [R_at lib27 rfl]; simp only [F27, start, List.map_cons, List.map_nil, List.cons_append, List.nil_append, Nat.reduceSub, List.replicate, List.append_nil, Nat.sub_self])
                simp! [show (OF == OF) = true from rfl, i1, j1]
                simp
              · (rw [R_at lib28 rfl]; simp only [F28, start, List.map_cons, List.map_nil, List.cons_append, List.nil_append, Nat.reduceSub, List.replicate, List.append_nil, Nat.sub_self])
                simp! [show (OF == OF) = true from rfl, i2, j2, v_max, maxI]
                simp
            · cases hs
          · cases hs
        · exact size_leaf n hs
    · rw [sin_leaf ar (fun k a b e => hx ⟨k, a, b, e⟩)] at hs
      exact size_leaf n hs
/-- is it a term that stands within the bounds? -/
def smallI : Option Inf → Bool
  | some p => decide (p.2.2 ≤ 40) && decide (p.2.1 ≤ 600)
  | none => false
theorem is_small_ok (n : Nat) (x : D) (ar : List Srt) (p : Inf) (h : x.dep + 1 < n) (hs : sin x ar = some p) : R n 29 [x] = .ok (.bl (smallI (some p))) := by
  obtain ⟨m, rfl⟩ : ∃ m, n = m + 1 := ⟨n - 1, by omega⟩
  obtain ⟨h1, h2⟩ := size_ok m x ar p (by omega) hs
  (rw [R_at lib29 rfl]; simp only [F29, start, List.map_cons, List.map_nil, List.cons_append, List.nil_append, Nat.reduceSub, List.replicate, List.append_nil, Nat.sub_self])
  simp! [h1, h2]
  by_cases q : p.2.2 ≤ 40
  · have e : decide ((p.2.2 : Int) ≤ 40) = true := decide_eq_true (by omega)
    simp! [e, h1]
    simp only [smallI, decide_eq_true q, Bool.true_and]
    congr 2
    rw [Bool.eq_iff_iff, decide_eq_true_eq, decide_eq_true_eq]; omega
  · have e : decide ((p.2.2 : Int) ≤ 40) = false := decide_eq_false (by omega)
    simp! [e]
    simp only [smallI, decide_eq_false q, Bool.false_and]
theorem is_term_ok (n : Nat) (x : D) (hp : x.plain = true) (h : x.dep + 12 < n) (hl : n ≤ 1000) : R n 30 [x] = .ok (.bl (smallI (sin x []))) := by
  obtain ⟨m, rfl⟩ : ∃ m, n = m + 1 := ⟨n - 1, by omega⟩
  have q := sort_in_ok m x [] hp (fun s hs => by cases hs) (by omega) (by simp; omega)
  (rw [R_at lib30 rfl]; simp only [F30, start, List.map_cons, List.map_nil, List.cons_append, List.nil_append, Nat.reduceSub, List.replicate, List.append_nil, Nat.sub_self])
  have q : R m 26 [x, .lst []] = _ := q
  simp! [q, nonD_eI]
  cases hs : sin x [] with
  | none => simp! [Option.isNone_none]; rfl
  | some p =>
    simp! [Option.isNone_some, is_small_ok m x [] p (by omega) hs]
end Rf

/-! part RfDraw -/
set_option autoImplicit false
set_option linter.all false
set_option Elab.async false
set_option maxRecDepth 100000
set_option maxHeartbeats 2000000
/-! RfDraw: the laws' drawing of numbers, sorts, terms. -/
namespace Rf
set_option exponentiation.threshold 600000
theorem mul_r (i : Int) {j : Int} (h : decide (j.natAbs < 2 ^ 64) = true) : mulOk i j = true := by simp only [mulOk, h, Bool.or_true, Bool.true_or]
theorem mul_l {i : Int} (j : Int) (h : decide (i.natAbs < 2 ^ 64) = true) : mulOk i j = true := by simp only [mulOk, h, Bool.true_or]
theorem lt_big {i : Int} (h0 : 0 ≤ i) (h1 : i < 2 ^ 400) : i.natAbs < 2 ^ 500000 := by
  have e : (2 : Int) ^ 400 ≤ (2 : Int) ^ 500000 := by
    have := Nat.pow_le_pow_right (n := 2) (by decide) (show 400 ≤ 500000 by decide)
    exact_mod_cast this
  have h2 : i < (2 : Int) ^ 500000 := Int.lt_of_lt_of_le h1 e
  have : (i.natAbs : Int) = i := by omega
  have h3 : (i.natAbs : Int) < ((2 ^ 500000 : Nat) : Int) := by rw [this]; exact_mod_cast h2
  exact_mod_cast h3
theorem mul_b {i j : Int} (h0 : 0 ≤ i) (h1 : i < 2 ^ 400) (h2 : 0 ≤ j) (h3 : j < 2 ^ 400) : mulOk i j = true := by
  have a := decide_eq_true (lt_big h0 h1)
  have b := decide_eq_true (lt_big h2 h3)
  simp only [mulOk, a, b, Bool.and_self, Bool.or_true]
abbrev iL (ns : List Int) : D := .lst (ns.map .int)
def cellI (ns : List Int) (k : Int) : Int := if ns = [] then k * 7919 else ns.getD (k % (ns.length : Int)).toNat 0 + k / (ns.length : Int) * 104729
theorem plain_ints (ns : List Int) : plainL (ns.map .int) = true := plainL_of fun x hx => by obtain ⟨i, _, rfl⟩ := List.mem_map.mp hx; rfl
theorem at_ints {ns : List Int} {i : Int} (h0 : 0 ≤ i) (h1 : i < ns.length) : atD (ns.map D.int) i = .ok (.int (ns.getD i.toNat 0)) := by
  obtain ⟨k, rfl⟩ := Int.eq_ofNat_of_zero_le h0
  have hk : k < ns.length := by omega
  rw [atD_nat (x := .int ns[k]) (by rw [List.getElem?_map, List.getElem?_eq_getElem hk]; rfl)]
  simp [List.getD_eq_getElem?_getD, List.getElem?_eq_getElem hk]
theorem cell_ok (n : Nat) (ns : List Int) (k : Int) (h : ns.length ≤ 63) : R (n + 1) 3 [iL ns, .int k] = .ok (.int (cellI ns k)) := by
  (rw [R_at lib3 rfl]; simp only [F3, start, List.map_cons, List.map_nil, List.cons_append, List.nil_append, Nat.reduceSub, List.replicate, List.append_nil, Nat.sub_self])
  simp! [eqD_lstE _ (plain_ints ns)]
  by_cases hn : ns = []
  · subst hn
    simp! [List.map_nil, List.isEmpty_nil, v_mul _ _ (mul_r k (j := 7919) (by decide))]; rfl
  · have hp : 0 < ns.length := List.length_pos_iff.mpr hn
    have hl : (0 : Int) < (ns.length : Int) := by omega
    have hl2 : (ns.length : Int) < 2 ^ 8000 := big_pow (by omega)
    have e0 : (ns.map D.int).isEmpty = false := by cases ns with
      | nil => exact absurd rfl hn
      | cons => rfl
    have e1 := at_ints (ns := ns) (Int.emod_nonneg k (show (ns.length : Int) ≠ 0 by omega)) (Int.emod_lt_of_pos k hl)
    simp! [e0, List.length_map, v_mod _ _ hl, e1, v_fdiv _ _ hl hl2, v_mul _ _ (mul_r (k / (ns.length : Int)) (j := 104729) (by decide))]
    simp only [cellI, if_neg hn]
abbrev P1 : Int := 340282366920938463463374607431768211507
abbrev P2 : Int := 340282366920938463463374607431768211297
abbrev P3 : Int := 18446744073709551557
def drawI (c k : Int) : Int :=
  let m := (c * 6364136223846793005 + (k + 1) * 1442695040888963407) % P1
  let m := m * m % P2
  (m % P3 + 1) * (m / P3 + 1) * m % P1
theorem drawI_nonneg (c k : Int) : 0 ≤ drawI c k := Int.emod_nonneg _ (by decide)
theorem drawn_ok (n : Nat) (c k : Int) : R (n + 1) 4 [.int c, .int k] = .ok (.int (drawI c k)) := by
  (rw [R_at lib4 rfl]; simp only [F4, start, List.map_cons, List.map_nil, List.cons_append, List.nil_append, Nat.reduceSub, List.replicate, List.append_nil, Nat.sub_self])
  simp! [v_mul _ _ (mul_r c (j := 6364136223846793005) (by decide)), v_mul _ _ (mul_r (k + 1) (j := 1442695040888963407) (by decide)), v_modK _ 340282366920938463463374607431768211507 (by decide)]
  generalize hm : (c * 6364136223846793005 + (k + 1) * 1442695040888963407) % 340282366920938463463374607431768211507 = m
  have m0 : 0 ≤ m := by rw [← hm]; exact Int.emod_nonneg _ (by decide)
  have m1 : m < 340282366920938463463374607431768211507 := by rw [← hm]; exact Int.emod_lt_of_pos _ (by decide)
  have m2 : m < 2 ^ 400 := Int.lt_trans m1 (by decide +kernel)
  simp! [v_mul _ _ (mul_b m0 m2 m0 m2), v_modK _ 340282366920938463463374607431768211297 (by decide)]
  generalize hq : m * m % 340282366920938463463374607431768211297 = q
  have q0 : 0 ≤ q := by rw [← hq]; exact Int.emod_nonneg _ (by decide)
  have q1 : q < 340282366920938463463374607431768211297 := by rw [← hq]; exact Int.emod_lt_of_pos _ (by decide)
  have q2 : q < 2 ^ 400 := Int.lt_trans q1 (by decide +kernel)
  have a0 : 0 ≤ q % 18446744073709551557 := Int.emod_nonneg _ (by decide)
  have a1 : q % 18446744073709551557 < 18446744073709551557 := Int.emod_lt_of_pos _ (by decide)
  have b0 : 0 ≤ q / 18446744073709551557 := Int.ediv_nonneg q0 (by decide)
  have b1 : q / 18446744073709551557 ≤ q := Int.ediv_le_self _ q0
  have p1 : mulOk (q % 18446744073709551557 + 1) (q / 18446744073709551557 + 1) = true := mul_l _ (decide_eq_true (by omega))
  have c0 : 0 ≤ (q % 18446744073709551557 + 1) * (q / 18446744073709551557 + 1) := Int.mul_nonneg (by omega) (by omega)
  have c1 : (q % 18446744073709551557 + 1) * (q / 18446744073709551557 + 1) < 2 ^ 400 := by
    have h1 : (q % 18446744073709551557 + 1) * (q / 18446744073709551557 + 1) ≤ 18446744073709551557 * (q / 18446744073709551557 + 1) := Int.mul_le_mul_of_nonneg_right (by omega) (by omega)
    have h2 : (18446744073709551557 : Int) * (q / 18446744073709551557 + 1) < 2 ^ 400 := by
      have : (2 : Int) ^ 400 > 18446744073709551557 * (340282366920938463463374607431768211297 + 1) := by decide +kernel
      omega
    omega
  simp! [v_modK _ 18446744073709551557 (by decide), v_fdivK _ 18446744073709551557 (by decide) (by decide +kernel), v_mul _ _ p1, v_mul _ _ (mul_b c0 c1 q0 q2), v_modK _ 340282366920938463463374607431768211507 (by decide)]
  simp only [drawI, hm, hq]
end Rf

/-! part RfPart -/
set_option autoImplicit false
set_option linter.all false
set_option Elab.async false
set_option maxRecDepth 100000
set_option maxHeartbeats 2000000
/-! RfPart: terms as such; the laws' drawn terms. -/
namespace Rf
inductive Tm where
  | free (x : Tx) (s : Srt) | bound (k : Nat) | same (s : Srt) | of (a b : Tm) | lam (s : Srt) (b : Tm)
  deriving DecidableEq, Inhabited
def Tm.d : Tm → D
  | .free x s => .tup [.str FREE, .str x, s.d]
  | .bound k => .tup [.str BOUND, .int k]
  | .same s => .tup [.str SAME, s.d]
  | .of a b => .tup [.str OF, a.d, b.d]
  | .lam s b => .tup [.str FOR, s.d, b.d]
def Tm.sz : Tm → Nat
  | .of a b => 1 + a.sz + b.sz
  | .lam _ b => 1 + b.sz
  | _ => 1
def Tm.dp : Tm → Nat
  | .of a b => 1 + max a.dp b.dp
  | .lam _ b => 1 + b.dp
  | _ => 0
theorem Tm.plain : ∀ t : Tm, t.d.plain = true
  | .free x s => by simp [Tm.d, D.plain, plainL, s.plain]
  | .bound k => by simp [Tm.d, D.plain, plainL]
  | .same s => by simp [Tm.d, D.plain, plainL, s.plain]
  | .of a b => by simp [Tm.d, D.plain, plainL, a.plain, b.plain]
  | .lam s b => by simp [Tm.d, D.plain, plainL, s.plain, b.plain]
/-- t is of the sort s where the binders around are of the sorts ar -/
inductive WT : List Srt → Tm → Srt → Prop
  | free {ar : List Srt} {x : Tx} {s : Srt} : nmB x = true → s.dp ≤ 5 → WT ar (.free x s) s
  | bound {ar : List Srt} {k : Nat} {s : Srt} : k < ar.length → ar[ar.length - 1 - k]? = some s → WT ar (.bound k) s
  | same {ar : List Srt} {s : Srt} : (Srt.f s (.f s .t)).dp ≤ 5 → WT ar (.same s) (.f s (.f s .t))
  | lam {ar : List Srt} {s u : Srt} {b : Tm} : (Srt.f s u).dp ≤ 5 → WT (ar ++ [s]) b u → WT ar (.lam s b) (.f s u)
  | of {ar : List Srt} {u v : Srt} {a b : Tm} : WT ar a (.f u v) → WT ar b u → WT ar (.of a b) v
theorem WT.sin {ar : List Srt} {t : Tm} {s : Srt} (h : WT ar t s) : sin t.d ar = some (s, t.sz, t.dp) := by
  induction h with
  | @free ar x s h1 h2 =>
    simp only [Tm.d]
    rw [Rf.sin, if_neg (by decide), if_neg (by decide)]
    simp only [leaf, if_true, nmD, h1, asS_d, h2]
    rfl
  | @bound ar k s h1 h2 =>
    simp only [Tm.d]
    rw [sin_leaf _ (by simp)]
    simp only [leaf, if_true]
    rw [if_pos ⟨by omega, by omega⟩]
    simp [h2, Tm.sz, Tm.dp]
  | @same ar s h =>
    simp only [Tm.d]
    rw [sin_leaf _ (by simp)]
    simp only [leaf, if_neg (show ¬ SAME = BOUND by decide), if_true, asS_d]
    have : s.dp ≤ 5 := by simp only [Srt.dp] at h; omega
    rw [if_pos this]
    simp only [Option.bind_some, gd, if_pos h]; rfl
  | @lam ar s u b h1 h2 ih =>
    simp only [Tm.d]
    rw [Rf.sin, if_pos rfl, asS_d]
    have : s.dp ≤ 5 := by simp only [Srt.dp] at h1; omega
    rw [if_pos this]
    simp only [Option.bind_some, ih, gd, if_pos h1]; rfl
  | @of ar u v a b h1 h2 ih1 ih2 =>
    simp only [Tm.d]
    rw [Rf.sin, if_neg (by decide), if_pos rfl]
    simp only [Option.bind_some, ih1, ih2, app2, if_true]; rfl
/-- the sorts that are drawn -/
def someS (m : Int) : Srt := match (m % 6).toNat with
  | 0 => .t | 1 => .i | 2 => .t | 3 => .f .i .t | 4 => .f .t .t | _ => .f .i .i
theorem someS_dp (m : Int) : (someS m).dp ≤ 1 := by
  unfold someS; split <;> simp [Srt.dp]
theorem some_sort_ok (n : Nat) (m : Int) : R (n + 1) 31 [.int m] = .ok (someS m).d := by
  (rw [R_at lib31 rfl]; simp only [F31, start, List.map_cons, List.map_nil, List.cons_append, List.nil_append, Nat.reduceSub, List.replicate, List.append_nil, Nat.sub_self])
  simp! [v_modK m 6 (by decide)]
  have h0 := Int.emod_nonneg m (show (6 : Int) ≠ 0 by decide)
  have h1 := Int.emod_lt_of_pos m (show (0 : Int) < 6 by decide)
  obtain ⟨k, hk⟩ := Int.eq_ofNat_of_zero_le h0
  have hk6 : k < 6 := by omega
  unfold someS
  rw [hk]
  match k, hk6 with
  | 0, _ => rfl
  | 1, _ => rfl
  | 2, _ => rfl
  | 3, _ => rfl
  | 4, _ => rfl
  | 5, _ => rfl
theorem law_sort_depth_ok : ∀ (s : Srt) (n : Nat), s.dp < n → R n 8 [s.d] = .ok (.int s.dp)
  | .t, n + 1, _ => by (rw [R_at lib8 rfl]; simp only [F8, start, List.map_cons, List.map_nil, List.cons_append, List.nil_append, Nat.reduceSub, List.replicate, List.append_nil, Nat.sub_self]); simp! []; rfl
  | .i, n + 1, _ => by (rw [R_at lib8 rfl]; simp only [F8, start, List.map_cons, List.map_nil, List.cons_append, List.nil_append, Nat.reduceSub, List.replicate, List.append_nil, Nat.sub_self]); simp! []; rfl
  | .f a b, n + 1, h => by
    have h1 : a.dp < n := by simp only [Srt.dp] at h; omega
    have h2 : b.dp < n := by simp only [Srt.dp] at h; omega
    (rw [R_at lib8 rfl]; simp only [F8, start, List.map_cons, List.map_nil, List.cons_append, List.nil_append, Nat.reduceSub, List.replicate, List.append_nil, Nat.sub_self])
    simp only [Srt.d]
    simp! [law_sort_depth_ok a n h1, law_sort_depth_ok b n h2, v_max, maxI]
    simp [Srt.dp]
  | s, 0, h => by omega
abbrev names6 : List Tx := [[120], [121], [112], [113, 55], [102], [97, 98, 99, 100, 101, 102, 103, 104]]
theorem law_leaf_ok (n : Nat) (s : Srt) (m : Int) : ∃ x ∈ names6, R (n + 1) 32 [s.d, .int m] = .ok (Tm.free x s).d := by
  have key : ∃ x ∈ names6, atD (names6.map D.str) (m % (if m / 6 % 2 = 0 then 3 else 6)) = .ok (.str x) := by
    have h0 : 0 ≤ m % (if m / 6 % 2 = 0 then (3 : Int) else 6) := by split <;> exact Int.emod_nonneg _ (by decide)
    have h1 : m % (if m / 6 % 2 = 0 then (3 : Int) else 6) < 6 := by
      split
      · have := Int.emod_lt_of_pos m (show (0 : Int) < 3 by decide); omega
      · exact Int.emod_lt_of_pos m (by decide)
    obtain ⟨x, hx, e⟩ := at_mod (xs := names6.map D.str) h0 (by simpa using h1)
    obtain ⟨y, hy, rfl⟩ := List.mem_map.mp hx
    exact ⟨y, hy, e⟩
  obtain ⟨x, hx, e⟩ := key
  refine ⟨x, hx, ?_⟩
  (rw [R_at lib32 rfl]; simp only [F32, start, List.map_cons, List.map_nil, List.cons_append, List.nil_append, Nat.reduceSub, List.replicate, List.append_nil, Nat.sub_self])
  simp! [v_modK _ 2 (by decide), v_fdivK m 6 (by decide) (by decide +kernel)]
  rcases (by omega : m / 6 % 2 = 0 ∨ m / 6 % 2 = 1) with h | h
  · rw [if_pos h] at e
    simp! [h, v_modK m 3 (by decide)]
    rw [show [D.str [120], D.str [121], D.str [112], D.str [113, 55], D.str [102], D.str [97, 98, 99, 100, 101, 102, 103, 104]] = names6.map D.str from rfl, e]
    simp! []; rfl
  · rw [if_neg (by omega)] at e
    simp! [h, v_modK m 6 (by decide)]
    rw [show [D.str [120], D.str [121], D.str [112], D.str [113, 55], D.str [102], D.str [97, 98, 99, 100, 101, 102, 103, 104]] = names6.map D.str from rfl, e]
    simp! []; rfl
theorem names6_ok {x : Tx} (h : x ∈ names6) : nmB x = true := by
  simp only [names6, List.mem_cons, List.not_mem_nil, or_false] at h
  rcases h with rfl | rfl | rfl | rfl | rfl | rfl <;> decide
end Rf

/-! part RfPart2 -/
set_option autoImplicit false
set_option linter.all false
set_option Elab.async false
set_option maxRecDepth 100000
set_option maxHeartbeats 4000000
namespace Rf
/-- of the six names, of sorts 3 deep at most -/
def Tm.drw : Tm → Prop
  | .free x s => x ∈ names6 ∧ s.dp ≤ 3
  | .bound _ => True
  | .same s => s.dp ≤ 3
  | .of a b => a.drw ∧ b.drw
  | .lam s b => s.dp ≤ 3 ∧ b.drw
structure Pt (m : Nat) (ar : List Srt) (s : Srt) (t : Tm) : Prop where
  dr : t.drw
  ty : WT ar t s
  sz : t.sz + 3 ≤ 2 ^ (m + 2)
  dp : t.dp ≤ 2 * m
  dd : t.d.dep ≤ 2 * m + 5
theorem four (m : Nat) : 4 ≤ 2 ^ (m + 2) := by
  have := Nat.pow_le_pow_right (n := 2) (by decide) (show 2 ≤ m + 2 by omega); simpa using this
theorem pow_s (m : Nat) : 2 ^ (m + 1 + 2) = 2 * 2 ^ (m + 2) := by rw [show m + 1 + 2 = (m + 2) + 1 by omega, Nat.pow_succ]; omega
theorem Pt.free {m : Nat} {ar : List Srt} {s : Srt} {x : Tx} (hx : x ∈ names6) (h : s.dp ≤ 3) : Pt m ar s (.free x s) :=
  ⟨⟨hx, h⟩, .free (names6_ok hx) (by omega), by have := four m; simp only [Tm.sz]; omega, by simp [Tm.dp], by simp only [Tm.d, D.dep, depL, Srt.dep]; omega⟩
theorem Pt.bound {m : Nat} {ar : List Srt} {s : Srt} {k : Nat} (h : k < ar.length) (h2 : ar[ar.length - 1 - k]? = some s) : Pt m ar s (.bound k) :=
  ⟨trivial, .bound h h2, by have := four m; simp only [Tm.sz]; omega, by simp [Tm.dp], by simp only [Tm.d, D.dep, depL]; omega⟩
theorem Pt.same {m : Nat} {ar : List Srt} {s : Srt} (h : s.dp ≤ 3) : Pt m ar (.f s (.f s .t)) (.same s) :=
  ⟨h, .same (by simp only [Srt.dp]; omega), by have := four m; simp only [Tm.sz]; omega, by simp [Tm.dp], by simp only [Tm.d, D.dep, depL, Srt.dep]; omega⟩
theorem Pt.lam {m : Nat} {ar : List Srt} {s u : Srt} {b : Tm} (h : (Srt.f s u).dp ≤ 4) (h3 : s.dp ≤ 3) (p : Pt m (ar ++ [s]) u b) : Pt (m + 1) ar (.f s u) (.lam s b) :=
  ⟨⟨h3, p.dr⟩, .lam (by omega) p.ty, by have := p.sz; have := pow_s m; simp only [Tm.sz]; omega, by have := p.dp; simp only [Tm.dp]; omega, by
    have := p.dd; simp only [Srt.dp] at h; simp only [Tm.d, D.dep, depL, Srt.dep]; omega⟩
theorem Pt.of {m : Nat} {ar : List Srt} {u v : Srt} {a b : Tm} (p : Pt m ar (.f u v) a) (q : Pt m ar u b) : Pt (m + 1) ar v (.of a b) :=
  ⟨⟨p.dr, q.dr⟩, .of p.ty q.ty, by have := p.sz; have := q.sz; have := pow_s m; simp only [Tm.sz]; omega, by have := p.dp; have := q.dp; simp only [Tm.dp]; omega, by
    have := p.dd; have := q.dd; simp only [Tm.d, D.dep, depL]; omega⟩
theorem Pt.eqs {m : Nat} {ar : List Srt} {u : Srt} {a b : Tm} (h : u.dp ≤ 1) (p : Pt m ar u a) (q : Pt m ar u b) : Pt (m + 1) ar .t (.of (.of (.same u) a) b) :=
  ⟨⟨⟨show u.dp ≤ 3 by omega, p.dr⟩, q.dr⟩, .of (.of (.same (by simp only [Srt.dp]; omega)) p.ty) q.ty, by have := p.sz; have := q.sz; have := pow_s m; simp only [Tm.sz]; omega, by have := p.dp; have := q.dp; simp only [Tm.dp]; omega, by
    have := p.dd; have := q.dd; simp only [Tm.d, D.dep, depL, Srt.dep]; omega⟩
/-- the places at which a binder of the sort stands -/
def plB (ar : List Srt) (s : Srt) : D → Bool
  | .int j => decide (ar.getD (ar.length - 1 - j.toNat) .t = s)
  | _ => false
def plL (ar : List Srt) (s : Srt) : List D := (rngL 0 1 ar.length).filter (plB ar s)
theorem plL_mem {ar : List Srt} {s : Srt} {d : D} (h : d ∈ plL ar s) : ∃ k : Nat, d = .int k ∧ k < ar.length ∧ ar[ar.length - 1 - k]? = some s := by
  obtain ⟨h1, h2⟩ := List.mem_filter.mp h
  obtain ⟨k, hk, rfl⟩ := rngL_mem h1
  have e : (0 : Int) + (k : Int) * 1 = (k : Int) := by omega
  rw [e] at h2 ⊢
  refine ⟨k, rfl, hk, ?_⟩
  have hlt : ar.length - 1 - k < ar.length := by omega
  simp only [plB, Int.toNat_natCast, decide_eq_true_eq, List.getD_eq_getElem?_getD, List.getElem?_eq_getElem hlt, Option.getD_some] at h2
  rw [List.getElem?_eq_getElem hlt, h2]
theorem plL_plain (ar : List Srt) (s : Srt) : plainL (plL ar s) = true := plainL_of fun d hd => by obtain ⟨k, rfl, _⟩ := plL_mem hd; rfl
theorem plL_len (ar : List Srt) (s : Srt) : (plL ar s).length ≤ ar.length := by
  have := List.length_filter_le (plB ar s) (rngL 0 1 ar.length)
  rw [rngL_len] at this
  exact this
theorem part_ok (ns : List Int) (hns : ns.length ≤ 63) : ∀ (m n : Nat) (k : Int) (s : Srt) (ar : List Srt), s.dp ≤ 3 → (∀ u ∈ ar, u.dp ≤ 5) → ar.length + n ≤ 1000 → m + 8 < n →
    ∃ t, R n 33 [iL ns, .int k, s.d, .lst (ar.map Srt.d), .int m] = .ok t.d ∧ Pt m ar s t
  | m, 0, k, s, ar, _, _, _, h => by omega
  | m, n + 1, k, s, ar, hs, har, hl, hn => by
    obtain ⟨n', rfl⟩ : ∃ q, n = q + 1 := ⟨n - 1, by omega⟩
    rw [R_at lib33 rfl]
    simp only [F33, start, List.map_cons, List.map_nil, List.cons_append, List.nil_append, Nat.reduceSub, List.replicate]
    have hc := cell_ok n' ns k hns
    have hd := drawn_ok n' (cellI ns k) k
    generalize drawI (cellI ns k) k = v at hd
    simp! [hc, hd, List.length_map, rngD1 (i := (ar.length : Int)) (by omega) (by omega), Int.toNat_natCast, kGo]
    rw [compGo_all (f := id) (plB ar s) (fun d hd => by
      obtain ⟨j, hj, rfl⟩ := rngL_mem hd
      have e : (0 : Int) + (j : Int) * 1 = (j : Int) := by omega
      rw [e]
      refine ⟨?_, fun _ => by simp! []; rfl⟩
      have hlt : ar.length - 1 - j < ar.length := by omega
      have e2 : ((ar.length : Nat) : Int) - 1 - (j : Int) = ((ar.length - 1 - j : Nat) : Int) := by omega
      have e3 : atD (ar.map Srt.d) ((ar.length - 1 - j : Nat) : Int) = .ok (ar[ar.length - 1 - j]'hlt).d := atD_nat (by rw [List.getElem?_map, List.getElem?_eq_getElem hlt]; rfl)
      simp! [List.length_map, e2, e3, Srt.eqD _ s (show min (ar[ar.length - 1 - j]'hlt).dp s.dp ≤ 64 by omega)]
      simp [plB, List.getD_eq_getElem?_getD, List.getElem?_eq_getElem hlt])]
    rw [List.map_id, show (rngL 0 1 ar.length).filter (plB ar s) = plL ar s from rfl]
    have hpl := plL_len ar s
    simp! [kLst, sz_le (show (plL ar s).length ≤ 1000000 by omega), eqD_lstE _ (plL_plain ar s)]
    have hv := hd
    clear hd hc
    -- what comes behind the places
    have rest : ∃ t, (((evSs (R (n' + 1)) 2000 (F33.body.drop 3) [Sl.val (iL ns), Sl.val (.int k), Sl.val s.d, Sl.val (.lst (ar.map Srt.d)), Sl.val (.int m), Sl.val (.int v), Sl.val (.lst (plL ar s)), Sl.no, Sl.no])).out = .ok t.d) ∧ Pt m ar s t := by
      simp only [F33, List.drop_succ_cons, List.drop_zero]
      have hsd := law_sort_depth_ok s (n' + 1) (by omega)
      simp! []
      generalize v / 16 = x
      cases h7 : (x % 7 == 0) with
      | true =>
        cases hm : ((m : Int) == 0) with
        | true =>
          simp! [hm]
          obtain ⟨nm, hnm, hlf⟩ := (law_leaf_ok) n' s (x / 7)
          cases s with
          | t =>
            have hlf : R (n' + 1) _ [.str [116], .int (x / 7)] = _ := hlf
            exact ⟨_, by simp! [Srt.d, hlf], .free hnm (by omega)⟩
          | i =>
            have hlf : R (n' + 1) _ [.str [105], .int (x / 7)] = _ := hlf
            exact ⟨_, by simp! [Srt.d, hlf], .free hnm (by omega)⟩
          | f a b =>
            have hlf : R (n' + 1) _ [.tup [a.d, b.d], .int (x / 7)] = _ := hlf
            have ee : eqD (.tup [a.d, b.d]) (.tup [a.d, .tup [a.d, .str [116]]]) = .ok (decide (Srt.f a b = Srt.f a (.f a .t))) := Srt.eqD (.f a b) (.f a (.f a .t)) (by simp only [Srt.dp] at hs ⊢; omega)
            cases h1 : (x / 7 % 3 == 0) with
            | false => exact ⟨_, by simp! [Srt.d, h1, hlf], .free hnm (by omega)⟩
            | true =>
              by_cases h2 : Srt.f a b = Srt.f a (.f a .t)
              · refine ⟨.same a, by simp! [Srt.d, h1, ee, decide_eq_true h2]; rfl, ?_⟩
                rw [h2]; rw [h2] at hs
                exact .same (by simp only [Srt.dp] at hs; omega)
              · exact ⟨_, by simp! [Srt.d, h1, ee, decide_eq_false h2, hlf], .free hnm (by omega)⟩
        | false =>
          simp! [hm, h7]
          obtain ⟨nm, hnm, hlf⟩ := (law_leaf_ok) n' s (x / 7)
          cases s with
          | t =>
            have hlf : R (n' + 1) _ [.str [116], .int (x / 7)] = _ := hlf
            exact ⟨_, by simp! [Srt.d, hlf], .free hnm (by omega)⟩
          | i =>
            have hlf : R (n' + 1) _ [.str [105], .int (x / 7)] = _ := hlf
            exact ⟨_, by simp! [Srt.d, hlf], .free hnm (by omega)⟩
          | f a b =>
            have hlf : R (n' + 1) _ [.tup [a.d, b.d], .int (x / 7)] = _ := hlf
            have ee : eqD (.tup [a.d, b.d]) (.tup [a.d, .tup [a.d, .str [116]]]) = .ok (decide (Srt.f a b = Srt.f a (.f a .t))) := Srt.eqD (.f a b) (.f a (.f a .t)) (by simp only [Srt.dp] at hs ⊢; omega)
            cases h1 : (x / 7 % 3 == 0) with
            | false => exact ⟨_, by simp! [Srt.d, h1, hlf], .free hnm (by omega)⟩
            | true =>
              by_cases h2 : Srt.f a b = Srt.f a (.f a .t)
              · refine ⟨.same a, by simp! [Srt.d, h1, ee, decide_eq_true h2]; rfl, ?_⟩
                rw [h2]; rw [h2] at hs
                exact .same (by simp only [Srt.dp] at hs; omega)
              · exact ⟨_, by simp! [Srt.d, h1, ee, decide_eq_false h2, hlf], .free hnm (by omega)⟩
      | false =>
        cases hm : ((m : Int) == 0) with
        | true =>
          simp! [hm]
          obtain ⟨nm, hnm, hlf⟩ := (law_leaf_ok) n' s (x / 7)
          cases s with
          | t =>
            have hlf : R (n' + 1) _ [.str [116], .int (x / 7)] = _ := hlf
            exact ⟨_, by simp! [Srt.d, hlf], .free hnm (by omega)⟩
          | i =>
            have hlf : R (n' + 1) _ [.str [105], .int (x / 7)] = _ := hlf
            exact ⟨_, by simp! [Srt.d, hlf], .free hnm (by omega)⟩
          | f a b =>
            have hlf : R (n' + 1) _ [.tup [a.d, b.d], .int (x / 7)] = _ := hlf
            have ee : eqD (.tup [a.d, b.d]) (.tup [a.d, .tup [a.d, .str [116]]]) = .ok (decide (Srt.f a b = Srt.f a (.f a .t))) := Srt.eqD (.f a b) (.f a (.f a .t)) (by simp only [Srt.dp] at hs ⊢; omega)
            cases h1 : (x / 7 % 3 == 0) with
            | false => exact ⟨_, by simp! [Srt.d, h1, hlf], .free hnm (by omega)⟩
            | true =>
              by_cases h2 : Srt.f a b = Srt.f a (.f a .t)
              · refine ⟨.same a, by simp! [Srt.d, h1, ee, decide_eq_true h2]; rfl, ?_⟩
                rw [h2]; rw [h2] at hs
                exact .same (by simp only [Srt.dp] at hs; omega)
              · exact ⟨_, by simp! [Srt.d, h1, ee, decide_eq_false h2, hlf], .free hnm (by omega)⟩
        | false =>
          simp! [hm, h7, hsd]
          by_cases h3 : 2 < s.dp
          · simp! [decide_eq_true (show (2 : Int) < (s.dp : Int) by omega)]
            obtain ⟨nm, hnm, hlf⟩ := (law_leaf_ok) n' s (x / 7)
            cases s with
            | t =>
              have hlf : R (n' + 1) _ [.str [116], .int (x / 7)] = _ := hlf
              exact ⟨_, by simp! [Srt.d, hlf], .free hnm (by omega)⟩
            | i =>
              have hlf : R (n' + 1) _ [.str [105], .int (x / 7)] = _ := hlf
              exact ⟨_, by simp! [Srt.d, hlf], .free hnm (by omega)⟩
            | f a b =>
              have hlf : R (n' + 1) _ [.tup [a.d, b.d], .int (x / 7)] = _ := hlf
              have ee : eqD (.tup [a.d, b.d]) (.tup [a.d, .tup [a.d, .str [116]]]) = .ok (decide (Srt.f a b = Srt.f a (.f a .t))) := Srt.eqD (.f a b) (.f a (.f a .t)) (by simp only [Srt.dp] at hs ⊢; omega)
              cases h1 : (x / 7 % 3 == 0) with
              | false => exact ⟨_, by simp! [Srt.d, h1, hlf], .free hnm (by omega)⟩
              | true =>
                by_cases h2 : Srt.f a b = Srt.f a (.f a .t)
                · refine ⟨.same a, by simp! [Srt.d, h1, ee, decide_eq_true h2]; rfl, ?_⟩
                  rw [h2]; rw [h2] at hs
                  exact .same (by simp only [Srt.dp] at hs; omega)
                · exact ⟨_, by simp! [Srt.d, h1, ee, decide_eq_false h2, hlf], .free hnm (by omega)⟩
          · simp! [decide_eq_false (show ¬ (2 : Int) < (s.dp : Int) by omega)]
            obtain ⟨m, rfl⟩ : ∃ q, m = q + 1 := ⟨m - 1, by rw [int_eq0] at hm; simp at hm; omega⟩
            have em : ((m + 1 : Nat) : Int) - 1 = (m : Int) := by omega
            have ih := part_ok ns hns m (n' + 1)
            -- two parts put together
            have two : ∃ t, (((evSs (R (n' + 1)) 2000 (F33.body.drop 6) [Sl.val (iL ns), Sl.val (.int k), Sl.val s.d, Sl.val (.lst (ar.map Srt.d)), Sl.val (.int (m + 1 : Nat)), Sl.val (.int x), Sl.val (.lst (plL ar s)), Sl.no, Sl.no])).out = .ok t.d) ∧ Pt (m + 1) ar s t := by
              simp only [F33, List.drop_succ_cons, List.drop_zero]
              simp! [some_sort_ok n' (x / 7)]
              have hu := someS_dp (x / 7)
              generalize someS (x / 7) = u at hu
              have et : eqD s.d (.str [116]) = .ok (decide (s = .t)) := Srt.eqD s .t (by simp only [Srt.dp]; omega)
              obtain ⟨p1, e1, q1⟩ := ih (3 * k + 1) u ar (by omega) har (by omega) (by omega)
              obtain ⟨p2, e2, q2⟩ := ih (3 * k + 2) u ar (by omega) har (by omega) (by omega)
              obtain ⟨p3, e3, q3⟩ := ih (3 * k + 1) (.f u s) ar (by simp only [Srt.dp]; omega) har (by omega) (by omega)
              have e3 : R (n' + 1) 33 [iL ns, .int (3 * k + 1), .tup [u.d, s.d], .lst (ar.map Srt.d), .int m] = _ := e3
              have last : ∃ t, Out.ok (D.tup [.str [111, 102], p3.d, p2.d]) = Out.ok t.d ∧ Pt (m + 1) ar s t := ⟨.of p3 p2, rfl, .of q3 q2⟩
              by_cases hst : s = .t
              · cases h49 : (x / 49 % 2 == 0) with
                | true =>
                  subst hst
                  refine ⟨.of (.of (.same u) p1) p2, ?_, .eqs hu q1 q2⟩
                  simp! [et, decide_eq_true (rfl : Srt.t = Srt.t), h49, em, e1, e2]
                  rfl
                | false =>
                  simp! [et, decide_eq_true hst, h49, em, e3, e2]
                  exact last
              · simp! [et, decide_eq_false hst, em, e3, e2]
                exact last
            simp only [F33, List.drop_succ_cons, List.drop_zero] at two
            cases s with
            | t => revert two; simp! [Srt.d]; exact id
            | i => revert two; simp! [Srt.d]; exact id
            | f a b =>
              cases h5 : decide (x % 7 < 5) with
              | true =>
                simp only [Srt.dp] at h3
                obtain ⟨p, e, q⟩ := ih (3 * k + 1) b (ar ++ [a]) (by omega) (fun w hw => by
                  rcases List.mem_append.mp hw with hw | hw
                  · exact har w hw
                  · rw [List.mem_singleton.mp hw]; omega) (by simp; omega) (by omega)
                have e : R (n' + 1) 33 [iL ns, .int (3 * k + 1), b.d, .lst (ar.map Srt.d ++ [a.d]), .int m] = .ok p.d := by
                  rw [← e, List.map_append]; rfl
                refine ⟨.lam a p, ?_, .lam (by simp only [Srt.dp]; omega) (by omega) q⟩
                simp! [Srt.d, h5, em, v_addL _ _ (show (ar.map Srt.d).length + [a.d].length ≤ SZ from sz_le (by simp; omega)), e]
                rfl
              | false => 
                revert two
                simp! [Srt.d, h5]
                exact id
    simp only [F33, List.drop_succ_cons, List.drop_zero] at rest
    cases hpn : (plL ar s).isEmpty with
    | true => revert rest; simp! []; exact id
    | false =>
      cases h32 : decide (v % 3 < 2) with
      | false => revert rest; simp! [h32]; exact id
      | true =>
        have hne : plL ar s ≠ [] := by intro e; rw [e] at hpn; cases hpn
        obtain ⟨d, hd, e⟩ := at_modn (v / 3) hne
        obtain ⟨j, rfl, hj, hj2⟩ := plL_mem hd
        have hp : 0 < (plL ar s).length := List.length_pos_iff.mpr hne
        refine ⟨.bound j, ?_, .bound hj hj2⟩
        simp! [h32, v_mod _ _ (show (0 : Int) < ((plL ar s).length : Int) by omega), e]
        rfl
end Rf

/-! part RfTxt -/
set_option autoImplicit false
set_option linter.all false
set_option Elab.async false
set_option maxRecDepth 100000
set_option maxHeartbeats 4000000
/-! RfTxt: sorts and terms as texts, written and read. -/
namespace Rf
def sT : Srt → Tx
  | .t => [116]
  | .i => [105]
  | .f a b => 40 :: (sT a ++ 62 :: (sT b ++ [41]))
theorem sT_len : ∀ s : Srt, (sT s).length + 3 ≤ 4 * 2 ^ s.dp
  | .t => by decide
  | .i => by decide
  | .f a b => by
    have h1 := sT_len a
    have h2 := sT_len b
    have m1 : 2 ^ a.dp ≤ 2 ^ (max a.dp b.dp) := Nat.pow_le_pow_right (by decide) (Nat.le_max_left ..)
    have m2 : 2 ^ b.dp ≤ 2 ^ (max a.dp b.dp) := Nat.pow_le_pow_right (by decide) (Nat.le_max_right ..)
    have e : 2 ^ (1 + max a.dp b.dp) = 2 * 2 ^ (max a.dp b.dp) := by rw [Nat.pow_add]
    simp only [sT, Srt.dp, List.length_cons, List.length_append, List.length_nil]
    omega
theorem sT_le (s : Srt) (h : s.dp ≤ 7) : (sT s).length ≤ 512 := by
  have h1 := sT_len s
  have : 2 ^ s.dp ≤ 2 ^ 7 := Nat.pow_le_pow_right (by decide) h
  have e : (2 : Nat) ^ 7 = 128 := by decide
  omega
theorem v_addSK (a b : Tx) (h : a.length + b.length ≤ 1000000) : bopD .add (.str a) (.str b) = .ok (.str (a ++ b)) := v_addS a b (sz_le h)
theorem sort_text_ok : ∀ (s : Srt) (n : Nat), s.dp ≤ 7 → s.dp < n → R n 11 [s.d] = .ok (.str (sT s))
  | s, 0, _, h => by omega
  | .t, n + 1, _, _ => by (rw [R_at lib11 rfl]; simp only [F11, start, List.map_cons, List.map_nil, List.cons_append, List.nil_append, Nat.reduceSub, List.replicate, List.append_nil, Nat.sub_self]); simp only [Srt.d]; simp! []; rfl
  | .i, n + 1, _, _ => by (rw [R_at lib11 rfl]; simp only [F11, start, List.map_cons, List.map_nil, List.cons_append, List.nil_append, Nat.reduceSub, List.replicate, List.append_nil, Nat.sub_self]); simp only [Srt.d]; simp! []; rfl
  | .f a b, n + 1, h7, h => by
    simp only [Srt.dp] at h h7
    have la := sT_le a (by omega)
    have lb := sT_le b (by omega)
    (rw [R_at lib11 rfl]; simp only [F11, start, List.map_cons, List.map_nil, List.cons_append, List.nil_append, Nat.reduceSub, List.replicate, List.append_nil, Nat.sub_self])
    simp only [Srt.d]
    simp! [sort_text_ok a n (by omega) (by omega), sort_text_ok b n (by omega) (by omega)]
    rw [v_addSK _ _ (by simp; omega)]
    simp! []
    rw [v_addSK _ _ (by simp; omega)]
    simp! [sort_text_ok a n (by omega) (by omega), sort_text_ok b n (by omega) (by omega)]
    rw [v_addSK _ _ (by simp; omega)]
    simp! []
    rw [v_addSK _ _ (by simp; omega)]
    simp [sT]
theorem law_sort_text_ok : ∀ (s : Srt) (n : Nat), s.dp ≤ 7 → s.dp < n → R n 11 [s.d] = .ok (.str (sT s))
  | s, 0, _, h => by omega
  | .t, n + 1, _, _ => by (rw [R_at lib11 rfl]; simp only [F11, start, List.map_cons, List.map_nil, List.cons_append, List.nil_append, Nat.reduceSub, List.replicate, List.append_nil, Nat.sub_self]); simp only [Srt.d]; simp! []; rfl
  | .i, n + 1, _, _ => by (rw [R_at lib11 rfl]; simp only [F11, start, List.map_cons, List.map_nil, List.cons_append, List.nil_append, Nat.reduceSub, List.replicate, List.append_nil, Nat.sub_self]); simp only [Srt.d]; simp! []; rfl
  | .f a b, n + 1, h7, h => by
    simp only [Srt.dp] at h h7
    have la := sT_le a (by omega)
    have lb := sT_le b (by omega)
    (rw [R_at lib11 rfl]; simp only [F11, start, List.map_cons, List.map_nil, List.cons_append, List.nil_append, Nat.reduceSub, List.replicate, List.append_nil, Nat.sub_self])
    simp only [Srt.d]
    simp! [law_sort_text_ok a n (by omega) (by omega), law_sort_text_ok b n (by omega) (by omega)]
    rw [v_addSK _ _ (by simp; omega)]
    simp! []
    rw [v_addSK _ _ (by simp; omega)]
    simp! [law_sort_text_ok a n (by omega) (by omega), law_sort_text_ok b n (by omega) (by omega)]
    rw [v_addSK _ _ (by simp; omega)]
    simp! []
    rw [v_addSK _ _ (by simp; omega)]
    simp [sT]
/-- one sign at a place -/
theorem cut1 (P : Tx) (c : Nat) (r : Tx) : cut (P ++ c :: r) (some (P.length : Int)) (some ((P.length : Int) + 1)) = [c] := by
  unfold cut six
  simp only
  rw [if_neg (by omega), if_neg (by omega)]
  have e1 : min (P.length : Int).toNat (P ++ c :: r).length = P.length := by simp
  have e2 : min ((P.length : Int) + 1).toNat (P ++ c :: r).length = P.length + 1 := by simp
  rw [e1, e2]
  simp
theorem cut0 (P : Tx) : cut P (some (P.length : Int)) (some ((P.length : Int) + 1)) = [] := by
  unfold cut six
  simp only
  rw [if_neg (by omega), if_neg (by omega)]
  have e1 : min (P.length : Int).toNat P.length = P.length := by simp
  rw [e1]
  simp
theorem sort_from_ok : ∀ (s : Srt) (n left : Nat) (P Q : Tx), s.dp ≤ left → s.dp < n → R n 1 [.str (P ++ (sT s ++ Q)), .int P.length, .int left] = .ok (.tup [s.d, .int ((P ++ sT s).length : Nat)])
  | s, 0, _, _, _, _, h => by omega
  | .t, n + 1, left, P, Q, _, _ => by
    (rw [R_at lib1 rfl]; simp only [F1, start, List.map_cons, List.map_nil, List.cons_append, List.nil_append, Nat.reduceSub, List.replicate, List.append_nil, Nat.sub_self])
    simp only [sT, List.cons_append, List.nil_append]
    simp! [cut1, show (([116] : Tx) == [116]) = true from rfl]
    simp [Srt.d]
  | .i, n + 1, left, P, Q, _, _ => by
    (rw [R_at lib1 rfl]; simp only [F1, start, List.map_cons, List.map_nil, List.cons_append, List.nil_append, Nat.reduceSub, List.replicate, List.append_nil, Nat.sub_self])
    simp only [sT, List.cons_append, List.nil_append]
    simp! [cut1, show (([105] : Tx) == [116]) = false from rfl, show (([105] : Tx) == [105]) = true from rfl]
    simp [Srt.d]
  | .f a b, n + 1, left, P, Q, hl, h => by
    simp only [Srt.dp] at h hl
    obtain ⟨left, rfl⟩ : ∃ q, left = q + 1 := ⟨left - 1, by omega⟩
    have el : ((left + 1 : Nat) : Int) - 1 = (left : Int) := by omega
    have e0 : (((left + 1 : Nat) : Int) == 0) = false := by rw [int_eq0]; rfl
    have ia := sort_from_ok a n left (P ++ [40]) (62 :: (sT b ++ 41 :: Q)) (by omega) (by omega)
    have ib := sort_from_ok b n left (P ++ [40] ++ sT a ++ [62]) (41 :: Q) (by omega) (by omega)
    have t1 : P ++ (sT (.f a b) ++ Q) = (P ++ [40]) ++ (sT a ++ (62 :: (sT b ++ 41 :: Q))) := by simp [sT]
    have t2 : P ++ (sT (.f a b) ++ Q) = (P ++ [40] ++ sT a ++ [62]) ++ (sT b ++ 41 :: Q) := by simp [sT]
    have p1 : (P.length : Int) + 1 = ((P ++ [40]).length : Nat) := by simp
    have p2 : (((P ++ [40] ++ sT a).length : Nat) : Int) + 1 = ((P ++ [40] ++ sT a ++ [62]).length : Nat) := by simp; omega
    have c0 : cut (P ++ (sT (.f a b) ++ Q)) (some (P.length : Int)) (some ((P.length : Int) + 1)) = [40] := by
      rw [show P ++ (sT (.f a b) ++ Q) = P ++ 40 :: (sT a ++ (62 :: (sT b ++ 41 :: Q))) by simp [sT]]; exact cut1 _ _ _
    have c1 : cut (P ++ (sT (.f a b) ++ Q)) (some (((P ++ [40] ++ sT a).length : Nat) : Int)) (some ((((P ++ [40] ++ sT a).length : Nat) : Int) + 1)) = [62] := by
      rw [show P ++ (sT (.f a b) ++ Q) = (P ++ [40] ++ sT a) ++ 62 :: (sT b ++ 41 :: Q) by simp [sT]]; exact cut1 _ _ _
    have c2 : cut (P ++ (sT (.f a b) ++ Q)) (some (((P ++ [40] ++ sT a ++ [62] ++ sT b).length : Nat) : Int)) (some ((((P ++ [40] ++ sT a ++ [62] ++ sT b).length : Nat) : Int) + 1)) = [41] := by
      rw [show P ++ (sT (.f a b) ++ Q) = (P ++ [40] ++ sT a ++ [62] ++ sT b) ++ 41 :: Q by simp [sT]]; exact cut1 _ _ _
    rw [← t1, ← p1] at ia
    rw [← t2, ← p2] at ib
    have fin : (((P ++ [40] ++ sT a ++ [62] ++ sT b).length : Nat) : Int) + 1 = ((P ++ sT (.f a b)).length : Nat) := by simp [sT]; omega
    rw [fin] at c2
    (rw [R_at lib1 rfl]; simp only [F1, start, List.map_cons, List.map_nil, List.cons_append, List.nil_append, Nat.reduceSub, List.replicate, List.append_nil, Nat.sub_self])
    generalize P ++ (sT (.f a b) ++ Q) = T at *
    simp! [c0, show (([40] : Tx) == [116]) = false from rfl, show (([40] : Tx) == [105]) = false from rfl, show (([40] : Tx) == [40]) = true from rfl, e0, el, ia]
    simp! [c1, show (([62] : Tx) == [62]) = true from rfl, el, ib]
    simp! [c2, show (([41] : Tx) == [41]) = true from rfl, fin]
    rfl
end Rf

/-! part RfTxt2 -/
set_option autoImplicit false
set_option linter.all false
set_option Elab.async false
set_option maxRecDepth 100000
set_option maxHeartbeats 4000000
namespace Rf
def wr : Tm → Tx
  | .free x s => x ++ 58 :: sT s
  | .bound k => 35 :: numTx k
  | .same s => 61 :: sT s
  | .lam s b => 91 :: (sT s ++ 32 :: (wr b ++ [93]))
  | .of a b => 40 :: (wr a ++ 32 :: (wr b ++ [41]))
/-- what can be written and read -/
def Tm.ok : Tm → Prop
  | .free x s => nmB x = true ∧ s.dp ≤ 5
  | .bound k => k < 100
  | .same s => s.dp ≤ 5
  | .lam s b => s.dp ≤ 5 ∧ b.ok
  | .of a b => a.ok ∧ b.ok
theorem WT.ok {ar : List Srt} {t : Tm} {s : Srt} (h : WT ar t s) : ar.length + t.dp ≤ 100 → t.ok := by
  induction h with
  | free h1 h2 => exact fun _ => ⟨h1, h2⟩
  | bound h1 h2 => intro h; simp only [Tm.ok]; omega
  | same h => intro _; simp only [Srt.dp] at h; simp only [Tm.ok]; omega
  | @lam ar s u b h1 h2 ih => intro h; simp only [Tm.dp] at h; simp only [Srt.dp] at h1; exact ⟨by omega, ih (by simp; omega)⟩
  | of h1 h2 ih1 ih2 => intro h; simp only [Tm.dp] at h; exact ⟨ih1 (by omega), ih2 (by omega)⟩
theorem nm_len {x : Tx} (h : nmB x = true) : 1 ≤ x.length ∧ x.length ≤ 8 := by
  cases x with
  | nil => cases h
  | cons c r => simp only [nmB, Bool.and_eq_true, decide_eq_true_eq] at h; simp; omega
theorem nm_all {x : Tx} (h : nmB x = true) : ∀ c ∈ x, sgn c = true := by
  cases x with
  | nil => cases h
  | cons c r => simp only [nmB, Bool.and_eq_true, List.all_eq_true] at h; exact h.2.2
theorem num100 : ∀ k < 100, 1 ≤ (numTx k).length ∧ (numTx k).length ≤ 2 ∧ digB (numTx k) = true ∧ digV (numTx k) = k ∧ (numTx k).all (fun c => decide (c < 1114112)) = true ∧ ((numTx k).head? = some 48 → numTx k = [48]) := by decide +kernel
theorem numOk100 {k : Nat} (h : k < 100) : numOk (k : Int) = true := by
  obtain ⟨h1, h2, h3, h4, h5, _⟩ := num100 k h
  have hb : (k : Int) < 2 ^ 1900 := Int.lt_of_lt_of_le (show (k : Int) < 100 by omega) (by decide +kernel)
  simp only [numOk, Int.toNat_natCast, Bool.and_eq_true, decide_eq_true_eq]
  exact ⟨by omega, hb, by omega, h5⟩
theorem wr_len : ∀ t : Tm, t.ok → (wr t).length ≤ 600 * t.sz
  | .free x s, h => by have := nm_len h.1; have := sT_le s (by have := h.2; omega); simp only [wr, Tm.sz, List.length_append, List.length_cons]; omega
  | .bound k, h => by have := (num100 k h).2.1; simp only [wr, Tm.sz, List.length_cons]; omega
  | .same s, h => by have := sT_le s (by simp only [Tm.ok] at h; omega); simp only [wr, Tm.sz, List.length_cons]; omega
  | .lam s b, h => by have := wr_len b h.2; have := sT_le s (by have := h.1; omega); simp only [wr, Tm.sz, List.length_append, List.length_cons, List.length_nil]; omega
  | .of a b, h => by have := wr_len a h.1; have := wr_len b h.2; simp only [wr, Tm.sz, List.length_append, List.length_cons, List.length_nil]; omega
theorem v_strI {k : Nat} (h : k < 100) : biD .str [.int (k : Int)] = .ok (.str (numTx k)) := by
  simp only [biD, numOk100 h, if_true, Int.toNat_natCast]
theorem written_ok : ∀ (t : Tm) (n : Nat), t.ok → t.sz ≤ 1000 → t.dp + 6 < n → R n 58 [t.d] = .ok (.str (wr t))
  | t, 0, _, _, h => by omega
  | .free x s, n + 1, ho, hz, h => by
    have := nm_len ho.1
    have l1 := sT_le s (by have := ho.2; omega)
    (rw [R_at lib58 rfl]; simp only [F58, start, List.map_cons, List.map_nil, List.cons_append, List.nil_append, Nat.reduceSub, List.replicate, List.append_nil, Nat.sub_self])
    simp only [Tm.d]
    simp! [show (FREE == FREE) = true from rfl]
    rw [v_addSK _ _ (by simp; omega)]
    simp! [sort_text_ok s n (by have := ho.2; omega) (by have := ho.2; omega)]
    rw [v_addSK _ _ (by simp; omega)]
    simp [wr]
  | .bound k, n + 1, ho, hz, h => by
    have := (num100 k ho).2.1
    (rw [R_at lib58 rfl]; simp only [F58, start, List.map_cons, List.map_nil, List.cons_append, List.nil_append, Nat.reduceSub, List.replicate, List.append_nil, Nat.sub_self])
    simp only [Tm.d]
    simp! [show (BOUND == FREE) = false from rfl, show (BOUND == BOUND) = true from rfl, v_strI ho]
    rw [v_addSK _ _ (by simp; omega)]
    simp [wr]
  | .same s, n + 1, ho, hz, h => by
    simp only [Tm.ok] at ho
    have l1 := sT_le s (by omega)
    (rw [R_at lib58 rfl]; simp only [F58, start, List.map_cons, List.map_nil, List.cons_append, List.nil_append, Nat.reduceSub, List.replicate, List.append_nil, Nat.sub_self])
    simp only [Tm.d]
    simp! [show (SAME == FREE) = false from rfl, show (SAME == BOUND) = false from rfl, show (SAME == SAME) = true from rfl, sort_text_ok s n (by omega) (by omega)]
    rw [v_addSK _ _ (by simp; omega)]
    simp [wr]
  | .lam s b, n + 1, ho, hz, h => by
    simp only [Tm.sz] at hz
    simp only [Tm.dp] at h
    have l1 := sT_le s (by have := ho.1; omega)
    have l2 := wr_len b ho.2
    (rw [R_at lib58 rfl]; simp only [F58, start, List.map_cons, List.map_nil, List.cons_append, List.nil_append, Nat.reduceSub, List.replicate, List.append_nil, Nat.sub_self])
    simp only [Tm.d]
    simp! [show (FOR == FREE) = false from rfl, show (FOR == BOUND) = false from rfl, show (FOR == SAME) = false from rfl, show (FOR == FOR) = true from rfl, sort_text_ok s n (by have := ho.1; omega) (by have := ho.1; omega)]
    rw [v_addSK _ _ (by simp; omega)]
    simp! []
    rw [v_addSK _ _ (by simp; omega)]
    simp! [written_ok b n ho.2 (by omega) (by omega)]
    rw [v_addSK _ _ (by simp; omega)]
    simp! []
    rw [v_addSK _ _ (by simp; omega)]
    simp [wr]
  | .of a b, n + 1, ho, hz, h => by
    simp only [Tm.sz] at hz
    simp only [Tm.dp] at h
    have l1 := wr_len a ho.1
    have l2 := wr_len b ho.2
    (rw [R_at lib58 rfl]; simp only [F58, start, List.map_cons, List.map_nil, List.cons_append, List.nil_append, Nat.reduceSub, List.replicate, List.append_nil, Nat.sub_self])
    simp only [Tm.d]
    simp! [show (OF == FREE) = false from rfl, show (OF == BOUND) = false from rfl, show (OF == SAME) = false from rfl, show (OF == FOR) = false from rfl, written_ok a n ho.1 (by omega) (by omega)]
    rw [v_addSK _ _ (by simp; omega)]
    simp! []
    rw [v_addSK _ _ (by simp; omega)]
    simp! [written_ok b n ho.2 (by omega) (by omega)]
    rw [v_addSK _ _ (by simp; omega)]
    simp! []
    rw [v_addSK _ _ (by simp; omega)]
    simp [wr]
theorem law_written_ok : ∀ (t : Tm) (n : Nat), t.ok → t.sz ≤ 1000 → t.dp + 6 < n → R n 58 [t.d] = .ok (.str (wr t))
  | t, 0, _, _, h => by omega
  | .free x s, n + 1, ho, hz, h => by
    have := nm_len ho.1
    have l1 := sT_le s (by have := ho.2; omega)
    (rw [R_at lib58 rfl]; simp only [F58, start, List.map_cons, List.map_nil, List.cons_append, List.nil_append, Nat.reduceSub, List.replicate, List.append_nil, Nat.sub_self])
    simp only [Tm.d]
    simp! [show (FREE == FREE) = true from rfl]
    rw [v_addSK _ _ (by simp; omega)]
    simp! [law_sort_text_ok s n (by have := ho.2; omega) (by have := ho.2; omega)]
    rw [v_addSK _ _ (by simp; omega)]
    simp [wr]
  | .bound k, n + 1, ho, hz, h => by
    have := (num100 k ho).2.1
    (rw [R_at lib58 rfl]; simp only [F58, start, List.map_cons, List.map_nil, List.cons_append, List.nil_append, Nat.reduceSub, List.replicate, List.append_nil, Nat.sub_self])
    simp only [Tm.d]
    simp! [show (BOUND == FREE) = false from rfl, show (BOUND == BOUND) = true from rfl, v_strI ho]
    rw [v_addSK _ _ (by simp; omega)]
    simp [wr]
  | .same s, n + 1, ho, hz, h => by
    simp only [Tm.ok] at ho
    have l1 := sT_le s (by omega)
    (rw [R_at lib58 rfl]; simp only [F58, start, List.map_cons, List.map_nil, List.cons_append, List.nil_append, Nat.reduceSub, List.replicate, List.append_nil, Nat.sub_self])
    simp only [Tm.d]
    simp! [show (SAME == FREE) = false from rfl, show (SAME == BOUND) = false from rfl, show (SAME == SAME) = true from rfl, law_sort_text_ok s n (by omega) (by omega)]
    rw [v_addSK _ _ (by simp; omega)]
    simp [wr]
  | .lam s b, n + 1, ho, hz, h => by
    simp only [Tm.sz] at hz
    simp only [Tm.dp] at h
    have l1 := sT_le s (by have := ho.1; omega)
    have l2 := wr_len b ho.2
    (rw [R_at lib58 rfl]; simp only [F58, start, List.map_cons, List.map_nil, List.cons_append, List.nil_append, Nat.reduceSub, List.replicate, List.append_nil, Nat.sub_self])
    simp only [Tm.d]
    simp! [show (FOR == FREE) = false from rfl, show (FOR == BOUND) = false from rfl, show (FOR == SAME) = false from rfl, show (FOR == FOR) = true from rfl, law_sort_text_ok s n (by have := ho.1; omega) (by have := ho.1; omega)]
    rw [v_addSK _ _ (by simp; omega)]
    simp! []
    rw [v_addSK _ _ (by simp; omega)]
    simp! [law_written_ok b n ho.2 (by omega) (by omega)]
    rw [v_addSK _ _ (by simp; omega)]
    simp! []
    rw [v_addSK _ _ (by simp; omega)]
    simp [wr]
  | .of a b, n + 1, ho, hz, h => by
    simp only [Tm.sz] at hz
    simp only [Tm.dp] at h
    have l1 := wr_len a ho.1
    have l2 := wr_len b ho.2
    (rw [R_at lib58 rfl]; simp only [F58, start, List.map_cons, List.map_nil, List.cons_append, List.nil_append, Nat.reduceSub, List.replicate, List.append_nil, Nat.sub_self])
    simp only [Tm.d]
    simp! [show (OF == FREE) = false from rfl, show (OF == BOUND) = false from rfl, show (OF == SAME) = false from rfl, show (OF == FOR) = false from rfl, law_written_ok a n ho.1 (by omega) (by omega)]
    rw [v_addSK _ _ (by simp; omega)]
    simp! []
    rw [v_addSK _ _ (by simp; omega)]
    simp! [law_written_ok b n ho.2 (by omega) (by omega)]
    rw [v_addSK _ _ (by simp; omega)]
    simp! []
    rw [v_addSK _ _ (by simp; omega)]
    simp [wr]
end Rf

/-! part RfTxt3 -/
set_option autoImplicit false
set_option linter.all false
set_option Elab.async false
set_option maxRecDepth 100000
set_option maxHeartbeats 4000000
namespace Rf
theorem need_ok (n : Nat) (P : Tx) (c : Nat) (r : Tx) : R (n + 1) 59 [.str (P ++ c :: r), .int P.length, .str [c]] = .ok (.int ((P ++ [c]).length : Nat)) := by
  (rw [R_at lib59 rfl]; simp only [F59, start, List.map_cons, List.map_nil, List.cons_append, List.nil_append, Nat.reduceSub, List.replicate, List.append_nil, Nat.sub_self])
  simp! [cut1, show (([c] : Tx) == [c]) = true from beq_self_eq_true _]
  simp
/-- a text ends here, or goes on by another sign -/
def Ends (S : Tx) (Q : Tx) : Prop := Q = [] ∨ ∃ c r, Q = c :: r ∧ c ∉ S
theorem at_app {P : Tx} {c : Nat} {r : Tx} : atD (P ++ c :: r) (P.length : Int) = .ok c := atD_nat (by simp)
theorem run_end_ok (n : Nat) (P x Q S : Tx) (hx : ∀ c ∈ x, c ∈ S) (hq : Ends S Q) (hl : x.length < 2000) : R (n + 1) 60 [.str (P ++ (x ++ Q)), .int P.length, .str S] = .ok (.int ((P ++ x).length : Nat)) := by
  (rw [R_at lib60 rfl]; simp only [F60, start, List.map_cons, List.map_nil, List.cons_append, List.nil_append, Nat.reduceSub, List.replicate, List.append_nil, Nat.sub_self])
  simp! []
  obtain ⟨ρ', k, q1, q2, q3⟩ := kWhl_inv (call := R n) (w := 2000) (c := (.and (.cmp (.lt) (.var 1) (.bi (.len) [(.var 0)])) (.cmp (.inn) (.sub (.var 0) (.var 1)) (.var 2)))) (body := [(.set 1 (.bop (.add) (.var 1) (.const (.int (1)))))])
    (fun m ρ => ∃ y z, x = y ++ z ∧ z.length = m ∧ ρ = [.val (.str (P ++ (x ++ Q))), .val (.int ((P ++ y).length : Nat)), .val (.str S)]) (m := x.length) (ρ := [.val (.str (P ++ (x ++ Q))), .val (.int P.length), .val (.str S)])
    (fun m ρ hI => by
      obtain ⟨y, z, hx', hz, rfl⟩ := hI
      match z, hz with
      | [], hz =>
        left
        rw [List.append_nil] at hx'
        subst hx'
        rcases hq with rfl | ⟨c, r, rfl, hc⟩
        · have e : decide ((((P ++ x).length : Nat) : Int) < (((P ++ (x ++ ([] : Tx))).length : Nat) : Int)) = false := by simp
          simp! [e]
        · have e : decide ((((P ++ x).length : Nat) : Int) < (((P ++ (x ++ c :: r)).length : Nat) : Int)) = true := by simp; omega
          have e2 : atD (P ++ (x ++ c :: r)) ((P ++ x).length : Nat) = .ok c := by rw [← List.append_assoc]; exact at_app
          simp! [e, v_subS, e2, kStr_ok, v_inS, decide_eq_false hc]
      | c :: z, hz =>
        right
        have hc : c ∈ S := hx c (by rw [hx']; simp)
        have e : decide ((((P ++ y).length : Nat) : Int) < (((P ++ (x ++ Q)).length : Nat) : Int)) = true := by rw [hx']; simp; omega
        have e2 : atD (P ++ (x ++ Q)) ((P ++ y).length : Nat) = .ok c := by
          rw [hx', show P ++ (y ++ c :: z ++ Q) = (P ++ y) ++ c :: (z ++ Q) by simp]; exact at_app
        refine ⟨by simp! [e, v_subS, e2, kStr_ok, v_inS, decide_eq_true hc], _, z.length, .inl (by simp! []; rfl), by simp at hz; omega, y ++ [c], z, by rw [hx']; simp, rfl, ?_⟩
        have e3 : (((P ++ y).length : Nat) : Int) + 1 = ((P ++ (y ++ [c])).length : Nat) := by simp; omega
        rw [e3]) hl ⟨[], x, rfl, rfl, by simp⟩
  rw [q1]
  obtain ⟨y, z, hx', hz, rfl⟩ := q2
  -- the end: nothing is left of x
  have hz0 : z = [] := by
    match z, hz with
    | [], _ => rfl
    | c :: z, _ =>
      have hc : c ∈ S := hx c (by rw [hx']; simp)
      have e : decide ((((P ++ y).length : Nat) : Int) < (((P ++ (x ++ Q)).length : Nat) : Int)) = true := by rw [hx']; simp; omega
      have e2 : atD (P ++ (x ++ Q)) ((P ++ y).length : Nat) = .ok c := by
        rw [hx', show P ++ (y ++ c :: z ++ Q) = (P ++ y) ++ c :: (z ++ Q) by simp]; exact at_app
      have : ((evE (R n) (.and (.cmp (.lt) (.var 1) (.bi (.len) [(.var 0)])) (.cmp (.inn) (.sub (.var 0) (.var 1)) (.var 2))) [.val (.str (P ++ (x ++ Q))), .val (.int ((P ++ y).length : Nat)), .val (.str S)]).bind truthy) = .ok true := by
        simp! [e, v_subS, e2, kStr_ok, v_inS, decide_eq_true hc]
      rw [this] at q3
      cases q3
  rw [hz0, List.append_nil] at hx'
  rw [hx']
  simp! []
theorem cut_mid (P x Q : Tx) : cut (P ++ (x ++ Q)) (some (P.length : Int)) (some ((P ++ x).length : Nat)) = x := by
  unfold cut six
  simp only
  rw [if_neg (by omega), if_neg (by omega)]
  have e1 : min (P.length : Int).toNat (P ++ (x ++ Q)).length = P.length := by simp
  have e2 : min (((P ++ x).length : Nat) : Int).toNat (P ++ (x ++ Q)).length = P.length + x.length := by simp; omega
  rw [e1, e2]
  simp
theorem bound_from_ok (n : Nat) (k : Nat) (P Q : Tx) (hk : k < 100) (hq : Ends FIG Q) : R (n + 2) 61 [.str (P ++ (numTx k ++ Q)), .int P.length] = .ok (.tup [(Tm.bound k).d, .int ((P ++ numTx k).length : Nat)]) := by
  obtain ⟨h1, h2, h3, h4, h5, h6⟩ := num100 k hk
  have hd : ∀ c ∈ numTx k, c ∈ FIG := fun c hc => by
    simp only [digB, Bool.and_eq_true, List.all_eq_true, decide_eq_true_eq] at h3
    have := h3.2 c hc
    have : c = 48 ∨ c = 49 ∨ c = 50 ∨ c = 51 ∨ c = 52 ∨ c = 53 ∨ c = 54 ∨ c = 55 ∨ c = 56 ∨ c = 57 := by omega
    simp only [List.mem_cons, List.not_mem_nil, or_false]; exact this
  have hr := run_end_ok n P (numTx k) Q FIG hd hq (by omega)
  have hv : biD .int [.str (numTx k)] = .ok (.int (k : Int)) := by
    simp only [biD, h3, Bool.true_and]
    rw [if_pos (by simp; omega), h4]
  (rw [R_at lib61 rfl]; simp only [F61, start, List.map_cons, List.map_nil, List.cons_append, List.nil_append, Nat.reduceSub, List.replicate, List.append_nil, Nat.sub_self])
  simp! [hr, cut_mid, decide_eq_true (show (1 : Int) ≤ ((numTx k).length : Int) by omega), decide_eq_true (show ((numTx k).length : Int) ≤ 2 by omega)]
  have hne : numTx k ≠ [] := fun e => by rw [e] at h1; simp at h1
  obtain ⟨c, r, hcr⟩ : ∃ c r, numTx k = c :: r := List.exists_cons_of_ne_nil hne
  rw [hcr] at h6 hv ⊢
  simp! [v_subS, at0, kStr_ok]
  cases hc : (([c] : Tx) == [48]) with
  | false => simp! [hv]; rfl
  | true =>
    have : c = 48 := by simpa using hc
    have e := h6 (by rw [this]; rfl)
    have e2 : ((c :: r : Tx) == [48]) = true := by rw [e]; rfl
    simp! [e2, hv]; rfl
theorem free_from_ok (n : Nat) (x : Tx) (s : Srt) (P Q : Tx) (hx : nmB x = true) (hs : s.dp ≤ 5) (hn : 7 < n) : R (n + 2) 62 [.str (P ++ (wr (.free x s) ++ Q)), .int P.length] = .ok (.tup [(Tm.free x s).d, .int ((P ++ wr (.free x s)).length : Nat)]) := by
  have hl := nm_len hx
  have hr := run_end_ok n P x (58 :: (sT s ++ Q)) (LET ++ FIG) (fun c hc => by
    have := nm_all hx c hc
    rw [← sgn_app] at this
    simpa using this) (.inr ⟨58, _, rfl, by decide⟩) (by omega)
  have t1 : P ++ (wr (.free x s) ++ Q) = P ++ (x ++ 58 :: (sT s ++ Q)) := by simp [wr]
  have t2 : P ++ (wr (.free x s) ++ Q) = (P ++ x) ++ 58 :: (sT s ++ Q) := by simp [wr]
  have t3 : P ++ (wr (.free x s) ++ Q) = (P ++ x ++ [58]) ++ (sT s ++ Q) := by simp [wr]
  have hc := cut_mid P x (58 :: (sT s ++ Q))
  have hnd := need_ok n (P ++ x) 58 (sT s ++ Q)
  have hsf := sort_from_ok s (n + 1) 5 (P ++ x ++ [58]) Q hs (by omega)
  have fin : ((P ++ x ++ [58] ++ sT s).length : Nat) = (P ++ wr (.free x s)).length := by simp [wr]
  rw [← t1] at hr hc
  rw [← t2] at hnd
  rw [← t3, fin] at hsf
  have hsf : R (n + 1) 1 [.str (P ++ (wr (.free x s) ++ Q)), .int ((P ++ x ++ [58]).length : Nat), .int 5] = _ := hsf
  have hr : R (n + 1) 60 [.str (P ++ (wr (.free x s) ++ Q)), .int P.length, .str [97, 98, 99, 100, 101, 102, 103, 104, 105, 106, 107, 108, 109, 110, 111, 112, 113, 114, 115, 116, 117, 118, 119, 120, 121, 122, 48, 49, 50, 51, 52, 53, 54, 55, 56, 57]] = _ := hr
  (rw [R_at lib62 rfl]; simp only [F62, start, List.map_cons, List.map_nil, List.cons_append, List.nil_append, Nat.reduceSub, List.replicate, List.append_nil, Nat.sub_self])
  generalize P ++ (wr (.free x s) ++ Q) = T at *
  simp! [v_addSK LET FIG (by decide), List.cons_append, List.nil_append, hr, hc, is_name_ok n (.str x), nmD, hx, hnd, hsf]
  rfl
end Rf

/-! part RfTxt4 -/
set_option autoImplicit false
set_option linter.all false
set_option Elab.async false
set_option maxRecDepth 100000
set_option maxHeartbeats 4000000
namespace Rf
theorem let_ne {c : Nat} (h : c ∈ LET) (k : Nat) (hk : k ∉ LET) : (([c] : Tx) == [k]) = false := by
  have : c ≠ k := fun e => hk (e ▸ h)
  simp [this]
theorem ends_cons {c : Nat} {r : Tx} (h : c ∉ FIG) : Ends FIG (c :: r) := .inr ⟨c, r, rfl, h⟩
theorem part_from_ok : ∀ (t : Tm) (n left : Nat) (P Q : Tx), t.ok → t.dp ≤ left → Ends FIG Q → t.dp + 12 < n → R n 63 [.str (P ++ (wr t ++ Q)), .int P.length, .int left] = .ok (.tup [t.d, .int ((P ++ wr t).length : Nat)])
  | t, 0, _, _, _, _, _, _, h => by omega
  | .free x s, n + 1, left, P, Q, ho, hl, hq, h => by
    obtain ⟨m, rfl⟩ : ∃ m, n = m + 2 := ⟨n - 2, by omega⟩
    have hf := free_from_ok m x s P Q ho.1 ho.2 (by simp only [Tm.dp] at h; omega)
    have c0 : ∃ c, c ∈ LET ∧ cut (P ++ (wr (.free x s) ++ Q)) (some (P.length : Int)) (some ((P.length : Int) + 1)) = [c] := by
      have hx := ho.1
      cases x with
      | nil => cases hx
      | cons c r =>
        simp only [nmB, Bool.and_eq_true, decide_eq_true_eq] at hx
        exact ⟨c, hx.2.1, by simp only [wr, List.cons_append]; exact cut1 _ _ _⟩
    obtain ⟨c, hc, c0⟩ := c0
    (rw [R_at lib63 rfl]; simp only [F63, start, List.map_cons, List.map_nil, List.cons_append, List.nil_append, Nat.reduceSub, List.replicate, List.append_nil, Nat.sub_self])
    generalize P ++ (wr (.free x s) ++ Q) = T at *
    simp! [c0, let_ne hc 35 (by decide), let_ne hc 61 (by decide), let_ne hc 91 (by decide), let_ne hc 40 (by decide), hf]
  | .bound k, n + 1, left, P, Q, ho, hl, hq, h => by
    obtain ⟨m, rfl⟩ : ∃ m, n = m + 2 := ⟨n - 2, by omega⟩
    have hb := bound_from_ok m k (P ++ [35]) Q ho hq
    have t1 : P ++ (wr (.bound k) ++ Q) = (P ++ [35]) ++ (numTx k ++ Q) := by simp [wr]
    have p1 : (P.length : Int) + 1 = ((P ++ [35]).length : Nat) := by simp
    have fin : (P ++ [35] ++ numTx k).length = (P ++ wr (.bound k)).length := by simp [wr]
    have c0 : cut (P ++ (wr (.bound k) ++ Q)) (some (P.length : Int)) (some ((P.length : Int) + 1)) = [35] := by simp only [wr, List.cons_append]; exact cut1 _ _ _
    rw [← t1, ← p1, fin] at hb
    (rw [R_at lib63 rfl]; simp only [F63, start, List.map_cons, List.map_nil, List.cons_append, List.nil_append, Nat.reduceSub, List.replicate, List.append_nil, Nat.sub_self])
    generalize P ++ (wr (.bound k) ++ Q) = T at *
    simp! [c0, show (([35] : Tx) == [35]) = true from rfl, hb]
  | .same s, n + 1, left, P, Q, ho, hl, hq, h => by
    simp only [Tm.ok] at ho
    have hs := sort_from_ok s n 5 (P ++ [61]) Q ho (by omega)
    have t1 : P ++ (wr (.same s) ++ Q) = (P ++ [61]) ++ (sT s ++ Q) := by simp [wr]
    have p1 : (P.length : Int) + 1 = ((P ++ [61]).length : Nat) := by simp
    have fin : (P ++ [61] ++ sT s).length = (P ++ wr (.same s)).length := by simp [wr]
    have c0 : cut (P ++ (wr (.same s) ++ Q)) (some (P.length : Int)) (some ((P.length : Int) + 1)) = [61] := by simp only [wr, List.cons_append]; exact cut1 _ _ _
    rw [← t1, ← p1, fin] at hs
    have hs : R n 1 [.str (P ++ (wr (.same s) ++ Q)), .int ((P.length : Int) + 1), .int 5] = _ := hs
    (rw [R_at lib63 rfl]; simp only [F63, start, List.map_cons, List.map_nil, List.cons_append, List.nil_append, Nat.reduceSub, List.replicate, List.append_nil, Nat.sub_self])
    generalize P ++ (wr (.same s) ++ Q) = T at *
    simp! [c0, show (([61] : Tx) == [35]) = false from rfl, show (([61] : Tx) == [61]) = true from rfl, hs]
    rfl
  | .lam s b, n + 1, left, P, Q, ho, hl, hq, h => by
    simp only [Tm.dp] at hl h
    obtain ⟨left, rfl⟩ : ∃ q, left = q + 1 := ⟨left - 1, by omega⟩
    obtain ⟨m, rfl⟩ : ∃ m, n = m + 1 := ⟨n - 1, by omega⟩
    have el : ((left + 1 : Nat) : Int) - 1 = (left : Int) := by omega
    have e0 : (((left + 1 : Nat) : Int) == 0) = false := by rw [int_eq0]; rfl
    have hs := sort_from_ok s (m + 1) 5 (P ++ [91]) (32 :: (wr b ++ 93 :: Q)) ho.1 (by have := ho.1; omega)
    have hn1 := need_ok m (P ++ [91] ++ sT s) 32 (wr b ++ 93 :: Q)
    have hb := part_from_ok b (m + 1) left (P ++ [91] ++ sT s ++ [32]) (93 :: Q) ho.2 (by omega) (ends_cons (by decide)) (by omega)
    have hn2 := need_ok m (P ++ [91] ++ sT s ++ [32] ++ wr b) 93 Q
    have t1 : P ++ (wr (.lam s b) ++ Q) = (P ++ [91]) ++ (sT s ++ 32 :: (wr b ++ 93 :: Q)) := by simp [wr]
    have t2 : P ++ (wr (.lam s b) ++ Q) = (P ++ [91] ++ sT s) ++ 32 :: (wr b ++ 93 :: Q) := by simp [wr]
    have t3 : P ++ (wr (.lam s b) ++ Q) = (P ++ [91] ++ sT s ++ [32]) ++ (wr b ++ 93 :: Q) := by simp [wr]
    have t4 : P ++ (wr (.lam s b) ++ Q) = (P ++ [91] ++ sT s ++ [32] ++ wr b) ++ 93 :: Q := by simp [wr]
    have p1 : (P.length : Int) + 1 = ((P ++ [91]).length : Nat) := by simp
    have fin : (P ++ [91] ++ sT s ++ [32] ++ wr b ++ [93]).length = (P ++ wr (.lam s b)).length := by simp [wr]
    have c0 : cut (P ++ (wr (.lam s b) ++ Q)) (some (P.length : Int)) (some ((P.length : Int) + 1)) = [91] := by simp only [wr, List.cons_append]; exact cut1 _ _ _
    rw [← t1, ← p1] at hs
    rw [← t2] at hn1
    rw [← t3] at hb
    rw [← t4, fin] at hn2
    have hs : R (m + 1) 1 [.str (P ++ (wr (.lam s b) ++ Q)), .int ((P.length : Int) + 1), .int 5] = _ := hs
    (rw [R_at lib63 rfl]; simp only [F63, start, List.map_cons, List.map_nil, List.cons_append, List.nil_append, Nat.reduceSub, List.replicate, List.append_nil, Nat.sub_self])
    generalize P ++ (wr (.lam s b) ++ Q) = T at *
    simp! [c0, show (([91] : Tx) == [35]) = false from rfl, show (([91] : Tx) == [61]) = false from rfl, show (([91] : Tx) == [91]) = true from rfl, e0, hs, hn1, el, hb, hn2]
    rfl
  | .of a b, n + 1, left, P, Q, ho, hl, hq, h => by
    simp only [Tm.dp] at hl h
    obtain ⟨left, rfl⟩ : ∃ q, left = q + 1 := ⟨left - 1, by omega⟩
    obtain ⟨m, rfl⟩ : ∃ m, n = m + 1 := ⟨n - 1, by omega⟩
    have el : ((left + 1 : Nat) : Int) - 1 = (left : Int) := by omega
    have e0 : (((left + 1 : Nat) : Int) == 0) = false := by rw [int_eq0]; rfl
    have ha := part_from_ok a (m + 1) left (P ++ [40]) (32 :: (wr b ++ 41 :: Q)) ho.1 (by omega) (ends_cons (by decide)) (by omega)
    have hn1 := need_ok m (P ++ [40] ++ wr a) 32 (wr b ++ 41 :: Q)
    have hb := part_from_ok b (m + 1) left (P ++ [40] ++ wr a ++ [32]) (41 :: Q) ho.2 (by omega) (ends_cons (by decide)) (by omega)
    have hn2 := need_ok m (P ++ [40] ++ wr a ++ [32] ++ wr b) 41 Q
    have t1 : P ++ (wr (.of a b) ++ Q) = (P ++ [40]) ++ (wr a ++ 32 :: (wr b ++ 41 :: Q)) := by simp [wr]
    have t2 : P ++ (wr (.of a b) ++ Q) = (P ++ [40] ++ wr a) ++ 32 :: (wr b ++ 41 :: Q) := by simp [wr]
    have t3 : P ++ (wr (.of a b) ++ Q) = (P ++ [40] ++ wr a ++ [32]) ++ (wr b ++ 41 :: Q) := by simp [wr]
    have t4 : P ++ (wr (.of a b) ++ Q) = (P ++ [40] ++ wr a ++ [32] ++ wr b) ++ 41 :: Q := by simp [wr]
    have p1 : (P.length : Int) + 1 = ((P ++ [40]).length : Nat) := by simp
    have fin : (P ++ [40] ++ wr a ++ [32] ++ wr b ++ [41]).length = (P ++ wr (.of a b)).length := by simp [wr]
    have c0 : cut (P ++ (wr (.of a b) ++ Q)) (some (P.length : Int)) (some ((P.length : Int) + 1)) = [40] := by simp only [wr, List.cons_append]; exact cut1 _ _ _
    rw [← t1, ← p1] at ha
    rw [← t2] at hn1
    rw [← t3] at hb
    rw [← t4, fin] at hn2
    (rw [R_at lib63 rfl]; simp only [F63, start, List.map_cons, List.map_nil, List.cons_append, List.nil_append, Nat.reduceSub, List.replicate, List.append_nil, Nat.sub_self])
    generalize P ++ (wr (.of a b) ++ Q) = T at *
    simp! [c0, show (([40] : Tx) == [35]) = false from rfl, show (([40] : Tx) == [61]) = false from rfl, show (([40] : Tx) == [91]) = false from rfl, show (([40] : Tx) == [40]) = true from rfl, e0, el, ha, hn1, hb, hn2]
    rfl
theorem read_term_ok (t : Tm) (s : Srt) (n : Nat) (ht : WT [] t s) (ho : t.ok) (hd : t.dp ≤ 40) (hz : t.sz ≤ 600) (hdd : t.d.dep ≤ 100) (hn : 120 < n) (hl : n ≤ 1000) : R n 64 [.str (wr t)] = .ok t.d := by
  obtain ⟨m, rfl⟩ : ∃ m, n = m + 1 := ⟨n - 1, by omega⟩
  have hp := part_from_ok t m 40 [] [] ho hd (.inl rfl) (by omega)
  rw [List.append_nil, List.nil_append] at hp
  have hp : R m 63 [.str (wr t), .int 0, .int 40] = .ok (.tup [t.d, .int ((wr t).length : Nat)]) := hp
  have hi := is_term_ok m t.d t.plain (by omega) (by omega)
  rw [ht.sin] at hi
  have hsm : smallI (some (s, t.sz, t.dp)) = true := by simp only [smallI, Bool.and_eq_true, decide_eq_true_eq]; omega
  rw [hsm] at hi
  (rw [R_at lib64 rfl]; simp only [F64, start, List.map_cons, List.map_nil, List.cons_append, List.nil_append, Nat.reduceSub, List.replicate, List.append_nil, Nat.sub_self])
  simp! [hp, decide_eq_false (show ¬ (((wr t).length : Nat) : Int) < ((wr t).length : Nat) by omega), hi]
theorem Tm.inj : ∀ {a b : Tm}, a.d = b.d → a = b
  | .free x s, .free y u, h => by
    simp only [Tm.d, D.tup.injEq, List.cons.injEq, D.str.injEq, and_true, true_and] at h
    rw [h.1, Srt.inj h.2]
  | .bound k, .bound j, h => by
    simp only [Tm.d, D.tup.injEq, List.cons.injEq, D.int.injEq, and_true, true_and] at h
    rw [Int.ofNat_inj.mp h]
  | .same s, .same u, h => by
    simp only [Tm.d, D.tup.injEq, List.cons.injEq, and_true, true_and] at h
    rw [Srt.inj h]
  | .of a b, .of c e, h => by
    simp only [Tm.d, D.tup.injEq, List.cons.injEq, and_true, true_and] at h
    rw [Tm.inj h.1, Tm.inj h.2]
  | .lam a b, .lam c e, h => by
    simp only [Tm.d, D.tup.injEq, List.cons.injEq, and_true, true_and] at h
    rw [Srt.inj h.1, Tm.inj h.2]
  | .free .., .bound .., h => by simp [Tm.d] at h
  | .free .., .same .., h => by simp [Tm.d] at h
  | .free .., .of .., h => by simp [Tm.d] at h
  | .free .., .lam .., h => by simp [Tm.d] at h
  | .bound .., .free .., h => by simp [Tm.d] at h
  | .bound .., .same .., h => by simp [Tm.d] at h
  | .bound .., .of .., h => by simp [Tm.d] at h
  | .bound .., .lam .., h => by simp [Tm.d] at h
  | .same .., .free .., h => by simp [Tm.d] at h
  | .same .., .bound .., h => by simp [Tm.d] at h
  | .same .., .of .., h => by simp [Tm.d] at h
  | .same .., .lam .., h => by simp [Tm.d] at h
  | .of .., .free .., h => by simp [Tm.d] at h
  | .of .., .bound .., h => by simp [Tm.d] at h
  | .of .., .same .., h => by simp [Tm.d] at h
  | .of .., .lam .., h => by simp [Tm.d] at h
  | .lam .., .free .., h => by simp [Tm.d] at h
  | .lam .., .bound .., h => by simp [Tm.d] at h
  | .lam .., .same .., h => by simp [Tm.d] at h
  | .lam .., .of .., h => by simp [Tm.d] at h
mutual
theorem eqv_self : ∀ d : D, d.plain = true → d.eqv d = true
  | .non, _ => rfl
  | .bl b, _ => by simp [D.eqv]
  | .int i, _ => by simp [D.eqv]
  | .str s, _ => by simp [D.eqv]
  | .tup xs, h => by simp only [D.eqv]; exact eqvL_self xs (by simpa [D.plain] using h)
  | .lst xs, h => by simp only [D.eqv]; exact eqvL_self xs (by simpa [D.plain] using h)
  | .dic _ _, h => by simp [D.plain] at h
  | .obj _ _, h => by simp [D.plain] at h
  | .exn _ _, h => by simp [D.plain] at h
theorem eqvL_self : ∀ ds : List D, plainL ds = true → eqvL ds ds = true
  | [], _ => rfl
  | d :: ds, h => by
    simp only [plainL, Bool.and_eq_true] at h
    simp only [eqvL, eqv_self d h.1, eqvL_self ds h.2, Bool.and_self]
end
theorem Tm.eqv : ∀ (a b : Tm), a.d.eqv b.d = decide (a = b) := by
  intro a
  induction a with
  | free x s => intro b; cases b <;> simp [Tm.d, D.eqv, eqvL, Srt.eqv]; (rw [Bool.eq_iff_iff]; simp)
  | bound k => intro b; cases b <;> simp [Tm.d, D.eqv, eqvL]; (rw [Bool.eq_iff_iff]; simp; omega)
  | same s => intro b; cases b <;> simp [Tm.d, D.eqv, eqvL, Srt.eqv]
  | of a b iha ihb => intro c; cases c <;> simp [Tm.d, D.eqv, eqvL, iha, ihb]
  | lam s b ih => intro c; cases c <;> simp [Tm.d, D.eqv, eqvL, Srt.eqv, ih]
theorem Tm.eqD (a b : Tm) (h : min a.d.dep b.d.dep ≤ 64) : eqD a.d b.d = .ok (decide (a = b)) := by
  rw [eqD_of a.plain b.plain h, Tm.eqv]
end Rf

/-! part RfSinT -/
set_option autoImplicit false
set_option linter.all false
set_option Elab.async false
set_option maxRecDepth 100000
set_option maxHeartbeats 4000000
/-! RfSinT: the sort of a term in the plain. -/
namespace Rf
/-- names and sorts are such -/
def Tm.rok : Tm → Prop
  | .free x s => nmB x = true ∧ s.dp ≤ 5
  | .bound _ => True
  | .same s => s.dp ≤ 5
  | .of a b => a.rok ∧ b.rok
  | .lam s b => s.dp ≤ 5 ∧ b.rok
theorem Tm.ok.rok : ∀ {t : Tm}, t.ok → t.rok
  | .free _ _, h => h
  | .bound _, _ => trivial
  | .same _, h => h
  | .of _ _, h => ⟨Tm.ok.rok h.1, Tm.ok.rok h.2⟩
  | .lam _ _, h => ⟨h.1, Tm.ok.rok h.2⟩
def sinT : Tm → List Srt → Option Srt
  | .free _ s, _ => some s
  | .bound k, ar => if k < ar.length then ar[ar.length - 1 - k]? else none
  | .same s, _ => if (Srt.f s (.f s .t)).dp ≤ 5 then some (.f s (.f s .t)) else none
  | .lam s b, ar => (sinT b (ar ++ [s])).bind fun u => if (Srt.f s u).dp ≤ 5 then some (.f s u) else none
  | .of a b, ar => (sinT a ar).bind fun u => (sinT b ar).bind fun v => match u with
    | .f x y => if x = v then some y else none
    | _ => none
theorem sin_sinT : ∀ (t : Tm) (ar : List Srt), t.rok → sin t.d ar = (sinT t ar).map fun s => (s, t.sz, t.dp)
  | .free x s, ar, h => by
    simp only [Tm.d]
    rw [Rf.sin, if_neg (by decide), if_neg (by decide)]
    simp only [leaf, if_true, nmD, h.1, asS_d, h.2, sinT]
    rfl
  | .bound k, ar, h => by
    simp only [Tm.d, sinT]
    rw [sin_leaf _ (by simp)]
    simp only [leaf, if_true]
    by_cases hk : k < ar.length
    · rw [if_pos ⟨by omega, by omega⟩, if_pos hk]
      simp [Tm.sz, Tm.dp]
    · rw [if_neg (by omega), if_neg hk]; rfl
  | .same s, ar, h => by
    simp only [Tm.d, sinT]
    rw [sin_leaf _ (by simp)]
    simp only [leaf, if_neg (show ¬ SAME = BOUND by decide), if_true, asS_d]
    have h : s.dp ≤ 5 := h
    rw [if_pos h]
    simp only [Option.bind_some, gd]
    split <;> rfl
  | .lam s b, ar, h => by
    have ih := sin_sinT b (ar ++ [s]) h.2
    simp only [Tm.d, sinT]
    rw [Rf.sin, if_pos rfl, asS_d, if_pos h.1]
    simp only [Option.bind_some, ih, gd]
    cases sinT b (ar ++ [s]) with
    | none => rfl
    | some u =>
      simp only [Option.map_some, Option.bind_some]
      split <;> rfl
  | .of a b, ar, h => by
    have i1 := sin_sinT a ar h.1
    have i2 := sin_sinT b ar h.2
    simp only [Tm.d, sinT]
    rw [Rf.sin, if_neg (by decide), if_pos rfl, i1, i2]
    cases sinT a ar with
    | none => rfl
    | some u =>
      cases sinT b ar with
      | none => rfl
      | some v =>
        simp only [Option.map_some, Option.bind_some, app2]
        cases u with
        | f x y =>
          dsimp only
          split <;> rfl
        | _ => rfl
theorem WT.sinT {ar : List Srt} {t : Tm} {s : Srt} (h : WT ar t s) : sinT t ar = some s := by
  induction h with
  | free h1 h2 => rfl
  | bound h1 h2 => simp only [Rf.sinT, if_pos h1, h2]
  | same h => simp only [Rf.sinT, if_pos h]
  | lam h1 h2 ih => simp only [Rf.sinT, ih, Option.bind_some, if_pos h1]
  | of h1 h2 ih1 ih2 => simp only [Rf.sinT, ih1, ih2, Option.bind_some, if_true]
theorem sinT_wt : ∀ {t : Tm} {ar : List Srt} {s : Srt}, t.rok → sinT t ar = some s → WT ar t s
  | .free x u, ar, s, h, e => by cases e; exact .free h.1 h.2
  | .bound k, ar, s, h, e => by
    simp only [sinT] at e
    split at e
    · exact .bound (by assumption) e
    · cases e
  | .same u, ar, s, h, e => by
    simp only [sinT] at e
    split at e
    · cases e; exact .same (by assumption)
    · cases e
  | .lam u b, ar, s, h, e => by
    simp only [sinT] at e
    obtain ⟨v, h1, e⟩ := bindSome e
    split at e
    · cases e; exact .lam (by assumption) (sinT_wt h.2 h1)
    · cases e
  | .of a b, ar, s, h, e => by
    simp only [sinT] at e
    obtain ⟨u, h1, e⟩ := bindSome e
    obtain ⟨v, h2, e⟩ := bindSome e
    cases u with
    | f x y =>
      simp only at e
      split at e
      · rename_i q; cases e; subst q; exact .of (sinT_wt h.1 h1) (sinT_wt h.2 h2)
      · cases e
    | _ => cases e
theorem WT.dp {ar : List Srt} {t : Tm} {s : Srt} (h : WT ar t s) (ha : ∀ u ∈ ar, u.dp ≤ 5) : s.dp ≤ 5 := by
  induction h with
  | free h1 h2 => exact h2
  | bound h1 h2 => exact ha _ (List.mem_of_getElem? h2)
  | same h => exact h
  | lam h1 h2 ih => exact h1
  | of h1 h2 ih1 ih2 => have := ih1 ha; simp only [Srt.dp] at this; omega
/-- the depth of a term as data -/
theorem Tm.dep : ∀ {t : Tm}, t.rok → t.d.dep ≤ t.dp + 6
  | .free x s, h => by have := h.2; simp only [Tm.d, D.dep, depL, Srt.dep, Tm.dp]; omega
  | .bound k, h => by simp only [Tm.d, D.dep, depL, Tm.dp]; omega
  | .same s, h => by have h : s.dp ≤ 5 := h; simp only [Tm.d, D.dep, depL, Srt.dep, Tm.dp]; omega
  | .of a b, h => by have := Tm.dep h.1; have := Tm.dep h.2; simp only [Tm.d, D.dep, depL, Tm.dp]; omega
  | .lam s b, h => by have := h.1; have := Tm.dep h.2; simp only [Tm.d, D.dep, depL, Srt.dep, Tm.dp]; omega
/-- is it a term? -/
def isT (t : Tm) : Bool := (sinT t []).isSome && (decide (t.dp ≤ 40) && decide (t.sz ≤ 600))
theorem is_term_t (n : Nat) (t : Tm) (h : t.rok) (hn : t.dp + 20 < n) (hl : n ≤ 1000) : R n 30 [t.d] = .ok (.bl (isT t)) := by
  have hd := Tm.dep h
  rw [is_term_ok n t.d t.plain (by omega) hl, sin_sinT t [] h]
  unfold isT
  cases sinT t [] with
  | none => rfl
  | some s => rfl
end Rf

/-! part RfK13a -/
set_option autoImplicit false
set_option linter.all false
set_option Elab.async false
set_option maxRecDepth 100000
set_option maxHeartbeats 4000000
/-! RfK13a: law k13: sort, free names, equality, sides, of a term. -/
namespace Rf
theorem tg_rr : (FREE == FREE) = true := rfl
theorem tg_rb : (FREE == BOUND) = false := rfl
theorem tg_rs : (FREE == SAME) = false := rfl
theorem tg_rl : (FREE == FOR) = false := rfl
theorem tg_ro : (FREE == OF) = false := rfl
theorem tg_br : (BOUND == FREE) = false := rfl
theorem tg_bb : (BOUND == BOUND) = true := rfl
theorem tg_bs : (BOUND == SAME) = false := rfl
theorem tg_bl : (BOUND == FOR) = false := rfl
theorem tg_bo : (BOUND == OF) = false := rfl
theorem tg_sr : (SAME == FREE) = false := rfl
theorem tg_sb : (SAME == BOUND) = false := rfl
theorem tg_ss : (SAME == SAME) = true := rfl
theorem tg_sl : (SAME == FOR) = false := rfl
theorem tg_so : (SAME == OF) = false := rfl
theorem tg_lr : (FOR == FREE) = false := rfl
theorem tg_lb : (FOR == BOUND) = false := rfl
theorem tg_ls : (FOR == SAME) = false := rfl
theorem tg_ll : (FOR == FOR) = true := rfl
theorem tg_lo : (FOR == OF) = false := rfl
theorem tg_or : (OF == FREE) = false := rfl
theorem tg_ob : (OF == BOUND) = false := rfl
theorem tg_os : (OF == SAME) = false := rfl
theorem tg_ol : (OF == FOR) = false := rfl
theorem tg_oo : (OF == OF) = true := rfl
theorem law_sort_ok : ∀ (n : Nat) (t : Tm) (ar : List Srt) (s : Srt), WT ar t s → t.dp < n → ar.length + n ≤ 1000 → R n 48 [t.d, .lst (ar.map Srt.d)] = .ok s.d
  | 0, t, ar, s, _, h, _ => by omega
  | n + 1, t, ar, s, h, hn, hl => by
    (rw [R_at lib48 rfl]; simp only [F48, start, List.map_cons, List.map_nil, List.cons_append, List.nil_append, Nat.reduceSub, List.replicate, List.append_nil, Nat.sub_self])
    cases h with
    | @free _ x s h1 h2 => simp only [Tm.d]; simp! [tg_rr, tg_rb, tg_rs, tg_rl, tg_ro]
    | @bound _ k s h1 h2 =>
      have e2 : ((ar.length : Nat) : Int) - 1 - (k : Int) = ((ar.length - 1 - k : Nat) : Int) := by omega
      have e3 : atD (ar.map Srt.d) ((ar.length - 1 - k : Nat) : Int) = .ok s.d := atD_nat (by rw [List.getElem?_map, h2]; rfl)
      simp only [Tm.d]
      simp! [tg_br, tg_bb, tg_bs, tg_bl, tg_bo, List.length_map, e2, e3]
    | @same _ s h => simp only [Tm.d]; simp! [tg_sr, tg_sb, tg_ss, tg_sl, tg_so]; rfl
    | @lam _ s u b h1 h2 =>
      have ih := law_sort_ok n b (ar ++ [s]) u h2 (by simp only [Tm.dp] at hn; omega) (by simp; omega)
      have ih : R n 48 [b.d, .lst (ar.map Srt.d ++ [s.d])] = .ok u.d := by rw [← ih, List.map_append]; rfl
      have ea := v_addL (ar.map Srt.d) [s.d] (sz_le (by simp; omega))
      simp only [Tm.d]
      simp! [tg_lr, tg_lb, tg_ls, tg_ll, tg_lo, ea, ih]; rfl
    | @of _ u v a b h1 h2 =>
      have ih := law_sort_ok n a ar (.f u s) h1 (by simp only [Tm.dp] at hn; omega) (by omega)
      simp only [Tm.d]
      simp! [tg_or, tg_ob, tg_os, tg_ol, tg_oo, ih, Srt.d]
/-- the free names of a term, each once -/
def frT : Tm → List Tm
  | .free x s => [.free x s]
  | .lam _ b => frT b
  | .of a b => frT a ++ (frT b).filter fun t => decide (t ∉ frT a)
  | _ => []
theorem frT_len : ∀ t : Tm, (frT t).length ≤ t.sz
  | .free x s => by simp [frT, Tm.sz]
  | .bound k => by simp [frT]
  | .same s => by simp [frT]
  | .lam s b => by have := frT_len b; simp only [frT, Tm.sz]; omega
  | .of a b => by
    have := frT_len a
    have := frT_len b
    have := List.length_filter_le (fun t => decide (t ∉ frT a)) (frT b)
    simp only [frT, Tm.sz, List.length_append]; omega
theorem frT_free : ∀ {t : Tm}, t.rok → ∀ u ∈ frT t, u.d.dep ≤ 6
  | .free x s, h, u, hu => by
    rw [List.mem_singleton.mp hu]
    have := h.2
    simp only [Tm.d, D.dep, depL, Srt.dep]; omega
  | .bound k, h, u, hu => by cases hu
  | .same s, h, u, hu => by cases hu
  | .lam s b, h, u, hu => frT_free h.2 u hu
  | .of a b, h, u, hu => by
    rcases List.mem_append.mp hu with hu | hu
    · exact frT_free h.1 u hu
    · exact frT_free h.2 u (List.mem_filter.mp hu).1
theorem tms_plain (l : List Tm) : plainL (l.map Tm.d) = true := plainL_of fun x hx => by obtain ⟨t, _, rfl⟩ := List.mem_map.mp hx; exact t.plain
theorem any_tm (l : List Tm) (t : Tm) : ((l.map Tm.d).any fun y => y.eqv t.d) = decide (t ∈ l) := by
  rw [Bool.eq_iff_iff, List.any_eq_true, decide_eq_true_eq]
  constructor
  · rintro ⟨y, hy, e⟩
    obtain ⟨u, hu, rfl⟩ := List.mem_map.mp hy
    rw [Tm.eqv, decide_eq_true_eq] at e
    rw [← e]; exact hu
  · intro h
    exact ⟨t.d, List.mem_map.mpr ⟨t, h, rfl⟩, by rw [Tm.eqv]; exact decide_eq_true rfl⟩
theorem in_tm (l : List Tm) (t : Tm) (h : t.d.dep ≤ 64) : inD t.d (.lst (l.map Tm.d)) = .ok (decide (t ∈ l)) := by
  simp only [inD, memD, t.plain, tms_plain, Bool.true_and]
  rw [if_pos (decide_eq_true (by omega)), any_tm]
/-- is the thing none of them -/
def ninD (l : List Tm) (d : D) : Bool := !((l.map Tm.d).any fun y => y.eqv d)
theorem ninD_tm (l : List Tm) (t : Tm) : ninD l t.d = decide (t ∉ l) := by
  unfold ninD
  rw [any_tm, decide_not]
theorem nin_filter (l m : List Tm) : (m.map Tm.d).filter (ninD l) = (m.filter fun t => decide (t ∉ l)).map Tm.d := by
  induction m with
  | nil => rfl
  | cons t m ih =>
    simp only [List.map_cons, List.filter_cons, ninD_tm, ih]
    split <;> rfl
theorem frees_ok : ∀ (t : Tm) (n : Nat), t.rok → t.sz ≤ 1000000 → t.dp < n → R n 42 [t.d] = .ok (.lst ((frT t).map Tm.d))
  | t, 0, _, _, h => by omega
  | .free x s, n + 1, _, _, _ => by (rw [R_at lib42 rfl]; simp only [F42, start, List.map_cons, List.map_nil, List.cons_append, List.nil_append, Nat.reduceSub, List.replicate, List.append_nil, Nat.sub_self]); simp only [Tm.d]; simp! [tg_rr, tg_rb, tg_rs, tg_rl, tg_ro]; rfl
  | .bound k, n + 1, _, _, _ => by (rw [R_at lib42 rfl]; simp only [F42, start, List.map_cons, List.map_nil, List.cons_append, List.nil_append, Nat.reduceSub, List.replicate, List.append_nil, Nat.sub_self]); simp only [Tm.d]; simp! [tg_br, tg_bb, tg_bs, tg_bl, tg_bo]; rfl
  | .same s, n + 1, _, _, _ => by (rw [R_at lib42 rfl]; simp only [F42, start, List.map_cons, List.map_nil, List.cons_append, List.nil_append, Nat.reduceSub, List.replicate, List.append_nil, Nat.sub_self]); simp only [Tm.d]; simp! [tg_sr, tg_sb, tg_ss, tg_sl, tg_so]; rfl
  | .lam s b, n + 1, hr, hz, hn => by
    have ih := frees_ok b n hr.2 (by simp only [Tm.sz] at hz; omega) (by simp only [Tm.dp] at hn; omega)
    (rw [R_at lib42 rfl]; simp only [F42, start, List.map_cons, List.map_nil, List.cons_append, List.nil_append, Nat.reduceSub, List.replicate, List.append_nil, Nat.sub_self])
    simp only [Tm.d]
    simp! [tg_lr, tg_lb, tg_ls, tg_ll, tg_lo, ih]; rfl
  | .of a b, n + 1, hr, hz, hn => by
    have ia := frees_ok a n hr.1 (by simp only [Tm.sz] at hz; omega) (by simp only [Tm.dp] at hn; omega)
    have ib := frees_ok b n hr.2 (by simp only [Tm.sz] at hz; omega) (by simp only [Tm.dp] at hn; omega)
    have la := frT_len a
    have lb := frT_len b
    have lf := List.length_filter_le (fun t => decide (t ∉ frT a)) (frT b)
    simp only [Tm.sz] at hz
    (rw [R_at lib42 rfl]; simp only [F42, start, List.map_cons, List.map_nil, List.cons_append, List.nil_append, Nat.reduceSub, List.replicate, List.append_nil, Nat.sub_self])
    simp only [Tm.d]
    simp! [tg_or, tg_ob, tg_os, tg_ol, tg_oo, ia, ib, kGo]
    rw [compGo_all (f := id) (ninD (frT a)) (fun d hd => by
      obtain ⟨u, hu, rfl⟩ := List.mem_map.mp hd
      refine ⟨?_, fun _ => by simp! []; rfl⟩
      simp! [in_tm (frT a) u (by have := frT_free hr.2 u hu; omega), ninD_tm]
      rw [decide_not])]
    rw [List.map_id, nin_filter]
    simp! [kLst, List.length_map, sz_le (show ((frT b).filter fun t => decide (t ∉ frT a)).length ≤ 1000000 by omega), v_addL _ _ (show ((frT a).map Tm.d).length + (((frT b).filter fun t => decide (t ∉ frT a)).map Tm.d).length ≤ SZ from sz_le (by simp only [List.length_map]; omega))]
    simp only [frT, List.map_append]
theorem law_frees_ok : ∀ (t : Tm) (n : Nat), t.rok → t.sz ≤ 1000000 → t.dp < n → R n 51 [t.d] = .ok (.lst ((frT t).map Tm.d))
  | t, 0, _, _, h => by omega
  | .free x s, n + 1, _, _, _ => by (rw [R_at lib51 rfl]; simp only [F51, start, List.map_cons, List.map_nil, List.cons_append, List.nil_append, Nat.reduceSub, List.replicate, List.append_nil, Nat.sub_self]); simp only [Tm.d]; simp! [tg_rr, tg_rb, tg_rs, tg_rl, tg_ro]; rfl
  | .bound k, n + 1, _, _, _ => by (rw [R_at lib51 rfl]; simp only [F51, start, List.map_cons, List.map_nil, List.cons_append, List.nil_append, Nat.reduceSub, List.replicate, List.append_nil, Nat.sub_self]); simp only [Tm.d]; simp! [tg_br, tg_bb, tg_bs, tg_bl, tg_bo]; rfl
  | .same s, n + 1, _, _, _ => by (rw [R_at lib51 rfl]; simp only [F51, start, List.map_cons, List.map_nil, List.cons_append, List.nil_append, Nat.reduceSub, List.replicate, List.append_nil, Nat.sub_self]); simp only [Tm.d]; simp! [tg_sr, tg_sb, tg_ss, tg_sl, tg_so]; rfl
  | .lam s b, n + 1, hr, hz, hn => by
    have ih := law_frees_ok b n hr.2 (by simp only [Tm.sz] at hz; omega) (by simp only [Tm.dp] at hn; omega)
    (rw [R_at lib51 rfl]; simp only [F51, start, List.map_cons, List.map_nil, List.cons_append, List.nil_append, Nat.reduceSub, List.replicate, List.append_nil, Nat.sub_self])
    simp only [Tm.d]
    simp! [tg_lr, tg_lb, tg_ls, tg_ll, tg_lo, ih]; rfl
  | .of a b, n + 1, hr, hz, hn => by
    have ia := law_frees_ok a n hr.1 (by simp only [Tm.sz] at hz; omega) (by simp only [Tm.dp] at hn; omega)
    have ib := law_frees_ok b n hr.2 (by simp only [Tm.sz] at hz; omega) (by simp only [Tm.dp] at hn; omega)
    have la := frT_len a
    have lb := frT_len b
    have lf := List.length_filter_le (fun t => decide (t ∉ frT a)) (frT b)
    simp only [Tm.sz] at hz
    (rw [R_at lib51 rfl]; simp only [F51, start, List.map_cons, List.map_nil, List.cons_append, List.nil_append, Nat.reduceSub, List.replicate, List.append_nil, Nat.sub_self])
    simp only [Tm.d]
    simp! [tg_or, tg_ob, tg_os, tg_ol, tg_oo, ia, ib, kGo]
    rw [compGo_all (f := id) (ninD (frT a)) (fun d hd => by
      obtain ⟨u, hu, rfl⟩ := List.mem_map.mp hd
      refine ⟨?_, fun _ => by simp! []; rfl⟩
      simp! [in_tm (frT a) u (by have := frT_free hr.2 u hu; omega), ninD_tm]
      rw [decide_not])]
    rw [List.map_id, nin_filter]
    simp! [kLst, List.length_map, sz_le (show ((frT b).filter fun t => decide (t ∉ frT a)).length ≤ 1000000 by omega), v_addL _ _ (show ((frT a).map Tm.d).length + (((frT b).filter fun t => decide (t ∉ frT a)).map Tm.d).length ≤ SZ from sz_le (by simp only [List.length_map]; omega))]
    simp only [frT, List.map_append]
theorem sort_of_ok (n : Nat) {t : Tm} {s : Srt} (h : WT [] t s) (hr : t.rok) (hn : t.dp + 18 < n) (hl : n ≤ 1000) : R n 40 [t.d] = .ok s.d := by
  obtain ⟨m, rfl⟩ : ∃ m, n = m + 1 := ⟨n - 1, by omega⟩
  have hd := Tm.dep hr
  have q := sort_in_ok m t.d [] t.plain (fun s hs => by cases hs) (by omega) (by simp; omega)
  rw [h.sin] at q
  have q : R m 26 [t.d, .lst []] = .ok s.d := q
  (rw [R_at lib40 rfl]; simp only [F40, start, List.map_cons, List.map_nil, List.cons_append, List.nil_append, Nat.reduceSub, List.replicate, List.append_nil, Nat.sub_self])
  simp! [q]
/-- the equality of two -/
def eqT (s : Srt) (a b : Tm) : Tm := .of (.of (.same s) a) b
theorem equal_ok (n : Nat) {t u : Tm} {s : Srt} (h : WT [] t s) (hn : t.dp + 1 < n) (hl : n ≤ 1000) : R n 52 [t.d, u.d] = .ok (eqT s t u).d := by
  obtain ⟨m, rfl⟩ : ∃ m, n = m + 1 := ⟨n - 1, by omega⟩
  have q := law_sort_ok m t [] s h (by omega) (by simp; omega)
  have q : R m 48 [t.d, .lst []] = .ok s.d := q
  (rw [R_at lib52 rfl]; simp only [F52, start, List.map_cons, List.map_nil, List.cons_append, List.nil_append, Nat.reduceSub, List.replicate, List.append_nil, Nat.sub_self])
  simp! [q]; rfl
theorem eqT_rok {s : Srt} {t u : Tm} (hs : s.dp ≤ 5) (ht : t.rok) (hu : u.rok) : (eqT s t u).rok := ⟨⟨hs, ht⟩, hu⟩
theorem eqT_dp (s : Srt) (t u : Tm) : (eqT s t u).dp = 1 + max (1 + max 0 t.dp) u.dp := rfl
theorem eqT_sz (s : Srt) (t u : Tm) : (eqT s t u).sz = 1 + (1 + 1 + t.sz) + u.sz := rfl
theorem eqT_wt {s : Srt} {t u : Tm} (hs : s.dp ≤ 3) (ht : WT [] t s) (hu : WT [] u s) : WT [] (eqT s t u) .t := .of (.of (.same (by simp only [Srt.dp]; omega)) ht) hu
theorem eqT_isT {s : Srt} {t u : Tm} (hs : s.dp ≤ 3) (ht : WT [] t s) (hu : WT [] u s) : isT (eqT s t u) = (decide ((eqT s t u).dp ≤ 40) && decide ((eqT s t u).sz ≤ 600)) := by
  unfold isT
  rw [(eqT_wt hs ht hu).sinT]; rfl
theorem equality_ok (n : Nat) {t u : Tm} {s : Srt} (h : WT [] t s) (hs : s.dp ≤ 5) (ht : t.rok) (hu : u.rok) (hn : (eqT s t u).dp + 25 < n) (hl : n ≤ 1000) : R n 43 [t.d, u.d] = if isT (eqT s t u) then .ok (eqT s t u).d else .exc 1 [] := by
  obtain ⟨m, rfl⟩ : ∃ m, n = m + 1 := ⟨n - 1, by omega⟩
  obtain ⟨k, rfl⟩ : ∃ k, m = k + 1 := ⟨m - 1, by omega⟩
  have hd := eqT_dp s t u
  have q := sort_of_ok (k + 1) h ht (by omega) (by omega)
  have i := is_term_t k (eqT s t u) (eqT_rok hs ht hu) (by omega) (by omega)
  have b : R (k + 1) 41 [(eqT s t u).d] = if isT (eqT s t u) then .ok (eqT s t u).d else .exc 1 [] := by
    (rw [R_at lib41 rfl]; simp only [F41, start, List.map_cons, List.map_nil, List.cons_append, List.nil_append, Nat.reduceSub, List.replicate, List.append_nil, Nat.sub_self])
    simp! [i]
    cases isT (eqT s t u) <;> simp! []
  have b : R (k + 1) 41 [.tup [.str [111, 102], .tup [.str [111, 102], .tup [.str [115, 97, 109, 101], s.d], t.d], u.d]] = _ := b
  (rw [R_at lib43 rfl]; simp only [F43, start, List.map_cons, List.map_nil, List.cons_append, List.nil_append, Nat.reduceSub, List.replicate, List.append_nil, Nat.sub_self])
  simp! [q, b]
/-- the sides of an equality -/
def sidesT : Tm → Option (Tm × Tm)
  | .of (.of (.same _) a) b => some (a, b)
  | _ => none
def oP : Option (Tm × Tm) → Out D
  | some p => .ok (.tup [p.1.d, p.2.d])
  | none => .exc 0 []
theorem sides_ok (n : Nat) (t : Tm) : R (n + 1) 44 [t.d] = oP (sidesT t) := by
  (rw [R_at lib44 rfl]; simp only [F44, start, List.map_cons, List.map_nil, List.cons_append, List.nil_append, Nat.reduceSub, List.replicate, List.append_nil, Nat.sub_self])
  cases t with
  | of a b =>
    cases a with
    | of c e =>
      cases c with
      | same s => simp only [Tm.d]; simp! [tg_or, tg_ob, tg_os, tg_ol, tg_oo, tg_sr, tg_sb, tg_ss, tg_sl, tg_so]; rfl
      | free x s => simp only [Tm.d]; simp! [tg_or, tg_ob, tg_os, tg_ol, tg_oo, tg_rr, tg_rb, tg_rs, tg_rl, tg_ro]; rfl
      | bound k => simp only [Tm.d]; simp! [tg_or, tg_ob, tg_os, tg_ol, tg_oo, tg_br, tg_bb, tg_bs, tg_bl, tg_bo]; rfl
      | lam s b => simp only [Tm.d]; simp! [tg_or, tg_ob, tg_os, tg_ol, tg_oo, tg_lr, tg_lb, tg_ls, tg_ll, tg_lo]; rfl
      | of s b => simp only [Tm.d]; simp! [tg_or, tg_ob, tg_os, tg_ol, tg_oo]; rfl
    | same s => simp only [Tm.d]; simp! [tg_or, tg_ob, tg_os, tg_ol, tg_oo, tg_sr, tg_sb, tg_ss, tg_sl, tg_so]; rfl
    | free x s => simp only [Tm.d]; simp! [tg_or, tg_ob, tg_os, tg_ol, tg_oo, tg_rr, tg_rb, tg_rs, tg_rl, tg_ro]; rfl
    | bound k => simp only [Tm.d]; simp! [tg_or, tg_ob, tg_os, tg_ol, tg_oo, tg_br, tg_bb, tg_bs, tg_bl, tg_bo]; rfl
    | lam s b => simp only [Tm.d]; simp! [tg_or, tg_ob, tg_os, tg_ol, tg_oo, tg_lr, tg_lb, tg_ls, tg_ll, tg_lo]; rfl
  | same s => simp only [Tm.d]; simp! [tg_sr, tg_sb, tg_ss, tg_sl, tg_so]; rfl
  | free x s => simp only [Tm.d]; simp! [tg_rr, tg_rb, tg_rs, tg_rl, tg_ro]; rfl
  | bound k => simp only [Tm.d]; simp! [tg_br, tg_bb, tg_bs, tg_bl, tg_bo]; rfl
  | lam s b => simp only [Tm.d]; simp! [tg_lr, tg_lb, tg_ls, tg_ll, tg_lo]; rfl
def oN : Option (Tm × Tm) → D
  | some p => .tup [p.1.d, p.2.d]
  | none => .str [110, 111, 110, 101]
theorem law_sides_ok (n : Nat) (t : Tm) : R (n + 2) 55 [t.d] = .ok (oN (sidesT t)) := by
  have q := sides_ok n t
  (rw [R_at lib55 rfl]; simp only [F55, start, List.map_cons, List.map_nil, List.cons_append, List.nil_append, Nat.reduceSub, List.replicate, List.append_nil, Nat.sub_self])
  cases h : sidesT t with
  | some p => rw [h] at q; simp! [q, oP]; rfl
  | none =>
    rw [h] at q
    simp! [q, oP]
    rw [kTry_same _ _ _ _ (by decide) rfl]
    simp! []; rfl
theorem law_equality_ok (n : Nat) {t u : Tm} {s : Srt} (h : WT [] t s) (hs : s.dp ≤ 5) (ht : t.rok) (hu : u.rok) (hn : (eqT s t u).dp + 26 < n) (hl : n ≤ 1000) (hf : isT (eqT s t u) = false) : R n 56 [t.d, u.d] = .ok (.str [103, 114, 101, 97, 116]) := by
  obtain ⟨m, rfl⟩ : ∃ m, n = m + 1 := ⟨n - 1, by omega⟩
  have q := equality_ok m h hs ht hu (by omega) (by omega)
  rw [hf, if_neg (by decide)] at q
  (rw [R_at lib56 rfl]; simp only [F56, start, List.map_cons, List.map_nil, List.cons_append, List.nil_append, Nat.reduceSub, List.replicate, List.append_nil, Nat.sub_self])
  simp! [q]
  rw [kTry_same _ _ _ _ (by decide) rfl]
  simp! []
theorem size_t (n : Nat) {t : Tm} {s : Srt} (h : WT [] t s) (hn : t.d.dep < n) : R n 27 [t.d] = .ok (.int t.sz) ∧ R n 28 [t.d] = .ok (.int t.dp) := size_ok n t.d [] _ hn h.sin
theorem law_good_ok : ∀ (n : Nat) (t : Tm) (ar : List Srt) (s : Srt), WT ar t s → (∀ u ∈ ar, u.dp ≤ 5) → t.dp + 8 < n → ar.length + n ≤ 1000 → R n 53 [t.d, .lst (ar.map Srt.d)] = .ok (.bl true)
  | 0, t, ar, s, _, _, h, _ => by omega
  | n + 1, t, ar, s, h, ha, hn, hl => by
    have hs := h.dp ha
    have q := law_sort_ok n t ar s h (by omega) (by omega)
    have d := sort_depth_ok s n (by omega)
    have e := decide_eq_false (show ¬ (s.dp : Int) > 5 by omega)
    (rw [R_at lib53 rfl]; simp only [F53, start, List.map_cons, List.map_nil, List.cons_append, List.nil_append, Nat.reduceSub, List.replicate, List.append_nil, Nat.sub_self])
    cases h with
    | @free _ x s h1 h2 => simp only [Tm.d] at q ⊢; simp! [q, d, e, tg_rr, tg_rb, tg_rs, tg_rl, tg_ro]
    | @bound _ k s h1 h2 => simp only [Tm.d] at q ⊢; simp! [q, d, e, tg_br, tg_bb, tg_bs, tg_bl, tg_bo]
    | @same _ s h => simp only [Tm.d] at q ⊢; simp! [q, d, e, tg_sr, tg_sb, tg_ss, tg_sl, tg_so]
    | @lam _ s u b h1 h2 =>
      have ih := law_good_ok n b (ar ++ [s]) u h2 (fun w hw => by
        rcases List.mem_append.mp hw with hw | hw
        · exact ha w hw
        · rw [List.mem_singleton.mp hw]; simp only [Srt.dp] at h1; omega) (by simp only [Tm.dp] at hn; omega) (by simp; omega)
      have ih : R n 53 [b.d, .lst (ar.map Srt.d ++ [s.d])] = .ok (.bl true) := by rw [← ih, List.map_append]; rfl
      have ea := v_addL (ar.map Srt.d) [s.d] (sz_le (by simp; omega))
      simp only [Tm.d] at q ⊢
      simp! [q, d, e, tg_lr, tg_lb, tg_ls, tg_ll, tg_lo, ea, ih]
    | @of _ u v a b h1 h2 =>
      have i1 := law_good_ok n a ar _ h1 ha (by simp only [Tm.dp] at hn; omega) (by omega)
      have i2 := law_good_ok n b ar _ h2 ha (by simp only [Tm.dp] at hn; omega) (by omega)
      simp only [Tm.d] at q ⊢
      simp! [q, d, e, tg_or, tg_ob, tg_os, tg_ol, tg_oo, i1, i2]
theorem law_is_term_ok (n : Nat) {t : Tm} {s : Srt} (h : WT [] t s) (hr : t.rok) (hn : t.dp + 12 < n) (hl : n ≤ 1000) : R n 54 [t.d] = .ok (.bl (decide (t.dp ≤ 40) && decide (t.sz ≤ 600))) := by
  obtain ⟨m, rfl⟩ : ∃ m, n = m + 1 := ⟨n - 1, by omega⟩
  have g := law_good_ok m t [] s h (fun s hs => by cases hs) (by omega) (by simp; omega)
  have g : R m 53 [t.d, .lst []] = _ := g
  have hd := Tm.dep hr
  obtain ⟨z1, z2⟩ := size_t m h (by omega)
  (rw [R_at lib54 rfl]; simp only [F54, start, List.map_cons, List.map_nil, List.cons_append, List.nil_append, Nat.reduceSub, List.replicate, List.append_nil, Nat.sub_self])
  have e1 : decide ((t.sz : Int) ≤ 600) = decide (t.sz ≤ 600) := by rw [Bool.eq_iff_iff]; simp; omega
  have e2 : decide ((t.dp : Int) ≤ 40) = decide (t.dp ≤ 40) := by rw [Bool.eq_iff_iff]; simp; omega
  simp! [g, z1, e1]
  cases h1 : decide (t.sz ≤ 600) with
  | false => simp! []; rw [Bool.and_false]
  | true => simp! [z2, e2]; rw [Bool.and_true]
end Rf

/-! part RfK17a -/
set_option autoImplicit false
set_option linter.all false
set_option Elab.async false
set_option maxRecDepth 100000
set_option maxHeartbeats 4000000
/-! RfK17a: put in stead, bound over, unfolded. -/
namespace Rf
theorem WT.rok {ar : List Srt} {t : Tm} {s : Srt} (h : WT ar t s) : t.rok := by
  induction h with
  | free h1 h2 => exact ⟨h1, h2⟩
  | bound h1 h2 => trivial
  | same h => simp only [Srt.dp] at h; show _ ≤ 5; omega
  | lam h1 h2 ih => simp only [Srt.dp] at h1; exact ⟨by omega, ih⟩
  | of h1 h2 ih1 ih2 => exact ⟨ih1, ih2⟩
theorem WT.weak {ar : List Srt} (pre : List Srt) {t : Tm} {s : Srt} (h : WT ar t s) : WT (pre ++ ar) t s := by
  induction h with
  | free h1 h2 => exact .free h1 h2
  | @bound ar k s h1 h2 => 
    refine .bound (by simp; omega) ?_
    rw [List.getElem?_append_right (by simp; omega), ← h2]
    congr 1
    simp; omega
  | same h => exact .same h
  | lam h1 h2 ih => exact .lam h1 (by rw [← List.append_assoc] at ih; exact ih)
  | of h1 h2 ih1 ih2 => exact .of ih1 ih2
/-- no bound one reaches out of the level -/
def Tm.clo : Tm → Nat → Prop
  | .bound k, l => k < l
  | .lam _ b, l => b.clo (l + 1)
  | .of a b, l => a.clo l ∧ b.clo l
  | _, _ => True
theorem WT.clo {ar : List Srt} {t : Tm} {s : Srt} (h : WT ar t s) : t.clo ar.length := by
  induction h with
  | free h1 h2 => trivial
  | bound h1 h2 => exact h1
  | same h => trivial
  | lam h1 h2 ih => rw [List.length_append] at ih; exact ih
  | of h1 h2 ih1 ih2 => exact ⟨ih1, ih2⟩
def ovT (y : Tx) (u : Srt) : Tm → Nat → Tm
  | .free x s, l => if Tm.free x s = .free y u then .bound l else .free x s
  | .bound k, _ => .bound k
  | .same s, _ => .same s
  | .lam s b, l => .lam s (ovT y u b (l + 1))
  | .of a b, l => .of (ovT y u a l) (ovT y u b l)
def putT (y : Tx) (u : Srt) (o : Tm) : Tm → Tm
  | .free x s => if Tm.free y u = .free x s then o else .free x s
  | .bound k => .bound k
  | .same s => .same s
  | .lam s b => .lam s (putT y u o b)
  | .of a b => .of (putT y u o a) (putT y u o b)
def opT (o : Tm) : Tm → Nat → Tm
  | .free x s, _ => .free x s
  | .bound k, l => if k = l then o else .bound k
  | .same s, _ => .same s
  | .lam s b, l => .lam s (opT o b (l + 1))
  | .of a b, l => .of (opT o a l) (opT o b l)
theorem op_ov (y : Tx) (u : Srt) (o : Tm) : ∀ (t : Tm) (l : Nat), t.clo l → opT o (ovT y u t l) l = putT y u o t
  | .free x s, l, _ => by
    simp only [ovT, putT]
    by_cases h : Tm.free x s = .free y u
    · rw [if_pos h, if_pos h.symm]; simp [opT]
    · rw [if_neg h, if_neg fun e => h e.symm]; rfl
  | .bound k, l, h => by
    have h : k < l := h
    simp only [ovT, putT, opT, if_neg (show ¬ k = l by omega)]
  | .same s, l, _ => rfl
  | .lam s b, l, h => by simp only [ovT, putT, opT, op_ov y u o b (l + 1) h]
  | .of a b, l, h => by simp only [ovT, putT, opT, op_ov y u o a l h.1, op_ov y u o b l h.2]
theorem ov_sz (y : Tx) (u : Srt) : ∀ (t : Tm) (l : Nat), (ovT y u t l).sz = t.sz ∧ (ovT y u t l).dp = t.dp
  | .free x s, l => by simp only [ovT]; split <;> exact ⟨rfl, rfl⟩
  | .bound k, l => ⟨rfl, rfl⟩
  | .same s, l => ⟨rfl, rfl⟩
  | .lam s b, l => by have := ov_sz y u b (l + 1); simp only [ovT, Tm.sz, Tm.dp, this.1, this.2, and_self]
  | .of a b, l => by have h1 := ov_sz y u a l; have h2 := ov_sz y u b l; simp only [ovT, Tm.sz, Tm.dp, h1.1, h1.2, h2.1, h2.2, and_self]
def lvs : Tm → Nat
  | .lam _ b => lvs b
  | .of a b => lvs a + lvs b
  | _ => 1
theorem lvs_sz : ∀ t : Tm, 2 * lvs t ≤ t.sz + 1
  | .free _ _ => by simp [lvs, Tm.sz]
  | .bound _ => by simp [lvs, Tm.sz]
  | .same _ => by simp [lvs, Tm.sz]
  | .lam s b => by have := lvs_sz b; simp only [lvs, Tm.sz]; omega
  | .of a b => by have := lvs_sz a; have := lvs_sz b; simp only [lvs, Tm.sz]; omega
theorem op_sz (o : Tm) (ho : o.sz ≤ 13) : ∀ (t : Tm) (l : Nat), (opT o t l).sz ≤ t.sz + 12 * lvs t ∧ (opT o t l).dp ≤ t.dp + o.dp
  | .free _ _, l => by simp only [opT, lvs, Tm.sz, Tm.dp]; omega
  | .bound k, l => by
    simp only [opT]
    split <;> (simp only [lvs, Tm.sz, Tm.dp]; omega)
  | .same _, l => by simp only [opT, lvs, Tm.sz, Tm.dp]; omega
  | .lam s b, l => by have := op_sz o ho b (l + 1); simp only [opT, lvs, Tm.sz, Tm.dp]; omega
  | .of a b, l => by have := op_sz o ho a l; have := op_sz o ho b l; simp only [opT, lvs, Tm.sz, Tm.dp]; omega
theorem WT.ov {ar : List Srt} {t : Tm} {s : Srt} (y : Tx) (u : Srt) (h : WT ar t s) : WT (u :: ar) (ovT y u t ar.length) s := by
  induction h with
  | @free ar x s h1 h2 =>
    simp only [ovT]
    split
    · rename_i e
      injection e with e1 e2
      subst e2
      exact .bound (by simp) (by simp)
    · exact .free h1 h2
  | @bound ar k s h1 h2 => exact (WT.bound h1 h2).weak [u]
  | same h => exact .same h
  | @lam ar s v b h1 h2 ih =>
    simp only [ovT]
    rw [List.length_append] at ih
    exact .lam h1 ih
  | of h1 h2 ih1 ih2 => exact .of ih1 ih2
theorem WT.op {v : Srt} {o : Tm} (ho : WT [] o v) : ∀ {t : Tm} {ar : List Srt} {s : Srt}, WT (v :: ar) t s → WT ar (opT o t ar.length) s
  | .free x s, ar, _, h => by cases h with | free h1 h2 => exact .free h1 h2
  | .same s, ar, _, h => by cases h with | same h => exact .same h
  | .bound k, ar, s, h => by
    cases h with
    | bound h1 h2 =>
      simp only [List.length_cons] at h1 h2
      simp only [opT]
      by_cases hk : k = ar.length
      · subst hk
        rw [if_pos rfl]
        have e : ar.length + 1 - 1 - ar.length = 0 := by omega
        rw [e] at h2
        cases h2
        have := ho.weak ar
        rw [List.append_nil] at this
        exact this
      · rw [if_neg hk]
        have e : ar.length + 1 - 1 - k = (ar.length - 1 - k) + 1 := by omega
        rw [e, List.getElem?_cons_succ] at h2
        exact .bound (by omega) h2
  | .lam u b, ar, _, h => by
    cases h with
    | lam h1 h2 =>
      have ih := WT.op ho (t := b) (ar := ar ++ [u]) h2
      rw [List.length_append] at ih
      exact .lam h1 ih
  | .of a b, ar, _, h => by
    cases h with
    | of h1 h2 => exact .of (WT.op ho h1) (WT.op ho h2)
theorem isT_of {t : Tm} {s : Srt} (h : WT [] t s) (hd : t.dp ≤ 40) (hz : t.sz ≤ 600) : isT t = true := by
  unfold isT
  rw [h.sinT]; simp; omega
theorem bounded_ok (n : Nat) {t : Tm} {s : Srt} (h : WT [] t s) (hd : t.dp ≤ 40) (hz : t.sz ≤ 600) (hn : 70 < n) (hl : n ≤ 1000) : R n 41 [t.d] = .ok t.d := by
  obtain ⟨m, rfl⟩ : ∃ m, n = m + 1 := ⟨n - 1, by omega⟩
  have i := is_term_t m t h.rok (by omega) (by omega)
  rw [isT_of h hd hz] at i
  (rw [R_at lib41 rfl]; simp only [F41, start, List.map_cons, List.map_nil, List.cons_append, List.nil_append, Nat.reduceSub, List.replicate, List.append_nil, Nat.sub_self])
  simp! [i]
/-! the walks -/
theorem over_ok (y : Tx) (u : Srt) (hu : u.dp ≤ 5) : ∀ (t : Tm) (n l : Nat), t.dp < n → R n 83 [t.d, .tup [.str FREE, .str y, u.d], .int l] = .ok (ovT y u t l).d
  | t, 0, _, h => by omega
  | t, n + 1, l, h => by
    have e : eqD t.d (.tup [.str FREE, .str y, u.d]) = .ok (decide (t = .free y u)) := Tm.eqD t (.free y u) (by simp only [Tm.d, D.dep, depL, Srt.dep]; omega)
    (rw [R_at lib83 rfl]; simp only [F83, start, List.map_cons, List.map_nil, List.cons_append, List.nil_append, Nat.reduceSub, List.replicate, List.append_nil, Nat.sub_self])
    cases t with
    | free x s =>
      simp only [ovT]
      by_cases h : Tm.free x s = .free y u
      · rw [if_pos h]; simp only [Tm.d] at e ⊢; simp! [e, decide_eq_true h]
      · rw [if_neg h]; simp only [Tm.d] at e ⊢; simp! [e, decide_eq_false h, tg_rr, tg_rb, tg_rs, tg_rl, tg_ro]
    | bound k =>
      have h : ¬ Tm.bound k = .free y u := by simp
      simp only [Tm.d] at e ⊢; simp! [e, decide_eq_false h, tg_br, tg_bb, tg_bs, tg_bl, tg_bo]; rfl
    | same s =>
      have h : ¬ Tm.same s = .free y u := by simp
      simp only [Tm.d] at e ⊢; simp! [e, decide_eq_false h, tg_sr, tg_sb, tg_ss, tg_sl, tg_so]; rfl
    | lam s b =>
      have h' : ¬ Tm.lam s b = .free y u := by simp
      have ih := over_ok y u hu b n (l + 1) (by simp only [Tm.dp] at h; omega)
      have ih : R n 83 [b.d, .tup [.str FREE, .str y, u.d], .int ((l : Int) + 1)] = .ok (ovT y u b (l + 1)).d := by rw [← ih]; rfl
      simp only [Tm.d] at e ⊢; simp! [e, decide_eq_false h', tg_lr, tg_lb, tg_ls, tg_ll, tg_lo, ih]; rfl
    | of a b =>
      have h' : ¬ Tm.of a b = .free y u := by simp
      have i1 := over_ok y u hu a n l (by simp only [Tm.dp] at h; omega)
      have i2 := over_ok y u hu b n l (by simp only [Tm.dp] at h; omega)
      simp only [Tm.d] at e ⊢; simp! [e, decide_eq_false h', tg_or, tg_ob, tg_os, tg_ol, tg_oo, i1, i2]; rfl
theorem law_opened_ok (o : Tm) : ∀ (t : Tm) (n l : Nat), t.dp < n → R n 91 [t.d, o.d, .int l] = .ok (opT o t l).d
  | t, 0, _, h => by omega
  | t, n + 1, l, h => by
    have e : eqD t.d (.tup [.str BOUND, .int l]) = .ok (decide (t = .bound l)) := Tm.eqD t (.bound l) (by simp only [Tm.d, D.dep, depL]; omega)
    (rw [R_at lib91 rfl]; simp only [F91, start, List.map_cons, List.map_nil, List.cons_append, List.nil_append, Nat.reduceSub, List.replicate, List.append_nil, Nat.sub_self])
    cases t with
    | free x s =>
      have h : ¬ Tm.free x s = .bound l := by simp
      simp only [Tm.d] at e ⊢; simp! [e, decide_eq_false h, tg_rr, tg_rb, tg_rs, tg_rl, tg_ro]; rfl
    | bound k =>
      simp only [opT]
      by_cases h : k = l
      · subst h; rw [if_pos rfl]; simp only [Tm.d] at e ⊢; simp! [e, decide_eq_true (rfl : Tm.bound k = .bound k)]
      · have h' : ¬ Tm.bound k = .bound l := by simp [h]
        rw [if_neg h]; simp only [Tm.d] at e ⊢; simp! [e, decide_eq_false h', tg_br, tg_bb, tg_bs, tg_bl, tg_bo]
    | same s =>
      have h : ¬ Tm.same s = .bound l := by simp
      simp only [Tm.d] at e ⊢; simp! [e, decide_eq_false h, tg_sr, tg_sb, tg_ss, tg_sl, tg_so]; rfl
    | lam s b =>
      have h' : ¬ Tm.lam s b = .bound l := by simp
      have ih := law_opened_ok o b n (l + 1) (by simp only [Tm.dp] at h; omega)
      have ih : R n 91 [b.d, o.d, .int ((l : Int) + 1)] = .ok (opT o b (l + 1)).d := by rw [← ih]; rfl
      simp only [Tm.d] at e ⊢; simp! [e, decide_eq_false h', tg_lr, tg_lb, tg_ls, tg_ll, tg_lo, ih]; rfl
    | of a b =>
      have h' : ¬ Tm.of a b = .bound l := by simp
      have i1 := law_opened_ok o a n l (by simp only [Tm.dp] at h; omega)
      have i2 := law_opened_ok o b n l (by simp only [Tm.dp] at h; omega)
      simp only [Tm.d] at e ⊢; simp! [e, decide_eq_false h', tg_or, tg_ob, tg_os, tg_ol, tg_oo, i1, i2]; rfl
theorem lifted_ok (c : Int) : ∀ (t : Tm) (n l : Nat), t.clo l → t.dp < n → R n 85 [t.d, .int c, .int l] = .ok t.d
  | t, 0, _, _, h => by omega
  | .free x s, n + 1, l, hc, h => by (rw [R_at lib85 rfl]; simp only [F85, start, List.map_cons, List.map_nil, List.cons_append, List.nil_append, Nat.reduceSub, List.replicate, List.append_nil, Nat.sub_self]); simp only [Tm.d]; simp! [tg_rr, tg_rb, tg_rs, tg_rl, tg_ro]
  | .bound k, n + 1, l, hc, h => by
    have hc : k < l := hc
    (rw [R_at lib85 rfl]; simp only [F85, start, List.map_cons, List.map_nil, List.cons_append, List.nil_append, Nat.reduceSub, List.replicate, List.append_nil, Nat.sub_self]); simp only [Tm.d]; simp! [tg_br, tg_bb, tg_bs, tg_bl, tg_bo, decide_eq_false (show ¬ (l : Int) ≤ (k : Int) by omega)]
  | .same s, n + 1, l, hc, h => by (rw [R_at lib85 rfl]; simp only [F85, start, List.map_cons, List.map_nil, List.cons_append, List.nil_append, Nat.reduceSub, List.replicate, List.append_nil, Nat.sub_self]); simp only [Tm.d]; simp! [tg_sr, tg_sb, tg_ss, tg_sl, tg_so]
  | .lam s b, n + 1, l, hc, h => by
    have ih := lifted_ok c b n (l + 1) hc (by simp only [Tm.dp] at h; omega)
    have ih : R n 85 [b.d, .int c, .int ((l : Int) + 1)] = .ok b.d := by rw [← ih]; rfl
    (rw [R_at lib85 rfl]; simp only [F85, start, List.map_cons, List.map_nil, List.cons_append, List.nil_append, Nat.reduceSub, List.replicate, List.append_nil, Nat.sub_self]); simp only [Tm.d]; simp! [tg_lr, tg_lb, tg_ls, tg_ll, tg_lo, ih]
  | .of a b, n + 1, l, hc, h => by
    have i1 := lifted_ok c a n l hc.1 (by simp only [Tm.dp] at h; omega)
    have i2 := lifted_ok c b n l hc.2 (by simp only [Tm.dp] at h; omega)
    (rw [R_at lib85 rfl]; simp only [F85, start, List.map_cons, List.map_nil, List.cons_append, List.nil_append, Nat.reduceSub, List.replicate, List.append_nil, Nat.sub_self]); simp only [Tm.d]; simp! [tg_or, tg_ob, tg_os, tg_ol, tg_oo, i1, i2]
theorem v_intF : biD .int [.bl false] = .ok (.int 0) := rfl
theorem opened_ok (o : Tm) (ho : o.clo 0) : ∀ (t : Tm) (n l : Nat), t.clo (l + 1) → t.dp + o.dp + 1 < n → R n 86 [t.d, o.d, .int l] = .ok (opT o t l).d
  | t, 0, _, _, h => by omega
  | .free x s, n + 1, l, hc, h => by (rw [R_at lib86 rfl]; simp only [F86, start, List.map_cons, List.map_nil, List.cons_append, List.nil_append, Nat.reduceSub, List.replicate, List.append_nil, Nat.sub_self]); simp only [Tm.d]; simp! [tg_rr, tg_rb, tg_rs, tg_rl, tg_ro]; rfl
  | .bound k, n + 1, l, hc, h => by
    have hc : k < l + 1 := hc
    have lf := lifted_ok (l : Int) o n 0 ho (by simp only [Tm.dp] at h; omega)
    have lf : R n 85 [o.d, .int l, .int 0] = .ok o.d := lf
    simp only [opT]
    by_cases hk : k = l
    · subst hk
      rw [if_pos rfl]
      (rw [R_at lib86 rfl]; simp only [F86, start, List.map_cons, List.map_nil, List.cons_append, List.nil_append, Nat.reduceSub, List.replicate, List.append_nil, Nat.sub_self]); simp only [Tm.d]; simp! [tg_br, tg_bb, tg_bs, tg_bl, tg_bo, show ((k : Int) == (k : Int)) = true from beq_self_eq_true _, lf]
    · rw [if_neg hk]
      have e : ((k : Int) == (l : Int)) = false := by rw [beq_eq_false_iff_ne]; omega
      (rw [R_at lib86 rfl]; simp only [F86, start, List.map_cons, List.map_nil, List.cons_append, List.nil_append, Nat.reduceSub, List.replicate, List.append_nil, Nat.sub_self]); simp only [Tm.d]; simp! [tg_br, tg_bb, tg_bs, tg_bl, tg_bo, e, decide_eq_false (show ¬ (l : Int) < (k : Int) by omega), v_intF]
  | .same s, n + 1, l, hc, h => by (rw [R_at lib86 rfl]; simp only [F86, start, List.map_cons, List.map_nil, List.cons_append, List.nil_append, Nat.reduceSub, List.replicate, List.append_nil, Nat.sub_self]); simp only [Tm.d]; simp! [tg_sr, tg_sb, tg_ss, tg_sl, tg_so]; rfl
  | .lam s b, n + 1, l, hc, h => by
    have ih := opened_ok o ho b n (l + 1) hc (by simp only [Tm.dp] at h; omega)
    have ih : R n 86 [b.d, o.d, .int ((l : Int) + 1)] = .ok (opT o b (l + 1)).d := by rw [← ih]; rfl
    (rw [R_at lib86 rfl]; simp only [F86, start, List.map_cons, List.map_nil, List.cons_append, List.nil_append, Nat.reduceSub, List.replicate, List.append_nil, Nat.sub_self]); simp only [Tm.d]; simp! [tg_lr, tg_lb, tg_ls, tg_ll, tg_lo, ih]; rfl
  | .of a b, n + 1, l, hc, h => by
    have i1 := opened_ok o ho a n l hc.1 (by simp only [Tm.dp] at h; omega)
    have i2 := opened_ok o ho b n l hc.2 (by simp only [Tm.dp] at h; omega)
    (rw [R_at lib86 rfl]; simp only [F86, start, List.map_cons, List.map_nil, List.cons_append, List.nil_append, Nat.reduceSub, List.replicate, List.append_nil, Nat.sub_self]); simp only [Tm.d]; simp! [tg_or, tg_ob, tg_os, tg_ol, tg_oo, i1, i2]; rfl
theorem Srt.hsh : ∀ s : Srt, s.d.hsh = true
  | .t => rfl
  | .i => rfl
  | .f a b => by simp [Srt.d, D.hsh, hshL, Srt.hsh a, Srt.hsh b]
theorem key_free (x : Tx) (s : Srt) (h : s.dp ≤ 5) : keyB true (.tup [.str FREE, .str x, s.d]) = true := by
  have d : D.dep (.tup [.str FREE, .str x, s.d]) ≤ 8 := by simp only [D.dep, depL, Srt.dep]; omega
  simp [keyB, D.hsh, hshL, s.hsh, d]
theorem get_one (k v q : D) : (dgetD [(k, v)] q).getD q = if k.eqv q then v else q := by
  unfold dgetD
  rw [List.find?_cons]
  cases k.eqv q <;> rfl
theorem put_raw_ok (y : Tx) (u : Srt) (o : Tm) : ∀ (t : Tm) (n : Nat), t.rok → t.dp < n → R n 77 [t.d, .dic true [(.tup [.str FREE, .str y, u.d], o.d)]] = .ok (putT y u o t).d
  | t, 0, _, h => by omega
  | .free x s, n + 1, hr, h => by
    have q : D.eqv (.tup [.str FREE, .str y, u.d]) (.tup [.str FREE, .str x, s.d]) = decide (Tm.free y u = .free x s) := Tm.eqv (.free y u) (.free x s)
    (rw [R_at lib77 rfl]; simp only [F77, start, List.map_cons, List.map_nil, List.cons_append, List.nil_append, Nat.reduceSub, List.replicate, List.append_nil, Nat.sub_self])
    simp only [Tm.d, putT]
    simp! [tg_rr, tg_rb, tg_rs, tg_rl, tg_ro, meD_get _ _ _ _ (key_free x s hr.2), get_one, q]
    by_cases e : Tm.free y u = .free x s
    · rw [if_pos e, if_pos (decide_eq_true e)]
    · rw [if_neg e, if_neg (by rw [decide_eq_false e]; decide)]; rfl
  | .bound k, n + 1, hr, h => by (rw [R_at lib77 rfl]; simp only [F77, start, List.map_cons, List.map_nil, List.cons_append, List.nil_append, Nat.reduceSub, List.replicate, List.append_nil, Nat.sub_self]); simp only [Tm.d]; simp! [tg_br, tg_bb, tg_bs, tg_bl, tg_bo]; rfl
  | .same s, n + 1, hr, h => by (rw [R_at lib77 rfl]; simp only [F77, start, List.map_cons, List.map_nil, List.cons_append, List.nil_append, Nat.reduceSub, List.replicate, List.append_nil, Nat.sub_self]); simp only [Tm.d]; simp! [tg_sr, tg_sb, tg_ss, tg_sl, tg_so]; rfl
  | .lam s b, n + 1, hr, h => by
    have ih := put_raw_ok y u o b n hr.2 (by simp only [Tm.dp] at h; omega)
    (rw [R_at lib77 rfl]; simp only [F77, start, List.map_cons, List.map_nil, List.cons_append, List.nil_append, Nat.reduceSub, List.replicate, List.append_nil, Nat.sub_self]); simp only [Tm.d]; simp! [tg_lr, tg_lb, tg_ls, tg_ll, tg_lo, ih]; rfl
  | .of a b, n + 1, hr, h => by
    have i1 := put_raw_ok y u o a n hr.1 (by simp only [Tm.dp] at h; omega)
    have i2 := put_raw_ok y u o b n hr.2 (by simp only [Tm.dp] at h; omega)
    (rw [R_at lib77 rfl]; simp only [F77, start, List.map_cons, List.map_nil, List.cons_append, List.nil_append, Nat.reduceSub, List.replicate, List.append_nil, Nat.sub_self]); simp only [Tm.d]; simp! [tg_or, tg_ob, tg_os, tg_ol, tg_oo, i1, i2]; rfl
theorem put_ok (n : Nat) {y : Tx} {u s : Srt} {o t : Tm} (hu : u.dp ≤ 5) (hr : t.rok) (h : WT [] (putT y u o t) s) (hd : (putT y u o t).dp ≤ 40) (hz : (putT y u o t).sz ≤ 600) (ht : t.dp ≤ 60) (hn : 80 < n) (hl : n ≤ 1000) : R n 79 [t.d, .tup [.str FREE, .str y, u.d], o.d] = .ok (putT y u o t).d := by
  obtain ⟨m, rfl⟩ : ∃ m, n = m + 2 := ⟨n - 2, by omega⟩
  have p := put_raw_ok y u o t m hr (by omega)
  have b := bounded_ok m h hd hz (by omega) (by omega)
  have q : R (m + 1) 78 [t.d, .dic true [(.tup [.str FREE, .str y, u.d], o.d)]] = .ok (putT y u o t).d := by
    (rw [R_at lib78 rfl]; simp only [F78, start, List.map_cons, List.map_nil, List.cons_append, List.nil_append, Nat.reduceSub, List.replicate, List.append_nil, Nat.sub_self])
    simp! [p, b]
  (rw [R_at lib79 rfl]; simp only [F79, start, List.map_cons, List.map_nil, List.cons_append, List.nil_append, Nat.reduceSub, List.replicate, List.append_nil, Nat.sub_self])
  simp! [kDcB_one true _ o.d (key_free y u hu), q]
theorem bound_over_ok (n : Nat) {y : Tx} {u s : Srt} {t : Tm} (hu : (Srt.f u s).dp ≤ 5) (h : WT [] t s) (hd : t.dp ≤ 39) (hz : t.sz ≤ 599) (hn : 80 < n) (hl : n ≤ 1000) : R n 84 [.tup [.str FREE, .str y, u.d], t.d] = .ok (Tm.lam u (ovT y u t 0)).d := by
  obtain ⟨m, rfl⟩ : ∃ m, n = m + 1 := ⟨n - 1, by omega⟩
  have o := over_ok y u (by simp only [Srt.dp] at hu; omega) t m 0 (by omega)
  have o : R m 83 [t.d, .tup [.str FREE, .str y, u.d], .int 0] = .ok (ovT y u t 0).d := o
  obtain ⟨z1, z2⟩ := ov_sz y u t 0
  have b := bounded_ok m (WT.lam hu (h.ov y u)) (by simp only [Tm.dp, z2, List.length_nil]; omega) (by simp only [Tm.sz, z1, List.length_nil]; omega) (by omega) (by omega)
  have b : R m 41 [.tup [.str [102, 111, 114], u.d, (ovT y u t 0).d]] = .ok (Tm.lam u (ovT y u t 0)).d := b
  (rw [R_at lib84 rfl]; simp only [F84, start, List.map_cons, List.map_nil, List.cons_append, List.nil_append, Nat.reduceSub, List.replicate, List.append_nil, Nat.sub_self])
  simp! [o, b]
theorem unfolded_ok (n : Nat) {v s : Srt} {b o : Tm} (hc : b.clo 1) (ho : o.clo 0) (h : WT [] (opT o b 0) s) (hd : (opT o b 0).dp ≤ 40) (hz : (opT o b 0).sz ≤ 600) (hn : b.dp + o.dp + 80 < n) (hl : n ≤ 1000) : R n 88 [(Tm.of (.lam v b) o).d] = .ok (opT o b 0).d := by
  obtain ⟨m, rfl⟩ : ∃ m, n = m + 2 := ⟨n - 2, by omega⟩
  have f : R (m + 1) 87 [.tup [.str OF, .tup [.str FOR, v.d, b.d], o.d]] = .ok (.bl true) := by
    (rw [R_at lib87 rfl]; simp only [F87, start, List.map_cons, List.map_nil, List.cons_append, List.nil_append, Nat.reduceSub, List.replicate, List.append_nil, Nat.sub_self])
    simp! [tg_oo, tg_ll]
  have p := opened_ok o ho b (m + 1) 0 hc (by omega)
  have p : R (m + 1) 86 [b.d, o.d, .int 0] = _ := p
  have q := bounded_ok (m + 1) h hd hz (by omega) (by omega)
  (rw [R_at lib88 rfl]; simp only [F88, start, List.map_cons, List.map_nil, List.cons_append, List.nil_append, Nat.reduceSub, List.replicate, List.append_nil, Nat.sub_self])
  simp only [Tm.d]
  simp! [f, p, q]
theorem law_told_lam (n : Nat) (v : Srt) (b : Tm) : R (n + 3) 90 [(Tm.lam v b).d] = .ok (.str [110, 111, 110, 101]) := by
  have f : R (n + 1) 87 [.tup [.str FOR, v.d, b.d]] = .ok (.bl false) := by
    (rw [R_at lib87 rfl]; simp only [F87, start, List.map_cons, List.map_nil, List.cons_append, List.nil_append, Nat.reduceSub, List.replicate, List.append_nil, Nat.sub_self])
    simp! [tg_lo]
  have q : R (n + 2) 88 [(Tm.lam v b).d] = .exc 0 [] := by
    (rw [R_at lib88 rfl]; simp only [F88, start, List.map_cons, List.map_nil, List.cons_append, List.nil_append, Nat.reduceSub, List.replicate, List.append_nil, Nat.sub_self])
    simp only [Tm.d]
    simp! [f]
  (rw [R_at lib90 rfl]; simp only [F90, start, List.map_cons, List.map_nil, List.cons_append, List.nil_append, Nat.reduceSub, List.replicate, List.append_nil, Nat.sub_self])
  simp! [q]
  rw [kTry_same _ _ _ _ (by decide) rfl]
  simp! []
theorem law_told_free (n : Nat) (x : Tx) (v : Srt) (b : Tm) : R (n + 3) 90 [(Tm.of (.free x v) b).d] = .ok (.str [110, 111, 110, 101]) := by
  have f : R (n + 1) 87 [.tup [.str OF, .tup [.str FREE, .str x, v.d], b.d]] = .ok (.bl false) := by
    (rw [R_at lib87 rfl]; simp only [F87, start, List.map_cons, List.map_nil, List.cons_append, List.nil_append, Nat.reduceSub, List.replicate, List.append_nil, Nat.sub_self])
    simp! [tg_oo, tg_rl]
  have q : R (n + 2) 88 [(Tm.of (.free x v) b).d] = .exc 0 [] := by
    (rw [R_at lib88 rfl]; simp only [F88, start, List.map_cons, List.map_nil, List.cons_append, List.nil_append, Nat.reduceSub, List.replicate, List.append_nil, Nat.sub_self])
    simp only [Tm.d]
    simp! [f]
  (rw [R_at lib90 rfl]; simp only [F90, start, List.map_cons, List.map_nil, List.cons_append, List.nil_append, Nat.reduceSub, List.replicate, List.append_nil, Nat.sub_self])
  simp! [q]
  rw [kTry_same _ _ _ _ (by decide) rfl]
  simp! []
end Rf

/-! part RfWd -/
set_option autoImplicit false
set_option linter.all false
set_option Elab.async false
set_option maxRecDepth 100000
set_option maxHeartbeats 4000000
/-! RfWd: the words' terms, in the plain. -/
namespace Rf
/-- a term within the bounds -/
structure Gd (t : Tm) : Prop where
  rk : t.rok
  it : isT t = true
theorem isT_iff {t : Tm} (h : isT t = true) : (∃ s, sinT t [] = some s) ∧ t.dp ≤ 40 ∧ t.sz ≤ 600 := by
  simp only [isT, Bool.and_eq_true, decide_eq_true_eq, Option.isSome_iff_exists] at h
  exact ⟨h.1, h.2.1, h.2.2⟩
/-- its sort -/
def srt (t : Tm) : Srt := (sinT t []).getD .t
theorem Gd.ty {t : Tm} (h : Gd t) : WT [] t (srt t) := by
  obtain ⟨⟨s, hs⟩, _⟩ := isT_iff h.it
  have := sinT_wt h.rk hs
  unfold srt
  rw [hs]; exact this
theorem Gd.dp {t : Tm} (h : Gd t) : t.dp ≤ 40 := (isT_iff h.it).2.1
theorem Gd.sz {t : Tm} (h : Gd t) : t.sz ≤ 600 := (isT_iff h.it).2.2
theorem Gd.sd {t : Tm} (h : Gd t) : (srt t).dp ≤ 5 := h.ty.dp fun s hs => by cases hs
theorem Gd.dd {t : Tm} (h : Gd t) : t.d.dep ≤ 46 := by have := Tm.dep h.rk; have := h.dp; omega
theorem srt_of {t : Tm} {s : Srt} (h : WT [] t s) : srt t = s := by unfold srt; rw [h.sinT]; rfl
theorem Gd.of {t : Tm} {s : Srt} (h : WT [] t s) (hd : t.dp ≤ 40) (hz : t.sz ≤ 600) : Gd t := ⟨h.rok, isT_of h hd hz⟩
/-- within the bounds, or TooGreat -/
def bdT (t : Tm) : Out Tm := if isT t then .ok t else .exc 1 []
theorem bdT_gd {t u : Tm} (hr : t.rok) (h : bdT t = .ok u) : Gd u ∧ u = t := by
  unfold bdT at h
  split at h
  · cases h; exact ⟨⟨hr, by assumption⟩, rfl⟩
  · cases h
theorem bd_ok (n : Nat) {t : Tm} (hr : t.rok) (hd : t.dp ≤ 70) (hn : 100 < n) (hl : n ≤ 1000) : R n 41 [t.d] = (bdT t).map Tm.d := by
  obtain ⟨m, rfl⟩ : ∃ m, n = m + 1 := ⟨n - 1, by omega⟩
  have i := is_term_t m t hr (by omega) (by omega)
  (rw [R_at lib41 rfl]; simp only [F41, start, List.map_cons, List.map_nil, List.cons_append, List.nil_append, Nat.reduceSub, List.replicate, List.append_nil, Nat.sub_self])
  simp! [i]
  unfold bdT
  cases isT t <;> simp! [] <;> rfl
theorem sof_ok (n : Nat) {t : Tm} (h : Gd t) (hn : 100 < n) (hl : n ≤ 1000) : R n 40 [t.d] = .ok (srt t).d := sort_of_ok n h.ty h.rk (by have := h.dp; omega) hl
/-- is it a truth -/
def isTr (t : Tm) : Bool := decide (srt t = .t)
theorem is_truth_ok (n : Nat) {t : Tm} (h : Gd t) (hn : 101 < n) (hl : n ≤ 1000) : R n 115 [t.d] = .ok (.bl (isTr t)) := by
  obtain ⟨m, rfl⟩ : ∃ m, n = m + 1 := ⟨n - 1, by omega⟩
  have q := sof_ok m h (by omega) (by omega)
  have e : eqD (srt t).d (.str [116]) = .ok (decide (srt t = .t)) := Srt.eqD (srt t) .t (by have := h.sd; omega)
  (rw [R_at lib115 rfl]; simp only [F115, start, List.map_cons, List.map_nil, List.cons_append, List.nil_append, Nat.reduceSub, List.replicate, List.append_nil, Nat.sub_self])
  simp! [q, e]
  rfl
def ntO (l : List Tm) : Out D := if l.all isTr then .ok .non else .exc 0 []
theorem nt_go (n : Nat) (x : D) (hn : 101 < n) (hl : n ≤ 1000) : ∀ (l : List Tm) (s : Sl), (∀ t ∈ l, Gd t) → ∃ s', kFor (R n) 2000 1 [.ite (.not (.call 115 [.var 1])) [.raise 0] []] [.val x, s] (l.map Tm.d) = if l.all isTr then .nxt [.val x, s'] else .exc 0 [] [.val x, s']
  | [], s, _ => ⟨s, rfl⟩
  | t :: l, s, h => by
    have q := is_truth_ok n (h t List.mem_cons_self) hn hl
    cases e : isTr t with
    | true =>
      rw [e] at q
      obtain ⟨s', ih⟩ := nt_go n x hn hl l (.val t.d) fun u hu => h u (List.mem_cons_of_mem _ hu)
      refine ⟨s', ?_⟩
      unfold kFor at ih ⊢
      rw [List.map_cons, forGo]
      dsimp only
      have e1 : evSs (R n) 2000 [.ite (.not (.call 115 [.var 1])) [.raise 0] []] (([.val x, s] : Env).set 1 (.val t.d)) = .nxt [.val x, .val t.d] := by simp! [q]
      rw [e1]
      simp only [List.all_cons, e, Bool.true_and]
      exact ih
    | false =>
      rw [e] at q
      refine ⟨.val t.d, ?_⟩
      unfold kFor
      rw [List.map_cons, forGo]
      dsimp only
      have e1 : evSs (R n) 2000 [.ite (.not (.call 115 [.var 1])) [.raise 0] []] (([.val x, s] : Env).set 1 (.val t.d)) = .exc 0 [] [.val x, .val t.d] := by simp! [q]
      rw [e1]
      simp only [List.all_cons, e, Bool.false_and]
      rfl
theorem nt_ok (n : Nat) {l : List Tm} (h : ∀ t ∈ l, Gd t) (hn : 102 < n) (hl : n ≤ 1000) : R n 139 [.lst (l.map Tm.d)] = ntO l := by
  obtain ⟨m, rfl⟩ : ∃ m, n = m + 1 := ⟨n - 1, by omega⟩
  obtain ⟨s', q⟩ := nt_go m (.lst (l.map Tm.d)) (by omega) (by omega) l .no h
  (rw [R_at lib139 rfl]; simp only [F139, start, List.map_cons, List.map_nil, List.cons_append, List.nil_append, Nat.reduceSub, List.replicate, List.append_nil, Nat.sub_self])
  simp! [q]
  unfold ntO
  cases l.all isTr <;> simp! [] <;> rfl
/-- equality -/
def eqO (a b : Tm) : Out Tm := bdT (eqT (srt a) a b)
theorem eqO_ok (n : Nat) {a b : Tm} (ha : Gd a) (hb : Gd b) (hn : 101 < n) (hl : n ≤ 1000) : R n 43 [a.d, b.d] = (eqO a b).map Tm.d := by
  rw [equality_ok n ha.ty ha.sd ha.rk hb.rk (by rw [eqT_dp]; have := ha.dp; have := hb.dp; omega) hl]
  unfold eqO bdT
  cases isT (eqT (srt a) a b) <;> rfl
theorem eqO_gd {a b c : Tm} (ha : Gd a) (hb : Gd b) (h : eqO a b = .ok c) : Gd c := (bdT_gd (eqT_rok ha.sd ha.rk hb.rk) h).1
/-- always -/
def alwT : Tm := eqT (.f .t .t) (.lam .t (.bound 0)) (.lam .t (.bound 0))
theorem alw_wt : WT [] alwT .t := eqT_wt (by decide) (.lam (by decide) (.bound (by decide) rfl)) (.lam (by decide) (.bound (by decide) rfl))
theorem alw_gd : Gd alwT := .of alw_wt (by decide) (by decide)
theorem alw_ok (n : Nat) : R (n + 1) 140 [] = .ok alwT.d := by
  (rw [R_at lib140 rfl]; simp only [F140, start, List.map_cons, List.map_nil, List.cons_append, List.nil_append, Nat.reduceSub, List.replicate, List.append_nil, Nat.sub_self])
  simp! []
  rfl
/-- for all of them -/
def allO (y : Tx) (u : Srt) (t : Tm) : Out Tm := if isTr t then (bdT (.lam u (ovT y u t 0))).bind fun a => (bdT (.lam u alwT)).bind fun b => eqO a b else .exc 0 []
theorem ov_rok (y : Tx) (u : Srt) : ∀ (t : Tm) (l : Nat), t.rok → (ovT y u t l).rok
  | .free x s, l, h => by simp only [ovT]; split <;> first | trivial | exact h
  | .bound k, l, h => trivial
  | .same s, l, h => h
  | .lam s b, l, h => ⟨h.1, ov_rok y u b (l + 1) h.2⟩
  | .of a b, l, h => ⟨ov_rok y u a l h.1, ov_rok y u b l h.2⟩
theorem bo_ok (n : Nat) {y : Tx} {u : Srt} {t : Tm} (hu : u.dp ≤ 5) (h : Gd t) (hn : 101 < n) (hl : n ≤ 1000) : R n 84 [.tup [.str FREE, .str y, u.d], t.d] = (bdT (.lam u (ovT y u t 0))).map Tm.d := by
  obtain ⟨m, rfl⟩ : ∃ m, n = m + 1 := ⟨n - 1, by omega⟩
  have o := over_ok y u hu t m 0 (by have := h.dp; omega)
  have o : R m 83 [t.d, .tup [.str FREE, .str y, u.d], .int 0] = .ok (ovT y u t 0).d := o
  obtain ⟨z1, z2⟩ := ov_sz y u t 0
  have b := bd_ok m (t := .lam u (ovT y u t 0)) ⟨hu, ov_rok y u t 0 h.rk⟩ (by simp only [Tm.dp, z2]; have := h.dp; omega) (by omega) (by omega)
  have b : R m 41 [.tup [.str [102, 111, 114], u.d, (ovT y u t 0).d]] = _ := b
  (rw [R_at lib84 rfl]; simp only [F84, start, List.map_cons, List.map_nil, List.cons_append, List.nil_append, Nat.reduceSub, List.replicate, List.append_nil, Nat.sub_self])
  simp! [o, b]
theorem all_ok (n : Nat) {y : Tx} {u : Srt} {t : Tm} (hu : u.dp ≤ 5) (h : Gd t) (hn : 104 < n) (hl : n ≤ 1000) : R n 141 [.tup [.str FREE, .str y, u.d], t.d] = (allO y u t).map Tm.d := by
  obtain ⟨m, rfl⟩ : ∃ m, n = m + 1 := ⟨n - 1, by omega⟩
  have q : R m 139 [.lst [t.d]] = ntO [t] := nt_ok m (l := [t]) (fun u hu => by rw [List.mem_singleton.mp hu]; exact h) (by omega) (by omega)
  have b := bo_ok m (y := y) hu h (by omega) (by omega)
  have a : R m 140 [] = .ok alwT.d := by
    obtain ⟨k, rfl⟩ : ∃ k, m = k + 1 := ⟨m - 1, by omega⟩
    exact alw_ok k
  have c := bd_ok m (t := .lam u alwT) ⟨hu, alw_gd.rk⟩ (by show 1 + alwT.dp ≤ 70; decide) (by omega) (by omega)
  have c : R m 41 [.tup [.str [102, 111, 114], u.d, alwT.d]] = _ := c
  (rw [R_at lib141 rfl]; simp only [F141, start, List.map_cons, List.map_nil, List.cons_append, List.nil_append, Nat.reduceSub, List.replicate, List.append_nil, Nat.sub_self])
  simp! [q]
  unfold ntO allO
  simp only [List.all_cons, List.all_nil, Bool.and_true]
  cases isTr t with
  | false => simp! []; rfl
  | true =>
    simp! [b]
    cases h1 : bdT (.lam u (ovT y u t 0)) with
    | ok p =>
      simp! [a, c]
      cases h2 : bdT (.lam u alwT) with
      | ok r =>
        have gp := (bdT_gd (t := .lam u (ovT y u t 0)) ⟨hu, ov_rok y u t 0 h.rk⟩ h1).1
        have gr := (bdT_gd (t := .lam u alwT) ⟨hu, alw_gd.rk⟩ h2).1
        simp! [eqO_ok m gp gr (by omega) (by omega)]
      | exc c fs => simp! []; rfl
      | bad => simp! []; rfl
    | exc c fs => simp! []; rfl
    | bad => simp! []; rfl
theorem all_gd {y : Tx} {u : Srt} {t c : Tm} (hu : u.dp ≤ 5) (h : Gd t) (e : allO y u t = .ok c) : Gd c := by
  unfold allO at e
  split at e
  case isFalse => cases e
  cases h1 : bdT (.lam u (ovT y u t 0)) with
  | ok p =>
    cases h2 : bdT (.lam u alwT) with
    | ok r =>
      rw [h1, h2] at e
      exact eqO_gd (bdT_gd (t := .lam u (ovT y u t 0)) ⟨hu, ov_rok y u t 0 h.rk⟩ h1).1 (bdT_gd (t := .lam u alwT) ⟨hu, alw_gd.rk⟩ h2).1 e
    | exc c fs => rw [h1, h2] at e; cases e
    | bad => rw [h1, h2] at e; cases e
  | exc c fs => rw [h1] at e; cases e
  | bad => rw [h1] at e; cases e
def nevT : Tm := eqT (.f .t .t) (.lam .t (.bound 0)) (.lam .t alwT)
theorem nev_eq : allO [118] .t (.free [118] .t) = .ok nevT := by rfl
theorem fv_gd {y : Tx} (h : nmB y = true) : Gd (.free y .t) := .of (.free h (by decide)) (by simp [Tm.dp]) (by simp [Tm.sz])
theorem nev_gd : Gd nevT := all_gd (by decide) (fv_gd (by decide)) nev_eq
theorem nev_ok (n : Nat) (hn : 105 < n) (hl : n ≤ 1000) : R n 142 [] = .ok nevT.d := by
  obtain ⟨m, rfl⟩ : ∃ m, n = m + 1 := ⟨n - 1, by omega⟩
  have q := all_ok m (y := [118]) (u := .t) (by decide) (fv_gd (y := [118]) (by decide)) (by omega) (by omega)
  rw [nev_eq] at q
  have q : R m 141 [.tup [.str [102, 114, 101, 101], .str [118], .str [116]], .tup [.str [102, 114, 101, 101], .str [118], .str [116]]] = .ok nevT.d := q
  (rw [R_at lib142 rfl]; simp only [F142, start, List.map_cons, List.map_nil, List.cons_append, List.nil_append, Nat.reduceSub, List.replicate, List.append_nil, Nat.sub_self])
  simp! [q]
abbrev TWO : Srt := .f .t (.f .t .t)
def prO (a b : Tm) : Out Tm := bdT (.lam TWO (.of (.of (.bound 0) a) b))
theorem pr_rok {a b : Tm} (ha : Gd a) (hb : Gd b) : (Tm.lam TWO (.of (.of (.bound 0) a) b)).rok := ⟨by decide, ⟨trivial, ha.rk⟩, hb.rk⟩
theorem pr_ok (n : Nat) {a b : Tm} (ha : Gd a) (hb : Gd b) (hn : 101 < n) (hl : n ≤ 1000) : R n 153 [a.d, b.d] = (prO a b).map Tm.d := by
  obtain ⟨m, rfl⟩ : ∃ m, n = m + 1 := ⟨n - 1, by omega⟩
  have c := bd_ok m (pr_rok ha hb) (by simp only [Tm.dp]; have := ha.dp; have := hb.dp; omega) (by omega) (by omega)
  have c : R m 41 [.tup [.str [102, 111, 114], .tup [.str [116], .tup [.str [116], .str [116]]], .tup [.str [111, 102], .tup [.str [111, 102], .tup [.str [98, 111, 117, 110, 100], .int 0], a.d], b.d]]] = _ := c
  (rw [R_at lib153 rfl]; simp only [F153, start, List.map_cons, List.map_nil, List.cons_append, List.nil_append, Nat.reduceSub, List.replicate, List.append_nil, Nat.sub_self])
  simp! [c]
  rfl
theorem pr_gd {a b c : Tm} (ha : Gd a) (hb : Gd b) (h : prO a b = .ok c) : Gd c := (bdT_gd (pr_rok ha hb) h).1
/-- a pair of always -/
def pr2T : Tm := .lam TWO (.of (.of (.bound 0) alwT) alwT)
theorem pr2_eq : prO alwT alwT = .ok pr2T := by rfl
theorem pr2_gd : Gd pr2T := pr_gd alw_gd alw_gd pr2_eq
def boO (a b : Tm) : Out Tm := if isTr a && isTr b then (prO a b).bind fun p => eqO p pr2T else .exc 0 []
theorem both_ok (n : Nat) {a b : Tm} (ha : Gd a) (hb : Gd b) (hn : 104 < n) (hl : n ≤ 1000) : R n 154 [a.d, b.d] = (boO a b).map Tm.d := by
  obtain ⟨m, rfl⟩ : ∃ m, n = m + 1 := ⟨n - 1, by omega⟩
  have q : R m 139 [.lst [a.d, b.d]] = ntO [a, b] := nt_ok m (l := [a, b]) (fun u hu => by
    rcases List.mem_cons.mp hu with rfl | hu
    · exact ha
    · rw [List.mem_singleton.mp hu]; exact hb) (by omega) (by omega)
  have p := pr_ok m ha hb (by omega) (by omega)
  have p2 := pr_ok m alw_gd alw_gd (by omega) (by omega)
  rw [pr2_eq] at p2
  have al : R m 140 [] = .ok alwT.d := by
    obtain ⟨k, rfl⟩ : ∃ k, m = k + 1 := ⟨m - 1, by omega⟩
    exact alw_ok k
  (rw [R_at lib154 rfl]; simp only [F154, start, List.map_cons, List.map_nil, List.cons_append, List.nil_append, Nat.reduceSub, List.replicate, List.append_nil, Nat.sub_self])
  simp! [q]
  unfold ntO boO
  simp only [List.all_cons, List.all_nil, Bool.and_true]
  cases isTr a && isTr b with
  | false => simp! []; rfl
  | true =>
    simp! [p]
    cases h1 : prO a b with
    | ok c => simp! [al, p2, eqO_ok m (pr_gd ha hb h1) pr2_gd (by omega) (by omega)]
    | exc c fs => simp! []; rfl
    | bad => simp! []; rfl
theorem both_gd {a b c : Tm} (ha : Gd a) (hb : Gd b) (h : boO a b = .ok c) : Gd c := by
  unfold boO at h
  split at h
  case isFalse => cases h
  cases h1 : prO a b with
  | ok p => rw [h1] at h; exact eqO_gd (pr_gd ha hb h1) pr2_gd h
  | exc c fs => rw [h1] at h; cases h
  | bad => rw [h1] at h; cases h
def imO (a b : Tm) : Out Tm := (boO a b).bind fun c => eqO c a
theorem imp_ok (n : Nat) {a b : Tm} (ha : Gd a) (hb : Gd b) (hn : 105 < n) (hl : n ≤ 1000) : R n 155 [a.d, b.d] = (imO a b).map Tm.d := by
  obtain ⟨m, rfl⟩ : ∃ m, n = m + 1 := ⟨n - 1, by omega⟩
  (rw [R_at lib155 rfl]; simp only [F155, start, List.map_cons, List.map_nil, List.cons_append, List.nil_append, Nat.reduceSub, List.replicate, List.append_nil, Nat.sub_self])
  simp! [both_ok m ha hb (by omega) (by omega)]
  unfold imO
  cases h : boO a b with
  | ok c => simp! [eqO_ok m (both_gd ha hb h) ha (by omega) (by omega)]
  | exc c fs => simp! []; rfl
  | bad => simp! []; rfl
theorem imp_gd {a b c : Tm} (ha : Gd a) (hb : Gd b) (h : imO a b = .ok c) : Gd c := by
  unfold imO at h
  cases h1 : boO a b with
  | ok p => rw [h1] at h; exact eqO_gd (both_gd ha hb h1) ha h
  | exc c fs => rw [h1] at h; cases h
  | bad => rw [h1] at h; cases h
theorem neg_ok (n : Nat) {a : Tm} (ha : Gd a) (hn : 106 < n) (hl : n ≤ 1000) : R n 156 [a.d] = (imO a nevT).map Tm.d := by
  obtain ⟨m, rfl⟩ : ∃ m, n = m + 1 := ⟨n - 1, by omega⟩
  (rw [R_at lib156 rfl]; simp only [F156, start, List.map_cons, List.map_nil, List.cons_append, List.nil_append, Nat.reduceSub, List.replicate, List.append_nil, Nat.sub_self])
  simp! [nev_ok m (by omega) (by omega), imp_ok m ha nev_gd (by omega) (by omega)]
end Rf

/-! part RfWd2 -/
set_option autoImplicit false
set_option linter.all false
set_option Elab.async false
set_option maxRecDepth 100000
set_option maxHeartbeats 4000000
/-! RfWd2: fresh, either, some, the parts of words. -/
namespace Rf
def nmsT : Tm → List Tx
  | .free x _ => [x]
  | .of a b => nmsT a ++ nmsT b
  | .lam _ b => nmsT b
  | _ => []
theorem nms_len : ∀ t : Tm, (nmsT t).length ≤ t.sz
  | .free x s => by simp [nmsT, Tm.sz]
  | .bound k => by simp [nmsT]
  | .same s => by simp [nmsT]
  | .lam s b => by have := nms_len b; simp only [nmsT, Tm.sz]; omega
  | .of a b => by have := nms_len a; have := nms_len b; simp only [nmsT, Tm.sz, List.length_append]; omega
theorem nms_ok : ∀ (t : Tm) (n : Nat), t.sz ≤ 100000 → t.dp < n → R n 152 [t.d] = .ok (.lst ((nmsT t).map .str))
  | t, 0, _, h => by omega
  | .free x s, n + 1, _, _ => by (rw [R_at lib152 rfl]; simp only [F152, start, List.map_cons, List.map_nil, List.cons_append, List.nil_append, Nat.reduceSub, List.replicate, List.append_nil, Nat.sub_self]); simp only [Tm.d]; simp! [tg_rr]; rfl
  | .bound k, n + 1, _, _ => by (rw [R_at lib152 rfl]; simp only [F152, start, List.map_cons, List.map_nil, List.cons_append, List.nil_append, Nat.reduceSub, List.replicate, List.append_nil, Nat.sub_self]); simp only [Tm.d]; simp! [tg_br, tg_bo, tg_bl]; rfl
  | .same s, n + 1, _, _ => by (rw [R_at lib152 rfl]; simp only [F152, start, List.map_cons, List.map_nil, List.cons_append, List.nil_append, Nat.reduceSub, List.replicate, List.append_nil, Nat.sub_self]); simp only [Tm.d]; simp! [tg_sr, tg_so, tg_sl]; rfl
  | .lam s b, n + 1, hz, h => by
    have ih := nms_ok b n (by simp only [Tm.sz] at hz; omega) (by simp only [Tm.dp] at h; omega)
    (rw [R_at lib152 rfl]; simp only [F152, start, List.map_cons, List.map_nil, List.cons_append, List.nil_append, Nat.reduceSub, List.replicate, List.append_nil, Nat.sub_self]); simp only [Tm.d]; simp! [tg_lr, tg_lo, tg_ll, ih]; rfl
  | .of a b, n + 1, hz, h => by
    have i1 := nms_ok a n (by simp only [Tm.sz] at hz; omega) (by simp only [Tm.dp] at h; omega)
    have i2 := nms_ok b n (by simp only [Tm.sz] at hz; omega) (by simp only [Tm.dp] at h; omega)
    have l1 := nms_len a
    have l2 := nms_len b
    simp only [Tm.sz] at hz
    (rw [R_at lib152 rfl]; simp only [F152, start, List.map_cons, List.map_nil, List.cons_append, List.nil_append, Nat.reduceSub, List.replicate, List.append_nil, Nat.sub_self]); simp only [Tm.d]
    simp! [tg_or, tg_oo, i1, i2, v_addL _ _ (show ((nmsT a).map D.str).length + ((nmsT b).map D.str).length ≤ SZ from sz_le (by simp only [List.length_map]; omega))]
    simp only [nmsT, List.map_append]
theorem fr_go (n : Nat) (x : D) (hn : 100 < n) : ∀ (l : List Tm) (acc : List Tx) (s : Sl), (∀ t ∈ l, Gd t) → acc.length + 600 * l.length ≤ 100000 →
    ∃ s', kFor (R n) 2000 2 [.set 1 (.bop .add (.var 1) (.call 152 [.var 2]))] [.val x, .val (.lst (acc.map .str)), s, .no] (l.map Tm.d) = .nxt [.val x, .val (.lst ((acc ++ l.flatMap nmsT).map .str)), s', .no]
  | [], acc, s, _, _ => ⟨s, by simp [kFor, forGo]⟩
  | t :: l, acc, s, h, hz => by
    have g := h t List.mem_cons_self
    have q := nms_ok t n (by have := g.sz; omega) (by have := g.dp; omega)
    have ln := nms_len t
    have gz := g.sz
    simp only [List.length_cons] at hz
    obtain ⟨s', ih⟩ := fr_go n x hn l (acc ++ nmsT t) (.val t.d) (fun u hu => h u (List.mem_cons_of_mem _ hu)) (by simp only [List.length_append]; omega)
    refine ⟨s', ?_⟩
    unfold kFor at ih ⊢
    rw [List.map_cons, forGo]
    dsimp only
    have e1 : evSs (R n) 2000 [.set 1 (.bop .add (.var 1) (.call 152 [.var 2]))] (([.val x, .val (.lst (acc.map .str)), s, .no] : Env).set 2 (.val t.d)) = .nxt [.val x, .val (.lst ((acc ++ nmsT t).map .str)), .val t.d, .no] := by
      simp! [q, v_addL _ _ (show (acc.map D.str).length + ((nmsT t).map D.str).length ≤ SZ from sz_le (by simp only [List.length_map]; omega))]
      rw [List.map_append]
    rw [e1]
    dsimp only
    rw [ih, List.flatMap_cons, List.append_assoc]
theorem in_tx (l : List Tx) (s : Tx) : inD (.str s) (.lst (l.map .str)) = .ok (decide (s ∈ l)) := by
  have hp : plainL (l.map D.str) = true := plainL_of fun x hx => by obtain ⟨t, _, rfl⟩ := List.mem_map.mp hx; rfl
  simp only [inD, memD, hp, D.plain, Bool.true_and]
  rw [if_pos (decide_eq_true (by simp only [D.dep]; omega))]
  congr 1
  rw [Bool.eq_iff_iff, List.any_eq_true, decide_eq_true_eq]
  constructor
  · rintro ⟨y, hy, e⟩
    obtain ⟨u, hu, rfl⟩ := List.mem_map.mp hy
    simp only [D.eqv, beq_iff_eq] at e
    rw [← e]; exact hu
  · intro h
    exact ⟨.str s, List.mem_map.mpr ⟨s, h, rfl⟩, by simp [D.eqv]⟩
/-- the first count from c on whose name is new -/
def frGo (names : List Tx) : Nat → Nat → Option Nat
  | 0, _ => none
  | k + 1, c => if ([118] ++ numTx c) ∈ names then frGo names k (c + 1) else some c
def frO (names : List Tx) : Option Tx := (frGo names 50 0).bind fun c => if nmB ([118] ++ numTx c) then some ([118] ++ numTx c) else none
theorem num_len : ∀ c : Nat, c < 100 → (numTx c).length ≤ 4 := by decide +kernel
theorem whl_fr (n : Nat) (x y s : Sl) (names : List Tx) : ∀ (k c r : Nat), frGo names k c = some r → c + k ≤ 60 → ∀ f, k ≤ f →
    whlGo (fun ρ' => (evE (R n) (.cmp .inn (.bop .add (.const (.str [118])) (.bi .str [.var 3])) (.var 1)) ρ').bind truthy) (fun ρ' => evSs (R n) 2000 [.set 3 (.bop .add (.var 3) (.const (.int 1)))] ρ') f [x, .val (.lst (names.map .str)), s, .val (.int c)] = .nxt [x, .val (.lst (names.map .str)), s, .val (.int r)]
  | 0, c, r, h, _, f, _ => by cases h
  | k + 1, c, r, h, hc, f, hf => by
    obtain ⟨f, rfl⟩ : ∃ g, f = g + 1 := ⟨f - 1, by omega⟩
    have ln := num_len c (by omega)
    have e1 : (evE (R n) (.cmp .inn (.bop .add (.const (.str [118])) (.bi .str [.var 3])) (.var 1)) [x, .val (.lst (names.map .str)), s, .val (.int c)]).bind truthy = .ok (decide ([118] ++ numTx c ∈ names)) := by
      simp! [v_strI (show c < 100 by omega), v_addS [118] (numTx c) (sz_le (by simp only [List.length_cons, List.length_nil]; omega)), in_tx]
    unfold whlGo
    rw [e1]
    unfold frGo at h
    by_cases hm : [118] ++ numTx c ∈ names
    · rw [if_pos hm] at h
      rw [decide_eq_true hm]
      have e2 : evSs (R n) 2000 [.set 3 (.bop .add (.var 3) (.const (.int 1)))] [x, .val (.lst (names.map .str)), s, .val (.int c)] = .nxt [x, .val (.lst (names.map .str)), s, .val (.int ((c : Int) + 1))] := by simp! []
      simp only [fl_ok, if_true]
      rw [e2]
      exact whl_fr n x y s names k (c + 1) r h (by omega) f (by omega)
    · rw [if_neg hm] at h
      rw [decide_eq_false hm]
      cases h
      rfl
theorem frO_nm {names : List Tx} {x : Tx} (h : frO names = some x) : nmB x = true := by
  unfold frO at h
  obtain ⟨c, h1, h⟩ := bindSome h
  split at h
  · cases h; assumption
  · cases h
theorem fresh_ok (n : Nat) {l : List Tm} {x : Tx} (h : ∀ t ∈ l, Gd t) (hl : l.length ≤ 10) (hx : frO (l.flatMap nmsT) = some x) (hn : 101 < n) : R n 151 [.lst (l.map Tm.d)] = .ok (Tm.free x .t).d := by
  obtain ⟨m, rfl⟩ : ∃ m, n = m + 1 := ⟨n - 1, by omega⟩
  unfold frO at hx
  obtain ⟨c, h1, hx⟩ := bindSome hx
  split at hx
  case isFalse => cases hx
  cases hx
  obtain ⟨s', q⟩ := fr_go m (.lst (l.map Tm.d)) (by omega) l [] .no h (by simp; omega)
  have q : kFor (R m) 2000 2 [.set 1 (.bop .add (.var 1) (.call 152 [.var 2]))] [.val (.lst (l.map Tm.d)), .val (.lst []), .no, .no] (l.map Tm.d) = .nxt [.val (.lst (l.map Tm.d)), .val (.lst ((l.flatMap nmsT).map .str)), s', .no] := q
  have w := whl_fr m (.val (.lst (l.map Tm.d))) .no s' (l.flatMap nmsT) 50 0 c h1 (by omega) 2000 (by omega)
  have c60 : c < 60 := by
    have : ∀ (k c r : Nat), frGo (l.flatMap nmsT) k c = some r → r < c + k := by
      intro k
      induction k with
      | zero => intro c r h; cases h
      | succ k ih =>
        intro c r h
        unfold frGo at h
        split at h
        · have := ih _ _ h; omega
        · cases h; omega
    have := this _ _ _ h1
    omega
  have ln := num_len c (by omega)
  (rw [R_at lib151 rfl]; simp only [F151, start, List.map_cons, List.map_nil, List.cons_append, List.nil_append, Nat.reduceSub, List.replicate, List.append_nil, Nat.sub_self])
  simp! [q]
  unfold kWhl
  have w : whlGo _ _ 2000 [.val (.lst (l.map Tm.d)), .val (.lst ((l.flatMap nmsT).map .str)), s', .val (.int 0)] = _ := w
  rw [w]
  simp! [v_strI (show c < 100 by omega), v_addS [118] (numTx c) (sz_le (by simp only [List.length_cons, List.length_nil]; omega))]
  rfl
/-- either, some -/
def eiO (a b : Tm) : Out Tm := if isTr a && isTr b then (match frO (nmsT a ++ nmsT b) with
  | some x => (imO a (.free x .t)).bind fun i1 => (imO b (.free x .t)).bind fun i2 => (imO i2 (.free x .t)).bind fun i3 => (imO i1 i3).bind fun i4 => allO x .t i4
  | none => .bad) else .exc 0 []
def soO (y : Tx) (u : Srt) (t : Tm) : Out Tm := if isTr t then (match frO ([y] ++ nmsT t) with
  | some x => (imO t (.free x .t)).bind fun i1 => (allO y u i1).bind fun i2 => (imO i2 (.free x .t)).bind fun i3 => allO x .t i3
  | none => .bad) else .exc 0 []
theorem either_ok (n : Nat) {a b : Tm} (ha : Gd a) (hb : Gd b) (hne : eiO a b ≠ .bad) (hn : 108 < n) (hl : n ≤ 1000) : R n 157 [a.d, b.d] = (eiO a b).map Tm.d ∧ ∀ c, eiO a b = .ok c → Gd c := by
  obtain ⟨m, rfl⟩ : ∃ m, n = m + 1 := ⟨n - 1, by omega⟩
  have hg : ∀ t ∈ [a, b], Gd t := fun u hu => by
    rcases List.mem_cons.mp hu with rfl | hu
    · exact ha
    · rw [List.mem_singleton.mp hu]; exact hb
  have q : R m 139 [.lst [a.d, b.d]] = ntO [a, b] := nt_ok m (l := [a, b]) hg (by omega) (by omega)
  rw [R_at lib157 rfl]
  simp only [F157, start, List.map_cons, List.map_nil, List.cons_append, List.nil_append, Nat.reduceSub, List.replicate, List.append_nil, Nat.sub_self]
  simp! [q]
  revert hne
  unfold ntO eiO
  simp only [List.all_cons, List.all_nil, Bool.and_true]
  cases isTr a && isTr b with
  | false => exact fun _ => ⟨by simp! []; rfl, fun c h => by cases h⟩
  | true =>
    simp only [if_true]
    cases hx : frO (nmsT a ++ nmsT b) with
    | none => exact fun h => (h rfl).elim
    | some x =>
      intro hne
      dsimp only at hne ⊢
      have f : R m 151 [.lst [a.d, b.d]] = .ok (Tm.free x .t).d := fresh_ok m (l := [a, b]) hg (by simp) (by rw [← hx]; simp) (by omega)
      have ge : Gd (.free x .t) := fv_gd (frO_nm hx)
      have e1 := imp_ok m ha ge (by omega) (by omega)
      have e2 := imp_ok m hb ge (by omega) (by omega)
      simp! [f, e1]
      cases h1 : imO a (.free x .t) with
      | ok i1 =>
        rw [h1] at hne
        simp! [e2]
        cases h2 : imO b (.free x .t) with
        | ok i2 =>
          rw [h2] at hne
          have g2 := imp_gd hb ge h2
          have e3 := imp_ok m g2 ge (by omega) (by omega)
          simp! [e3]
          cases h3 : imO i2 (.free x .t) with
          | ok i3 =>
            have g1 := imp_gd ha ge h1
            have g3 := imp_gd g2 ge h3
            have e4 := imp_ok m g1 g3 (by omega) (by omega)
            simp! [e4]
            cases h4 : imO i1 i3 with
            | ok i4 =>
              have g4 := imp_gd g1 g3 h4
              have e5 := all_ok m (y := x) (u := .t) (by decide) g4 (by omega) (by omega)
              have e5 : R m 141 [(Tm.free x .t).d, i4.d] = _ := e5
              refine ⟨by simp! [e5], fun c h => all_gd (y := x) (u := .t) (by decide) g4 (by simpa [h2, h3, h4] using h)⟩
            | exc c fs => exact ⟨by simp! []; rfl, fun c h => by simp [h2, h3, h4] at h⟩
            | bad => exact ⟨by simp! []; rfl, fun c h => by simp [h2, h3, h4] at h⟩
          | exc c fs => exact ⟨by simp! []; rfl, fun c h => by simp [h2, h3] at h⟩
          | bad => exact ⟨by simp! []; rfl, fun c h => by simp [h2, h3] at h⟩
        | exc c fs => exact ⟨by simp! []; rfl, fun c h => by simp [h2] at h⟩
        | bad => exact ⟨by simp! []; rfl, fun c h => by simp [h2] at h⟩
      | exc c fs => exact ⟨by simp! []; rfl, fun c h => by simp at h⟩
      | bad => exact ⟨by simp! []; rfl, fun c h => by simp at h⟩
theorem some_ok (n : Nat) {y : Tx} {u : Srt} {t : Tm} (hy : nmB y = true) (hu : u.dp ≤ 5) (ht : Gd t) (hne : soO y u t ≠ .bad) (hn : 108 < n) (hl : n ≤ 1000) : R n 158 [.tup [.str FREE, .str y, u.d], t.d] = (soO y u t).map Tm.d ∧ ∀ c, soO y u t = .ok c → Gd c := by
  obtain ⟨m, rfl⟩ : ∃ m, n = m + 1 := ⟨n - 1, by omega⟩
  have q : R m 139 [.lst [t.d]] = ntO [t] := nt_ok m (l := [t]) (fun u hu => by rw [List.mem_singleton.mp hu]; exact ht) (by omega) (by omega)
  have gy : Gd (.free y u) := .of (.free hy hu) (by simp [Tm.dp]) (by simp [Tm.sz])
  rw [R_at lib158 rfl]
  simp only [F158, start, List.map_cons, List.map_nil, List.cons_append, List.nil_append, Nat.reduceSub, List.replicate, List.append_nil, Nat.sub_self]
  simp! [q]
  revert hne
  unfold ntO soO
  simp only [List.all_cons, List.all_nil, Bool.and_true]
  cases isTr t with
  | false => exact fun _ => ⟨by simp! []; rfl, fun c h => by cases h⟩
  | true =>
    simp only [if_true]
    cases hx : frO ([y] ++ nmsT t) with
    | none => exact fun h => (h rfl).elim
    | some x =>
      intro hne
      dsimp only at hne ⊢
      have f : R m 151 [.lst [(Tm.free y u).d, t.d]] = .ok (Tm.free x .t).d := fresh_ok m (l := [.free y u, t]) (fun w hw => by
        rcases List.mem_cons.mp hw with rfl | hw
        · exact gy
        · rw [List.mem_singleton.mp hw]; exact ht) (by simp) (by rw [← hx]; simp [nmsT]) (by omega)
      have f : R m 151 [.lst [.tup [.str FREE, .str y, u.d], t.d]] = _ := f
      have ge : Gd (.free x .t) := fv_gd (frO_nm hx)
      have e1 := imp_ok m ht ge (by omega) (by omega)
      simp! [f, e1]
      cases h1 : imO t (.free x .t) with
      | ok i1 =>
        have g1 := imp_gd ht ge h1
        have e2 := all_ok m (y := y) hu g1 (by omega) (by omega)
        simp! [e2]
        cases h2 : allO y u i1 with
        | ok i2 =>
          have g2 := all_gd hu g1 h2
          have e3 := imp_ok m g2 ge (by omega) (by omega)
          simp! [e3]
          cases h3 : imO i2 (.free x .t) with
          | ok i3 =>
            have g3 := imp_gd g2 ge h3
            have e5 := all_ok m (y := x) (u := .t) (by decide) g3 (by omega) (by omega)
            have e5 : R m 141 [(Tm.free x .t).d, i3.d] = _ := e5
            refine ⟨by simp! [e5], fun c h => all_gd (y := x) (u := .t) (by decide) g3 (by simpa [h2, h3] using h)⟩
          | exc c fs => exact ⟨by simp! []; rfl, fun c h => by simp [h2, h3] at h⟩
          | bad => exact ⟨by simp! []; rfl, fun c h => by simp [h2, h3] at h⟩
        | exc c fs => exact ⟨by simp! []; rfl, fun c h => by simp [h2] at h⟩
        | bad => exact ⟨by simp! []; rfl, fun c h => by simp [h2] at h⟩
      | exc c fs => exact ⟨by simp! []; rfl, fun c h => by simp at h⟩
      | bad => exact ⟨by simp! []; rfl, fun c h => by simp at h⟩
end Rf

/-! part RfWd3 -/
set_option autoImplicit false
set_option linter.all false
set_option Elab.async false
set_option maxRecDepth 100000
set_option maxHeartbeats 4000000
/-! RfWd3: the parts of words. -/
namespace Rf
theorem mpx {α β : Type} (f : α → β) (c : Nat) (fs : List D) : (Out.exc c fs : Out α).map f = .exc c fs := rfl
theorem sides_gd {t a b : Tm} (h : Gd t) (e : sidesT t = some (a, b)) : Gd a ∧ Gd b := by
  have hd := h.dp
  have hz := h.sz
  have ht := h.ty
  unfold sidesT at e
  split at e
  · rename_i s a' b'
    cases e
    simp only [Tm.dp, Tm.sz] at hd hz
    cases ht with
    | of h1 h2 =>
      cases h1 with
      | of h3 h4 => exact ⟨.of h4 (by omega) (by omega), .of h2 (by omega) (by omega)⟩
  · cases e
def bpO (t : Tm) : Out (Tm × Tm) := match sidesT t with
  | some (.lam u (.of (.of f p) q), r) => if u = TWO ∧ r = pr2T ∧ f = .bound 0 ∧ isT p = true ∧ isT q = true then .ok (p, q) else .exc 0 []
  | _ => .exc 0 []
def prD (p : Tm × Tm) : D := .tup [p.1.d, p.2.d]
theorem bpO_gd {t p q : Tm} (h : Gd t) (e : bpO t = .ok (p, q)) : Gd p ∧ Gd q := by
  unfold bpO at e
  split at e
  · rename_i u f p' q' r hs
    split at e
    · rename_i hc
      cases e
      have g := (sides_gd h hs).1.rk
      exact ⟨⟨g.2.1.2, hc.2.2.2.1⟩, ⟨g.2.2, hc.2.2.2.2⟩⟩
    · cases e
  · cases e
theorem bp_ok (n : Nat) {t : Tm} (h : Gd t) (hn : 103 < n) (hl : n ≤ 1000) : R n 178 [t.d] = (bpO t).map prD := by
  obtain ⟨m, rfl⟩ : ∃ m, n = m + 1 := ⟨n - 1, by omega⟩
  have s : R m 44 [t.d] = oP (sidesT t) := by
    obtain ⟨k, rfl⟩ : ∃ k, m = k + 1 := ⟨m - 1, by omega⟩
    exact sides_ok k t
  have al : R m 140 [] = .ok alwT.d := by
    obtain ⟨k, rfl⟩ : ∃ k, m = k + 1 := ⟨m - 1, by omega⟩
    exact alw_ok k
  have p2 := pr_ok m alw_gd alw_gd (by omega) (by omega)
  rw [pr2_eq] at p2
  unfold bpO
  (rw [R_at lib178 rfl]; simp only [F178, start, List.map_cons, List.map_nil, List.cons_append, List.nil_append, Nat.reduceSub, List.replicate, List.append_nil, Nat.sub_self])
  cases hs : sidesT t with
  | none => rw [hs] at s; simp! [s, oP]; rfl
  | some lr =>
    obtain ⟨l, r⟩ := lr
    rw [hs] at s
    obtain ⟨gl, gr⟩ := sides_gd h hs
    have er := Tm.eqD r pr2T (by have := gr.dd; omega)
    cases l with
    | free x s' => simp only [oP, Tm.d] at s; simp! [s, tg_rl]; rfl
    | bound k => simp only [oP, Tm.d] at s; simp! [s, tg_bl]; rfl
    | same s' => simp only [oP, Tm.d] at s; simp! [s, tg_sl]; rfl
    | of a b => simp only [oP, Tm.d] at s; simp! [s, tg_ol]; rfl
    | lam u inner =>
      have two64 : min u.dp TWO.dp ≤ 64 := by
        have : TWO.dp = 2 := by decide
        omega
      have eu : eqD u.d (.tup [.str [116], .tup [.str [116], .str [116]]]) = .ok (decide (u = TWO)) := Srt.eqD u TWO two64
      simp only [oP, Tm.d] at s
      simp! [s, tg_ll, eu]
      by_cases hu : u = TWO
      · simp! [decide_eq_true hu, al, p2, er]
        by_cases hr : r = pr2T
        · simp! [decide_eq_true hr]
          have gi := gl.rk.2
          have gd := gl.dp
          simp only [Tm.dp] at gd
          cases inner with
          | free x s' => simp only [Tm.d]; simp! [tg_ro]; rfl
          | bound k => simp only [Tm.d]; simp! [tg_bo]; rfl
          | same s' => simp only [Tm.d]; simp! [tg_so]; rfl
          | lam v b => simp only [Tm.d]; simp! [tg_lo]; rfl
          | of i q =>
            cases i with
            | free x s' => simp only [Tm.d]; simp! [tg_oo, tg_ro]; rfl
            | bound k => simp only [Tm.d]; simp! [tg_oo, tg_bo]; rfl
            | same s' => simp only [Tm.d]; simp! [tg_oo, tg_so]; rfl
            | lam v b => simp only [Tm.d]; simp! [tg_oo, tg_lo]; rfl
            | of f p =>
              have ef : eqD f.d (.tup [.str [98, 111, 117, 110, 100], .int 0]) = .ok (decide (f = .bound 0)) := Tm.eqD f (.bound 0) (by simp only [Tm.d, D.dep, depL]; omega)
              have i1 := is_term_t m p gi.1.2 (by simp only [Tm.dp] at gd; omega) (by omega)
              have i2 := is_term_t m q gi.2 (by simp only [Tm.dp] at gd; omega) (by omega)
              simp only [Tm.d]
              simp! [tg_oo, ef]
              by_cases hf : f = .bound 0
              · simp! [decide_eq_true hf, i1]
                cases hp : isT p with
                | false => simp! []; simp; rfl
                | true =>
                  simp! [i2]
                  cases hq : isT q with
                  | false => simp! []; simp; rfl
                  | true => simp! []; simp [hu, hr, hf, prD]
              · simp! [decide_eq_false hf]; rw [if_neg (by simp [hf])]; rfl
        · simp! [decide_eq_false hr]
          split
          · rw [if_neg (by simp_all)]; rfl
          · rfl
      · simp! [decide_eq_false hu]
        split
        · rw [if_neg (by simp_all)]; rfl
        · rfl
def ipO (t : Tm) : Out (Tm × Tm) := match sidesT t with
  | some (l, r) => (bpO l).bind fun pq => if pq.1 = r then .ok pq else .exc 0 []
  | none => .exc 0 []
theorem ipO_gd {t p q : Tm} (h : Gd t) (e : ipO t = .ok (p, q)) : Gd p ∧ Gd q := by
  unfold ipO at e
  split at e
  · rename_i l r hs
    cases hb : bpO l with
    | ok pq =>
      rw [hb] at e
      simp only [Out.bind_ok] at e
      split at e
      · cases e; exact bpO_gd (sides_gd h hs).1 hb
      · cases e
    | exc c fs => rw [hb] at e; cases e
    | bad => rw [hb] at e; cases e
  · cases e
theorem ip_ok (n : Nat) {t : Tm} (h : Gd t) (hn : 104 < n) (hl : n ≤ 1000) : R n 179 [t.d] = (ipO t).map prD := by
  obtain ⟨m, rfl⟩ : ∃ m, n = m + 1 := ⟨n - 1, by omega⟩
  have s : R m 44 [t.d] = oP (sidesT t) := by
    obtain ⟨k, rfl⟩ : ∃ k, m = k + 1 := ⟨m - 1, by omega⟩
    exact sides_ok k t
  unfold ipO
  (rw [R_at lib179 rfl]; simp only [F179, start, List.map_cons, List.map_nil, List.cons_append, List.nil_append, Nat.reduceSub, List.replicate, List.append_nil, Nat.sub_self])
  cases hs : sidesT t with
  | none => rw [hs] at s; simp! [s, oP]; rfl
  | some lr =>
    obtain ⟨l, r⟩ := lr
    rw [hs] at s
    obtain ⟨gl, gr⟩ := sides_gd h hs
    have b := bp_ok m gl (by omega) (by omega)
    simp only [oP] at s
    simp! [s, b]
    cases hb : bpO l with
    | ok pq =>
      obtain ⟨p, q⟩ := pq
      have e := Tm.eqD p r (by have := gr.dd; omega)
      simp only [Out.map_ok, prD]
      simp! [e]
      by_cases hp : p = r
      · simp! [decide_eq_true hp]; rw [if_pos hp]; rfl
      · simp! [decide_eq_false hp]; rw [if_neg hp]; rfl
    | exc c fs => simp! []; rfl
    | bad => simp! []; rfl
def apO (t : Tm) : Out (Srt × Tm) := match sidesT t with
  | some (.lam u b, r) => if r = .lam u alwT then .ok (u, b) else .exc 0 []
  | _ => .exc 0 []
theorem apO_ty {t b : Tm} {u : Srt} (h : Gd t) (e : apO t = .ok (u, b)) : (∃ s, WT [u] b s) ∧ b.dp ≤ 39 ∧ b.sz ≤ 599 ∧ u.dp ≤ 5 := by
  unfold apO at e
  split at e
  · rename_i u' b' r hs
    split at e
    · cases e
      have g := (sides_gd h hs).1
      have hd := g.dp
      have hz := g.sz
      have ht := g.ty
      simp only [Tm.dp, Tm.sz] at hd hz
      refine ⟨?_, by omega, by omega, g.rk.1⟩
      generalize srt (Tm.lam u b) = s at ht
      cases ht with
      | lam h1 h2 => exact ⟨_, h2⟩
    · cases e
  · cases e
theorem ap_ok (n : Nat) {t : Tm} (h : Gd t) (hn : 103 < n) (hl : n ≤ 1000) : R n 194 [t.d] = (apO t).map fun ub => .tup [ub.1.d, ub.2.d] := by
  obtain ⟨m, rfl⟩ : ∃ m, n = m + 1 := ⟨n - 1, by omega⟩
  have s : R m 44 [t.d] = oP (sidesT t) := by
    obtain ⟨k, rfl⟩ : ∃ k, m = k + 1 := ⟨m - 1, by omega⟩
    exact sides_ok k t
  have al : R m 140 [] = .ok alwT.d := by
    obtain ⟨k, rfl⟩ : ∃ k, m = k + 1 := ⟨m - 1, by omega⟩
    exact alw_ok k
  unfold apO
  (rw [R_at lib194 rfl]; simp only [F194, start, List.map_cons, List.map_nil, List.cons_append, List.nil_append, Nat.reduceSub, List.replicate, List.append_nil, Nat.sub_self])
  cases hs : sidesT t with
  | none => rw [hs] at s; simp! [s, oP]; rfl
  | some lr =>
    obtain ⟨l, r⟩ := lr
    rw [hs] at s
    obtain ⟨gl, gr⟩ := sides_gd h hs
    cases l with
    | free x s' => simp only [oP, Tm.d] at s; simp! [s, tg_rl]; rfl
    | bound k => simp only [oP, Tm.d] at s; simp! [s, tg_bl]; rfl
    | same s' => simp only [oP, Tm.d] at s; simp! [s, tg_sl]; rfl
    | of a b => simp only [oP, Tm.d] at s; simp! [s, tg_ol]; rfl
    | lam u b =>
      have e : eqD r.d (.tup [.str [102, 111, 114], u.d, alwT.d]) = .ok (decide (r = .lam u alwT)) := Tm.eqD r (.lam u alwT) (by have := gr.dd; omega)
      simp only [oP, Tm.d] at s
      simp! [s, tg_ll, al, e]
      by_cases hr : r = .lam u alwT
      · simp! [decide_eq_true hr]; rw [if_pos hr]; rfl
      · simp! [decide_eq_false hr]; rw [if_neg hr]; rfl
theorem op_sz1 (x : Tx) (s : Srt) : ∀ (t : Tm) (l : Nat), (opT (.free x s) t l).sz = t.sz ∧ (opT (.free x s) t l).dp = t.dp
  | .free _ _, l => ⟨rfl, rfl⟩
  | .bound k, l => by simp only [opT]; split <;> exact ⟨rfl, rfl⟩
  | .same _, l => ⟨rfl, rfl⟩
  | .lam s' b, l => by have := op_sz1 x s b (l + 1); simp only [opT, Tm.sz, Tm.dp, this.1, this.2, and_self]
  | .of a b, l => by have h1 := op_sz1 x s a l; have h2 := op_sz1 x s b l; simp only [opT, Tm.sz, Tm.dp, h1.1, h1.2, h2.1, h2.2, and_self]
def isO (c : Tm) (y : Tx) (u : Srt) (t : Tm) : Out D := match soO y u t with
  | .ok s => .ok (.bl (decide (s = c)))
  | .exc k fs => if k = 1 then .ok (.bl false) else if k = 0 then .exc 0 fs else .bad
  | .bad => .bad
theorem is_ok (n : Nat) {c t : Tm} {y : Tx} {u : Srt} (hc : Gd c) (hy : nmB y = true) (hu : u.dp ≤ 5) (ht : Gd t) (hne : isO c y u t ≠ .bad) (hn : 109 < n) (hl : n ≤ 1000) : R n 193 [c.d, .tup [.str FREE, .str y, u.d], t.d] = isO c y u t := by
  obtain ⟨m, rfl⟩ : ∃ m, n = m + 1 := ⟨n - 1, by omega⟩
  have hb : soO y u t ≠ .bad := fun e => hne (by unfold isO; rw [e])
  obtain ⟨q, g⟩ := some_ok m hy hu ht hb (by omega) (by omega)
  revert hne
  unfold isO
  (rw [R_at lib193 rfl]; simp only [F193, start, List.map_cons, List.map_nil, List.cons_append, List.nil_append, Nat.reduceSub, List.replicate, List.append_nil, Nat.sub_self])
  cases h : soO y u t with
  | ok s =>
    intro _
    rw [h] at q
    have e := Tm.eqD s c (by have := hc.dd; omega)
    simp! [evS_tryC, q, e]
    simp only [kTryC]
    simp! []
  | exc k fs =>
    intro hne
    rw [h, mpx] at q
    simp! [evS_tryC, q]
    match k with
    | 0 => simp [kTryC, subC]
    | 1 => simp [kTryC, subC]; simp! []
    | k + 2 => exact (hne (by simp)).elim
  | bad => exact fun hne => (hne rfl).elim
end Rf

/-! part RfWd4 -/
set_option autoImplicit false
set_option linter.all false
set_option Elab.async false
set_option maxRecDepth 100000
set_option maxHeartbeats 4000000
/-! RfWd4: the parts of either. -/
namespace Rf
def epO (t : Tm) : Out (Tm × Tm) := (apO t).bind fun ub => if ub.1 = .t then (match frO (nmsT t) with
  | none => .bad
  | some x => (ipO (opT (.free x .t) ub.2 0)).bind fun fr => (ipO fr.2).bind fun sl => (ipO fr.1).bind fun o1 => (ipO sl.1).bind fun o2 => (eiO o1.1 o2.1).bind fun z => if z = t then .ok (o1.1, o2.1) else .exc 0 []) else .exc 0 []
theorem ep_ok (n : Nat) {t : Tm} (h : Gd t) (hne : epO t ≠ .bad) (hn : 110 < n) (hl : n ≤ 1000) : R n 202 [t.d] = (epO t).map prD ∧ ∀ p q, epO t = .ok (p, q) → Gd p ∧ Gd q := by
  obtain ⟨m, rfl⟩ : ∃ m, n = m + 1 := ⟨n - 1, by omega⟩
  have a := ap_ok m h (by omega) (by omega)
  rw [R_at lib202 rfl]
  simp only [F202, start, List.map_cons, List.map_nil, List.cons_append, List.nil_append, Nat.reduceSub, List.replicate, List.append_nil, Nat.sub_self]
  revert hne
  unfold epO
  cases ha : apO t with
  | bad => exact fun h => (h rfl).elim
  | exc c fs => rw [ha, mpx] at a; exact fun _ => ⟨by simp! [a]; rfl, fun p q h => by cases h⟩
  | ok ub =>
    obtain ⟨u, b⟩ := ub
    rw [ha] at a
    obtain ⟨⟨s, wb⟩, bd, bz, _⟩ := apO_ty h ha
    simp only [Out.map_ok] at a
    have t0 : Srt.t.dp = 0 := rfl
    have eu : eqD u.d (.str [116]) = .ok (decide (u = .t)) := Srt.eqD u .t (by omega)
    simp only [Out.bind_ok]
    by_cases hu : u = .t
    · subst hu
      simp only [if_true]
      cases hx : frO (nmsT t) with
      | none => exact fun h => (h rfl).elim
      | some x =>
        intro hne
        dsimp only at hne ⊢
        have ge : Gd (.free x .t) := fv_gd (frO_nm hx)
        have f : R m 151 [.lst [t.d]] = .ok (Tm.free x .t).d := fresh_ok m (l := [t]) (fun w hw => by rw [List.mem_singleton.mp hw]; exact h) (by simp) (by rw [← hx]; simp) (by omega)
        have bc : b.clo 1 := wb.clo
        have o := opened_ok (.free x .t) trivial b m 0 bc (by simp only [Tm.dp]; omega)
        have o : R m 86 [b.d, (Tm.free x .t).d, .int 0] = _ := o
        have ge' : WT [] (Tm.free x .t) .t := .free (frO_nm hx) (by decide)
        obtain ⟨z1, z2⟩ := op_sz1 x .t b 0
        have wo : WT [] (opT (.free x .t) b 0) s := WT.op ge' wb
        have go : Gd (opT (.free x .t) b 0) := .of wo (by omega) (by omega)
        have i1 := ip_ok m go (by omega) (by omega)
        simp! [a, eu, decide_eq_true (rfl : Srt.t = .t), f, o, i1]
        cases h1 : ipO (opT (.free x .t) b 0) with
        | bad => rw [h1] at hne; exact (hne rfl).elim
        | exc c fs => exact ⟨by simp! [mpx], fun p q h => by cases h⟩
        | ok fr =>
          obtain ⟨fi, re⟩ := fr
          obtain ⟨gf, gr⟩ := ipO_gd go h1
          rw [h1] at hne
          simp only [Out.bind_ok] at hne ⊢
          have i2 := ip_ok m gr (by omega) (by omega)
          simp only [Out.map_ok, prD]
          simp! [i2]
          cases h2 : ipO re with
          | bad => rw [h2] at hne; exact (hne rfl).elim
          | exc c fs => exact ⟨by simp! [mpx], fun p q h => by cases h⟩
          | ok sl =>
            obtain ⟨se, la⟩ := sl
            obtain ⟨gs, gl⟩ := ipO_gd gr h2
            rw [h2] at hne
            simp only [Out.bind_ok] at hne ⊢
            have i3 := ip_ok m gf (by omega) (by omega)
            simp only [Out.map_ok, prD]
            simp! [i3]
            cases h3 : ipO fi with
            | bad => rw [h3] at hne; exact (hne rfl).elim
            | exc c fs => exact ⟨by simp! [mpx], fun p q h => by cases h⟩
            | ok o1 =>
              obtain ⟨on, on'⟩ := o1
              obtain ⟨g1, _⟩ := ipO_gd gf h3
              rw [h3] at hne
              simp only [Out.bind_ok] at hne ⊢
              have i4 := ip_ok m gs (by omega) (by omega)
              simp only [Out.map_ok, prD]
              simp! [i4]
              cases h4 : ipO se with
              | bad => rw [h4] at hne; exact (hne rfl).elim
              | exc c fs => exact ⟨by simp! [mpx], fun p q h => by cases h⟩
              | ok o2 =>
                obtain ⟨ot, ot'⟩ := o2
                obtain ⟨g2, _⟩ := ipO_gd gs h4
                rw [h4] at hne
                simp only [Out.bind_ok] at hne ⊢
                have hnb : eiO on ot ≠ .bad := fun e => hne (by rw [e]; rfl)
                obtain ⟨i5, g5⟩ := either_ok m g1 g2 hnb (by omega) (by omega)
                simp only [Out.map_ok, prD]
                simp! [i5]
                cases h5 : eiO on ot with
                | bad => exact (hnb h5).elim
                | exc c fs => exact ⟨by simp! [mpx], fun p q h => by cases h⟩
                | ok z =>
                  have ez := Tm.eqD z t (by have := h.dd; omega)
                  simp only [Out.bind_ok, Out.map_ok]
                  simp! [ez]
                  by_cases hz : z = t
                  · refine ⟨by simp! [decide_eq_true hz]; rw [if_pos hz]; rfl, fun p q e => ?_⟩
                    rw [if_pos hz] at e
                    cases e
                    exact ⟨g1, g2⟩
                  · refine ⟨by simp! [decide_eq_false hz]; rw [if_neg hz]; rfl, fun p q e => ?_⟩
                    rw [if_neg hz] at e
                    cases e
    · rw [if_neg hu]
      exact fun _ => ⟨by simp! [a, eu, decide_eq_false hu]; rfl, fun p q h => by cases h⟩
end Rf

/-! part RfRu -/
set_option autoImplicit false
set_option linter.all false
set_option Elab.async false
set_option maxRecDepth 100000
set_option maxHeartbeats 4000000
/-! RfRu: sentences: by_text, follows. -/
namespace Rf
theorem Gd.ok {t : Tm} (h : Gd t) : t.ok := h.ty.ok (by have := h.dp; simp; omega)
/-- texts and the terms that were written so -/
def puT (kv : List (Tx × Tm)) (k : Tx) (v : Tm) : List (Tx × Tm) := if kv.any (fun p => p.1 == k) then kv.map (fun p => if p.1 == k then (p.1, v) else p) else kv ++ [(k, v)]
def kvD (kv : List (Tx × Tm)) : List (D × D) := kv.map fun p => (.str p.1, p.2.d)
theorem kv_any (kv : List (Tx × Tm)) (k : Tx) : (kvD kv).any (fun p => p.1.eqv (.str k)) = kv.any (fun p => p.1 == k) := by
  induction kv with
  | nil => rfl
  | cons p kv ih => simp only [kvD, List.map_cons, List.any_cons, D.eqv] at ih ⊢; rw [ih]
theorem put_kv (kv : List (Tx × Tm)) (k : Tx) (v : Tm) : dputD (kvD kv) (.str k) v.d = kvD (puT kv k v) := by
  unfold dputD puT
  rw [kv_any]
  split
  · unfold kvD
    rw [List.map_map, List.map_map]
    refine List.map_congr_left fun p _ => ?_
    have e : (D.str p.1).eqv (.str k) = (p.1 == k) := by simp only [D.eqv]
    show (if (D.str p.1).eqv (.str k) = true then (D.str p.1, v.d) else (D.str p.1, p.2.d)) = (fun q : Tx × Tm => (D.str q.1, q.2.d)) (if (p.1 == k) = true then (p.1, v) else p)
    by_cases q : (p.1 == k) = true
    · rw [if_pos (e.trans q), if_pos q]
    · rw [if_neg (by rw [e]; exact q), if_neg q]
  · simp [kvD]
theorem pu_len (kv : List (Tx × Tm)) (k : Tx) (v : Tm) : (puT kv k v).length ≤ kv.length + 1 := by
  unfold puT
  split <;> simp
def kvL (l : List Tm) : List (Tx × Tm) → List (Tx × Tm) := fun kv => l.foldl (fun kv t => puT kv (wr t) t) kv
theorem kvL_len : ∀ (l : List Tm) (kv : List (Tx × Tm)), (kvL l kv).length ≤ kv.length + l.length
  | [], kv => by simp [kvL]
  | t :: l, kv => by
    have := kvL_len l (puT kv (wr t) t)
    have := pu_len kv (wr t) t
    simp only [kvL, List.foldl_cons, List.length_cons] at *; omega
theorem pu_mem {kv : List (Tx × Tm)} {k : Tx} {v : Tm} {p : Tx × Tm} (h : p ∈ puT kv k v) : p ∈ kv ∨ p.2 = v := by
  unfold puT at h
  split at h
  · obtain ⟨q, hq, e⟩ := List.mem_map.mp h
    split at e
    · right; rw [← e]
    · left; rw [← e]; exact hq
  · rcases List.mem_append.mp h with h | h
    · exact .inl h
    · right; rw [List.mem_singleton.mp h]
theorem kvL_mem : ∀ (l : List Tm) (kv : List (Tx × Tm)) (p : Tx × Tm), p ∈ kvL l kv → p ∈ kv ∨ p.2 ∈ l
  | [], kv, p, h => .inl h
  | t :: l, kv, p, h => by
    rcases kvL_mem l (puT kv (wr t) t) p h with h | h
    · rcases pu_mem h with h | h
      · exact .inl h
      · right; rw [h]; exact List.mem_cons_self
    · exact .inr (List.mem_cons_of_mem _ h)
theorem ins_mem (x k : Tx) : ∀ l : List Tx, k ∈ insT x l ↔ k = x ∨ k ∈ l
  | [] => by simp [insT]
  | y :: ys => by
    unfold insT
    split
    · simp only [List.mem_cons, ins_mem x k ys]
      constructor <;> (intro h; rcases h with h | h | h <;> simp [h])
    · simp only [List.mem_cons]
theorem sort_mem (k : Tx) : ∀ l : List Tx, k ∈ sortT l ↔ k ∈ l
  | [] => by simp [sortT]
  | x :: l => by unfold sortT; rw [ins_mem, sort_mem k l, List.mem_cons]
theorem ins_len (x : Tx) : ∀ l : List Tx, (insT x l).length = l.length + 1
  | [] => rfl
  | y :: ys => by unfold insT; split <;> simp [ins_len x ys]
theorem sort_len : ∀ l : List Tx, (sortT l).length = l.length
  | [] => rfl
  | x :: l => by unfold sortT; rw [ins_len, sort_len l]; rfl
def geT (kv : List (Tx × Tm)) (k : Tx) : Tm := ((kv.find? fun p => p.1 == k).map (·.2)).getD (.bound 0)
theorem get_kv : ∀ (kv : List (Tx × Tm)) (k : Tx), k ∈ kv.map (·.1) → dgetD (kvD kv) (.str k) = some (geT kv k).d ∧ ∃ p ∈ kv, p.2 = geT kv k
  | [], k, h => by cases h
  | p :: kv, k, h => by
    cases e : p.1 == k with
    | true => simp [dgetD, kvD, geT, List.find?_cons, D.eqv, e]
    | false =>
      have hk : k ∈ kv.map (·.1) := by
        rw [List.map_cons] at h
        rcases List.mem_cons.mp h with h | h
        · exact absurd h.symm (beq_eq_false_iff_ne.mp e)
        · exact h
      obtain ⟨i1, q, hq, i2⟩ := get_kv kv k hk
      refine ⟨?_, q, List.mem_cons_of_mem _ hq, ?_⟩
      · simp only [dgetD, kvD, geT, List.map_cons, List.find?_cons, D.eqv, e] at i1 ⊢
        exact i1
      · simp only [geT, List.find?_cons, e] at i2 ⊢
        exact i2
theorem txs_kv : ∀ kv : List (Tx × Tm), txsK (kvD kv) = .ok (kv.map (·.1))
  | [] => rfl
  | p :: kv => by
    have ih := txs_kv kv
    simp only [kvD, List.map_cons, txsK] at ih ⊢
    rw [ih]; rfl
def byT (l : List Tm) : List Tm := (sortT ((kvL l []).map (·.1))).map (geT (kvL l []))
theorem byT_mem {l : List Tm} {t : Tm} (h : t ∈ byT l) : t ∈ l := by
  obtain ⟨k, hk, rfl⟩ := List.mem_map.mp h
  rw [sort_mem] at hk
  obtain ⟨_, p, hp, e⟩ := get_kv _ _ hk
  rw [← e]
  rcases kvL_mem l [] p hp with h | h
  · cases h
  · exact h
theorem byT_len (l : List Tm) : (byT l).length ≤ l.length := by
  unfold byT
  rw [List.length_map, sort_len, List.length_map]
  have := kvL_len l []
  simpa using this
theorem by_go (n : Nat) (x : D) (hn : 100 < n) : ∀ (l : List Tm) (kv : List (Tx × Tm)) (s : Sl), (∀ t ∈ l, Gd t) → kv.length + l.length ≤ 1000 →
    ∃ s', kFor (R n) 2000 2 [.put 1 (.call 58 [.var 2]) (.var 2)] [.val x, .own (.dic false (kvD kv)), s, .no] (l.map Tm.d) = .nxt [.val x, .own (.dic false (kvD (kvL l kv))), s', .no]
  | [], kv, s, _, _ => ⟨s, rfl⟩
  | t :: l, kv, s, h, hz => by
    have g := h t List.mem_cons_self
    have q := written_ok t n g.ok (by have := g.sz; omega) (by have := g.dp; omega)
    have lp := pu_len kv (wr t) t
    simp only [List.length_cons] at hz
    obtain ⟨s', ih⟩ := by_go n x hn l (puT kv (wr t) t) (.val t.d) (fun u hu => h u (List.mem_cons_of_mem _ hu)) (by omega)
    refine ⟨s', ?_⟩
    unfold kFor at ih ⊢
    rw [List.map_cons, forGo]
    dsimp only
    have hl : (kvD kv).length < SZ := Nat.lt_of_le_of_lt (show (kvD kv).length ≤ 1000 by simp only [kvD, List.length_map]; omega) (by decide)
    have kp : ∀ ρ : Env, kPutD ρ 1 false (kvD kv) t.d (.str (wr t)) = .nxt (ρ.set 1 (.own (.dic false (kvD (puT kv (wr t) t))))) := fun ρ => by
      rw [kPutD_ok 1 false (kvD kv) t.d (.str (wr t)) rfl hl, put_kv]
    have e1 : evSs (R n) 2000 [.put 1 (.call 58 [.var 2]) (.var 2)] (([.val x, .own (.dic false (kvD kv)), s, .no] : Env).set 2 (.val t.d)) = .nxt [.val x, .own (.dic false (kvD (puT kv (wr t) t))), .val t.d, .no] := by
      simp! [q, kp]
    rw [e1]
    exact ih
theorem by_ok (n : Nat) {x : D} {l : List Tm} (hx : itemsD x = .ok (l.map Tm.d)) (h : ∀ t ∈ l, Gd t) (hz : l.length ≤ 60) (hn : 101 < n) : R n 117 [x] = .ok (.tup ((byT l).map Tm.d)) := by
  obtain ⟨m, rfl⟩ : ∃ m, n = m + 1 := ⟨n - 1, by omega⟩
  obtain ⟨s', q⟩ := by_go m x (by omega) l [] .no h (by simp; omega)
  have q : kFor (R m) 2000 2 [.put 1 (.call 58 [.var 2]) (.var 2)] [.val x, .own (.dic false []), .no, .no] (l.map Tm.d) = _ := q
  have kl := kvL_len l []
  have so : biD .sorted [.dic false (kvD (kvL l []))] = .ok (.lst ((sortT ((kvL l []).map (·.1))).map .str)) := by
    simp only [biD, txs_kv, Out.bind_ok]
    rw [if_pos (by simp only [List.length_map]; simp at kl; omega)]
  (rw [R_at lib117 rfl]; simp only [F117, start, List.map_cons, List.map_nil, List.cons_append, List.nil_append, Nat.reduceSub, List.replicate, List.append_nil, Nat.sub_self])
  simp! [hx, kDcB_nil, q, so, kGo]
  rw [compGo_map (fun d => match d with
    | .str k => (geT (kvL l []) k).d
    | _ => .non) (fun _ => rfl) (fun d hd => by
      obtain ⟨k, hk, rfl⟩ := List.mem_map.mp hd
      rw [sort_mem] at hk
      obtain ⟨e, _⟩ := get_kv _ _ hk
      have e2 : subD (.dic false (kvD (kvL l []))) (.str k) = .ok (geT (kvL l []) k).d := by
        simp only [subD, keyB, Bool.not_false, if_true, e]; rfl
      simp! [e2])]
  have lb := byT_len l
  have em : ((sortT ((kvL l []).map (·.1))).map D.str).map (fun d => match d with
    | .str k => (geT (kvL l []) k).d
    | _ => .non) = (byT l).map Tm.d := by
    unfold byT
    rw [List.map_map, List.map_map]
    rfl
  rw [em]
  simp! [kLst, List.length_map, sz_le (show (byT l).length ≤ 1000000 by omega)]
/-- a sentence: what is given, the claim -/
structure Sn where
  gs : List Tm
  cl : Tm
  deriving DecidableEq
def Sn.d (s : Sn) : D := .obj 8 [.tup (s.gs.map Tm.d), s.cl.d]
structure GdS (s : Sn) : Prop where
  gs : ∀ t ∈ s.gs, Gd t
  cl : Gd s.cl
  len : s.gs.length ≤ 12
def foO (l : List Tm) (c : Tm) : Out Sn := if (byT l).length > 12 then .exc 1 [] else .ok ⟨byT l, c⟩
theorem fo_gd {l : List Tm} {c : Tm} {s : Sn} (h : ∀ t ∈ l, Gd t) (hc : Gd c) (e : foO l c = .ok s) : GdS s := by
  unfold foO at e
  split at e
  · cases e
  · cases e
    exact ⟨fun t ht => h t (byT_mem ht), hc, by show (byT l).length ≤ 12; omega⟩
theorem fo_ok (n : Nat) {x : D} {l : List Tm} {c : Tm} (hx : itemsD x = .ok (l.map Tm.d)) (h : ∀ t ∈ l, Gd t) (hz : l.length ≤ 60) (hc : Gd c) (hn : 102 < n) (hl : n ≤ 1000) : R n 118 [x, c.d] = (foO l c).map Sn.d := by
  obtain ⟨m, rfl⟩ : ∃ m, n = m + 1 := ⟨n - 1, by omega⟩
  have b := by_ok m hx h hz (by omega)
  have lb := byT_len l
  have i := is_term_t m c hc.rk (by have := hc.dp; omega) (by omega)
  rw [hc.it] at i
  unfold foO
  (rw [R_at lib118 rfl]; simp only [F118, start, List.map_cons, List.map_nil, List.cons_append, List.nil_append, Nat.reduceSub, List.replicate, List.append_nil, Nat.sub_self])
  simp! [b, List.length_map]
  by_cases h12 : (byT l).length > 12
  · rw [if_pos h12]
    simp! [decide_eq_true (show (12 : Int) < ((byT l).length : Int) by omega)]
    rfl
  · rw [if_neg h12]
    simp! [decide_eq_false (show ¬ (12 : Int) < ((byT l).length : Int) by omega)]
    have al : kGo (R m) 2 (.call 30 [.var 2]) (.const (.bl true)) [.val (.tup ((byT l).map Tm.d)), .val c.d, .no] ((byT l).map Tm.d) = .ok (((byT l).map Tm.d).map fun _ => .bl true) := by
      refine kGo_map (fun _ => .bl true) fun d hd => ?_
      obtain ⟨t, ht, rfl⟩ := List.mem_map.mp hd
      have g := h t (byT_mem ht)
      have it := is_term_t m t g.rk (by have := g.dp; omega) (by omega)
      rw [g.it] at it
      simp! [it]
    have ab : biD .all [.lst (((byT l).map Tm.d).map fun _ => .bl true)] = .ok (.bl true) := by
      have e : (((byT l).map Tm.d).map fun _ => D.bl true) = ((byT l).map fun _ => true).map D.bl := by rw [List.map_map, List.map_map]; rfl
      rw [e, all_bl]
      simp
    simp! [al, kLst, List.length_map, sz_le (show (byT l).length ≤ 1000000 by omega), ab, i]
    rfl
theorem itT (l : List Tm) : itemsD (.tup (l.map Tm.d)) = .ok (l.map Tm.d) := rfl
theorem itL (l : List Tm) : itemsD (.lst (l.map Tm.d)) = .ok (l.map Tm.d) := rfl
def buT (l : List Tm) (t : Tm) : List Tm := l.filter fun u => decide (u ≠ t)
theorem bu_mem {l : List Tm} {t u : Tm} (h : u ∈ buT l t) : u ∈ l := (List.mem_filter.mp h).1
theorem bu_len (l : List Tm) (t : Tm) : (buT l t).length ≤ l.length := List.length_filter_le _ _
theorem bu_ok (n : Nat) {l : List Tm} {t : Tm} (h : Gd t) (hz : l.length ≤ 1000) : R (n + 1) 119 [.tup (l.map Tm.d), t.d] = .ok (.lst ((buT l t).map Tm.d)) := by
  have lb := bu_len l t
  (rw [R_at lib119 rfl]; simp only [F119, start, List.map_cons, List.map_nil, List.cons_append, List.nil_append, Nat.reduceSub, List.replicate, List.append_nil, Nat.sub_self])
  simp! [kGo]
  rw [compGo_all (f := id) (fun d => !(d.eqv t.d)) (fun d hd => by
    obtain ⟨u, hu, rfl⟩ := List.mem_map.mp hd
    have e := Tm.eqD u t (by have := h.dd; omega)
    refine ⟨?_, fun _ => by simp! []; rfl⟩
    simp! [e]
    rw [Tm.eqv])]
  have ef : (((l.map Tm.d).filter fun d => !(d.eqv t.d)).map id) = (buT l t).map Tm.d := by
    rw [List.map_id]
    unfold buT
    clear lb hz
    induction l with
    | nil => rfl
    | cons u l ih =>
      simp only [List.map_cons, List.filter_cons, Tm.eqv, ih]
      by_cases e : u = t <;> simp [e]
  rw [ef]
  simp! [kLst, List.length_map, sz_le (show (buT l t).length ≤ 1000000 by omega)]
theorem ntr_ok (n : Nat) {t : Tm} (h : Gd t) (hn : 102 < n) (hl : n ≤ 1000) : R n 124 [t.d] = if isTr t then .ok .non else .exc 0 [] := by
  obtain ⟨m, rfl⟩ : ∃ m, n = m + 1 := ⟨n - 1, by omega⟩
  have q := is_truth_ok m h (by omega) (by omega)
  (rw [R_at lib124 rfl]; simp only [F124, start, List.map_cons, List.map_nil, List.cons_append, List.nil_append, Nat.reduceSub, List.replicate, List.append_nil, Nat.sub_self])
  simp! [q]
  cases isTr t <;> simp! [] <;> rfl
/-- the variable stands in none -/
def naT (v : Tm) (l : List Tm) : Bool := l.all fun t => decide (v ∉ frT t)
theorem na_go (n : Nat) (v : Tm) (x : D) (hv : v.d.dep ≤ 64) (hn : 100 < n) : ∀ (l : List Tm) (s : Sl), (∀ t ∈ l, Gd t) → ∃ s', kFor (R n) 2000 2 [.ite (.cmp .inn (.var 0) (.call 42 [.var 2])) [.raise 0] []] [.val v.d, .val x, s] (l.map Tm.d) = if naT v l then .nxt [.val v.d, .val x, s'] else .exc 0 [] [.val v.d, .val x, s']
  | [], s, _ => ⟨s, rfl⟩
  | t :: l, s, h => by
    have g := h t List.mem_cons_self
    have q := frees_ok t n g.rk (by have := g.sz; omega) (by have := g.dp; omega)
    have i := in_tm (frT t) v hv
    by_cases e : v ∈ frT t
    · refine ⟨.val t.d, ?_⟩
      unfold kFor
      rw [List.map_cons, forGo]
      dsimp only
      have e1 : evSs (R n) 2000 [.ite (.cmp .inn (.var 0) (.call 42 [.var 2])) [.raise 0] []] (([.val v.d, .val x, s] : Env).set 2 (.val t.d)) = .exc 0 [] [.val v.d, .val x, .val t.d] := by simp! [q, i, decide_eq_true e]
      rw [e1]
      simp [naT, e]
    · obtain ⟨s', ih⟩ := na_go n v x hv hn l (.val t.d) fun u hu => h u (List.mem_cons_of_mem _ hu)
      refine ⟨s', ?_⟩
      unfold kFor at ih ⊢
      rw [List.map_cons, forGo]
      dsimp only
      have e1 : evSs (R n) 2000 [.ite (.cmp .inn (.var 0) (.call 42 [.var 2])) [.raise 0] []] (([.val v.d, .val x, s] : Env).set 2 (.val t.d)) = .nxt [.val v.d, .val x, .val t.d] := by simp! [q, i, decide_eq_false e]
      rw [e1]
      simp only [naT, List.all_cons, decide_eq_true e, Bool.true_and] at ih ⊢
      exact ih
theorem na_ok (n : Nat) {v : Tm} {x : D} {l : List Tm} (hx : itemsD x = .ok (l.map Tm.d)) (hv : v.d.dep ≤ 64) (h : ∀ t ∈ l, Gd t) (hn : 101 < n) : R n 143 [v.d, x] = if naT v l then .ok .non else .exc 0 [] := by
  obtain ⟨m, rfl⟩ : ∃ m, n = m + 1 := ⟨n - 1, by omega⟩
  obtain ⟨s', q⟩ := na_go m v x hv (by omega) l .no h
  (rw [R_at lib143 rfl]; simp only [F143, start, List.map_cons, List.map_nil, List.cons_append, List.nil_append, Nat.reduceSub, List.replicate, List.append_nil, Nat.sub_self])
  simp! [hx, q]
  cases naT v l <;> simp! [] <;> rfl
end Rf

/-! part RfRu2 -/
set_option autoImplicit false
set_option linter.all false
set_option Elab.async false
set_option maxRecDepth 100000
set_option maxHeartbeats 4000000
/-! RfRu2: the rules. -/
namespace Rf
theorem it2 (a b : List Tm) : itemsD (.tup (a.map Tm.d ++ b.map Tm.d)) = .ok ((a ++ b).map Tm.d) := by rw [List.map_append]; rfl
theorem itL2 (a b : List Tm) : itemsD (.lst (a.map Tm.d ++ b.map Tm.d)) = .ok ((a ++ b).map Tm.d) := by rw [List.map_append]; rfl
theorem itL3 (a b c : List Tm) : itemsD (.lst (a.map Tm.d ++ b.map Tm.d ++ c.map Tm.d)) = .ok ((a ++ b ++ c).map Tm.d) := by rw [List.map_append, List.map_append]; rfl
theorem app_gd {a b : List Tm} (ha : ∀ t ∈ a, Gd t) (hb : ∀ t ∈ b, Gd t) : ∀ t ∈ a ++ b, Gd t := fun t h => (List.mem_append.mp h).elim (ha t) (hb t)
theorem addT_le {a b : List Tm} (ha : a.length ≤ 12) (hb : b.length ≤ 12) : bopD .add (.tup (a.map Tm.d)) (.tup (b.map Tm.d)) = .ok (.tup (a.map Tm.d ++ b.map Tm.d)) := v_addT _ _ (sz_le (by simp only [List.length_map]; omega))
theorem addL_le {a b : List Tm} (ha : a.length ≤ 100) (hb : b.length ≤ 100) : bopD .add (.lst (a.map Tm.d)) (.lst (b.map Tm.d)) = .ok (.lst (a.map Tm.d ++ b.map Tm.d)) := v_addL _ _ (sz_le (by simp only [List.length_map]; omega))
/-- what a rule answers, told of its def -/
def Ans (r : Out D) (o : Out Sn) : Prop := r = o.map Sn.d ∧ ∀ s, o = .ok s → GdS s
theorem ans_exc {r : Out D} {c : Nat} {fs : List D} (h : r = .exc c fs) : Ans r (.exc c fs) := ⟨h, fun s e => by cases e⟩
theorem ans_fo {r : Out D} {l : List Tm} {c : Tm} (h : r = (foO l c).map Sn.d) (hl : ∀ t ∈ l, Gd t) (hc : Gd c) : Ans r (foO l c) := ⟨h, fun s e => fo_gd hl hc e⟩
def suO (t : Tm) : Out Sn := if isTr t then foO [t] t else .exc 0 []
theorem su_ok (n : Nat) {t : Tm} (h : Gd t) (hn : 110 < n) (hl : n ≤ 1000) : Ans (R n 125 [t.d]) (suO t) := by
  obtain ⟨m, rfl⟩ : ∃ m, n = m + 1 := ⟨n - 1, by omega⟩
  have q := ntr_ok m h (by omega) (by omega)
  have h1 : ∀ u ∈ [t], Gd u := fun u hu => by rw [List.mem_singleton.mp hu]; exact h
  have f : R m 118 [.tup [t.d], t.d] = _ := fo_ok m (l := [t]) rfl h1 (by simp) h (by omega) (by omega)
  rw [R_at lib125 rfl]
  simp only [F125, start, List.map_cons, List.map_nil, List.cons_append, List.nil_append, Nat.reduceSub, List.replicate, List.append_nil, Nat.sub_self]
  unfold suO
  simp! [q]
  cases isTr t with
  | false => exact ans_exc (by simp! [])
  | true => exact ans_fo (by simp! [f]) h1 h
def caO (a b : Sn) : Out Sn := match sidesT a.cl with
  | some (p, q) => if p = b.cl then foO (a.gs ++ b.gs) q else .exc 0 []
  | none => .exc 0 []
theorem ca_ok (n : Nat) {a b : Sn} (A : GdS a) (B : GdS b) (hn : 110 < n) (hl : n ≤ 1000) : Ans (R n 126 [a.d, b.d]) (caO a b) := by
  obtain ⟨m, rfl⟩ : ∃ m, n = m + 2 := ⟨n - 2, by omega⟩
  have s := sides_ok m a.cl
  have ad := addT_le A.len B.len
  rw [R_at lib126 rfl]
  simp only [F126, start, List.map_cons, List.map_nil, List.cons_append, List.nil_append, Nat.reduceSub, List.replicate, List.append_nil, Nat.sub_self]
  unfold caO
  simp only [Sn.d]
  cases hs : sidesT a.cl with
  | none => rw [hs] at s; exact ans_exc (by simp! [s, oP])
  | some pq =>
    obtain ⟨p, q⟩ := pq
    rw [hs] at s
    obtain ⟨gp, gq⟩ := sides_gd A.cl hs
    have e := Tm.eqD p b.cl (by have := gp.dd; omega)
    have hg := app_gd A.gs B.gs
    have f := fo_ok (m + 1) (it2 a.gs b.gs) hg (by have := A.len; have := B.len; simp only [List.length_append]; omega) gq (by omega) (by omega)
    simp only [oP] at s
    simp! [s, e]
    by_cases h : p = b.cl
    · rw [if_pos h]
      exact ans_fo (by simp! [decide_eq_true h, ad, f]) hg gq
    · rw [if_neg h]
      exact ans_exc (by simp! [decide_eq_false h])
def eoO (a b : Sn) : Out Sn := (eqO a.cl b.cl).bind fun c => foO (buT a.gs b.cl ++ buT b.gs a.cl) c
theorem eo_ok (n : Nat) {a b : Sn} (A : GdS a) (B : GdS b) (hn : 110 < n) (hl : n ≤ 1000) : Ans (R n 127 [a.d, b.d]) (eoO a b) := by
  obtain ⟨m, rfl⟩ : ∃ m, n = m + 2 := ⟨n - 2, by omega⟩
  have la := A.len
  have lb := B.len
  have l1 := bu_len a.gs b.cl
  have l2 := bu_len b.gs a.cl
  have b1 := bu_ok m (l := a.gs) B.cl (by omega)
  have b2 := bu_ok m (l := b.gs) A.cl (by omega)
  have ad := addL_le (a := buT a.gs b.cl) (b := buT b.gs a.cl) (by omega) (by omega)
  have e := eqO_ok (m + 1) A.cl B.cl (by omega) (by omega)
  have hg : ∀ t ∈ buT a.gs b.cl ++ buT b.gs a.cl, Gd t := app_gd (fun t h => A.gs t (bu_mem h)) (fun t h => B.gs t (bu_mem h))
  rw [R_at lib127 rfl]
  simp only [F127, start, List.map_cons, List.map_nil, List.cons_append, List.nil_append, Nat.reduceSub, List.replicate, List.append_nil, Nat.sub_self]
  unfold eoO
  simp only [Sn.d]
  simp! [b1, b2, ad, e]
  cases h : eqO a.cl b.cl with
  | ok c =>
    have gc := eqO_gd A.cl B.cl h
    have f := fo_ok (m + 1) (itL2 (buT a.gs b.cl) (buT b.gs a.cl)) hg (by simp only [List.length_append]; omega) gc (by omega) (by omega)
    exact ans_fo (by simp! [f]) hg gc
  | exc c fs => exact ans_exc (by simp! [mpx])
  | bad => exact ⟨by simp! []; rfl, fun s e => by cases e⟩
def bcO (a b : Sn) (t : Tm) : Out Sn := if isTr t then (if a.cl = b.cl then (eqO t alwT).bind fun e1 => (eqO t nevT).bind fun e2 => foO (buT a.gs e1 ++ buT b.gs e2) a.cl else .exc 0 []) else .exc 0 []
theorem bc_ok (n : Nat) {a b : Sn} {t : Tm} (A : GdS a) (B : GdS b) (h : Gd t) (hn : 112 < n) (hl : n ≤ 1000) : Ans (R n 146 [a.d, b.d, t.d]) (bcO a b t) := by
  obtain ⟨m, rfl⟩ : ∃ m, n = m + 2 := ⟨n - 2, by omega⟩
  have la := A.len
  have lb := B.len
  have q := ntr_ok (m + 1) h (by omega) (by omega)
  have e := Tm.eqD a.cl b.cl (by have := A.cl.dd; omega)
  have al := alw_ok m
  have nv := nev_ok (m + 1) (by omega) (by omega)
  have e1 := eqO_ok (m + 1) h alw_gd (by omega) (by omega)
  have e2 := eqO_ok (m + 1) h nev_gd (by omega) (by omega)
  rw [R_at lib146 rfl]
  simp only [F146, start, List.map_cons, List.map_nil, List.cons_append, List.nil_append, Nat.reduceSub, List.replicate, List.append_nil, Nat.sub_self]
  unfold bcO
  simp only [Sn.d]
  simp! [q]
  cases isTr t with
  | false => exact ans_exc (by simp! [])
  | true =>
    simp! [e]
    by_cases hc : a.cl = b.cl
    · rw [if_pos hc]
      simp! [decide_eq_true hc, al, e1]
      cases h1 : eqO t alwT with
      | ok c1 =>
        have g1 := eqO_gd h alw_gd h1
        have b1 := bu_ok m (l := a.gs) g1 (by omega)
        simp! [b1, nv, e2]
        cases h2 : eqO t nevT with
        | ok c2 =>
          have g2 := eqO_gd h nev_gd h2
          have l1 := bu_len a.gs c1
          have l2 := bu_len b.gs c2
          have b2 := bu_ok m (l := b.gs) g2 (by omega)
          have ad := addL_le (a := buT a.gs c1) (b := buT b.gs c2) (by omega) (by omega)
          have hg : ∀ t ∈ buT a.gs c1 ++ buT b.gs c2, Gd t := app_gd (fun t h => A.gs t (bu_mem h)) (fun t h => B.gs t (bu_mem h))
          have f := fo_ok (m + 1) (itL2 (buT a.gs c1) (buT b.gs c2)) hg (by simp only [List.length_append]; omega) A.cl (by omega) (by omega)
          exact ans_fo (by simp! [b2, ad, f]) hg A.cl
        | exc c fs => exact ans_exc (by simp! [mpx])
        | bad => exact ⟨by simp! []; rfl, fun s e => by cases e⟩
      | exc c fs => exact ans_exc (by simp! [mpx])
      | bad => exact ⟨by simp! []; rfl, fun s e => by cases e⟩
    · rw [if_neg hc]
      exact ans_exc (by simp! [decide_eq_false hc])
def ihO (a : Sn) : Out Sn := match sidesT a.cl with
  | some (p, q) => if q = alwT then foO a.gs p else .exc 0 []
  | none => .exc 0 []
theorem ih_ok (n : Nat) {a : Sn} (A : GdS a) (hn : 110 < n) (hl : n ≤ 1000) : Ans (R n 181 [a.d]) (ihO a) := by
  obtain ⟨m, rfl⟩ : ∃ m, n = m + 2 := ⟨n - 2, by omega⟩
  have s := sides_ok m a.cl
  have al := alw_ok m
  rw [R_at lib181 rfl]
  simp only [F181, start, List.map_cons, List.map_nil, List.cons_append, List.nil_append, Nat.reduceSub, List.replicate, List.append_nil, Nat.sub_self]
  unfold ihO
  simp only [Sn.d]
  cases hs : sidesT a.cl with
  | none => rw [hs] at s; exact ans_exc (by simp! [s, oP])
  | some pq =>
    obtain ⟨p, q⟩ := pq
    rw [hs] at s
    obtain ⟨gp, gq⟩ := sides_gd A.cl hs
    have e := Tm.eqD q alwT (by have := gq.dd; omega)
    have f := fo_ok (m + 1) (itT a.gs) A.gs (by have := A.len; omega) gp (by omega) (by omega)
    simp only [oP] at s
    simp! [s, al, e]
    by_cases h : q = alwT
    · rw [if_pos h]
      exact ans_fo (by simp! [decide_eq_true h, f]) A.gs gp
    · rw [if_neg h]
      exact ans_exc (by simp! [decide_eq_false h])
def btO (a b : Sn) : Out Sn := (boO a.cl b.cl).bind fun c => foO (a.gs ++ b.gs) c
theorem bt_ok (n : Nat) {a b : Sn} (A : GdS a) (B : GdS b) (hn : 110 < n) (hl : n ≤ 1000) : Ans (R n 184 [a.d, b.d]) (btO a b) := by
  obtain ⟨m, rfl⟩ : ∃ m, n = m + 1 := ⟨n - 1, by omega⟩
  have ad := addT_le A.len B.len
  have e := both_ok m A.cl B.cl (by omega) (by omega)
  have hg := app_gd A.gs B.gs
  rw [R_at lib184 rfl]
  simp only [F184, start, List.map_cons, List.map_nil, List.cons_append, List.nil_append, Nat.reduceSub, List.replicate, List.append_nil, Nat.sub_self]
  unfold btO
  simp only [Sn.d]
  simp! [ad, e]
  cases h : boO a.cl b.cl with
  | ok c =>
    have gc := both_gd A.cl B.cl h
    have f := fo_ok m (it2 a.gs b.gs) hg (by have := A.len; have := B.len; simp only [List.length_append]; omega) gc (by omega) (by omega)
    exact ans_fo (by simp! [f]) hg gc
  | exc c fs => exact ans_exc (by simp! [mpx])
  | bad => exact ⟨by simp! []; rfl, fun s e => by cases e⟩
def f1O (a : Sn) : Out Sn := (bpO a.cl).bind fun p => foO a.gs p.1
def f2O (a : Sn) : Out Sn := (bpO a.cl).bind fun p => foO a.gs p.2
theorem f1_ok (n : Nat) {a : Sn} (A : GdS a) (hn : 110 < n) (hl : n ≤ 1000) : Ans (R n 185 [a.d]) (f1O a) := by
  obtain ⟨m, rfl⟩ : ∃ m, n = m + 1 := ⟨n - 1, by omega⟩
  have e := bp_ok m A.cl (by omega) (by omega)
  rw [R_at lib185 rfl]
  simp only [F185, start, List.map_cons, List.map_nil, List.cons_append, List.nil_append, Nat.reduceSub, List.replicate, List.append_nil, Nat.sub_self]
  unfold f1O
  simp only [Sn.d]
  simp! [e]
  cases h : bpO a.cl with
  | ok pq =>
    obtain ⟨p, q⟩ := pq
    obtain ⟨gp, gq⟩ := bpO_gd A.cl h
    have f := fo_ok m (itT a.gs) A.gs (by have := A.len; omega) gp (by omega) (by omega)
    simp only [Out.map_ok, prD]
    exact ans_fo (by simp! [f]) A.gs gp
  | exc c fs => exact ans_exc (by simp! [mpx])
  | bad => exact ⟨by simp! []; rfl, fun s e => by cases e⟩
theorem f2_ok (n : Nat) {a : Sn} (A : GdS a) (hn : 110 < n) (hl : n ≤ 1000) : Ans (R n 186 [a.d]) (f2O a) := by
  obtain ⟨m, rfl⟩ : ∃ m, n = m + 1 := ⟨n - 1, by omega⟩
  have e := bp_ok m A.cl (by omega) (by omega)
  rw [R_at lib186 rfl]
  simp only [F186, start, List.map_cons, List.map_nil, List.cons_append, List.nil_append, Nat.reduceSub, List.replicate, List.append_nil, Nat.sub_self]
  unfold f2O
  simp only [Sn.d]
  simp! [e]
  cases h : bpO a.cl with
  | ok pq =>
    obtain ⟨p, q⟩ := pq
    obtain ⟨gp, gq⟩ := bpO_gd A.cl h
    have f := fo_ok m (itT a.gs) A.gs (by have := A.len; omega) gq (by omega) (by omega)
    simp only [Out.map_ok, prD]
    exact ans_fo (by simp! [f]) A.gs gq
  | exc c fs => exact ans_exc (by simp! [mpx])
  | bad => exact ⟨by simp! []; rfl, fun s e => by cases e⟩
def itO (t : Tm) (a : Sn) : Out Sn := if isTr t then (imO t a.cl).bind fun c => foO (buT a.gs t) c else .exc 0 []
theorem it_ok (n : Nat) {t : Tm} {a : Sn} (h : Gd t) (A : GdS a) (hn : 110 < n) (hl : n ≤ 1000) : Ans (R n 187 [t.d, a.d]) (itO t a) := by
  obtain ⟨m, rfl⟩ : ∃ m, n = m + 2 := ⟨n - 2, by omega⟩
  have la := A.len
  have l1 := bu_len a.gs t
  have q := ntr_ok (m + 1) h (by omega) (by omega)
  have b1 := bu_ok m (l := a.gs) h (by omega)
  have e := imp_ok (m + 1) h A.cl (by omega) (by omega)
  have hg : ∀ u ∈ buT a.gs t, Gd u := fun u h => A.gs u (bu_mem h)
  rw [R_at lib187 rfl]
  simp only [F187, start, List.map_cons, List.map_nil, List.cons_append, List.nil_append, Nat.reduceSub, List.replicate, List.append_nil, Nat.sub_self]
  unfold itO
  simp only [Sn.d]
  simp! [q]
  cases isTr t with
  | false => exact ans_exc (by simp! [])
  | true =>
    simp! [b1, e]
    cases h1 : imO t a.cl with
    | ok c =>
      have gc := imp_gd h A.cl h1
      have f := fo_ok (m + 1) (itL (buT a.gs t)) hg (by omega) gc (by omega) (by omega)
      exact ans_fo (by simp! [f]) hg gc
    | exc c fs => exact ans_exc (by simp! [mpx])
    | bad => exact ⟨by simp! []; rfl, fun s e => by cases e⟩
def iuO (a b : Sn) : Out Sn := (ipO a.cl).bind fun pq => if pq.1 = b.cl then foO (a.gs ++ b.gs) pq.2 else .exc 0 []
theorem iu_ok (n : Nat) {a b : Sn} (A : GdS a) (B : GdS b) (hn : 110 < n) (hl : n ≤ 1000) : Ans (R n 188 [a.d, b.d]) (iuO a b) := by
  obtain ⟨m, rfl⟩ : ∃ m, n = m + 1 := ⟨n - 1, by omega⟩
  have ad := addT_le A.len B.len
  have i := ip_ok m A.cl (by omega) (by omega)
  have hg := app_gd A.gs B.gs
  rw [R_at lib188 rfl]
  simp only [F188, start, List.map_cons, List.map_nil, List.cons_append, List.nil_append, Nat.reduceSub, List.replicate, List.append_nil, Nat.sub_self]
  unfold iuO
  simp only [Sn.d]
  simp! [i]
  cases h : ipO a.cl with
  | ok pq =>
    obtain ⟨p, q⟩ := pq
    obtain ⟨gp, gq⟩ := ipO_gd A.cl h
    have e := Tm.eqD p b.cl (by have := gp.dd; omega)
    have f := fo_ok m (it2 a.gs b.gs) hg (by have := A.len; have := B.len; simp only [List.length_append]; omega) gq (by omega) (by omega)
    simp only [Out.map_ok, prD, Out.bind_ok]
    simp! [e]
    by_cases hc : p = b.cl
    · rw [if_pos hc]
      exact ans_fo (by simp! [decide_eq_true hc, ad, f]) hg gq
    · rw [if_neg hc]
      exact ans_exc (by simp! [decide_eq_false hc])
  | exc c fs => exact ans_exc (by simp! [mpx])
  | bad => exact ⟨by simp! []; rfl, fun s e => by cases e⟩
def ssO (t : Tm) : Out Sn := (eqO t t).bind fun c => foO [] c
theorem ss_ok (n : Nat) {t : Tm} (h : Gd t) (hn : 110 < n) (hl : n ≤ 1000) : Ans (R n 120 [t.d]) (ssO t) := by
  obtain ⟨m, rfl⟩ : ∃ m, n = m + 1 := ⟨n - 1, by omega⟩
  have e := eqO_ok m h h (by omega) (by omega)
  have hg : ∀ u ∈ ([] : List Tm), Gd u := fun u hu => by cases hu
  rw [R_at lib120 rfl]
  simp only [F120, start, List.map_cons, List.map_nil, List.cons_append, List.nil_append, Nat.reduceSub, List.replicate, List.append_nil, Nat.sub_self]
  unfold ssO
  simp! [e]
  cases h1 : eqO t t with
  | ok c =>
    have gc := eqO_gd h h h1
    have f : R m 118 [.tup [], c.d] = _ := fo_ok m (l := []) rfl hg (by simp) gc (by omega) (by omega)
    exact ans_fo (by simp! [f]) hg gc
  | exc c fs => exact ans_exc (by simp! [mpx])
  | bad => exact ⟨by simp! []; rfl, fun s e => by cases e⟩
end Rf

/-! part RfRu3 -/
set_option autoImplicit false
set_option linter.all false
set_option Elab.async false
set_option maxRecDepth 100000
set_option maxHeartbeats 4000000
/-! RfRu3: the rules of all, some, either. -/
namespace Rf
theorem op_rok {o : Tm} (ho : o.rok) : ∀ (t : Tm) (l : Nat), t.rok → (opT o t l).rok
  | .free x s, l, h => h
  | .bound k, l, h => by simp only [opT]; split <;> first | exact ho | trivial
  | .same s, l, h => h
  | .lam s b, l, h => ⟨h.1, op_rok ho b (l + 1) h.2⟩
  | .of a b, l, h => ⟨op_rok ho a l h.1, op_rok ho b l h.2⟩
theorem op_dp (o : Tm) : ∀ (t : Tm) (l : Nat), (opT o t l).dp ≤ t.dp + o.dp
  | .free _ _, l => by simp only [opT, Tm.dp]; omega
  | .bound k, l => by
    simp only [opT]
    split <;> (simp only [Tm.dp]; omega)
  | .same _, l => by simp only [opT, Tm.dp]; omega
  | .lam s b, l => by have := op_dp o b (l + 1); simp only [opT, Tm.dp]; omega
  | .of a b, l => by have := op_dp o a l; have := op_dp o b l; simp only [opT, Tm.dp]; omega
theorem bd_ok2 (n : Nat) {t : Tm} (hr : t.rok) (hd : t.dp ≤ 85) (hn : 110 < n) (hl : n ≤ 1000) : R n 41 [t.d] = (bdT t).map Tm.d := by
  obtain ⟨m, rfl⟩ : ∃ m, n = m + 1 := ⟨n - 1, by omega⟩
  have i := is_term_t m t hr (by omega) (by omega)
  (rw [R_at lib41 rfl]; simp only [F41, start, List.map_cons, List.map_nil, List.cons_append, List.nil_append, Nat.reduceSub, List.replicate, List.append_nil, Nat.sub_self])
  simp! [i]
  unfold bdT
  cases isT t <;> simp! [] <;> rfl
def atO (y : Tx) (u : Srt) (a : Sn) : Out Sn := if naT (.free y u) a.gs then (allO y u a.cl).bind fun c => foO a.gs c else .exc 0 []
theorem at_ok (n : Nat) {y : Tx} {u : Srt} {a : Sn} (hu : u.dp ≤ 5) (A : GdS a) (hn : 112 < n) (hl : n ≤ 1000) : Ans (R n 195 [.tup [.str FREE, .str y, u.d], a.d]) (atO y u a) := by
  obtain ⟨m, rfl⟩ : ∃ m, n = m + 1 := ⟨n - 1, by omega⟩
  have q : R m 143 [.tup [.str FREE, .str y, u.d], .tup (a.gs.map Tm.d)] = _ := na_ok m (v := .free y u) (itT a.gs) (by simp only [Tm.d, D.dep, depL, Srt.dep]; omega) A.gs (by omega)
  have e := all_ok m (y := y) hu A.cl (by omega) (by omega)
  rw [R_at lib195 rfl]
  simp only [F195, start, List.map_cons, List.map_nil, List.cons_append, List.nil_append, Nat.reduceSub, List.replicate, List.append_nil, Nat.sub_self]
  unfold atO
  simp only [Sn.d]
  simp! [q]
  cases naT (.free y u) a.gs with
  | false => exact ans_exc (by simp! [])
  | true =>
    simp! [e]
    cases h : allO y u a.cl with
    | ok c =>
      have gc := all_gd hu A.cl h
      have f := fo_ok m (itT a.gs) A.gs (by have := A.len; omega) gc (by omega) (by omega)
      exact ans_fo (by simp! [f]) A.gs gc
    | exc c fs => exact ans_exc (by simp! [mpx])
    | bad => exact ⟨by simp! []; rfl, fun s e => by cases e⟩
def auO (a : Sn) (t : Tm) : Out Sn := (apO a.cl).bind fun ub => if srt t = ub.1 then (bdT (opT t ub.2 0)).bind fun c => foO a.gs c else .exc 0 []
theorem au_ok (n : Nat) {a : Sn} {t : Tm} (A : GdS a) (h : Gd t) (hn : 130 < n) (hl : n ≤ 1000) : Ans (R n 196 [a.d, t.d]) (auO a t) := by
  obtain ⟨m, rfl⟩ : ∃ m, n = m + 1 := ⟨n - 1, by omega⟩
  have p := ap_ok m A.cl (by omega) (by omega)
  have so := sof_ok m h (by omega) (by omega)
  rw [R_at lib196 rfl]
  simp only [F196, start, List.map_cons, List.map_nil, List.cons_append, List.nil_append, Nat.reduceSub, List.replicate, List.append_nil, Nat.sub_self]
  unfold auO
  simp only [Sn.d]
  cases ha : apO a.cl with
  | bad => rw [ha] at p; exact ⟨by simp! [p]; rfl, fun s e => by cases e⟩
  | exc c fs => rw [ha, mpx] at p; exact ans_exc (by simp! [p])
  | ok ub =>
    obtain ⟨u, b⟩ := ub
    rw [ha] at p
    obtain ⟨⟨s, wb⟩, bd, bz, hu⟩ := apO_ty A.cl ha
    simp only [Out.map_ok] at p
    have e : eqD (srt t).d u.d = .ok (decide (srt t = u)) := Srt.eqD _ _ (by omega)
    simp only [Out.bind_ok]
    simp! [p, so, e]
    by_cases hs : srt t = u
    · rw [if_pos hs]
      have bc : b.clo 1 := wb.clo
      have tc : t.clo 0 := h.ty.clo
      have td := h.dp
      have o := opened_ok t tc b m 0 bc (by omega)
      have o : R m 86 [b.d, t.d, .int 0] = _ := o
      have od := op_dp t b 0
      have br : b.rok := wb.rok
      have r := bd_ok2 m (op_rok h.rk b 0 br) (by omega) (by omega) (by omega)
      simp! [decide_eq_true hs, o, r]
      cases h1 : bdT (opT t b 0) with
      | ok c =>
        have gc := (bdT_gd (op_rok h.rk b 0 br) h1).1
        have f := fo_ok m (itT a.gs) A.gs (by have := A.len; omega) gc (by omega) (by omega)
        exact ans_fo (by simp! [f]) A.gs gc
      | exc c fs => exact ans_exc (by simp! [mpx])
      | bad => exact ⟨by simp! []; rfl, fun s e => by cases e⟩
    · rw [if_neg hs]
      exact ans_exc (by simp! [decide_eq_false hs])
def efO (a : Sn) (t : Tm) : Out Sn := (eiO a.cl t).bind fun c => foO a.gs c
def esO (t : Tm) (a : Sn) : Out Sn := (eiO t a.cl).bind fun c => foO a.gs c
theorem ef_ok (n : Nat) {a : Sn} {t : Tm} (A : GdS a) (h : Gd t) (hne : efO a t ≠ .bad) (hn : 112 < n) (hl : n ≤ 1000) : Ans (R n 203 [a.d, t.d]) (efO a t) := by
  obtain ⟨m, rfl⟩ : ∃ m, n = m + 1 := ⟨n - 1, by omega⟩
  have hb : eiO a.cl t ≠ .bad := fun e => hne (by unfold efO; rw [e]; rfl)
  obtain ⟨e, g⟩ := either_ok m A.cl h hb (by omega) (by omega)
  rw [R_at lib203 rfl]
  simp only [F203, start, List.map_cons, List.map_nil, List.cons_append, List.nil_append, Nat.reduceSub, List.replicate, List.append_nil, Nat.sub_self]
  unfold efO
  simp only [Sn.d]
  simp! [e]
  cases h1 : eiO a.cl t with
  | ok c =>
    have gc := g c h1
    have f := fo_ok m (itT a.gs) A.gs (by have := A.len; omega) gc (by omega) (by omega)
    exact ans_fo (by simp! [f]) A.gs gc
  | exc c fs => exact ans_exc (by simp! [mpx])
  | bad => exact (hb h1).elim
theorem es_ok (n : Nat) {a : Sn} {t : Tm} (A : GdS a) (h : Gd t) (hne : esO t a ≠ .bad) (hn : 112 < n) (hl : n ≤ 1000) : Ans (R n 204 [t.d, a.d]) (esO t a) := by
  obtain ⟨m, rfl⟩ : ∃ m, n = m + 1 := ⟨n - 1, by omega⟩
  have hb : eiO t a.cl ≠ .bad := fun e => hne (by unfold esO; rw [e]; rfl)
  obtain ⟨e, g⟩ := either_ok m h A.cl hb (by omega) (by omega)
  rw [R_at lib204 rfl]
  simp only [F204, start, List.map_cons, List.map_nil, List.cons_append, List.nil_append, Nat.reduceSub, List.replicate, List.append_nil, Nat.sub_self]
  unfold esO
  simp only [Sn.d]
  simp! [e]
  cases h1 : eiO t a.cl with
  | ok c =>
    have gc := g c h1
    have f := fo_ok m (itT a.gs) A.gs (by have := A.len; omega) gc (by omega) (by omega)
    exact ans_fo (by simp! [f]) A.gs gc
  | exc c fs => exact ans_exc (by simp! [mpx])
  | bad => exact (hb h1).elim
def euO (a b c : Sn) : Out Sn := (epO a.cl).bind fun lr => if b.cl = c.cl then foO (a.gs ++ buT b.gs lr.1 ++ buT c.gs lr.2) b.cl else .exc 0 []
theorem eu_ok (n : Nat) {a b c : Sn} (A : GdS a) (B : GdS b) (C : GdS c) (hne : euO a b c ≠ .bad) (hn : 114 < n) (hl : n ≤ 1000) : Ans (R n 205 [a.d, b.d, c.d]) (euO a b c) := by
  obtain ⟨m, rfl⟩ : ∃ m, n = m + 2 := ⟨n - 2, by omega⟩
  have hb : epO a.cl ≠ .bad := fun e => hne (by unfold euO; rw [e]; rfl)
  obtain ⟨p, g⟩ := ep_ok (m + 1) A.cl hb (by omega) (by omega)
  have la := A.len
  have lb := B.len
  have lc := C.len
  rw [R_at lib205 rfl]
  simp only [F205, start, List.map_cons, List.map_nil, List.cons_append, List.nil_append, Nat.reduceSub, List.replicate, List.append_nil, Nat.sub_self]
  unfold euO
  simp only [Sn.d]
  simp! [p]
  cases h1 : epO a.cl with
  | ok lr =>
    obtain ⟨l, r⟩ := lr
    obtain ⟨g1, g2⟩ := g l r h1
    have e := Tm.eqD b.cl c.cl (by have := B.cl.dd; omega)
    have l1 := bu_len b.gs l
    have l2 := bu_len c.gs r
    have b1 := bu_ok m (l := b.gs) g1 (by omega)
    have b2 := bu_ok m (l := c.gs) g2 (by omega)
    simp only [Out.map_ok, prD, Out.bind_ok]
    simp! [e]
    by_cases hc : b.cl = c.cl
    · rw [if_pos hc]
      have ad := addL_le (a := a.gs) (b := buT b.gs l) (by omega) (by omega)
      have ad2 : bopD .add (.lst (a.gs.map Tm.d ++ (buT b.gs l).map Tm.d)) (.lst ((buT c.gs r).map Tm.d)) = .ok (.lst (a.gs.map Tm.d ++ (buT b.gs l).map Tm.d ++ (buT c.gs r).map Tm.d)) := v_addL _ _ (sz_le (by simp only [List.length_append, List.length_map]; omega))
      have hg : ∀ t ∈ a.gs ++ buT b.gs l ++ buT c.gs r, Gd t := app_gd (app_gd A.gs fun t h => B.gs t (bu_mem h)) (fun t h => C.gs t (bu_mem h))
      have f := fo_ok (m + 1) (itL3 a.gs (buT b.gs l) (buT c.gs r)) hg (by simp only [List.length_append]; omega) B.cl (by omega) (by omega)
      exact ans_fo (by simp! [decide_eq_true hc, b1, b2, ad, ad2, f]) hg B.cl
    · rw [if_neg hc]
      exact ans_exc (by simp! [decide_eq_false hc])
  | exc c fs => exact ans_exc (by simp! [mpx])
  | bad => exact (hb h1).elim
def stO (y : Tx) (u : Srt) (t o : Tm) (a : Sn) : Out Sn := if isTr t then (if srt o = u then (if putT y u o t = a.cl then (soO y u t).bind fun c => foO a.gs c else .exc 0 []) else .exc 0 []) else .exc 0 []
theorem st_ok (n : Nat) {y : Tx} {u : Srt} {t o : Tm} {a : Sn} (hy : nmB y = true) (hu : u.dp ≤ 5) (h : Gd t) (ho : Gd o) (A : GdS a) (hne : stO y u t o a ≠ .bad) (hn : 130 < n) (hl : n ≤ 1000) : Ans (R n 197 [.tup [.str FREE, .str y, u.d], t.d, o.d, a.d]) (stO y u t o a) := by
  obtain ⟨m, rfl⟩ : ∃ m, n = m + 1 := ⟨n - 1, by omega⟩
  have q := ntr_ok m h (by omega) (by omega)
  have so := sof_ok m ho (by omega) (by omega)
  have pr := put_raw_ok y u o t m h.rk (by have := h.dp; omega)
  have e1 : eqD (srt o).d u.d = .ok (decide (srt o = u)) := Srt.eqD _ _ (by omega)
  have e2 := Tm.eqD (putT y u o t) a.cl (by have := A.cl.dd; omega)
  have kd := kDcB_one true (.tup [.str FREE, .str y, u.d]) o.d (key_free y u hu)
  rw [R_at lib197 rfl]
  simp only [F197, start, List.map_cons, List.map_nil, List.cons_append, List.nil_append, Nat.reduceSub, List.replicate, List.append_nil, Nat.sub_self]
  revert hne
  unfold stO
  simp only [Sn.d]
  simp! [q]
  cases isTr t with
  | false => exact fun _ => ans_exc (by simp! [])
  | true =>
    simp! [so, e1]
    by_cases hs : srt o = u
    · rw [if_pos hs]
      simp! [decide_eq_true hs, kd, pr, e2]
      by_cases hp : putT y u o t = a.cl
      · rw [if_pos hp]
        intro hne
        have hb : soO y u t ≠ .bad := fun e => hne (by rw [e]; rfl)
        obtain ⟨sm, g⟩ := some_ok m hy hu h hb (by omega) (by omega)
        simp! [decide_eq_true hp, sm]
        cases h1 : soO y u t with
        | ok c =>
          have gc := g c h1
          have f := fo_ok m (itT a.gs) A.gs (by have := A.len; omega) gc (by omega) (by omega)
          exact ans_fo (by simp! [f]) A.gs gc
        | exc c fs => exact ans_exc (by simp! [mpx])
        | bad => exact (hb h1).elim
      · rw [if_neg hp]
        exact fun _ => ans_exc (by simp! [decide_eq_false hp])
    · rw [if_neg hs]
      exact fun _ => ans_exc (by simp! [decide_eq_false hs])
def sdO (a : Sn) (y : Tx) (u : Srt) (t : Tm) (b : Sn) : Out Sn := if isTr t then (match isO a.cl y u t with
  | .ok (.bl true) => if naT (.free y u) (buT b.gs t ++ [b.cl]) then foO (a.gs ++ buT b.gs t) b.cl else .exc 0 []
  | .ok _ => .exc 0 []
  | .exc c fs => .exc c fs
  | .bad => .bad) else .exc 0 []
theorem sd_ok (n : Nat) {y : Tx} {u : Srt} {t : Tm} {a b : Sn} (hy : nmB y = true) (hu : u.dp ≤ 5) (h : Gd t) (A : GdS a) (B : GdS b) (hne : sdO a y u t b ≠ .bad) (hn : 130 < n) (hl : n ≤ 1000) : Ans (R n 198 [a.d, .tup [.str FREE, .str y, u.d], t.d, b.d]) (sdO a y u t b) := by
  obtain ⟨m, rfl⟩ : ∃ m, n = m + 2 := ⟨n - 2, by omega⟩
  have la := A.len
  have lb := B.len
  have l1 := bu_len b.gs t
  have q := ntr_ok (m + 1) h (by omega) (by omega)
  rw [R_at lib198 rfl]
  simp only [F198, start, List.map_cons, List.map_nil, List.cons_append, List.nil_append, Nat.reduceSub, List.replicate, List.append_nil, Nat.sub_self]
  revert hne
  unfold sdO
  simp only [Sn.d]
  simp! [q]
  cases isTr t with
  | false => exact fun _ => ans_exc (by simp! [])
  | true =>
    simp only [if_true]
    intro hne
    have hb : isO a.cl y u t ≠ .bad := fun e => hne (by rw [e])
    have i := is_ok (m + 1) A.cl hy hu h hb (by omega) (by omega)
    simp! [i]
    cases h1 : isO a.cl y u t with
    | bad => exact (hb h1).elim
    | exc c fs => exact ans_exc (by simp! [])
    | ok d =>
      have hd : d = .bl true ∨ d = .bl false := by
        unfold isO at h1
        split at h1
        · rename_i s _
          cases h1
          cases decide (s = a.cl) <;> simp
        · split at h1
          · cases h1; simp
          · split at h1 <;> cases h1
        · cases h1
      rcases hd with rfl | rfl
      · have b1 := bu_ok m (l := b.gs) h (by omega)
        have ad : bopD .add (.lst ((buT b.gs t).map Tm.d)) (.lst [b.cl.d]) = .ok (.lst ((buT b.gs t).map Tm.d ++ [b.cl.d])) := v_addL _ _ (sz_le (by simp only [List.length_map, List.length_cons, List.length_nil]; omega))
        have hx : itemsD (.lst ((buT b.gs t).map Tm.d ++ [b.cl.d])) = .ok ((buT b.gs t ++ [b.cl]).map Tm.d) := by rw [List.map_append]; rfl
        have hg : ∀ u ∈ buT b.gs t, Gd u := fun u h => B.gs u (bu_mem h)
        have na : R (m + 1) 143 [.tup [.str FREE, .str y, u.d], .lst ((buT b.gs t).map Tm.d ++ [b.cl.d])] = _ := na_ok (m + 1) (v := .free y u) hx (by simp only [Tm.d, D.dep, depL, Srt.dep]; omega) (app_gd hg fun w hw => by rw [List.mem_singleton.mp hw]; exact B.cl) (by omega)
        have ad2 := addL_le (a := a.gs) (b := buT b.gs t) (by omega) (by omega)
        have hg2 := app_gd A.gs hg
        have f := fo_ok (m + 1) (itL2 a.gs (buT b.gs t)) hg2 (by simp only [List.length_append]; omega) B.cl (by omega) (by omega)
        simp! [b1, ad, na]
        cases naT (.free y u) (buT b.gs t ++ [b.cl]) with
        | false => exact ans_exc (by simp! [])
        | true => exact ans_fo (by simp! [ad2, f]) hg2 B.cl
      · exact ans_exc (by simp! [])
def toO (a b : Sn) : Out Sn := match sidesT a.cl with
  | some (f, s) => (match sidesT b.cl with
    | some (l, r) => (match srt f with
      | .f x _ => if x = srt l then (bdT (.of f l)).bind fun p => (bdT (.of s r)).bind fun q => (eqO p q).bind fun c => foO (a.gs ++ b.gs) c else .exc 0 []
      | _ => .exc 0 [])
    | none => .exc 0 [])
  | none => .exc 0 []
theorem to_ok (n : Nat) {a b : Sn} (A : GdS a) (B : GdS b) (hn : 112 < n) (hl : n ≤ 1000) : Ans (R n 122 [a.d, b.d]) (toO a b) := by
  obtain ⟨m, rfl⟩ : ∃ m, n = m + 2 := ⟨n - 2, by omega⟩
  have s1 := sides_ok m a.cl
  have s2 := sides_ok m b.cl
  have ad := addT_le A.len B.len
  rw [R_at lib122 rfl]
  simp only [F122, start, List.map_cons, List.map_nil, List.cons_append, List.nil_append, Nat.reduceSub, List.replicate, List.append_nil, Nat.sub_self]
  unfold toO
  simp only [Sn.d]
  cases h1 : sidesT a.cl with
  | none => rw [h1] at s1; exact ans_exc (by simp! [s1, oP])
  | some fs =>
    obtain ⟨f, s⟩ := fs
    rw [h1] at s1
    obtain ⟨gf, gs⟩ := sides_gd A.cl h1
    cases h2 : sidesT b.cl with
    | none => rw [h2] at s2; exact ans_exc (by simp! [s1, s2, oP])
    | some lr =>
      obtain ⟨l, r⟩ := lr
      rw [h2] at s2
      obtain ⟨gl, gr⟩ := sides_gd B.cl h2
      have o1 := sof_ok (m + 1) gf (by omega) (by omega)
      have o2 := sof_ok (m + 1) gl (by omega) (by omega)
      simp only [oP] at s1 s2
      simp! [s1, s2, o1]
      cases hf : srt f with
      | t => simp only [Srt.d]; exact ans_exc (by simp! [])
      | i => simp only [Srt.d]; exact ans_exc (by simp! [])
      | f x z =>
        have e : eqD x.d (srt l).d = .ok (decide (x = srt l)) := Srt.eqD _ _ (by have := gl.sd; omega)
        simp only [Srt.d]
        simp! [o2, e]
        by_cases hx : x = srt l
        · rw [if_pos hx]
          have r1 : (Tm.of f l).rok := ⟨gf.rk, gl.rk⟩
          have r2 : (Tm.of s r).rok := ⟨gs.rk, gr.rk⟩
          have p1 := bd_ok (m + 1) r1 (by simp only [Tm.dp]; have := gf.dp; have := gl.dp; omega) (by omega) (by omega)
          have p2 := bd_ok (m + 1) r2 (by simp only [Tm.dp]; have := gs.dp; have := gr.dp; omega) (by omega) (by omega)
          have p1 : R (m + 1) 41 [.tup [.str [111, 102], f.d, l.d]] = _ := p1
          have p2 : R (m + 1) 41 [.tup [.str [111, 102], s.d, r.d]] = _ := p2
          simp! [decide_eq_true hx, ad, p1]
          cases h3 : bdT (.of f l) with
          | ok p =>
            have gp := (bdT_gd r1 h3).1
            simp! [p2]
            cases h4 : bdT (.of s r) with
            | ok q =>
              have gq := (bdT_gd r2 h4).1
              have e3 := eqO_ok (m + 1) gp gq (by omega) (by omega)
              simp! [e3]
              cases h5 : eqO p q with
              | ok c =>
                have gc := eqO_gd gp gq h5
                have hg := app_gd A.gs B.gs
                have fo := fo_ok (m + 1) (it2 a.gs b.gs) hg (by have := A.len; have := B.len; simp only [List.length_append]; omega) gc (by omega) (by omega)
                exact ans_fo (by simp! [fo]) hg gc
              | exc c fs => exact ans_exc (by simp! [mpx])
              | bad => exact ⟨by simp! []; rfl, fun s e => by cases e⟩
            | exc c fs => exact ans_exc (by simp! [mpx])
            | bad => exact ⟨by simp! []; rfl, fun s e => by cases e⟩
          | exc c fs => exact ans_exc (by simp! [mpx])
          | bad => exact ⟨by simp! []; rfl, fun s e => by cases e⟩
        · rw [if_neg hx]
          exact ans_exc (by simp! [decide_eq_false hx])
end Rf

/-! part RfK38a -/
set_option autoImplicit false
set_option linter.all false
set_option Elab.async false
set_option maxRecDepth 100000
set_option maxHeartbeats 4000000
/-! RfK38a: the known sentences, told by the rules' plain form. -/
namespace Rf
theorem binv {α β : Type} {o : Out α} {f : α → Out β} {b : β} (h : o.bind f = .ok b) : ∃ a, o = .ok a ∧ f a = .ok b := by
  cases o with
  | ok a => exact ⟨a, rfl, h⟩
  | exc c fs => cases h
  | bad => cases h
theorem nbad {α : Type} {o : Out α} {a : α} (h : o = .ok a) : o ≠ .bad := by rw [h]; simp
theorem okd {r : D → Prop} : True := trivial
theorem ans_ok {r : Out D} {o : Out Sn} {s : Sn} (h : Ans r o) (e : o = .ok s) : r = .ok s.d ∧ GdS s := ⟨by rw [h.1, e]; rfl, h.2 s e⟩
theorem mapd {o : Out Tm} {t : Tm} (e : o = .ok t) : o.map Tm.d = .ok t.d := by rw [e]; rfl
theorem kInst_obj (fs : List D) : kInst (.cls 8) (.obj 8 fs) = .ok (.bl true) := rfl
theorem eqD_tupL {xs ys : List Tm} (h : ∀ t ∈ xs, t.d.dep ≤ 60) : eqD (.tup (xs.map Tm.d)) (.tup (ys.map Tm.d)) = .ok (decide (xs = ys)) := by
  rw [eqD_of (by simp only [D.plain]; exact tms_plain xs) (by simp only [D.plain]; exact tms_plain ys) (by
    have : depL (xs.map Tm.d) ≤ 60 := depL_le fun x hx => by obtain ⟨t, ht, rfl⟩ := List.mem_map.mp hx; exact h t ht
    simp only [D.dep]; omega)]
  congr 1
  simp only [D.eqv]
  clear h
  induction xs generalizing ys with
  | nil => cases ys <;> simp [eqvL]
  | cons x xs ih =>
    cases ys with
    | nil => simp [eqvL]
    | cons y ys =>
      simp only [List.map_cons, eqvL, Tm.eqv, ih]
      rw [Bool.eq_iff_iff]
      simp
theorem gs_dd {s : Sn} (A : GdS s) : ∀ t ∈ s.gs, t.d.dep ≤ 60 := fun t h => by have := (A.gs t h).dd; omega
/-- _law_is -/
theorem lis_ok (n : Nat) {s : Sn} {t : Tm} (A : GdS s) (e : s = ⟨[], t⟩) : R (n + 1) 372 [s.d, t.d] = .ok (.bl true) := by
  subst e
  have e1 : eqD (.tup []) (.tup []) = .ok true := eqD_rfl2
  have e2 := Tm.eqD t t (by have := A.cl.dd; simp only at this; omega)
  (rw [R_at lib372 rfl]; simp only [F372, start, List.map_cons, List.map_nil, List.cons_append, List.nil_append, Nat.reduceSub, List.replicate, List.append_nil, Nat.sub_self])
  simp only [Sn.d, List.map_nil]
  simp! [kInst_obj, e1, e2, decide_eq_true (rfl : t = t)]
where eqD_rfl2 : eqD (.tup []) (.tup []) = .ok true := by rw [eqD_of rfl rfl (by decide)]; rfl
def tabO (p q : Tm) : Out Bool :=
  (boO p q).bind fun c => (suO c).bind fun s1 => (f2O s1).bind fun a1 => (f1O s1).bind fun a2 => (btO a1 a2).bind fun s2 => (itO c s2).bind fun s3 => (boO q p).bind fun c' => (imO c c').bind fun e =>
  if s3 = ⟨[], e⟩ then (eiO p q).bind fun w => (suO w).bind fun s4 => (suO p).bind fun sp => (esO q sp).bind fun s5 => (suO q).bind fun sq => (efO sq p).bind fun s6 => (euO s4 s5 s6).bind fun s7 => (eiO q p).bind fun w' =>
    if s7 = ⟨[w], w'⟩ then .ok true else .bad else .bad
theorem tab_ok {p q : Tm} (P : Gd p) (Q : Gd q) (h : tabO p q = .ok true) : R 228 373 [p.d, q.d] = .ok (.bl true) := by
  unfold tabO at h
  obtain ⟨c, h1, h⟩ := binv h
  obtain ⟨s1, h2, h⟩ := binv h
  obtain ⟨a1, h3, h⟩ := binv h
  obtain ⟨a2, h4, h⟩ := binv h
  obtain ⟨s2, h5, h⟩ := binv h
  obtain ⟨s3, h6, h⟩ := binv h
  obtain ⟨c', h7, h⟩ := binv h
  obtain ⟨e, h8, h⟩ := binv h
  split at h
  case isFalse => cases h
  rename_i i1
  obtain ⟨w, j1, h⟩ := binv h
  obtain ⟨s4, j2, h⟩ := binv h
  obtain ⟨sp, j3, h⟩ := binv h
  obtain ⟨s5, j4, h⟩ := binv h
  obtain ⟨sq, j5, h⟩ := binv h
  obtain ⟨s6, j6, h⟩ := binv h
  obtain ⟨s7, j7, h⟩ := binv h
  obtain ⟨w', j8, h⟩ := binv h
  split at h
  case isFalse => cases h
  rename_i i2
  have k1 := (both_ok 227 P Q (by decide) (by decide)).trans (mapd h1)
  have C := both_gd P Q h1
  obtain ⟨k2, S1⟩ := ans_ok (su_ok 227 C (by decide) (by decide)) h2
  obtain ⟨k3, A1⟩ := ans_ok (f2_ok 227 S1 (by decide) (by decide)) h3
  obtain ⟨k4, A2⟩ := ans_ok (f1_ok 227 S1 (by decide) (by decide)) h4
  obtain ⟨k5, S2⟩ := ans_ok (bt_ok 227 A1 A2 (by decide) (by decide)) h5
  obtain ⟨k6, S3⟩ := ans_ok (it_ok 227 C S2 (by decide) (by decide)) h6
  have k7 := (both_ok 227 Q P (by decide) (by decide)).trans (mapd h7)
  have C' := both_gd Q P h7
  have k8 := (imp_ok 227 C C' (by decide) (by decide)).trans (mapd h8)
  have l1 := lis_ok 226 S3 i1
  obtain ⟨m1, W⟩ := either_ok 227 P Q (nbad j1) (by decide) (by decide)
  have m1 := m1.trans (mapd j1)
  have W := W w j1
  obtain ⟨m2, S4⟩ := ans_ok (su_ok 227 W (by decide) (by decide)) j2
  obtain ⟨m3, SP⟩ := ans_ok (su_ok 227 P (by decide) (by decide)) j3
  obtain ⟨m4, S5⟩ := ans_ok (es_ok 227 SP Q (nbad j4) (by decide) (by decide)) j4
  obtain ⟨m5, SQ⟩ := ans_ok (su_ok 227 Q (by decide) (by decide)) j5
  obtain ⟨m6, S6⟩ := ans_ok (ef_ok 227 SQ P (nbad j6) (by decide) (by decide)) j6
  obtain ⟨m7, S7⟩ := ans_ok (eu_ok 227 S4 S5 S6 (nbad j7) (by decide) (by decide)) j7
  obtain ⟨m8, W'⟩ := either_ok 227 Q P (nbad j8) (by decide) (by decide)
  have m8 := m8.trans (mapd j8)
  have W' := W' w' j8
  have f1 : eqD (.tup [w.d]) (.tup [w.d]) = .ok true := by
    have := eqD_tupL (xs := [w]) (ys := [w]) (fun t ht => by rw [List.mem_singleton.mp ht]; have := W.dd; omega)
    rw [decide_eq_true rfl] at this; exact this
  have f2 : eqD w'.d w'.d = .ok true := by rw [Tm.eqD w' w' (by have := W'.dd; omega), decide_eq_true rfl]
  have m7' : R 227 205 [s4.d, s5.d, s6.d] = .ok (.obj 8 [.tup [w.d], w'.d]) := by rw [m7, i2]; rfl
  (rw [R_at lib373 rfl]; simp only [F373, start, List.map_cons, List.map_nil, List.cons_append, List.nil_append, Nat.reduceSub, List.replicate, List.append_nil, Nat.sub_self])
  simp! [k1, k2, k3, k4, k5, k6, k7, k8, l1]
  simp! [m1, m2, m3, m4, m5, m6, m7', m8, kInst_obj, f1, f2]
def conO (p q : Tm) : Out Bool :=
  (imO p q).bind fun i => (suO i).bind fun s1 => (suO p).bind fun sp => (iuO s1 sp).bind fun a2 => (imO q nevT).bind fun nq => (suO nq).bind fun s2 => (iuO s2 a2).bind fun a3 => (itO p a3).bind fun a4 => (itO nq a4).bind fun a5 => (itO i a5).bind fun a6 =>
  (imO p nevT).bind fun np => (imO nq np).bind fun e1 => (imO i e1).bind fun e2 => if a6 = ⟨[], e2⟩ then (itO q sp).bind fun b1 => (itO p b1).bind fun b2 => (imO q p).bind fun e3 => (imO p e3).bind fun e4 =>
    if b2 = ⟨[], e4⟩ then .ok true else .bad else .bad
theorem con_ok {p q : Tm} (P : Gd p) (Q : Gd q) (h : conO p q = .ok true) : R 228 374 [p.d, q.d] = .ok (.bl true) := by
  unfold conO at h
  obtain ⟨i, h1, h⟩ := binv h
  obtain ⟨s1, h2, h⟩ := binv h
  obtain ⟨sp, h3, h⟩ := binv h
  obtain ⟨a2, h4, h⟩ := binv h
  obtain ⟨nq, h5, h⟩ := binv h
  obtain ⟨s2, h6, h⟩ := binv h
  obtain ⟨a3, h7, h⟩ := binv h
  obtain ⟨a4, h8, h⟩ := binv h
  obtain ⟨a5, h9, h⟩ := binv h
  obtain ⟨a6, h10, h⟩ := binv h
  obtain ⟨np, h11, h⟩ := binv h
  obtain ⟨e1, h12, h⟩ := binv h
  obtain ⟨e2, h13, h⟩ := binv h
  split at h
  case isFalse => cases h
  rename_i i1
  obtain ⟨b1, j1, h⟩ := binv h
  obtain ⟨b2, j2, h⟩ := binv h
  obtain ⟨e3, j3, h⟩ := binv h
  obtain ⟨e4, j4, h⟩ := binv h
  split at h
  case isFalse => cases h
  rename_i i2
  have k1 := (imp_ok 227 P Q (by decide) (by decide)).trans (mapd h1)
  have I := imp_gd P Q h1
  obtain ⟨k2, S1⟩ := ans_ok (su_ok 227 I (by decide) (by decide)) h2
  obtain ⟨k3, SP⟩ := ans_ok (su_ok 227 P (by decide) (by decide)) h3
  obtain ⟨k4, A2⟩ := ans_ok (iu_ok 227 S1 SP (by decide) (by decide)) h4
  have k5 := (neg_ok 227 Q (by decide) (by decide)).trans (mapd h5)
  have NQ := imp_gd Q nev_gd h5
  obtain ⟨k6, S2⟩ := ans_ok (su_ok 227 NQ (by decide) (by decide)) h6
  obtain ⟨k7, A3⟩ := ans_ok (iu_ok 227 S2 A2 (by decide) (by decide)) h7
  obtain ⟨k8, A4⟩ := ans_ok (it_ok 227 P A3 (by decide) (by decide)) h8
  obtain ⟨k9, A5⟩ := ans_ok (it_ok 227 NQ A4 (by decide) (by decide)) h9
  obtain ⟨k10, A6⟩ := ans_ok (it_ok 227 I A5 (by decide) (by decide)) h10
  have k11 := (neg_ok 227 P (by decide) (by decide)).trans (mapd h11)
  have NP := imp_gd P nev_gd h11
  have k12 := (imp_ok 227 NQ NP (by decide) (by decide)).trans (mapd h12)
  have E1 := imp_gd NQ NP h12
  have k13 := (imp_ok 227 I E1 (by decide) (by decide)).trans (mapd h13)
  have l1 := lis_ok 226 A6 i1
  obtain ⟨m1, B1⟩ := ans_ok (it_ok 227 Q SP (by decide) (by decide)) j1
  obtain ⟨m2, B2⟩ := ans_ok (it_ok 227 P B1 (by decide) (by decide)) j2
  have m3 := (imp_ok 227 Q P (by decide) (by decide)).trans (mapd j3)
  have E3 := imp_gd Q P j3
  have m4 := (imp_ok 227 P E3 (by decide) (by decide)).trans (mapd j4)
  have l2 := lis_ok 226 B2 i2
  (rw [R_at lib374 rfl]; simp only [F374, start, List.map_cons, List.map_nil, List.cons_append, List.nil_append, Nat.reduceSub, List.replicate, List.append_nil, Nat.sub_self])
  simp! [k1, k2, k3, k4, k5, k6, k7, k8, k9, k10, k11, k12, k13, l1, m1, m2, m3, m4, l2]
def alsO (y : Tx) (u : Srt) (p q : Tm) : Out Bool :=
  (boO p q).bind fun c => (allO y u c).bind fun a => (suO a).bind fun s1 => (auO s1 (.free y u)).bind fun s2 => (f1O s2).bind fun b1 => (atO y u b1).bind fun s3 => (f2O s2).bind fun b2 => (atO y u b2).bind fun s4 => (btO s3 s4).bind fun s5 => (itO a s5).bind fun s6 =>
  (allO y u p).bind fun ap => (allO y u q).bind fun aq => (boO ap aq).bind fun d => (imO a d).bind fun e => if s6 = ⟨[], e⟩ then .ok true else .bad
theorem als_ok {y : Tx} {u : Srt} {p q : Tm} (hy : nmB y = true) (hu : u.dp ≤ 5) (P : Gd p) (Q : Gd q) (h : alsO y u p q = .ok true) : R 228 375 [.tup [.str FREE, .str y, u.d], p.d, q.d] = .ok (.bl true) := by
  unfold alsO at h
  obtain ⟨c, h1, h⟩ := binv h
  obtain ⟨a, h2, h⟩ := binv h
  obtain ⟨s1, h3, h⟩ := binv h
  obtain ⟨s2, h4, h⟩ := binv h
  obtain ⟨b1, h5, h⟩ := binv h
  obtain ⟨s3, h6, h⟩ := binv h
  obtain ⟨b2, h7, h⟩ := binv h
  obtain ⟨s4, h8, h⟩ := binv h
  obtain ⟨s5, h9, h⟩ := binv h
  obtain ⟨s6, h10, h⟩ := binv h
  obtain ⟨ap, h11, h⟩ := binv h
  obtain ⟨aq, h12, h⟩ := binv h
  obtain ⟨d, h13, h⟩ := binv h
  obtain ⟨e, h14, h⟩ := binv h
  split at h
  case isFalse => cases h
  rename_i i1
  have V : Gd (.free y u) := .of (.free hy hu) (by simp [Tm.dp]) (by simp [Tm.sz])
  have k1 := (both_ok 227 P Q (by decide) (by decide)).trans (mapd h1)
  have C := both_gd P Q h1
  have k2 := (all_ok 227 (y := y) hu C (by decide) (by decide)).trans (mapd h2)
  have A := all_gd hu C h2
  obtain ⟨k3, S1⟩ := ans_ok (su_ok 227 A (by decide) (by decide)) h3
  obtain ⟨k4, S2⟩ := ans_ok (au_ok 227 S1 V (by decide) (by decide)) h4
  have k4 : R 227 196 [s1.d, .tup [.str FREE, .str y, u.d]] = _ := k4
  obtain ⟨k5, B1⟩ := ans_ok (f1_ok 227 S2 (by decide) (by decide)) h5
  obtain ⟨k6, S3⟩ := ans_ok (at_ok 227 (y := y) hu B1 (by decide) (by decide)) h6
  obtain ⟨k7, B2⟩ := ans_ok (f2_ok 227 S2 (by decide) (by decide)) h7
  obtain ⟨k8, S4⟩ := ans_ok (at_ok 227 (y := y) hu B2 (by decide) (by decide)) h8
  obtain ⟨k9, S5⟩ := ans_ok (bt_ok 227 S3 S4 (by decide) (by decide)) h9
  obtain ⟨k10, S6⟩ := ans_ok (it_ok 227 A S5 (by decide) (by decide)) h10
  have k11 := (all_ok 227 (y := y) hu P (by decide) (by decide)).trans (mapd h11)
  have AP := all_gd hu P h11
  have k12 := (all_ok 227 (y := y) hu Q (by decide) (by decide)).trans (mapd h12)
  have AQ := all_gd hu Q h12
  have k13 := (both_ok 227 AP AQ (by decide) (by decide)).trans (mapd h13)
  have DD := both_gd AP AQ h13
  have k14 := (imp_ok 227 A DD (by decide) (by decide)).trans (mapd h14)
  have l1 := lis_ok 226 S6 i1
  (rw [R_at lib375 rfl]; simp only [F375, start, List.map_cons, List.map_nil, List.cons_append, List.nil_append, Nat.reduceSub, List.replicate, List.append_nil, Nat.sub_self])
  simp! [k1, k2, k3, k4, k5, k6, k7, k8, k9, k10, k11, k12, k13, k14, l1]
def excO (x : Tx) (xs : Srt) (y : Tx) (u : Srt) (p : Tm) : Out Bool :=
  (allO y u p).bind fun inn => (suO inn).bind fun s0 => (auO s0 (.free y u)).bind fun s1 => (stO x xs p (.free x xs) s1).bind fun s2 => (atO y u s2).bind fun s3 => (soO x xs inn).bind fun w => (suO w).bind fun s4 => (sdO s4 x xs inn s3).bind fun s5 =>
  (soO x xs p).bind fun v => (allO y u v).bind fun e => if s5 = ⟨[w], e⟩ then .ok true else .bad
theorem exc_ok {x : Tx} {xs : Srt} {y : Tx} {u : Srt} {p : Tm} (hx : nmB x = true) (hxs : xs.dp ≤ 5) (hy : nmB y = true) (hu : u.dp ≤ 5) (P : Gd p) (h : excO x xs y u p = .ok true) :
    R 228 376 [.tup [.str FREE, .str x, xs.d], .tup [.str FREE, .str y, u.d], p.d] = .ok (.bl true) := by
  unfold excO at h
  obtain ⟨inn, h1, h⟩ := binv h
  obtain ⟨s0, h2, h⟩ := binv h
  obtain ⟨s1, h3, h⟩ := binv h
  obtain ⟨s2, h4, h⟩ := binv h
  obtain ⟨s3, h5, h⟩ := binv h
  obtain ⟨w, h6, h⟩ := binv h
  obtain ⟨s4, h7, h⟩ := binv h
  obtain ⟨s5, h8, h⟩ := binv h
  obtain ⟨v, h9, h⟩ := binv h
  obtain ⟨e, h10, h⟩ := binv h
  split at h
  case isFalse => cases h
  rename_i i1
  have V : Gd (.free y u) := .of (.free hy hu) (by simp [Tm.dp]) (by simp [Tm.sz])
  have XV : Gd (.free x xs) := .of (.free hx hxs) (by simp [Tm.dp]) (by simp [Tm.sz])
  have k1 := (all_ok 227 (y := y) hu P (by decide) (by decide)).trans (mapd h1)
  have I := all_gd hu P h1
  obtain ⟨k2, S0⟩ := ans_ok (su_ok 227 I (by decide) (by decide)) h2
  obtain ⟨k3, S1⟩ := ans_ok (au_ok 227 S0 V (by decide) (by decide)) h3
  have k3 : R 227 196 [s0.d, .tup [.str FREE, .str y, u.d]] = _ := k3
  obtain ⟨k4, S2⟩ := ans_ok (st_ok 227 hx hxs P XV S1 (nbad h4) (by decide) (by decide)) h4
  have k4 : R 227 197 [.tup [.str FREE, .str x, xs.d], p.d, .tup [.str FREE, .str x, xs.d], s1.d] = _ := k4
  obtain ⟨k5, S3⟩ := ans_ok (at_ok 227 (y := y) hu S2 (by decide) (by decide)) h5
  obtain ⟨k6, W⟩ := some_ok 227 hx hxs I (nbad h6) (by decide) (by decide)
  have k6 := k6.trans (mapd h6)
  have W := W w h6
  obtain ⟨k7, S4⟩ := ans_ok (su_ok 227 W (by decide) (by decide)) h7
  obtain ⟨k8, S5⟩ := ans_ok (sd_ok 227 hx hxs I S4 S3 (nbad h8) (by decide) (by decide)) h8
  obtain ⟨k9, G⟩ := some_ok 227 hx hxs P (nbad h9) (by decide) (by decide)
  have k9 := k9.trans (mapd h9)
  have G := G v h9
  have k10 := (all_ok 227 (y := y) hu G (by decide) (by decide)).trans (mapd h10)
  have E := all_gd hu G h10
  have f1 : eqD (.tup [w.d]) (.tup [w.d]) = .ok true := by
    have := eqD_tupL (xs := [w]) (ys := [w]) (fun t ht => by rw [List.mem_singleton.mp ht]; have := W.dd; omega)
    rw [decide_eq_true rfl] at this; exact this
  have f2 : eqD e.d e.d = .ok true := by rw [Tm.eqD e e (by have := E.dd; omega), decide_eq_true rfl]
  have k8 : R 227 198 [s4.d, .tup [.str FREE, .str x, xs.d], inn.d, s3.d] = .ok (.obj 8 [.tup [w.d], e.d]) := by rw [k8, i1]; rfl
  (rw [R_at lib376 rfl]; simp only [F376, start, List.map_cons, List.map_nil, List.cons_append, List.nil_append, Nat.reduceSub, List.replicate, List.append_nil, Nat.sub_self])
  simp! [k1, k2, k3, k4, k5, k6, k7, k8, k9, k10, f1, f2]
def casO (p : Tm) : Out Bool :=
  (bdT (eqT .t p alwT)).bind fun a => (bdT (eqT .t p nevT)).bind fun b => (suO a).bind fun s1 => (ihO s1).bind fun s2 => (imO p nevT).bind fun np => (efO s2 np).bind fun s3 => (suO b).bind fun s4 => (suO p).bind fun sp => (caO s4 sp).bind fun s5 => (itO p s5).bind fun s6 => (esO p s6).bind fun s7 => (bcO s3 s7 p).bind fun s8 =>
  (eiO p np).bind fun e => if s8 = ⟨[], e⟩ then .ok true else .bad
theorem cas_ok {p : Tm} (P : Gd p) (h : casO p = .ok true) : R 228 377 [p.d] = .ok (.bl true) := by
  unfold casO at h
  obtain ⟨a, h1, h⟩ := binv h
  obtain ⟨b, h2, h⟩ := binv h
  obtain ⟨s1, h3, h⟩ := binv h
  obtain ⟨s2, h4, h⟩ := binv h
  obtain ⟨np, h5, h⟩ := binv h
  obtain ⟨s3, h6, h⟩ := binv h
  obtain ⟨s4, h7, h⟩ := binv h
  obtain ⟨sp, h8, h⟩ := binv h
  obtain ⟨s5, h9, h⟩ := binv h
  obtain ⟨s6, h10, h⟩ := binv h
  obtain ⟨s7, h11, h⟩ := binv h
  obtain ⟨s8, h12, h⟩ := binv h
  obtain ⟨e, h13, h⟩ := binv h
  split at h
  case isFalse => cases h
  rename_i i1
  have t5 : Srt.t.dp ≤ 5 := by decide
  obtain ⟨A, ea⟩ := bdT_gd (eqT_rok t5 P.rk alw_gd.rk) h1
  obtain ⟨B, eb⟩ := bdT_gd (eqT_rok t5 P.rk nev_gd.rk) h2
  have al := alw_ok 226
  have nv := nev_ok 227 (by decide) (by decide)
  obtain ⟨k3, S1⟩ := ans_ok (su_ok 227 A (by decide) (by decide)) h3
  rw [ea] at k3
  have k3 : R 227 125 [.tup [.str [111, 102], .tup [.str [111, 102], .tup [.str [115, 97, 109, 101], .str [116]], p.d], alwT.d]] = .ok s1.d := k3
  obtain ⟨k4, S2⟩ := ans_ok (ih_ok 227 S1 (by decide) (by decide)) h4
  have k5 := (neg_ok 227 P (by decide) (by decide)).trans (mapd h5)
  have NP := imp_gd P nev_gd h5
  obtain ⟨k6, S3⟩ := ans_ok (ef_ok 227 S2 NP (nbad h6) (by decide) (by decide)) h6
  obtain ⟨k7, S4⟩ := ans_ok (su_ok 227 B (by decide) (by decide)) h7
  rw [eb] at k7
  have k7 : R 227 125 [.tup [.str [111, 102], .tup [.str [111, 102], .tup [.str [115, 97, 109, 101], .str [116]], p.d], nevT.d]] = .ok s4.d := k7
  obtain ⟨k8, SP⟩ := ans_ok (su_ok 227 P (by decide) (by decide)) h8
  obtain ⟨k9, S5⟩ := ans_ok (ca_ok 227 S4 SP (by decide) (by decide)) h9
  obtain ⟨k10, S6⟩ := ans_ok (it_ok 227 P S5 (by decide) (by decide)) h10
  obtain ⟨k11, S7⟩ := ans_ok (es_ok 227 S6 P (nbad h11) (by decide) (by decide)) h11
  obtain ⟨k12, S8⟩ := ans_ok (bc_ok 227 S3 S7 P (by decide) (by decide)) h12
  obtain ⟨k13, _⟩ := either_ok 227 P NP (nbad h13) (by decide) (by decide)
  have k13 := k13.trans (mapd h13)
  have l1 := lis_ok 226 S8 i1
  (rw [R_at lib377 rfl]; simp only [F377, start, List.map_cons, List.map_nil, List.cons_append, List.nil_append, Nat.reduceSub, List.replicate, List.append_nil, Nat.sub_self])
  simp! [al, nv, k3, k4, k5, k6, k7, k8, k9, k10, k11, k12, k13, l1]
end Rf

/-! part RfBy -/
set_option autoImplicit false
set_option linter.all false
set_option Elab.async false
set_option maxRecDepth 100000
set_option maxHeartbeats 4000000
/-! RfBy: what is given, in the order of the texts: by what stands in it alone. -/
namespace Rf
theorem wr_inj {a b : Tm} (ha : Gd a) (hb : Gd b) (h : wr a = wr b) : a = b := by
  have r := fun {t : Tm} (g : Gd t) => read_term_ok t (srt t) 230 g.ty g.ok g.dp g.sz (by have := g.dd; omega) (by decide) (by decide)
  have h1 := r ha
  rw [h, r hb] at h1
  injection h1 with h1
  exact (Tm.inj h1).symm
theorem ltX_irr : ∀ a : Tx, ltT a a = false
  | [] => rfl
  | a :: x => by simp [ltT, ltX_irr x]
theorem ltX_tr : ∀ {a b c : Tx}, ltT a b = true → ltT b c = true → ltT a c = true
  | a, [], c, h, _ => by cases a <;> simp [ltT] at h
  | a, b :: x, [], _, h => by simp [ltT] at h
  | [], b :: x, c :: y, _, _ => rfl
  | a :: w, b :: x, c :: y, h1, h2 => by
    simp only [ltT, Bool.or_eq_true, Bool.and_eq_true, decide_eq_true_eq] at h1 h2 ⊢
    rcases h1 with h1 | ⟨e1, h1⟩ <;> rcases h2 with h2 | ⟨e2, h2⟩
    · exact .inl (by omega)
    · exact .inl (by omega)
    · exact .inl (by omega)
    · exact .inr ⟨by omega, ltX_tr h1 h2⟩
theorem ltX_tri : ∀ (a b : Tx), ltT a b = true ∨ a = b ∨ ltT b a = true
  | [], [] => .inr (.inl rfl)
  | [], b :: y => .inl rfl
  | a :: x, [] => .inr (.inr rfl)
  | a :: x, b :: y => by
    simp only [ltT, Bool.or_eq_true, Bool.and_eq_true, decide_eq_true_eq]
    by_cases h1 : a < b
    · exact .inl (.inl h1)
    · by_cases h2 : b < a
      · exact .inr (.inr (.inl h2))
      · have e : a = b := by omega
        subst e
        rcases ltX_tri x y with h | h | h
        · exact .inl (.inr ⟨rfl, h⟩)
        · exact .inr (.inl (by rw [h]))
        · exact .inr (.inr (.inr ⟨rfl, h⟩))
/-- in their order, each once -/
def stS : List Tx → Prop
  | [] => True
  | a :: l => (∀ b ∈ l, ltT a b = true) ∧ stS l
theorem stS_ins {x : Tx} : ∀ {l : List Tx}, stS l → x ∉ l → stS (insT x l)
  | [], _, _ => ⟨fun b hb => (by cases hb), trivial⟩
  | y :: l, h, hx => by
    unfold insT
    have hne : x ≠ y := fun e => hx (by rw [e]; exact List.mem_cons_self)
    split
    · rename_i hy
      refine ⟨fun b hb => ?_, stS_ins h.2 fun q => hx (List.mem_cons_of_mem _ q)⟩
      rw [ins_mem] at hb
      rcases hb with rfl | hb
      · exact hy
      · exact h.1 b hb
    · rename_i hy
      have hy : ltT x y = true := by
        rcases ltX_tri x y with q | q | q
        · exact q
        · exact (hne q).elim
        · exact (hy q).elim
      refine ⟨fun b hb => ?_, h⟩
      rcases List.mem_cons.mp hb with rfl | hb
      · exact hy
      · exact ltX_tr hy (h.1 b hb)
theorem stS_sort : ∀ {l : List Tx}, l.Nodup → stS (sortT l)
  | [], _ => trivial
  | x :: l, h => by
    rw [List.nodup_cons] at h
    exact stS_ins (stS_sort h.2) (fun q => h.1 ((sort_mem x l).mp q))
theorem stS_eq : ∀ {l m : List Tx}, stS l → stS m → (∀ k, k ∈ l ↔ k ∈ m) → l = m
  | [], [], _, _, _ => rfl
  | [], b :: m, _, _, h => by have := (h b).mpr List.mem_cons_self; cases this
  | a :: l, [], _, _, h => by have := (h a).mp List.mem_cons_self; cases this
  | a :: l, b :: m, h1, h2, h => by
    have e : a = b := by
      rcases List.mem_cons.mp ((h a).mp List.mem_cons_self) with q | q
      · exact q
      · rcases List.mem_cons.mp ((h b).mpr List.mem_cons_self) with q2 | q2
        · exact q2.symm
        · have z := ltX_tr (h1.1 b q2) (h2.1 a q)
          rw [ltX_irr] at z; cases z
    subst e
    have no : ∀ {l : List Tx}, (∀ b ∈ l, ltT a b = true) → a ∉ l := fun hl q => by have z := hl a q; rw [ltX_irr] at z; cases z
    rw [stS_eq h1.2 h2.2 fun k => ⟨fun q => by
      rcases List.mem_cons.mp ((h k).mp (List.mem_cons_of_mem _ q)) with z | z
      · rw [z] at q; exact (no h1.1 q).elim
      · exact z, fun q => by
      rcases List.mem_cons.mp ((h k).mpr (List.mem_cons_of_mem _ q)) with z | z
      · rw [z] at q; exact (no h2.1 q).elim
      · exact z⟩]
theorem pu_keys (kv : List (Tx × Tm)) (k : Tx) (v : Tm) : (puT kv k v).map (·.1) = if k ∈ kv.map (·.1) then kv.map (·.1) else kv.map (·.1) ++ [k] := by
  unfold puT
  have e : (kv.any fun p => p.1 == k) = decide (k ∈ kv.map (·.1)) := by
    rw [Bool.eq_iff_iff, List.any_eq_true, decide_eq_true_eq, List.mem_map]
    exact ⟨fun ⟨p, h1, h2⟩ => ⟨p, h1, eq_of_beq h2⟩, fun ⟨p, h1, h2⟩ => ⟨p, h1, by rw [h2]; exact beq_self_eq_true _⟩⟩
  rw [e]
  by_cases h : k ∈ kv.map (·.1)
  · rw [decide_eq_true h, if_pos rfl, if_pos h, List.map_map]
    apply List.map_congr_left
    intro p _
    show (if p.1 == k then (p.1, v) else p).1 = p.1
    split <;> rfl
  · rw [decide_eq_false h, if_neg h]
    simp
theorem kvL_keys : ∀ (l : List Tm) (kv : List (Tx × Tm)), (kv.map (·.1)).Nodup → ((kvL l kv).map (·.1)).Nodup ∧ ∀ k, k ∈ (kvL l kv).map (·.1) ↔ k ∈ kv.map (·.1) ∨ ∃ t ∈ l, wr t = k
  | [], kv, h => ⟨h, fun k => by simp [kvL]⟩
  | t :: l, kv, h => by
    have hp := pu_keys kv (wr t) t
    have hn : ((puT kv (wr t) t).map (·.1)).Nodup := by
      rw [hp]
      split
      · exact h
      · rename_i q
        rw [List.nodup_append]
        exact ⟨h, by simp, fun a ha b hb => by rw [List.mem_singleton.mp hb]; exact fun e => q (by rw [← e]; exact ha)⟩
    obtain ⟨i1, i2⟩ := kvL_keys l (puT kv (wr t) t) hn
    refine ⟨i1, fun k => ?_⟩
    have i2 := i2 k
    rw [hp] at i2
    show k ∈ (kvL l (puT kv (wr t) t)).map (·.1) ↔ _
    rw [i2]
    split
    · rename_i q
      constructor
      · rintro (z | ⟨u, hu, e⟩)
        · exact .inl z
        · exact .inr ⟨u, List.mem_cons_of_mem _ hu, e⟩
      · rintro (z | ⟨u, hu, e⟩)
        · exact .inl z
        · rcases List.mem_cons.mp hu with rfl | hu
          · exact .inl (by rw [← e]; exact q)
          · exact .inr ⟨u, hu, e⟩
    · constructor
      · rintro (z | ⟨u, hu, e⟩)
        · rcases List.mem_append.mp z with z | z
          · exact .inl z
          · exact .inr ⟨t, List.mem_cons_self, (List.mem_singleton.mp z).symm⟩
        · exact .inr ⟨u, List.mem_cons_of_mem _ hu, e⟩
      · rintro (z | ⟨u, hu, e⟩)
        · exact .inl (List.mem_append.mpr (.inl z))
        · rcases List.mem_cons.mp hu with rfl | hu
          · exact .inl (List.mem_append.mpr (.inr (List.mem_singleton.mpr e.symm)))
          · exact .inr ⟨u, hu, e⟩
theorem kvL_wr : ∀ (l : List Tm) (kv : List (Tx × Tm)), (∀ p ∈ kv, p.1 = wr p.2) → ∀ p ∈ kvL l kv, p.1 = wr p.2
  | [], kv, h => h
  | t :: l, kv, h => kvL_wr l (puT kv (wr t) t) fun p hp => by
    unfold puT at hp
    split at hp
    · obtain ⟨q, hq, rfl⟩ := List.mem_map.mp hp
      split
      · rename_i e; exact eq_of_beq e
      · exact h q hq
    · rcases List.mem_append.mp hp with hp | hp
      · exact h p hp
      · rw [List.mem_singleton.mp hp]
theorem geT_wr {l : List Tm} (hl : ∀ t ∈ l, Gd t) {t : Tm} (h : t ∈ l) : geT (kvL l []) (wr t) = t := by
  have hk : wr t ∈ (kvL l []).map (·.1) := ((kvL_keys l [] (by simp)).2 _).mpr (.inr ⟨t, h, rfl⟩)
  have fp : ∃ p, (kvL l []).find? (fun p => p.1 == wr t) = some p := by
    cases e : (kvL l []).find? (fun p => p.1 == wr t) with
    | some p => exact ⟨p, rfl⟩
    | none =>
      obtain ⟨p, hp, e2⟩ := List.mem_map.mp hk
      have := List.find?_eq_none.mp e p hp
      simp [e2] at this
  obtain ⟨p, e⟩ := fp
  have hp := List.mem_of_find?_eq_some e
  have he := List.find?_some e
  have e1 : p.1 = wr t := eq_of_beq he
  have e2 := kvL_wr l [] (fun p hp => by cases hp) p hp
  have hg : Gd p.2 := by
    rcases kvL_mem l [] p hp with q | q
    · cases q
    · exact hl _ q
  unfold geT
  rw [e]
  exact wr_inj hg (hl t h) (e2.symm.trans e1)
theorem mem_byT {l : List Tm} (hl : ∀ t ∈ l, Gd t) {t : Tm} : t ∈ byT l ↔ t ∈ l := by
  refine ⟨byT_mem, fun h => List.mem_map.mpr ⟨wr t, ?_, geT_wr hl h⟩⟩
  rw [sort_mem]
  exact ((kvL_keys l [] (by simp)).2 _).mpr (.inr ⟨t, h, rfl⟩)
theorem byT_eq {l m : List Tm} (hl : ∀ t ∈ l, Gd t) (hm : ∀ t ∈ m, Gd t) (h : ∀ t, t ∈ l ↔ t ∈ m) : byT l = byT m := by
  have kl := kvL_keys l [] (by simp)
  have km := kvL_keys m [] (by simp)
  have e : sortT ((kvL l []).map (·.1)) = sortT ((kvL m []).map (·.1)) := stS_eq (stS_sort kl.1) (stS_sort km.1) fun k => by
    rw [sort_mem, sort_mem, kl.2, km.2]
    exact ⟨fun q => q.imp id fun ⟨t, h1, h2⟩ => ⟨t, (h t).mp h1, h2⟩, fun q => q.imp id fun ⟨t, h1, h2⟩ => ⟨t, (h t).mpr h1, h2⟩⟩
  unfold byT
  rw [e]
  apply List.map_congr_left
  intro k hk
  rw [sort_mem, km.2] at hk
  rcases hk with z | ⟨t, h1, rfl⟩
  · cases z
  · rw [geT_wr hl ((h t).mpr h1), geT_wr hm h1]
theorem byT_gd {l : List Tm} (hl : ∀ t ∈ l, Gd t) : ∀ t ∈ byT l, Gd t := fun t h => hl t (byT_mem h)
theorem byT_nd {l : List Tm} (hl : ∀ t ∈ l, Gd t) : (byT l).Nodup := by
  have kl := kvL_keys l [] (by simp)
  have st := stS_sort kl.1
  have nd : ∀ {m : List Tx}, stS m → m.Nodup := fun {m} h => by
    induction m with
    | nil => simp
    | cons a m ih =>
      rw [List.nodup_cons]
      exact ⟨fun q => (by have z := h.1 a q; rw [ltX_irr] at z; cases z), ih h.2⟩
  have n1 := nd st
  unfold byT
  rw [List.nodup_iff_pairwise_ne, List.pairwise_map]
  refine List.Pairwise.imp_of_mem ?_ (List.nodup_iff_pairwise_ne.mp n1)
  intro a b ha hb hne e
  rw [sort_mem, kl.2] at ha hb
  rcases ha with z | ⟨t, h1, rfl⟩
  · cases z
  rcases hb with z | ⟨u, h2, rfl⟩
  · cases z
  rw [geT_wr hl h1, geT_wr hl h2] at e
  exact hne (by rw [e])
/-- follows, by what stands in it -/
theorem fo_of {l m : List Tm} {c : Tm} (hl : ∀ t ∈ l, Gd t) (hm : ∀ t ∈ m, Gd t) (h : ∀ t, t ∈ l ↔ t ∈ m) (hz : m.length ≤ 12) : foO l c = .ok ⟨byT m, c⟩ := by
  unfold foO
  rw [byT_eq hl hm h]
  have := byT_len m
  rw [if_neg (by omega)]
end Rf

/-! part RfLw -/
set_option autoImplicit false
set_option linter.all false
set_option Elab.async false
set_option maxRecDepth 100000
set_option maxHeartbeats 4000000
/-! RfLw: the law's own words; sentences with more given; the law's look at a sentence. -/
namespace Rf
/-- a truth, so deep and so great at most -/
structure Tr (t : Tm) (d z : Nat) : Prop where
  ty : WT [] t .t
  dp : t.dp ≤ d
  sz : t.sz ≤ z
theorem Tr.mono {t : Tm} {d z d' z' : Nat} (h : Tr t d z) (hd : d ≤ d') (hz : z ≤ z') : Tr t d' z' := ⟨h.ty, Nat.le_trans h.dp hd, Nat.le_trans h.sz hz⟩
theorem Tr.gd {t : Tm} {d z : Nat} (h : Tr t d z) (hd : d ≤ 40) (hz : z ≤ 600) : Gd t := .of h.ty (Nat.le_trans h.dp hd) (Nat.le_trans h.sz hz)
theorem Tr.srt {t : Tm} {d z : Nat} (h : Tr t d z) : srt t = .t := srt_of h.ty
theorem Tr.tr {t : Tm} {d z : Nat} (h : Tr t d z) : isTr t = true := by unfold isTr; rw [h.srt]; rfl
theorem bdT_of {t : Tm} {s : Srt} (h : WT [] t s) (hd : t.dp ≤ 40) (hz : t.sz ≤ 600) : bdT t = .ok t := by
  unfold bdT; rw [isT_of h hd hz]; rfl
theorem eqO_of {a b : Tm} {s u : Srt} (ha : WT [] a s) (h : WT [] (eqT s a b) u) (hd : (eqT s a b).dp ≤ 40) (hz : (eqT s a b).sz ≤ 600) : eqO a b = .ok (eqT s a b) := by
  unfold eqO; rw [srt_of ha]; exact bdT_of h hd hz
def boT (a b : Tm) : Tm := eqT (.f TWO .t) (.lam TWO (.of (.of (.bound 0) a) b)) pr2T
def imT (a b : Tm) : Tm := eqT .t (boT a b) a
def allT (y : Tx) (u : Srt) (t : Tm) : Tm := eqT (.f u .t) (.lam u (ovT y u t 0)) (.lam u alwT)
abbrev OTH : Tx := [111, 116, 104, 101, 114, 48, 48]
abbrev othT : Tm := .free OTH .t
def eiT (a b : Tm) : Tm := allT OTH .t (imT (imT a othT) (imT (imT b othT) othT))
def soT (y : Tx) (u : Srt) (t : Tm) : Tm := allT OTH .t (imT (allT y u (imT t othT)) othT)
theorem weak1 {s u : Srt} {t : Tm} (h : WT [] t s) : WT [u] t s := WT.weak [u] h
theorem prd_wt {a b : Tm} (ha : WT [] a .t) (hb : WT [] b .t) : WT [] (.lam TWO (.of (.of (.bound 0) a) b)) (.f TWO .t) :=
  .lam (by decide) (.of (u := .t) (.of (u := .t) (.bound (by decide) rfl) (weak1 ha)) (weak1 hb))
theorem pr2_wt : WT [] pr2T (.f TWO .t) := prd_wt alw_wt alw_wt
theorem boT_dp {a b : Tm} {d : Nat} (ha : a.dp ≤ d) (hb : b.dp ≤ d) (h2 : 2 ≤ d) : (boT a b).dp ≤ d + 5 := by
  unfold boT
  rw [eqT_dp, show pr2T.dp = 6 by rfl]
  simp only [Tm.dp]
  omega
theorem boT_sz (a b : Tm) : (boT a b).sz = 25 + a.sz + b.sz := by
  unfold boT
  rw [eqT_sz, show pr2T.sz = 18 by rfl]
  simp only [Tm.sz]
  omega
theorem imT_dp {a b : Tm} {d : Nat} (ha : a.dp ≤ d) (hb : b.dp ≤ d) (h2 : 2 ≤ d) : (imT a b).dp ≤ d + 7 := by
  have := boT_dp ha hb h2
  unfold imT
  rw [eqT_dp]
  omega
theorem imT_sz (a b : Tm) : (imT a b).sz = 28 + 2 * a.sz + b.sz := by
  have := boT_sz a b
  unfold imT
  rw [eqT_sz]
  omega
theorem allT_dp {y : Tx} {u : Srt} {t : Tm} {d : Nat} (h : t.dp ≤ d) (h2 : 2 ≤ d) : (allT y u t).dp ≤ d + 3 := by
  unfold allT
  rw [eqT_dp]
  simp only [Tm.dp, (ov_sz y u t 0).2, show alwT.dp = 3 by rfl]
  omega
theorem allT_sz (y : Tx) (u : Srt) (t : Tm) : (allT y u t).sz = 12 + t.sz := by
  unfold allT
  rw [eqT_sz]
  simp only [Tm.sz, (ov_sz y u t 0).1, show alwT.sz = 7 by rfl]
  omega
section
variable {a b t : Tm} {d z z' : Nat} {y : Tx} {u : Srt}
theorem Tr.bo (ha : Tr a d z) (hb : Tr b d z') (h2 : 2 ≤ d) : Tr (boT a b) (d + 5) (25 + z + z') :=
  ⟨eqT_wt (by decide) (prd_wt ha.ty hb.ty) pr2_wt, boT_dp ha.dp hb.dp h2, by rw [boT_sz]; have := ha.sz; have := hb.sz; omega⟩
theorem Tr.im (ha : Tr a d z) (hb : Tr b d z') (h2 : 2 ≤ d) : Tr (imT a b) (d + 7) (28 + 2 * z + z') :=
  ⟨eqT_wt (by decide) (ha.bo hb h2).ty ha.ty, imT_dp ha.dp hb.dp h2, by rw [imT_sz]; have := ha.sz; have := hb.sz; omega⟩
theorem ovl_wt (ht : WT [] t .t) (hu : u.dp ≤ 4) : WT [] (.lam u (ovT y u t 0)) (.f u .t) := .lam (by simp only [Srt.dp]; omega) (WT.ov (ar := []) y u ht)
theorem allam_wt (hu : u.dp ≤ 4) : WT [] (.lam u alwT) (.f u .t) := .lam (by simp only [Srt.dp]; omega) (weak1 alw_wt)
theorem Tr.all (ht : Tr t d z) (hu : u.dp ≤ 2) (h2 : 2 ≤ d) : Tr (allT y u t) (d + 3) (12 + z) :=
  ⟨eqT_wt (by simp only [Srt.dp]; omega) (ovl_wt ht.ty (by omega)) (allam_wt (by omega)), allT_dp ht.dp h2, by rw [allT_sz]; have := ht.sz; omega⟩
theorem Tr.eqs (ha : Tr a d z) (hb : Tr b d z') : Tr (eqT .t a b) (d + 2) (3 + z + z') :=
  ⟨eqT_wt (by decide) ha.ty hb.ty, by rw [eqT_dp]; have := ha.dp; have := hb.dp; omega, by rw [eqT_sz]; have := ha.sz; have := hb.sz; omega⟩
theorem Tr.alw : Tr alwT 3 7 := ⟨alw_wt, by decide, by decide⟩
theorem Tr.fv {y : Tx} (h : nmB y = true) : Tr (.free y .t) 0 1 := ⟨.free h (by decide), by simp [Tm.dp], by simp [Tm.sz]⟩
theorem nev_all : nevT = allT [122] .t (.free [122] .t) := by decide +kernel
theorem Tr.nev : Tr nevT 5 13 := by rw [nev_all]; exact (Tr.all ((Tr.fv (by decide)).mono (by decide) (Nat.le_refl _) : Tr _ 2 1) (by decide) (by decide))
/-! the program's words tell them -/
theorem boO_of (ha : Tr a d z) (hb : Tr b d z') (h2 : 2 ≤ d) (hd : d + 5 ≤ 40) (hz : 25 + z + z' ≤ 600) : boO a b = .ok (boT a b) := by
  have B := ha.bo hb h2
  unfold boO prO
  rw [ha.tr, hb.tr]
  have hp : bdT (.lam TWO (.of (.of (.bound 0) a) b)) = .ok (.lam TWO (.of (.of (.bound 0) a) b)) := bdT_of (prd_wt ha.ty hb.ty) (by have := ha.dp; have := hb.dp; simp only [Tm.dp]; omega) (by have := ha.sz; have := hb.sz; simp only [Tm.sz]; omega)
  rw [hp]
  simp only [Bool.and_true, if_true, Out.bind_ok]
  exact eqO_of (prd_wt ha.ty hb.ty) B.ty (by have := B.dp; exact Nat.le_trans this hd) (by have := B.sz; exact Nat.le_trans this hz)
theorem imO_of (ha : Tr a d z) (hb : Tr b d z') (h2 : 2 ≤ d) (hd : d + 7 ≤ 40) (hz : 28 + 2 * z + z' ≤ 600) : imO a b = .ok (imT a b) := by
  have I := ha.im hb h2
  unfold imO
  rw [boO_of ha hb h2 (by omega) (by have := ha.sz; omega), Out.bind_ok]
  exact eqO_of (ha.bo hb h2).ty I.ty (Nat.le_trans I.dp hd) (Nat.le_trans I.sz hz)
theorem allO_of (ht : Tr t d z) (hu : u.dp ≤ 2) (h2 : 2 ≤ d) (hd : d + 3 ≤ 40) (hz : 12 + z ≤ 600) : allO y u t = .ok (allT y u t) := by
  have A := ht.all (y := y) hu h2
  have hs := ov_sz y u t 0
  unfold allO
  rw [ht.tr, if_pos rfl, bdT_of (ovl_wt ht.ty (by omega)) (by simp only [Tm.dp, hs.2]; have := ht.dp; omega) (by simp only [Tm.sz, hs.1]; have := ht.sz; omega), Out.bind_ok,
    bdT_of (allam_wt (u := u) (by omega)) (by show 1 + alwT.dp ≤ 40; decide) (by show 1 + alwT.sz ≤ 600; decide), Out.bind_ok]
  exact eqO_of (ovl_wt ht.ty (by omega)) A.ty (Nat.le_trans A.dp hd) (Nat.le_trans A.sz hz)
theorem eqO_tr (ha : Tr a d z) (hb : Tr b d z') (hd : d + 2 ≤ 40) (hz : 3 + z + z' ≤ 600) : eqO a b = .ok (eqT .t a b) := by
  have E := ha.eqs hb
  exact eqO_of ha.ty E.ty (Nat.le_trans E.dp hd) (Nat.le_trans E.sz hz)
end
/-! ### the law's words -/
theorem law_alw (n : Nat) : R (n + 1) 140 [] = .ok alwT.d := alw_ok n
theorem law_all (n : Nat) {y : Tx} {u : Srt} {t : Tm} (hu : u.dp ≤ 4) (ht : WT [] t .t) (hd : t.dp ≤ 60) (hn : 70 < n) (hl : n ≤ 1000) : R n 161 [.tup [.str FREE, .str y, u.d], t.d] = .ok (allT y u t).d := by
  obtain ⟨m, rfl⟩ : ∃ m, n = m + 1 := ⟨n - 1, by omega⟩
  have o := over_ok y u (by omega) t m 0 (by omega)
  have o : R m 83 [t.d, .tup [.str FREE, .str y, u.d], .int 0] = .ok (ovT y u t 0).d := o
  have a : R m 140 [] = .ok alwT.d := by
    obtain ⟨k, rfl⟩ : ∃ k, m = k + 1 := ⟨m - 1, by omega⟩
    exact alw_ok k
  have e := equal_ok m (u := .lam u alwT) (ovl_wt (y := y) ht hu) (by simp only [Tm.dp, (ov_sz y u t 0).2]; omega) (by omega)
  have e : R m 52 [.tup [.str [102, 111, 114], u.d, (ovT y u t 0).d], .tup [.str [102, 111, 114], u.d, alwT.d]] = .ok (allT y u t).d := e
  (rw [R_at lib161 rfl]; simp only [F161, start, List.map_cons, List.map_nil, List.cons_append, List.nil_append, Nat.reduceSub, List.replicate, List.append_nil, Nat.sub_self])
  simp! [o, a, e]
theorem law_nev (n : Nat) (hn : 80 < n) (hl : n ≤ 1000) : R n 162 [] = .ok nevT.d := by
  obtain ⟨m, rfl⟩ : ∃ m, n = m + 1 := ⟨n - 1, by omega⟩
  have q := law_all m (y := [122]) (u := .t) (t := .free [122] .t) (by decide) (.free (by decide) (by decide)) (by simp [Tm.dp]) (by omega) (by omega)
  rw [← nev_all] at q
  have q : R m 161 [.tup [.str [102, 114, 101, 101], .str [122], .str [116]], .tup [.str [102, 114, 101, 101], .str [122], .str [116]]] = .ok nevT.d := q
  (rw [R_at lib162 rfl]; simp only [F162, start, List.map_cons, List.map_nil, List.cons_append, List.nil_append, Nat.reduceSub, List.replicate, List.append_nil, Nat.sub_self])
  simp! [q]
theorem law_both (n : Nat) {a b : Tm} (ha : WT [] a .t) (hb : WT [] b .t) (hd : a.dp ≤ 60) (hd2 : b.dp ≤ 60) (hn : 70 < n) (hl : n ≤ 1000) : R n 163 [a.d, b.d] = .ok (boT a b).d := by
  obtain ⟨m, rfl⟩ : ∃ m, n = m + 1 := ⟨n - 1, by omega⟩
  have al : R m 140 [] = .ok alwT.d := by
    obtain ⟨k, rfl⟩ : ∃ k, m = k + 1 := ⟨m - 1, by omega⟩
    exact alw_ok k
  have e := equal_ok m (u := pr2T) (prd_wt ha hb) (by simp only [Tm.dp]; omega) (by omega)
  have e : R m 52 [.tup [.str [102, 111, 114], .tup [.str [116], .tup [.str [116], .str [116]]], .tup [.str [111, 102], .tup [.str [111, 102], .tup [.str [98, 111, 117, 110, 100], .int 0], a.d], b.d]],
    .tup [.str [102, 111, 114], .tup [.str [116], .tup [.str [116], .str [116]]], .tup [.str [111, 102], .tup [.str [111, 102], .tup [.str [98, 111, 117, 110, 100], .int 0], alwT.d], alwT.d]]] = .ok (boT a b).d := e
  (rw [R_at lib163 rfl]; simp only [F163, start, List.map_cons, List.map_nil, List.cons_append, List.nil_append, Nat.reduceSub, List.replicate, List.append_nil, Nat.sub_self])
  simp! [al, e]
theorem law_imp (n : Nat) {a b : Tm} (ha : WT [] a .t) (hb : WT [] b .t) (hd : a.dp ≤ 50) (hd2 : b.dp ≤ 50) (hn : 80 < n) (hl : n ≤ 1000) : R n 164 [a.d, b.d] = .ok (imT a b).d := by
  obtain ⟨m, rfl⟩ : ∃ m, n = m + 1 := ⟨n - 1, by omega⟩
  have q := law_both m ha hb (by omega) (by omega) (by omega) (by omega)
  have hdp := boT_dp (a := a) (b := b) (d := 50) hd hd2 (by decide)
  have e := equal_ok m (t := boT a b) (u := a) (s := .t) (eqT_wt (by decide) (prd_wt ha hb) pr2_wt) (by omega) (by omega)
  (rw [R_at lib164 rfl]; simp only [F164, start, List.map_cons, List.map_nil, List.cons_append, List.nil_append, Nat.reduceSub, List.replicate, List.append_nil, Nat.sub_self])
  simp! [q, e]
  rfl
theorem oth_wt : WT [] othT .t := .free (by decide) (by decide)
theorem law_ei (n : Nat) {a b : Tm} (ha : Tr a 20 200) (hb : Tr b 20 200) (hn : 90 < n) (hl : n ≤ 1000) : R n 165 [a.d, b.d] = .ok (eiT a b).d := by
  obtain ⟨m, rfl⟩ : ∃ m, n = m + 1 := ⟨n - 1, by omega⟩
  have O : Tr othT 20 1 := (Tr.fv (by decide)).mono (by decide) (Nat.le_refl _)
  have I1 := ha.im O (by decide)
  have I2 := hb.im O (by decide)
  have I3 := I2.im (O.mono (d' := 27) (by decide) (Nat.le_refl _)) (by decide)
  have I4 := (I1.mono (d' := 34) (by decide) (Nat.le_refl _)).im I3 (by decide)
  have q1 : R m 164 [a.d, .tup [.str [102, 114, 101, 101], .str OTH, .str [116]]] = _ := law_imp m ha.ty O.ty (by have := ha.dp; omega) (by decide) (by omega) (by omega)
  have q2 : R m 164 [b.d, .tup [.str [102, 114, 101, 101], .str OTH, .str [116]]] = _ := law_imp m hb.ty O.ty (by have := hb.dp; omega) (by decide) (by omega) (by omega)
  have q3 : R m 164 [(imT b othT).d, .tup [.str [102, 114, 101, 101], .str OTH, .str [116]]] = _ := law_imp m I2.ty O.ty (by have := I2.dp; omega) (by decide) (by omega) (by omega)
  have q4 := law_imp m I1.ty I3.ty (by have := I1.dp; omega) (by have := I3.dp; omega) (by omega) (by omega)
  have q5 : R m 161 [.tup [.str [102, 114, 101, 101], .str OTH, .str [116]], _] = _ := law_all m (y := OTH) (u := .t) (by decide) I4.ty (by have := I4.dp; omega) (by omega) (by omega)
  (rw [R_at lib165 rfl]; simp only [F165, start, List.map_cons, List.map_nil, List.cons_append, List.nil_append, Nat.reduceSub, List.replicate, List.append_nil, Nat.sub_self])
  simp! [q1, q2, q3, q4, q5]
  rfl
theorem law_so (n : Nat) {y : Tx} {u : Srt} {t : Tm} (hu : u.dp ≤ 2) (ht : Tr t 20 200) (hn : 90 < n) (hl : n ≤ 1000) : R n 166 [.tup [.str FREE, .str y, u.d], t.d] = .ok (soT y u t).d := by
  obtain ⟨m, rfl⟩ : ∃ m, n = m + 1 := ⟨n - 1, by omega⟩
  have O : Tr othT 20 1 := (Tr.fv (by decide)).mono (by decide) (Nat.le_refl _)
  have I1 := ht.im O (by decide)
  have A1 := I1.all (y := y) hu (by decide)
  have I2 := A1.im (O.mono (d' := 30) (by decide) (Nat.le_refl _)) (by decide)
  have q1 : R m 164 [t.d, .tup [.str [102, 114, 101, 101], .str OTH, .str [116]]] = _ := law_imp m ht.ty O.ty (by have := ht.dp; omega) (by decide) (by omega) (by omega)
  have q2 := law_all m (y := y) (u := u) (by omega) I1.ty (by have := I1.dp; omega) (by omega) (by omega)
  have q3 : R m 164 [(allT y u (imT t othT)).d, .tup [.str [102, 114, 101, 101], .str OTH, .str [116]]] = _ := law_imp m A1.ty O.ty (by have := A1.dp; omega) (by decide) (by omega) (by omega)
  have q4 : R m 161 [.tup [.str [102, 114, 101, 101], .str OTH, .str [116]], _] = _ := law_all m (y := OTH) (u := .t) (by decide) I2.ty (by have := I2.dp; omega) (by omega) (by omega)
  (rw [R_at lib166 rfl]; simp only [F166, start, List.map_cons, List.map_nil, List.cons_append, List.nil_append, Nat.reduceSub, List.replicate, List.append_nil, Nat.sub_self])
  simp! [q1, q2, q3, q4]
  rfl
/-! ### a sentence with more given -/
/-- what is given, in its order; the claim -/
def sn (l : List Tm) (c : Tm) : Sn := ⟨byT l, c⟩
theorem sn_gd {l : List Tm} {c : Tm} (hl : ∀ t ∈ l, Gd t) (hc : Gd c) (hz : l.length ≤ 12) : GdS (sn l c) := ⟨byT_gd hl, hc, Nat.le_trans (byT_len l) hz⟩
theorem fo_sn {l m : List Tm} {c : Tm} (hm : ∀ t ∈ m, Gd t) (h : ∀ t, t ∈ l ↔ t ∈ m) (hz : m.length ≤ 12) : foO l c = .ok (sn m c) := fo_of (fun t ht => hm t ((h t).mp ht)) hm h hz
theorem suO_of {t : Tm} {d z : Nat} (h : Tr t d z) (hd : d ≤ 40) (hz : z ≤ 600) : suO t = .ok (sn [t] t) := by
  unfold suO
  rw [h.tr, if_pos rfl]
  exact fo_sn (fun u hu => by rw [List.mem_singleton.mp hu]; exact h.gd hd hz) (fun _ => Iff.rfl) (by simp)
theorem mem_bu {l : List Tm} {t u : Tm} : u ∈ buT l t ↔ u ∈ l ∧ u ≠ t := by
  unfold buT
  rw [List.mem_filter, decide_eq_true_eq]
/-- one more is given -/
theorem more_of {l : List Tm} {t o : Tm} {d z d' z' : Nat} (hl : ∀ u ∈ l, Gd u) (ht : Tr t d z) (ho : Tr o d z') (hd : d + 2 ≤ 40) (hz : 3 + z' + z ≤ 600) (hc : l.length ≤ 11) :
    ∃ s, eoO (sn [o] o) (sn l t) = .ok s ∧ GdS s ∧ caO s (sn [o] o) = .ok (sn (l ++ [o]) t) := by
  have go := ho.gd (by omega) (by omega)
  have gt := ht.gd (by omega) (by omega)
  have g1 : ∀ u ∈ [o], Gd u := fun u hu => by rw [List.mem_singleton.mp hu]; exact go
  have ge : Gd (eqT .t o t) := (ho.eqs ht).gd (by omega) (by omega)
  have hm : ∀ u, u ∈ buT (byT [o]) t ++ buT (byT l) o ↔ u ∈ buT [o] t ++ buT l o := fun u => by
    simp only [List.mem_append, mem_bu, mem_byT hl, mem_byT g1]
  have hg : ∀ u ∈ buT [o] t ++ buT l o, Gd u := fun u hu => by
    rcases List.mem_append.mp hu with q | q
    · exact g1 u (mem_bu.mp q).1
    · exact hl u (mem_bu.mp q).1
  have hlen : (buT [o] t ++ buT l o).length ≤ 12 := by
    have h1 := bu_len [o] t
    have h2 := bu_len l o
    simp only [List.length_append, List.length_cons, List.length_nil] at *
    omega
  refine ⟨sn (buT [o] t ++ buT l o) (eqT .t o t), ?_, sn_gd hg ge hlen, ?_⟩
  · unfold eoO
    show (eqO o t).bind _ = _
    rw [eqO_tr ho ht (by omega) (by omega), Out.bind_ok]
    exact fo_sn hg hm hlen
  · unfold caO
    show (if o = (sn [o] o).cl then foO (byT (buT [o] t ++ buT l o) ++ byT [o]) t else .exc 0 []) = _
    rw [if_pos (show o = (sn [o] o).cl from rfl)]
    refine fo_sn (fun u hu => ?_) (fun u => ?_) (by simp only [List.length_append, List.length_cons, List.length_nil]; omega)
    · rcases List.mem_append.mp hu with q | q
      · exact hl u q
      · exact g1 u q
    · show u ∈ byT (buT [o] t ++ buT l o) ++ byT [o] ↔ _
      simp only [List.mem_append, mem_byT hg, mem_byT g1, mem_bu, List.mem_singleton]
      by_cases e : u = o <;> simp [e]
/-- claimed -/
theorem clm_ok (n : Nat) {t : Tm} {l : List Tm} {d z z' : Nat} (ht : Tr t d z) (hl : ∀ o ∈ l, Tr o d z') (hd : d + 2 ≤ 40) (hz : 3 + z' + z ≤ 600) (hc : l.length ≤ 10) (hn : 120 < n) (hn' : n ≤ 1000) :
    R n 132 [t.d, .lst (l.map Tm.d)] = .ok (sn (t :: l) t).d := by
  obtain ⟨m, rfl⟩ : ∃ m, n = m + 1 := ⟨n - 1, by omega⟩
  have gt := ht.gd (by omega) (by omega)
  obtain ⟨k1, _⟩ := ans_ok (su_ok m gt (by omega) (by omega)) (suO_of ht (by omega) (by omega))
  have key : ∀ (l2 pre : List Tm) (s : Sl), (∀ o ∈ pre, Gd o) → (∀ o ∈ l2, Tr o d z') → pre.length + l2.length ≤ 11 → ∃ s', kFor (R m) 2000 3 [.set 2 (.call 126 [(.call 127 [(.call 125 [(.var 3)]), (.var 2)]), (.call 125 [(.var 3)])])] [.val t.d, .val (.lst (l.map Tm.d)), .val (sn (pre) t).d, s] (l2.map Tm.d) =
      .nxt [.val t.d, .val (.lst (l.map Tm.d)), .val (sn (pre ++ l2) t).d, s'] := by
    intro l2
    induction l2 with
    | nil => intro pre s _ _ _; exact ⟨s, by rw [List.append_nil]; rfl⟩
    | cons o l2 ih =>
      intro pre s hp h2 hlen
      simp only [List.length_cons] at hlen
      have ho := h2 o List.mem_cons_self
      have go := ho.gd (by omega) (by omega)
      obtain ⟨x, e1, gx, e2⟩ := more_of hp ht ho hd (by omega) (by omega) (d' := d) (z' := z') 
      obtain ⟨j1, S1⟩ := ans_ok (su_ok m go (by omega) (by omega)) (suO_of ho (by omega) (by omega))
      obtain ⟨j2, _⟩ := ans_ok (eo_ok m S1 (sn_gd hp gt (by omega)) (by omega) (by omega)) e1
      obtain ⟨j3, _⟩ := ans_ok (ca_ok m gx S1 (by omega) (by omega)) e2
      obtain ⟨s', q⟩ := ih (pre ++ [o]) (.val o.d) (fun u hu => by
        rcases List.mem_append.mp hu with z | z
        · exact hp u z
        · rw [List.mem_singleton.mp z]; exact go) (fun u hu => h2 u (List.mem_cons_of_mem _ hu)) (by simp only [List.length_append, List.length_cons, List.length_nil]; omega)
      refine ⟨s', ?_⟩
      rw [List.append_assoc, List.singleton_append] at q
      unfold kFor at q ⊢
      rw [List.map_cons, forGo]
      dsimp only
      have e : evSs (R m) 2000 [.set 2 (.call 126 [(.call 127 [(.call 125 [(.var 3)]), (.var 2)]), (.call 125 [(.var 3)])])] (([.val t.d, .val (.lst (l.map Tm.d)), .val (sn pre t).d, s] : Env).set 3 (.val o.d)) = .nxt [.val t.d, .val (.lst (l.map Tm.d)), .val (sn (pre ++ [o]) t).d, .val o.d] := by
        simp! [j1, j2, j3]
      rw [e]
      exact q
  obtain ⟨s', q⟩ := key l [t] .no (fun o ho => by rw [List.mem_singleton.mp ho]; exact gt) hl (by simp only [List.length_cons, List.length_nil]; omega)
  (rw [R_at lib132 rfl]; simp only [F132, start, List.map_cons, List.map_nil, List.cons_append, List.nil_append, Nat.reduceSub, List.replicate, List.append_nil, Nat.sub_self])
  simp! [k1, q]
  rfl
/-- the law's look at a sentence -/
theorem rgt_go (n : Nat) (v0 x v2 : D) (hn : 100 < n) : ∀ (l : List Tm) (kv : List (Tx × Tm)) (s : Sl), (∀ t ∈ l, Gd t) → kv.length + l.length ≤ 1000 →
    ∃ s', kFor (R n) 2000 4 [.put 3 (.call 58 [.var 4]) (.var 4)] [.val v0, .val x, .val v2, .own (.dic false (kvD kv)), s, .no, .no] (l.map Tm.d) = .nxt [.val v0, .val x, .val v2, .own (.dic false (kvD (kvL l kv))), s', .no, .no]
  | [], kv, s, _, _ => ⟨s, rfl⟩
  | t :: l, kv, s, h, hz => by
    have g := h t List.mem_cons_self
    have q := written_ok t n g.ok (by have := g.sz; omega) (by have := g.dp; omega)
    have lp := pu_len kv (wr t) t
    simp only [List.length_cons] at hz
    obtain ⟨s', ih⟩ := rgt_go n v0 x v2 hn l (puT kv (wr t) t) (.val t.d) (fun u hu => h u (List.mem_cons_of_mem _ hu)) (by omega)
    refine ⟨s', ?_⟩
    unfold kFor at ih ⊢
    rw [List.map_cons, forGo]
    dsimp only
    have hl : (kvD kv).length < SZ := Nat.lt_of_le_of_lt (show (kvD kv).length ≤ 1000 by simp only [kvD, List.length_map]; omega) (by decide)
    have kp : ∀ ρ : Env, kPutD ρ 3 false (kvD kv) t.d (.str (wr t)) = .nxt (ρ.set 3 (.own (.dic false (kvD (puT kv (wr t) t))))) := fun ρ => by
      rw [kPutD_ok 3 false (kvD kv) t.d (.str (wr t)) rfl hl, put_kv]
    have e1 : evSs (R n) 2000 [.put 3 (.call 58 [.var 4]) (.var 4)] (([.val v0, .val x, .val v2, .own (.dic false (kvD kv)), s, .no, .no] : Env).set 4 (.val t.d)) = .nxt [.val v0, .val x, .val v2, .own (.dic false (kvD (puT kv (wr t) t))), .val t.d, .no, .no] := by
      simp! [q, kp]
    rw [e1]
    exact ih
theorem rgt_ok (n : Nat) {s : Sn} {l : List Tm} {c : Tm} (hl : ∀ t ∈ l, Gd t) (hz : l.length ≤ 60) (hs : ∀ t ∈ s.gs, t.d.dep ≤ 60) (hc : Gd c) (hn : 101 < n) (hb : s = sn l c) : R n 133 [s.d, .lst (l.map Tm.d), c.d] = .ok (.bl true) := by
  obtain ⟨m, rfl⟩ : ∃ m, n = m + 1 := ⟨n - 1, by omega⟩
  obtain ⟨s', q⟩ := rgt_go m s.d (.lst (l.map Tm.d)) c.d (by omega) l [] .no hl (by simp; omega)
  have q : kFor (R m) 2000 4 [.put 3 (.call 58 [.var 4]) (.var 4)] [.val s.d, .val (.lst (l.map Tm.d)), .val c.d, .own (.dic false []), .no, .no, .no] (l.map Tm.d) = _ := q
  have kl := kvL_len l []
  have so : biD .sorted [.dic false (kvD (kvL l []))] = .ok (.lst ((sortT ((kvL l []).map (·.1))).map .str)) := by
    simp only [biD, txs_kv, Out.bind_ok]
    rw [if_pos (by simp only [List.length_map]; simp at kl; omega)]
  (rw [R_at lib133 rfl]; simp only [F133, start, List.map_cons, List.map_nil, List.cons_append, List.nil_append, Nat.reduceSub, List.replicate, List.append_nil, Nat.sub_self])
  simp! [kDcB_nil, q, so, kGo]
  rw [compGo_map (fun d => match d with
    | .str k => (geT (kvL l []) k).d
    | _ => .non) (fun _ => rfl) (fun d hd => by
      obtain ⟨k, hk, rfl⟩ := List.mem_map.mp hd
      rw [sort_mem] at hk
      obtain ⟨e, _⟩ := get_kv _ _ hk
      have e2 : subD (.dic false (kvD (kvL l []))) (.str k) = .ok (geT (kvL l []) k).d := by
        simp only [subD, keyB, Bool.not_false, if_true, e]; rfl
      simp! [e2])]
  have lb := byT_len l
  have em : ((sortT ((kvL l []).map (·.1))).map D.str).map (fun d => match d with
    | .str k => (geT (kvL l []) k).d
    | _ => .non) = (byT l).map Tm.d := by
    unfold byT
    rw [List.map_map, List.map_map]
    rfl
  rw [em]
  have e1 : eqD (.tup (s.gs.map Tm.d)) (.tup ((byT l).map Tm.d)) = .ok true := by
    rw [eqD_tupL hs, hb]; exact congrArg Out.ok (decide_eq_true rfl)
  have e2 : eqD s.cl.d c.d = .ok true := by
    rw [Tm.eqD s.cl c (by have := hc.dd; omega), hb]; exact congrArg Out.ok (decide_eq_true rfl)
  have hi : kInst (.cls 8) s.d = .ok (.bl true) := rfl
  have f0 : kFld 0 s.d = .ok (.tup (s.gs.map Tm.d)) := rfl
  have f1 : kFld 1 s.d = .ok s.cl.d := rfl
  simp! [kLst, List.length_map, sz_le (show (byT l).length ≤ 1000000 by omega), hi, f0, f1, e1, e2]
end Rf

/-! part RfLs -/
set_option autoImplicit false
set_option linter.all false
set_option Elab.async false
set_option maxRecDepth 100000
set_option maxHeartbeats 4000000
/-! RfLs: rules of sentences in their order; what the laws of rules draw. -/
namespace Rf
theorem v_cons (t : Tm) (l : List Tm) (h : l.length ≤ 1000) : bopD .add (.lst [t.d]) (.lst (l.map Tm.d)) = .ok (.lst ((t :: l).map Tm.d)) := v_addL _ _ (sz_le (by simp only [List.length_map, List.length_cons, List.length_nil]; omega))
theorem v_snoc (t : Tm) (l : List Tm) (h : l.length ≤ 1000) : bopD .add (.lst (l.map Tm.d)) (.lst [t.d]) = .ok (.lst ((l ++ [t]).map Tm.d)) := by
  rw [List.map_append]
  exact v_addL _ _ (sz_le (by simp only [List.length_map, List.length_cons, List.length_nil]; omega))
theorem v_app (l m : List Tm) (h : l.length ≤ 1000) (h2 : m.length ≤ 1000) : bopD .add (.lst (l.map Tm.d)) (.lst (m.map Tm.d)) = .ok (.lst ((l ++ m).map Tm.d)) := by
  rw [List.map_append]
  exact v_addL _ _ (sz_le (by simp only [List.length_map]; omega))
theorem gd_cons {t : Tm} {l : List Tm} (h : Gd t) (hl : ∀ u ∈ l, Gd u) : ∀ u ∈ t :: l, Gd u := fun u hu => by
  rcases List.mem_cons.mp hu with rfl | hu
  · exact h
  · exact hl u hu
theorem gd_app {l m : List Tm} (hl : ∀ u ∈ l, Gd u) (hm : ∀ u ∈ m, Gd u) : ∀ u ∈ l ++ m, Gd u := fun u hu => (List.mem_append.mp hu).elim (hl u) (hm u)
theorem gd_bu {l : List Tm} {t : Tm} (hl : ∀ u ∈ l, Gd u) : ∀ u ∈ buT l t, Gd u := fun u hu => hl u (mem_bu.mp hu).1
theorem gd_nil : ∀ u ∈ ([] : List Tm), Gd u := fun u hu => by cases hu
theorem sn_dd {l : List Tm} {c : Tm} (hl : ∀ t ∈ l, Gd t) : ∀ t ∈ (sn l c).gs, t.d.dep ≤ 60 := fun t ht => by have := (hl t (byT_mem ht)).dd; omega
theorem fo_by {l : List Tm} {c : Tm} (hl : ∀ t ∈ l, Gd t) (hz : l.length ≤ 12) : foO (byT l) c = .ok (sn l c) := fo_sn hl (fun _ => mem_byT hl) hz
theorem fo_by2 {l m : List Tm} {c : Tm} (hl : ∀ t ∈ l, Gd t) (hm : ∀ t ∈ m, Gd t) (hz : (l ++ m).length ≤ 12) : foO (byT l ++ byT m) c = .ok (sn (l ++ m) c) :=
  fo_sn (gd_app hl hm) (fun t => by rw [List.mem_append, List.mem_append, mem_byT hl, mem_byT hm]) hz
theorem fo_bu {l : List Tm} {t c : Tm} (hl : ∀ t ∈ l, Gd t) (hz : l.length ≤ 12) : foO (buT (byT l) t) c = .ok (sn (buT l t) c) :=
  fo_sn (gd_bu hl) (fun u => by rw [mem_bu, mem_bu, mem_byT hl]) (Nat.le_trans (bu_len _ _) hz)
theorem bp_bo {p q : Tm} (P : Gd p) (Q : Gd q) : bpO (boT p q) = .ok (p, q) := by
  show (if _ then _ else _) = _
  rw [if_pos ⟨rfl, rfl, rfl, P.it, Q.it⟩]
theorem ip_im {p q : Tm} (P : Gd p) (Q : Gd q) : ipO (imT p q) = .ok (p, q) := by
  show (bpO (boT p q)).bind _ = _
  rw [bp_bo P Q, Out.bind_ok]
  exact if_pos rfl
/-- it_is -/
def iiO (a : Sn) : Out Sn := (eqO a.cl alwT).bind fun c => foO a.gs c
theorem ii_ok (n : Nat) {a : Sn} (A : GdS a) (hn : 110 < n) (hl : n ≤ 1000) : Ans (R n 180 [a.d]) (iiO a) := by
  obtain ⟨m, rfl⟩ : ∃ m, n = m + 1 := ⟨n - 1, by omega⟩
  have al : R m 140 [] = .ok alwT.d := by
    obtain ⟨k, rfl⟩ : ∃ k, m = k + 1 := ⟨m - 1, by omega⟩
    exact alw_ok k
  have e := eqO_ok m A.cl alw_gd (by omega) (by omega)
  rw [R_at lib180 rfl]
  simp only [F180, start, List.map_cons, List.map_nil, List.cons_append, List.nil_append, Nat.reduceSub, List.replicate, List.append_nil, Nat.sub_self]
  unfold iiO
  simp only [Sn.d]
  cases h : eqO a.cl alwT with
  | ok c =>
    rw [h] at e
    have gc := eqO_gd A.cl alw_gd h
    have f := fo_ok m (itT a.gs) A.gs (by have := A.len; omega) gc (by omega) (by omega)
    exact ans_fo (by simp! [al, e, f]) A.gs gc
  | exc c fs =>
    rw [h] at e
    exact ⟨by simp! [al, e, mpx], fun s q => by cases q⟩
  | bad =>
    unfold eqO bdT at h
    split at h <;> cases h
theorem ta_ok (n : Nat) (hn : 110 < n) (hl : n ≤ 1000) : R n 182 [] = .ok (sn [] alwT).d := by
  obtain ⟨m, rfl⟩ : ∃ m, n = m + 1 := ⟨n - 1, by omega⟩
  have al : R m 140 [] = .ok alwT.d := by
    obtain ⟨k, rfl⟩ : ∃ k, m = k + 1 := ⟨m - 1, by omega⟩
    exact alw_ok k
  have f : R m 118 [.tup [], alwT.d] = _ := fo_ok m (l := []) rfl (by simp) (by simp) alw_gd (by omega) (by omega)
  rw [fo_sn (l := []) (m := []) (by simp) (fun _ => Iff.rfl) (by simp)] at f
  (rw [R_at lib182 rfl]; simp only [F182, start, List.map_cons, List.map_nil, List.cons_append, List.nil_append, Nat.reduceSub, List.replicate, List.append_nil, Nat.sub_self])
  simp! [al, f]
/-- never_used -/
def nuO (a : Sn) (t : Tm) : Out Sn := if isTr t then (if a.cl = nevT then foO a.gs t else .exc 0 []) else .exc 0 []
theorem nu_ok (n : Nat) {a : Sn} {t : Tm} (A : GdS a) (h : Gd t) (hn : 112 < n) (hl : n ≤ 1000) : Ans (R n 183 [a.d, t.d]) (nuO a t) := by
  obtain ⟨m, rfl⟩ : ∃ m, n = m + 1 := ⟨n - 1, by omega⟩
  have q := ntr_ok m h (by omega) (by omega)
  have nv := nev_ok m (by omega) (by omega)
  have e := Tm.eqD a.cl nevT (by have := A.cl.dd; omega)
  have f := fo_ok m (itT a.gs) A.gs (by have := A.len; omega) h (by omega) (by omega)
  rw [R_at lib183 rfl]
  simp only [F183, start, List.map_cons, List.map_nil, List.cons_append, List.nil_append, Nat.reduceSub, List.replicate, List.append_nil, Nat.sub_self]
  unfold nuO
  simp only [Sn.d]
  cases ht : isTr t with
  | false =>
    rw [ht] at q
    exact ans_exc (by simp! [q])
  | true =>
    rw [ht] at q
    by_cases hc : a.cl = nevT
    · rw [if_pos rfl, if_pos hc]
      exact ans_fo (by simp! [q, nv, e, decide_eq_true hc, f]) A.gs h
    · rw [if_pos rfl, if_neg hc]
      exact ans_exc (by simp! [q, nv, e, decide_eq_false hc])
/-- but one, as the laws write it -/
theorem cmp_bu {call : Nat → List D → Out D} {x j : Nat} {ρ : Env} {l : List Tm} {t : Tm} (ht : t.d.dep ≤ 64) (hx : ∀ u, getV (ρ.set x (.val u)) x = .ok u) (hj : ∀ u, getV (ρ.set x (.val u)) j = .ok t.d) :
    kGo call x (.var x) (.cmp .ne (.var x) (.var j)) ρ (l.map Tm.d) = .ok ((buT l t).map Tm.d) := by
  unfold kGo
  rw [compGo_all (f := id) (fun d => !(d.eqv t.d)) (fun d hd => by
    obtain ⟨u, hu, rfl⟩ := List.mem_map.mp hd
    have e := Tm.eqD u t (by omega)
    refine ⟨?_, fun _ => by rw [evE_var, hx]; rfl⟩
    rw [evE_cmp, evE_var, hx, Out.bind_ok, kCmp_ok, evE_var, hj, Out.bind_ok]
    simp only [cmpD, e, Out.map_ok, Out.bind_ok, truthy_bl, Tm.eqv])]
  rw [List.map_id]
  congr 1
  unfold buT
  induction l with
  | nil => rfl
  | cons u l ih =>
    simp only [List.map_cons, List.filter_cons, Tm.eqv, ih]
    by_cases e : u = t <;> simp [e]
/-- terms that are drawn, as a list -/
theorem tms_of {P : Tm → Prop} : ∀ {ys : List D}, (∀ y ∈ ys, ∃ t, y = Tm.d t ∧ P t) → ∃ ts : List Tm, ys = ts.map Tm.d ∧ ∀ t ∈ ts, P t
  | [], _ => ⟨[], rfl, fun t h => by cases h⟩
  | y :: ys, h => by
    obtain ⟨t, rfl, p⟩ := h y List.mem_cons_self
    obtain ⟨ts, rfl, q⟩ := tms_of fun z hz => h z (List.mem_cons_of_mem _ hz)
    exact ⟨t :: ts, rfl, fun u hu => by
      rcases List.mem_cons.mp hu with rfl | hu
      · exact p
      · exact q u hu⟩
theorem Pt.tr {m : Nat} {t : Tm} (p : Pt m [] .t t) (h : m ≤ 2) : Tr t 4 13 := by
  have h1 := p.sz
  have h2 := p.dp
  have : 2 ^ (m + 2) ≤ 2 ^ 4 := Nat.pow_le_pow_right (by decide) (by omega)
  exact ⟨p.ty, by omega, by omega⟩
theorem mod2 (v e : Int) : ∃ m : Nat, 1 + v / e % 2 = (m : Int) ∧ m ≤ 2 := by
  have a := Int.emod_nonneg (v / e) (show (2 : Int) ≠ 0 by decide)
  have b := Int.emod_lt_of_pos (v / e) (show (0 : Int) < 2 by decide)
  obtain ⟨m, hm⟩ := Int.eq_ofNat_of_zero_le (show 0 ≤ 1 + v / e % 2 by omega)
  exact ⟨m, hm, by omega⟩
theorem mod2' (v : Int) : ∃ m : Nat, 1 + v % 2 = (m : Int) ∧ m ≤ 2 := by
  have := mod2 v 1
  rwa [Int.ediv_one] at this
theorem mod3z (v e : Int) : ∃ m : Nat, v / e % 3 = (m : Int) ∧ m ≤ 2 := by
  have a := Int.emod_nonneg (v / e) (show (3 : Int) ≠ 0 by decide)
  have b := Int.emod_lt_of_pos (v / e) (show (0 : Int) < 3 by decide)
  obtain ⟨m, hm⟩ := Int.eq_ofNat_of_zero_le a
  exact ⟨m, hm, by omega⟩
/-- every second number -/
theorem rng2 {b : Int} (h0 : 0 ≤ b) (h1 : b ≤ 1000) : ∃ k : Nat, rngD [.int 0, .int b, .int 2] = .ok (rngL 0 2 k) := by
  refine ⟨(rngSz 0 b 2).toNat, ?_⟩
  have s1 : small62 0 = true := by decide
  have s2 : small62 b = true := by
    simp only [small62, Bool.and_eq_true, decide_eq_true_eq]
    constructor <;> omega
  simp only [rngD, s1, s2, Bool.true_and]
  rfl
theorem mxmn (n k : Nat) : ∃ b : Int, (if (if ((n : Nat) : Int) < (k : Int) then ((n : Nat) : Int) else (k : Int)) > 2 then (if ((n : Nat) : Int) < (k : Int) then ((n : Nat) : Int) else (k : Int)) else 2) = b ∧ 0 ≤ b ∧ b ≤ (k : Int) + 2 := by
  refine ⟨_, rfl, ?_, ?_⟩ <;> (split <;> (try split) <;> omega)
abbrev Dr (t : Tm) : Prop := Tr t 4 13
theorem Tr.g {t : Tm} (h : Dr t) : Gd t := h.gd (by decide) (by decide)
theorem dr_gd {l : List Tm} (h : ∀ t ∈ l, Dr t) : ∀ t ∈ l, Gd t := fun t ht => (h t ht).g
abbrev endT : Tm := .free [101, 110, 100, 49] .t
abbrev xiT : Tm := .free [120] .i
theorem end_tr : Dr endT := (Tr.fv (by decide)).mono (by decide) (by decide)
theorem xi_gd : Gd xiT := .of (s := .i) (.free (by decide) (by decide)) (by simp [Tm.dp]) (by simp [Tm.sz])
theorem ne_end {t : Tm} (h : t.drw) : t ≠ endT := fun e => by
  rw [e] at h
  exact absurd h.1 (by decide)
theorem kFin_bl (b : Bool) : kFin true (.bl b) = .ok (.bl b) := rfl
theorem evs_app {call : Nat → List D → Out D} {w : Nat} (a b : List S) (ρ : Env) : evSs call w (a ++ b) ρ = (evSs call w a ρ).seq (evSs call w b) := by
  induction a generalizing ρ with
  | nil => rfl
  | cons s a ih =>
    rw [List.cons_append, evSs_cons, evSs_cons]
    cases evS call w s ρ with
    | nxt ρ' => rw [seq_nxt, seq_nxt, ih]
    | _ => rfl
end Rf

/-! part RfK29a -/
set_option autoImplicit false
set_option linter.all false
set_option Elab.async false
set_option maxRecDepth 100000
set_option maxHeartbeats 4000000
/-! RfK29a: terms unfolded step by step to the end. -/
namespace Rf
def liT (c : Nat) : Tm → Nat → Tm
  | .free x s, _ => .free x s
  | .bound k, l => if l ≤ k then .bound (k + c) else .bound k
  | .same s, _ => .same s
  | .lam s b, l => .lam s (liT c b (l + 1))
  | .of a b, l => .of (liT c a l) (liT c b l)
def opG (o : Tm) : Tm → Nat → Tm
  | .free x s, _ => .free x s
  | .bound k, l => if k = l then liT l o 0 else if l < k then .bound (k - 1) else .bound k
  | .same s, _ => .same s
  | .lam s b, l => .lam s (opG o b (l + 1))
  | .of a b, l => .of (opG o a l) (opG o b l)
theorem liT_ok (c : Nat) : ∀ (t : Tm) (n l : Nat), t.dp < n → R n 85 [t.d, .int c, .int l] = .ok (liT c t l).d
  | t, 0, _, h => by omega
  | .free x s, n + 1, l, h => by (rw [R_at lib85 rfl]; simp only [F85, start, List.map_cons, List.map_nil, List.cons_append, List.nil_append, Nat.reduceSub, List.replicate, List.append_nil, Nat.sub_self]); simp only [Tm.d]; simp! [tg_rr, tg_rb, tg_rs, tg_rl, tg_ro]; rfl
  | .bound k, n + 1, l, h => by
    (rw [R_at lib85 rfl]; simp only [F85, start, List.map_cons, List.map_nil, List.cons_append, List.nil_append, Nat.reduceSub, List.replicate, List.append_nil, Nat.sub_self])
    simp only [Tm.d, liT]
    by_cases e : l ≤ k
    · rw [if_pos e]; simp! [tg_br, tg_bb, tg_bs, tg_bl, tg_bo, decide_eq_true (show (l : Int) ≤ (k : Int) by omega)]; rfl
    · rw [if_neg e]; simp! [tg_br, tg_bb, tg_bs, tg_bl, tg_bo, decide_eq_false (show ¬ (l : Int) ≤ (k : Int) by omega)]; rfl
  | .same s, n + 1, l, h => by (rw [R_at lib85 rfl]; simp only [F85, start, List.map_cons, List.map_nil, List.cons_append, List.nil_append, Nat.reduceSub, List.replicate, List.append_nil, Nat.sub_self]); simp only [Tm.d]; simp! [tg_sr, tg_sb, tg_ss, tg_sl, tg_so]; rfl
  | .lam s b, n + 1, l, h => by
    have ih := liT_ok c b n (l + 1) (by simp only [Tm.dp] at h; omega)
    have ih : R n 85 [b.d, .int c, .int ((l : Int) + 1)] = .ok (liT c b (l + 1)).d := by rw [← ih]; rfl
    (rw [R_at lib85 rfl]; simp only [F85, start, List.map_cons, List.map_nil, List.cons_append, List.nil_append, Nat.reduceSub, List.replicate, List.append_nil, Nat.sub_self]); simp only [Tm.d]; simp! [tg_lr, tg_lb, tg_ls, tg_ll, tg_lo, ih]; rfl
  | .of a b, n + 1, l, h => by
    have i1 := liT_ok c a n l (by simp only [Tm.dp] at h; omega)
    have i2 := liT_ok c b n l (by simp only [Tm.dp] at h; omega)
    (rw [R_at lib85 rfl]; simp only [F85, start, List.map_cons, List.map_nil, List.cons_append, List.nil_append, Nat.reduceSub, List.replicate, List.append_nil, Nat.sub_self]); simp only [Tm.d]; simp! [tg_or, tg_ob, tg_os, tg_ol, tg_oo, i1, i2]; rfl
theorem v_intT : biD .int [.bl true] = .ok (.int 1) := rfl
theorem opG_ok (o : Tm) : ∀ (t : Tm) (n l : Nat), t.dp + o.dp + 1 < n → R n 86 [t.d, o.d, .int l] = .ok (opG o t l).d
  | t, 0, _, h => by omega
  | .free x s, n + 1, l, h => by (rw [R_at lib86 rfl]; simp only [F86, start, List.map_cons, List.map_nil, List.cons_append, List.nil_append, Nat.reduceSub, List.replicate, List.append_nil, Nat.sub_self]); simp only [Tm.d]; simp! [tg_rr, tg_rb, tg_rs, tg_rl, tg_ro]; rfl
  | .bound k, n + 1, l, h => by
    have lf := liT_ok l o n 0 (by simp only [Tm.dp] at h; omega)
    have lf : R n 85 [o.d, .int l, .int 0] = .ok (liT l o 0).d := lf
    simp only [opG]
    by_cases hk : k = l
    · subst hk
      rw [if_pos rfl]
      (rw [R_at lib86 rfl]; simp only [F86, start, List.map_cons, List.map_nil, List.cons_append, List.nil_append, Nat.reduceSub, List.replicate, List.append_nil, Nat.sub_self]); simp only [Tm.d]; simp! [tg_br, tg_bb, tg_bs, tg_bl, tg_bo, show ((k : Int) == (k : Int)) = true from beq_self_eq_true _, lf]
    · rw [if_neg hk]
      have e : ((k : Int) == (l : Int)) = false := by rw [beq_eq_false_iff_ne]; omega
      by_cases h2 : l < k
      · rw [if_pos h2]
        have e3 : (k : Int) - 1 = ((k - 1 : Nat) : Int) := by omega
        (rw [R_at lib86 rfl]; simp only [F86, start, List.map_cons, List.map_nil, List.cons_append, List.nil_append, Nat.reduceSub, List.replicate, List.append_nil, Nat.sub_self]); simp only [Tm.d]; simp! [tg_br, tg_bb, tg_bs, tg_bl, tg_bo, e, decide_eq_true (show (l : Int) < (k : Int) by omega), v_intT, e3]
      · rw [if_neg h2]
        (rw [R_at lib86 rfl]; simp only [F86, start, List.map_cons, List.map_nil, List.cons_append, List.nil_append, Nat.reduceSub, List.replicate, List.append_nil, Nat.sub_self]); simp only [Tm.d]; simp! [tg_br, tg_bb, tg_bs, tg_bl, tg_bo, e, decide_eq_false (show ¬ (l : Int) < (k : Int) by omega), v_intF]
  | .same s, n + 1, l, h => by (rw [R_at lib86 rfl]; simp only [F86, start, List.map_cons, List.map_nil, List.cons_append, List.nil_append, Nat.reduceSub, List.replicate, List.append_nil, Nat.sub_self]); simp only [Tm.d]; simp! [tg_sr, tg_sb, tg_ss, tg_sl, tg_so]; rfl
  | .lam s b, n + 1, l, h => by
    have ih := opG_ok o b n (l + 1) (by simp only [Tm.dp] at h; omega)
    have ih : R n 86 [b.d, o.d, .int ((l : Int) + 1)] = .ok (opG o b (l + 1)).d := by rw [← ih]; rfl
    (rw [R_at lib86 rfl]; simp only [F86, start, List.map_cons, List.map_nil, List.cons_append, List.nil_append, Nat.reduceSub, List.replicate, List.append_nil, Nat.sub_self]); simp only [Tm.d]; simp! [tg_lr, tg_lb, tg_ls, tg_ll, tg_lo, ih]; rfl
  | .of a b, n + 1, l, h => by
    have i1 := opG_ok o a n l (by simp only [Tm.dp] at h; omega)
    have i2 := opG_ok o b n l (by simp only [Tm.dp] at h; omega)
    (rw [R_at lib86 rfl]; simp only [F86, start, List.map_cons, List.map_nil, List.cons_append, List.nil_append, Nat.reduceSub, List.replicate, List.append_nil, Nat.sub_self]); simp only [Tm.d]; simp! [tg_or, tg_ob, tg_os, tg_ol, tg_oo, i1, i2]; rfl
theorem li_dp (c : Nat) : ∀ (t : Tm) (l : Nat), (liT c t l).dp = t.dp
  | .free _ _, _ => rfl
  | .bound k, l => by simp only [liT]; split <;> rfl
  | .same _, _ => rfl
  | .lam s b, l => by simp only [liT, Tm.dp, li_dp c b]
  | .of a b, l => by simp only [liT, Tm.dp, li_dp c a, li_dp c b]
theorem opG_dp (o : Tm) : ∀ (t : Tm) (l : Nat), (opG o t l).dp ≤ t.dp + o.dp
  | .free _ _, _ => by simp [opG, Tm.dp]
  | .bound k, l => by
    simp only [opG]
    split
    · rw [li_dp]; simp [Tm.dp]
    · split <;> simp [Tm.dp]
  | .same _, _ => by simp [opG, Tm.dp]
  | .lam s b, l => by have := opG_dp o b (l + 1); simp only [opG, Tm.dp]; omega
  | .of a b, l => by have := opG_dp o a l; have := opG_dp o b l; simp only [opG, Tm.dp]; omega
theorem WT.lift {a1 mid : List Srt} : ∀ {t : Tm} {a2 : List Srt} {s : Srt}, WT (a1 ++ a2) t s → WT (a1 ++ mid ++ a2) (liT mid.length t a2.length) s
  | .free x s, a2, _, h => by cases h with | free h1 h2 => exact .free h1 h2
  | .same s, a2, _, h => by cases h with | same h => exact .same h
  | .bound k, a2, s, h => by
    cases h with
    | bound h1 h2 =>
      rw [List.length_append] at h1 h2
      simp only [liT]
      by_cases e : a2.length ≤ k
      · rw [if_pos e]
        rw [List.getElem?_append_left (by omega)] at h2
        refine .bound (by simp only [List.length_append]; omega) ?_
        rw [List.append_assoc, List.getElem?_append_left (by simp only [List.length_append]; omega), ← h2]
        congr 1
        simp only [List.length_append]; omega
      · rw [if_neg e]
        rw [List.getElem?_append_right (by omega)] at h2
        refine .bound (by simp only [List.length_append]; omega) ?_
        rw [List.getElem?_append_right (by simp only [List.length_append]; omega), ← h2]
        congr 1
        simp only [List.length_append]; omega
  | .lam u b, a2, _, h => by
    cases h with
    | lam h1 h2 =>
      have ih := WT.lift (mid := mid) (t := b) (a2 := a2 ++ [u]) (by rw [← List.append_assoc]; exact h2)
      rw [List.length_append, ← List.append_assoc] at ih
      exact .lam h1 ih
  | .of a b, a2, _, h => by
    cases h with
    | of h1 h2 => exact .of (WT.lift h1) (WT.lift h2)
theorem WT.opg {a1 : List Srt} {v : Srt} {o : Tm} (ho : WT a1 o v) : ∀ {t : Tm} {a2 : List Srt} {s : Srt}, WT (a1 ++ [v] ++ a2) t s → WT (a1 ++ a2) (opG o t a2.length) s
  | .free x s, a2, _, h => by cases h with | free h1 h2 => exact .free h1 h2
  | .same s, a2, _, h => by cases h with | same h => exact .same h
  | .bound k, a2, s, h => by
    cases h with
    | bound h1 h2 =>
      have el : (a1 ++ [v] ++ a2).length = a1.length + 1 + a2.length := by simp only [List.length_append, List.length_cons, List.length_nil]
      rw [el] at h1 h2
      simp only [opG]
      by_cases hk : k = a2.length
      · subst hk
        rw [if_pos rfl]
        rw [List.getElem?_append_left (by simp only [List.length_append, List.length_cons, List.length_nil]; omega), List.getElem?_append_right (by omega),
          show a1.length + 1 + a2.length - 1 - a2.length - a1.length = 0 by omega] at h2
        have e : v = s := by simpa using h2
        subst e
        have q := WT.lift (a1 := a1) (mid := a2) (a2 := []) (t := o) (s := v) (by rw [List.append_nil]; exact ho)
        rw [List.append_nil] at q
        exact q
      · rw [if_neg hk]
        by_cases h3 : a2.length < k
        · rw [if_pos h3]
          rw [List.append_assoc, List.getElem?_append_left (by omega)] at h2
          refine .bound (by simp only [List.length_append]; omega) ?_
          rw [List.getElem?_append_left (by simp only [List.length_append]; omega), ← h2]
          congr 1
          simp only [List.length_append]; omega
        · rw [if_neg h3]
          rw [List.getElem?_append_right (by simp only [List.length_append, List.length_cons, List.length_nil]; omega)] at h2
          refine .bound (by simp only [List.length_append]; omega) ?_
          rw [List.getElem?_append_right (by simp only [List.length_append]; omega), ← h2]
          congr 1
          simp only [List.length_append, List.length_cons, List.length_nil]; omega
  | .lam u b, a2, _, h => by
    cases h with
    | lam h1 h2 =>
      have ih := WT.opg ho (t := b) (a2 := a2 ++ [u]) (by rw [← List.append_assoc]; exact h2)
      rw [List.length_append, ← List.append_assoc] at ih
      exact .lam h1 ih
  | .of a b, a2, _, h => by
    cases h with
    | of h1 h2 => exact .of (WT.opg ho h1) (WT.opg ho h2)
/-! one step -/
def fldT (o : Tm) : Tm → Option Tm
  | .lam _ b => some (opG o b 0)
  | _ => none
def stepT : Tm → Option Tm
  | .of a b => match fldT b a with
    | some r => some r
    | none => match stepT a with
      | some a' => some (.of a' b)
      | none => (stepT b).map (.of a)
  | .lam s b => (stepT b).map (.lam s)
  | _ => none
theorem WT.step : ∀ {t : Tm} {ar : List Srt} {s : Srt} {t' : Tm}, WT ar t s → stepT t = some t' → WT ar t' s
  | .free x s, ar, _, t', h, e => by cases e
  | .same s, ar, _, t', h, e => by cases e
  | .bound k, ar, _, t', h, e => by cases e
  | .lam u b, ar, _, t', h, e => by
    cases h with
    | lam h1 h2 =>
      simp only [stepT, Option.map_eq_some_iff] at e
      obtain ⟨b', e1, rfl⟩ := e
      exact .lam h1 (WT.step h2 e1)
  | .of a b, ar, _, t', h, e => by
    cases h with
    | @of _ u v _ _ h1 h2 =>
      simp only [stepT] at e
      cases ef : fldT b a with
      | some r =>
        rw [ef] at e
        injection e with e
        subst e
        cases a with
        | lam w c =>
          injection ef with ef
          subst ef
          cases h1 with
          | lam h3 h4 =>
            have q := WT.opg h2 (a2 := []) (t := c) (by rw [List.append_nil]; exact h4)
            rw [List.append_nil] at q
            exact q
        | free x s => cases ef
        | bound k => cases ef
        | same s => cases ef
        | of c d => cases ef
      | none =>
        rw [ef] at e
        simp only at e
        cases ea : stepT a with
        | some a' =>
          rw [ea] at e
          injection e with e
          subst e
          exact .of (WT.step h1 ea) h2
        | none =>
          rw [ea] at e
          simp only [Option.map_eq_some_iff] at e
          obtain ⟨b', e1, rfl⟩ := e
          exact .of h1 (WT.step h2 e1)
theorem step_dp : ∀ {t t' : Tm}, stepT t = some t' → t'.dp ≤ 2 * t.dp
  | .free x s, t', e => by cases e
  | .same s, t', e => by cases e
  | .bound k, t', e => by cases e
  | .lam u b, t', e => by
    simp only [stepT, Option.map_eq_some_iff] at e
    obtain ⟨b', e1, rfl⟩ := e
    have := step_dp e1
    simp only [Tm.dp]; omega
  | .of a b, t', e => by
    simp only [stepT] at e
    cases ef : fldT b a with
    | some r =>
      rw [ef] at e
      injection e with e
      subst e
      cases a with
      | lam w c =>
        injection ef with ef
        subst ef
        have := opG_dp b c 0
        simp only [Tm.dp]; omega
      | free x s => cases ef
      | bound k => cases ef
      | same s => cases ef
      | of c d => cases ef
    | none =>
      rw [ef] at e
      simp only at e
      cases ea : stepT a with
      | some a' =>
        rw [ea] at e
        injection e with e
        subst e
        have := step_dp ea
        simp only [Tm.dp]; omega
      | none =>
        rw [ea] at e
        simp only [Option.map_eq_some_iff] at e
        obtain ⟨b', e1, rfl⟩ := e
        have := step_dp e1
        simp only [Tm.dp]; omega
theorem nonD_tm (t : Tm) : nonD t.d = false := by cases t <;> rfl
def oS : Option Tm → D
  | none => .non
  | some t => t.d
def lS : Option Tm → List D
  | none => []
  | some t => [t.d]
theorem tag_at (t : Tm) : ∃ g : Tx, ∃ r, t.d = .tup (.str g :: r) ∧ (g == FOR) = (match t with | .lam _ _ => true | _ => false) ∧ (g == OF) = (match t with | .of _ _ => true | _ => false) := by
  cases t <;> exact ⟨_, _, rfl, rfl, rfl⟩
theorem fold_ok (n : Nat) (t : Tm) : R (n + 1) 87 [t.d] = .ok (.bl (match t with | .of a b => (fldT b a).isSome | _ => false)) := by
  (rw [R_at lib87 rfl]; simp only [F87, start, List.map_cons, List.map_nil, List.cons_append, List.nil_append, Nat.reduceSub, List.replicate, List.append_nil, Nat.sub_self])
  cases t with
  | free x s => simp only [Tm.d]; simp! [tg_ro]
  | bound k => simp only [Tm.d]; simp! [tg_bo]
  | same s => simp only [Tm.d]; simp! [tg_so]
  | lam s b => simp only [Tm.d]; simp! [tg_lo]
  | of a b =>
    obtain ⟨g, r, e1, e2, e3⟩ := tag_at a
    simp only [Tm.d]
    rw [e1]
    have e2 : (g == [102, 111, 114]) = _ := e2
    simp! [tg_oo, e2]
    cases a <;> rfl
theorem one_step_ok : ∀ (t : Tm) (n : Nat), 2 * t.dp + 3 < n → R n 219 [t.d] = .ok (oS (stepT t))
  | t, 0, h => by omega
  | .free x s, n + 1, h => by
    obtain ⟨m, rfl⟩ : ∃ m, n = m + 1 := ⟨n - 1, by omega⟩
    have f := fold_ok m (.free x s)
    (rw [R_at lib219 rfl]; simp only [F219, start, List.map_cons, List.map_nil, List.cons_append, List.nil_append, Nat.reduceSub, List.replicate, List.append_nil, Nat.sub_self])
    simp only [Tm.d] at f ⊢
    simp! [f, tg_rl, tg_ro]; rfl
  | .bound k, n + 1, h => by
    obtain ⟨m, rfl⟩ : ∃ m, n = m + 1 := ⟨n - 1, by omega⟩
    have f := fold_ok m (.bound k)
    (rw [R_at lib219 rfl]; simp only [F219, start, List.map_cons, List.map_nil, List.cons_append, List.nil_append, Nat.reduceSub, List.replicate, List.append_nil, Nat.sub_self])
    simp only [Tm.d] at f ⊢
    simp! [f, tg_bl, tg_bo]; rfl
  | .same s, n + 1, h => by
    obtain ⟨m, rfl⟩ : ∃ m, n = m + 1 := ⟨n - 1, by omega⟩
    have f := fold_ok m (.same s)
    (rw [R_at lib219 rfl]; simp only [F219, start, List.map_cons, List.map_nil, List.cons_append, List.nil_append, Nat.reduceSub, List.replicate, List.append_nil, Nat.sub_self])
    simp only [Tm.d] at f ⊢
    simp! [f, tg_sl, tg_so]; rfl
  | .lam s b, n + 1, h => by
    obtain ⟨m, rfl⟩ : ∃ m, n = m + 1 := ⟨n - 1, by omega⟩
    have f := fold_ok m (.lam s b)
    have ih := one_step_ok b (m + 1) (by simp only [Tm.dp] at h; omega)
    (rw [R_at lib219 rfl]; simp only [F219, start, List.map_cons, List.map_nil, List.cons_append, List.nil_append, Nat.reduceSub, List.replicate, List.append_nil, Nat.sub_self])
    simp only [Tm.d] at f ⊢
    simp! [f, tg_ll, tg_lo, ih]
    simp only [stepT]
    cases stepT b with
    | none => simp only [oS]; simp! []; rfl
    | some b' => simp only [oS]; simp! [nonD_tm]; rfl
  | .of a b, n + 1, h => by
    obtain ⟨m, rfl⟩ : ∃ m, n = m + 1 := ⟨n - 1, by omega⟩
    have f := fold_ok m (.of a b)
    have i1 := one_step_ok a (m + 1) (by simp only [Tm.dp] at h; omega)
    have i2 := one_step_ok b (m + 1) (by simp only [Tm.dp] at h; omega)
    (rw [R_at lib219 rfl]; simp only [F219, start, List.map_cons, List.map_nil, List.cons_append, List.nil_append, Nat.reduceSub, List.replicate, List.append_nil, Nat.sub_self])
    cases ef : fldT b a with
    | some r =>
      cases a with
      | lam w c =>
        injection ef with ef
        subst ef
        have o := opG_ok b c (m + 1) 0 (by simp only [Tm.dp] at h; omega)
        have o : R (m + 1) 86 [c.d, b.d, .int 0] = _ := o
        simp only [Tm.d, fldT] at f ⊢
        simp! [f, o, Option.isSome_some]; rfl
      | free x s => cases ef
      | bound k => cases ef
      | same s => cases ef
      | of c d => cases ef
    | none =>
      simp only [ef, Option.isSome_none] at f
      simp only [Tm.d] at f ⊢
      simp! [f, tg_ol, tg_oo, i1]
      simp only [stepT, ef]
      cases stepT a with
      | some a' => simp only [oS]; simp! [nonD_tm]; rfl
      | none =>
        simp only [oS]
        simp! [i2]
        cases stepT b with
        | none => simp only [oS]; simp! []; rfl
        | some b' => simp only [oS]; simp! [nonD_tm]; rfl
theorem lS_plain (o : Option Tm) : plainL (lS o) = true := by cases o with | none => rfl | some t => simp [lS, plainL, t.plain]
end Rf

/-! part RfK29b -/
set_option autoImplicit false
set_option linter.all false
set_option Elab.async false
set_option maxRecDepth 100000
set_option maxHeartbeats 4000000
/-! RfK29b: the law's step, both ways to the end. -/
namespace Rf
theorem lS_len (o : Option Tm) : (lS o).length ≤ SZ := sz_le (by cases o <;> simp [lS])
theorem law_step_ok : ∀ (t : Tm) (n : Nat), 2 * t.dp + 3 < n → R n 230 [t.d] = .ok (.lst (lS (stepT t)))
  | t, 0, h => by omega
  | .free x s, n + 1, h => by
    (rw [R_at lib230 rfl]; simp only [F230, start, List.map_cons, List.map_nil, List.cons_append, List.nil_append, Nat.reduceSub, List.replicate, List.append_nil, Nat.sub_self])
    simp only [Tm.d]
    simp! [tg_rl, tg_ro]; rfl
  | .bound k, n + 1, h => by
    (rw [R_at lib230 rfl]; simp only [F230, start, List.map_cons, List.map_nil, List.cons_append, List.nil_append, Nat.reduceSub, List.replicate, List.append_nil, Nat.sub_self])
    simp only [Tm.d]
    simp! [tg_bl, tg_bo]; rfl
  | .same s, n + 1, h => by
    (rw [R_at lib230 rfl]; simp only [F230, start, List.map_cons, List.map_nil, List.cons_append, List.nil_append, Nat.reduceSub, List.replicate, List.append_nil, Nat.sub_self])
    simp only [Tm.d]
    simp! [tg_sl, tg_so]; rfl
  | .lam s b, n + 1, h => by
    have ih := law_step_ok b n (by simp only [Tm.dp] at h; omega)
    (rw [R_at lib230 rfl]; simp only [F230, start, List.map_cons, List.map_nil, List.cons_append, List.nil_append, Nat.reduceSub, List.replicate, List.append_nil, Nat.sub_self])
    simp only [Tm.d]
    simp! [tg_ll, tg_lo, ih]
    have g : ∀ s1 s2, kGo (R n) 1 (.tup [.const (.str [102, 111, 114]), .sub (.var 0) (.const (.int 1)), .var 1]) (.const (.bl true)) [.val (.tup [.str FOR, s.d, b.d]), s1, s2] (lS (stepT b)) = .ok ((lS (stepT b)).map fun d => .tup [.str FOR, s.d, d]) :=
      fun s1 s2 => kGo_map _ fun d hd => by simp! []
    have e : ((lS (stepT b)).map fun d => D.tup [.str FOR, s.d, d]) = lS (stepT (.lam s b)) := by
      simp only [stepT]; cases stepT b <;> rfl
    simp! [g, kLst, e, if_pos (lS_len _)]
  | .of a b, n + 1, h => by
    have i1 := law_step_ok a n (by simp only [Tm.dp] at h; omega)
    have i2 := law_step_ok b n (by simp only [Tm.dp] at h; omega)
    obtain ⟨q, r, e1, e2, e3⟩ := tag_at a
    (rw [R_at lib230 rfl]; simp only [F230, start, List.map_cons, List.map_nil, List.cons_append, List.nil_append, Nat.reduceSub, List.replicate, List.append_nil, Nat.sub_self])
    cases ef : fldT b a with
    | some r =>
      cases a with
      | lam w c =>
        injection ef with ef
        subst ef
        have o := opG_ok b c n 0 (by simp only [Tm.dp] at h; omega)
        have o : R n 86 [c.d, b.d, .int 0] = _ := o
        simp only [Tm.d]
        simp! [tg_oo, tg_ll, o]; rfl
      | free x s => cases ef
      | bound k => cases ef
      | same s => cases ef
      | of c d => cases ef
    | none =>
      have e2 : (q == [102, 111, 114]) = false := by cases a <;> first | exact e2 | cases ef
      have pl := lS_plain (stepT a)
      simp only [Tm.d]
      rw [e1] at i1 ⊢
      simp! [tg_oo, tg_ol, e2, i1, eqD_lstE _ pl]
      simp only [stepT, ef]
      cases stepT a with
      | some a' => simp only [lS, List.isEmpty_cons]; simp! []; rfl
      | none =>
        simp only [lS, List.isEmpty_nil]
        simp! [i2]
        have g : ∀ s1 s2, kGo (R n) 1 (.tup [.const (.str [111, 102]), .sub (.var 0) (.const (.int 1)), .var 1]) (.const (.bl true)) [.val (.tup [.str OF, .tup (.str q :: r), b.d]), s1, s2] (lS (stepT b)) = .ok ((lS (stepT b)).map fun d => .tup [.str OF, .tup (.str q :: r), d]) :=
          fun s1 s2 => kGo_map _ fun d hd => by simp! []
        have e : ((lS (stepT b)).map fun d => D.tup [.str OF, .tup (.str q :: r), d]) = lS ((stepT b).map (.of a)) := by
          rw [← e1]; cases stepT b <;> rfl
        simp! [g, kLst, e, if_pos (lS_len _)]
        rfl
/-- so many steps at most, within the bounds -/
def okT (t : Tm) : Bool := decide (t.dp ≤ 40) && decide (t.sz ≤ 600)
def endG : Nat → Tm → Option Tm
  | k, t => match stepT t with
    | none => some t
    | some a => match k with
      | 0 => none
      | k + 1 => if okT a then endG k a else none
structure G29 (t : Tm) (s : Srt) : Prop where
  wt : WT [] t s
  dp : t.dp ≤ 40
  sz : t.sz ≤ 600
theorem isT_okT {t : Tm} {s : Srt} (h : WT [] t s) : isT t = okT t := by
  unfold isT okT
  rw [h.sinT]; rfl
theorem okT_g {t : Tm} {s : Srt} (h : WT [] t s) (e : okT t = true) : G29 t s := by
  simp only [okT, Bool.and_eq_true, decide_eq_true_eq] at e
  exact ⟨h, e.1, e.2⟩
def redO : Option Tm → Out D
  | none => .exc 1 []
  | some t => .ok t.d
abbrev C220 : E := match F220.body with | [_, _, .whl c _, _] => c | _ => .var 0
abbrev B220 : List S := match F220.body with | [_, _, .whl _ b, _] => b | _ => []
theorem red_loop (n : Nat) (hn : 110 < n) (hl : n ≤ 1000) {s : Srt} : ∀ (k : Nat) (t : Tm) (f : Nat) (j : Int), G29 t s → j + k = 60 → k + 1 < f →
    ((whlGo (fun ρ' => (evE (R n) C220 ρ').bind truthy) (fun ρ' => evSs (R n) 2000 B220 ρ') f [.val t.d, .val (.int j), .val (oS (stepT t))]).seq (evSs (R n) 2000 [.ret (.var 0)])).out = redO (endG k t)
  | k, t, 0, j, _, _, h => by omega
  | k, t, f + 1, j, g, hj, hf => by
    unfold whlGo
    cases e : stepT t with
    | none =>
      simp only [oS, C220, F220]
      simp! []
      unfold endG
      rw [e]; rfl
    | some a =>
      have hw := g.wt.step e
      have hdp := step_dp e
      have hb := bd_ok2 n hw.rok (by have := g.dp; omega) hn hl
      have h1 := one_step_ok a n
      simp only [oS, C220, B220, F220]
      simp! [nonD_tm]
      unfold endG
      rw [e]
      cases k with
      | zero =>
        simp! [decide_eq_true (show (60 : Int) < j + 1 by omega)]
        rfl
      | succ k =>
        simp! [decide_eq_false (show ¬ (60 : Int) < j + 1 by omega), hb]
        unfold bdT
        rw [isT_okT hw]
        cases ok : okT a with
        | false => simp! [Out.map]; rfl
        | true =>
          have ga := okT_g hw ok
          have h1 := h1 (by have := ga.dp; omega)
          simp! [h1]
          exact red_loop n hn hl k a f (j + 1) ga (by omega) (by omega)
theorem reduced_ok (n : Nat) {t : Tm} {s : Srt} (g : G29 t s) (hn : 111 < n) (hl : n ≤ 1000) : R n 220 [t.d] = redO (endG 60 t) := by
  obtain ⟨m, rfl⟩ : ∃ m, n = m + 1 := ⟨n - 1, by omega⟩
  have h1 := one_step_ok t m (by have := g.dp; omega)
  have q := red_loop m (by omega) (by omega) 60 t 2000 0 g (by omega) (by omega)
  (rw [R_at lib220 rfl]; simp only [F220, start, List.map_cons, List.map_nil, List.cons_append, List.nil_append, Nat.reduceSub, List.replicate, List.append_nil, Nat.sub_self])
  simp! [h1]
  exact q
def nxO : Option Tm → D
  | none => .non
  | some t => t.d
abbrev B234 : List S := match F234.body with | [.for _ _ b, _] => b | _ => []
theorem rngL_succ (lo : Int) (k : Nat) : rngL lo 1 (k + 1) = .int lo :: rngL (lo + 1) 1 k := by
  unfold rngL
  rw [List.range_succ_eq_map, List.map_cons, List.map_map]
  congr 1
  · simp
  · apply List.map_congr_left
    intro a _
    simp only [Function.comp]
    congr 1
    omega
theorem kFor_cons {call : Nat → List D → Out D} {w i : Nat} {b : List S} {ρ : Env} (d : D) (ds : List D) : kFor call w i b ρ (d :: ds) = match evSs call w b (ρ.set i (.val d)) with
    | .nxt ρ2 => kFor call w i b ρ2 ds
    | .cnt ρ2 => kFor call w i b ρ2 ds
    | .brk ρ2 => .nxt ρ2
    | y => y := rfl
theorem end_loop (n : Nat) (hn : 110 < n) (hl : n ≤ 1000) {s : Srt} : ∀ (k : Nat) (t : Tm) (j : Int) (x1 x2 : Sl), G29 t s → j + k = 60 →
    ((kFor (R n) 2000 1 B234 [.val t.d, x1, x2] (rngL j 1 (k + 1))).seq (evSs (R n) 2000 [.ret (.const .non)])).out = .ok (nxO (endG k t))
  | k, t, j, x1, x2, g, hj => by
    have h1 := law_step_ok t n (by have := g.dp; omega)
    have pl := lS_plain (stepT t)
    rw [rngL_succ, kFor_cons]
    unfold endG
    cases e : stepT t with
    | none =>
      have hb : evSs (R n) 2000 B234 ([Sl.val t.d, x1, x2].set 1 (.val (.int j))) = .ret t.d := by
        simp only [B234, F234]
        rw [e] at h1 pl
        simp only [lS] at h1 pl
        simp! [h1, eqD_lstE _ pl, List.isEmpty_nil]
      rw [hb]; rfl
    | some a =>
      have hw := g.wt.step e
      have hdp := step_dp e
      have hi := law_is_term_ok n hw hw.rok (by have := g.dp; omega) hl
      have hi : R n 54 [a.d] = .ok (.bl (okT a)) := hi
      rw [e] at h1 pl
      simp only [lS] at h1 pl
      cases k with
      | zero =>
        have hb : evSs (R n) 2000 B234 ([Sl.val t.d, x1, x2].set 1 (.val (.int j))) = .ret .non := by
          simp only [B234, F234]
          simp! [h1, eqD_lstE _ pl, List.isEmpty_cons, show (j == 60) = true by rw [beq_iff_eq]; omega]
        rw [hb]; rfl
      | succ k =>
        cases ok : okT a with
        | false =>
          rw [ok] at hi
          have hb : evSs (R n) 2000 B234 ([Sl.val t.d, x1, x2].set 1 (.val (.int j))) = .ret .non := by
            simp only [B234, F234]
            simp! [h1, eqD_lstE _ pl, List.isEmpty_cons, show (j == 60) = false by rw [beq_eq_false_iff_ne]; omega, hi]
          rw [hb]; simp only [ok]; rfl
        | true =>
          rw [ok] at hi
          have hb : evSs (R n) 2000 B234 ([Sl.val t.d, x1, x2].set 1 (.val (.int j))) = .nxt [.val a.d, .val (.int j), .val (.lst [a.d])] := by
            simp only [B234, F234]
            simp! [h1, eqD_lstE _ pl, List.isEmpty_cons, show (j == 60) = false by rw [beq_eq_false_iff_ne]; omega, hi]
          rw [hb]; simp only [ok, if_true]
          exact end_loop n hn hl k a (j + 1) _ _ (okT_g hw ok) (by omega)
theorem end_ok (n : Nat) {t : Tm} {s : Srt} (g : G29 t s) (hn : 111 < n) (hl : n ≤ 1000) : R n 234 [t.d] = .ok (nxO (endG 60 t)) := by
  obtain ⟨m, rfl⟩ : ∃ m, n = m + 1 := ⟨n - 1, by omega⟩
  have q := end_loop m (by omega) (by omega) 60 t 0 .no .no g (by omega)
  (rw [R_at lib234 rfl]; simp only [F234, start, List.map_cons, List.map_nil, List.cons_append, List.nil_append, Nat.reduceSub, List.replicate, List.append_nil, Nat.sub_self])
  simp! [rngD1 (i := 61) (by decide) (by decide)]
  exact q
theorem endG_no : ∀ {k : Nat} {t r : Tm}, endG k t = some r → stepT r = none
  | k, t, r, h => by
    unfold endG at h
    cases e : stepT t with
    | none => rw [e] at h; injection h with h; rw [← h]; exact e
    | some a =>
      rw [e] at h
      cases k with
      | zero => cases h
      | succ k =>
        simp only at h
        cases ok : okT a with
        | false => rw [ok] at h; cases h
        | true => rw [ok, if_pos rfl] at h; exact endG_no h
theorem endG_g {s : Srt} : ∀ {k : Nat} {t r : Tm}, G29 t s → endG k t = some r → G29 r s
  | k, t, r, g, h => by
    unfold endG at h
    cases e : stepT t with
    | none => rw [e] at h; injection h with h; rw [← h]; exact g
    | some a =>
      rw [e] at h
      cases k with
      | zero => cases h
      | succ k =>
        simp only at h
        cases ok : okT a with
        | false => rw [ok] at h; cases h
        | true => rw [ok, if_pos rfl] at h; exact endG_g (okT_g (g.wt.step e) ok) h
theorem endG_of {k : Nat} {t : Tm} (h : stepT t = none) : endG k t = some t := by
  unfold endG; rw [h]
end Rf

/-! part RfK29c -/
set_option autoImplicit false
set_option linter.all false
set_option Elab.async false
set_option maxRecDepth 100000
set_option maxHeartbeats 4000000
/-! RfK29c: the law's drawn terms. -/
namespace Rf
theorem part_deep (ns : List Int) (hns : ns.length ≤ 63) (m n : Nat) (k : Int) (s : Srt) (ar : List Srt) (h3 : 2 < s.dp) (hs : s.dp ≤ 5) (har : ∀ u ∈ ar, u.dp ≤ 5) (hl : ar.length + n ≤ 1000) (hn : 10 < n) :
    ∃ t : Tm, R n 33 [iL ns, .int k, s.d, .lst (ar.map Srt.d), .int m] = .ok t.d ∧ WT ar t s ∧ t.dp ≤ 2 * m := by
    obtain ⟨n', rfl⟩ : ∃ q, n = q + 2 := ⟨n - 2, by omega⟩
    rw [R_at lib33 rfl]
    simp only [F33, start, List.map_cons, List.map_nil, List.cons_append, List.nil_append, Nat.reduceSub, List.replicate]
    have hc := cell_ok n' ns k hns
    have hd := drawn_ok n' (cellI ns k) k
    generalize drawI (cellI ns k) k = v at hd
    simp! [hc, hd, List.length_map, rngD1 (i := (ar.length : Int)) (by omega) (by omega), Int.toNat_natCast, kGo]
    rw [compGo_all (f := id) (plB ar s) (fun d hd => by
      obtain ⟨j, hj, rfl⟩ := rngL_mem hd
      have e : (0 : Int) + (j : Int) * 1 = (j : Int) := by omega
      rw [e]
      refine ⟨?_, fun _ => by simp! []; rfl⟩
      have hlt : ar.length - 1 - j < ar.length := by omega
      have e2 : ((ar.length : Nat) : Int) - 1 - (j : Int) = ((ar.length - 1 - j : Nat) : Int) := by omega
      have e3 : atD (ar.map Srt.d) ((ar.length - 1 - j : Nat) : Int) = .ok (ar[ar.length - 1 - j]'hlt).d := atD_nat (by rw [List.getElem?_map, List.getElem?_eq_getElem hlt]; rfl)
      simp! [List.length_map, e2, e3, Srt.eqD _ s (show min (ar[ar.length - 1 - j]'hlt).dp s.dp ≤ 64 by omega)]
      simp [plB, List.getD_eq_getElem?_getD, List.getElem?_eq_getElem hlt])]
    rw [List.map_id, show (rngL 0 1 ar.length).filter (plB ar s) = plL ar s from rfl]
    have hpl := plL_len ar s
    simp! [kLst, sz_le (show (plL ar s).length ≤ 1000000 by omega), eqD_lstE _ (plL_plain ar s)]
    have hv := hd
    clear hd hc
    have rest : ∃ t : Tm, (((evSs (R (n' + 1)) 2000 (F33.body.drop 3) [Sl.val (iL ns), Sl.val (.int k), Sl.val s.d, Sl.val (.lst (ar.map Srt.d)), Sl.val (.int m), Sl.val (.int v), Sl.val (.lst (plL ar s)), Sl.no, Sl.no])).out = .ok t.d) ∧ WT ar t s ∧ t.dp ≤ 2 * m := by
      simp only [F33, List.drop_succ_cons, List.drop_zero]
      have hsd := law_sort_depth_ok s (n' + 1) (by omega)
      simp! []
      generalize v / 16 = x
      cases h7 : (x % 7 == 0) with
      | true =>
        cases hm : ((m : Int) == 0) with
        | true =>
          simp! [hm]
          obtain ⟨nm, hnm, hlf⟩ := (law_leaf_ok) n' s (x / 7)
          cases s with
          | t => simp only [Srt.dp] at h3; omega
          | i => simp only [Srt.dp] at h3; omega
          | f a b =>
            have hlf : R (n' + 1) _ [.tup [a.d, b.d], .int (x / 7)] = _ := hlf
            have ee : eqD (.tup [a.d, b.d]) (.tup [a.d, .tup [a.d, .str [116]]]) = .ok (decide (Srt.f a b = Srt.f a (.f a .t))) := Srt.eqD (.f a b) (.f a (.f a .t)) (by simp only [Srt.dp] at hs ⊢; omega)
            cases h1 : (x / 7 % 3 == 0) with
            | false => exact ⟨.free nm (.f a b), by simp! [Srt.d, h1, hlf], .free (names6_ok hnm) hs, Nat.zero_le _⟩
            | true =>
              by_cases h2 : Srt.f a b = Srt.f a (.f a .t)
              · refine ⟨.same a, by simp! [Srt.d, h1, ee, decide_eq_true h2]; rfl, ?_, Nat.zero_le _⟩
                rw [h2]; rw [h2] at hs
                exact .same hs
              · exact ⟨.free nm (.f a b), by simp! [Srt.d, h1, ee, decide_eq_false h2, hlf], .free (names6_ok hnm) hs, Nat.zero_le _⟩
        | false =>
          simp! [hm, h7]
          obtain ⟨nm, hnm, hlf⟩ := (law_leaf_ok) n' s (x / 7)
          cases s with
          | t => simp only [Srt.dp] at h3; omega
          | i => simp only [Srt.dp] at h3; omega
          | f a b =>
            have hlf : R (n' + 1) _ [.tup [a.d, b.d], .int (x / 7)] = _ := hlf
            have ee : eqD (.tup [a.d, b.d]) (.tup [a.d, .tup [a.d, .str [116]]]) = .ok (decide (Srt.f a b = Srt.f a (.f a .t))) := Srt.eqD (.f a b) (.f a (.f a .t)) (by simp only [Srt.dp] at hs ⊢; omega)
            cases h1 : (x / 7 % 3 == 0) with
            | false => exact ⟨.free nm (.f a b), by simp! [Srt.d, h1, hlf], .free (names6_ok hnm) hs, Nat.zero_le _⟩
            | true =>
              by_cases h2 : Srt.f a b = Srt.f a (.f a .t)
              · refine ⟨.same a, by simp! [Srt.d, h1, ee, decide_eq_true h2]; rfl, ?_, Nat.zero_le _⟩
                rw [h2]; rw [h2] at hs
                exact .same hs
              · exact ⟨.free nm (.f a b), by simp! [Srt.d, h1, ee, decide_eq_false h2, hlf], .free (names6_ok hnm) hs, Nat.zero_le _⟩
      | false =>
        cases hm : ((m : Int) == 0) with
        | true =>
          simp! [hm]
          obtain ⟨nm, hnm, hlf⟩ := (law_leaf_ok) n' s (x / 7)
          cases s with
          | t => simp only [Srt.dp] at h3; omega
          | i => simp only [Srt.dp] at h3; omega
          | f a b =>
            have hlf : R (n' + 1) _ [.tup [a.d, b.d], .int (x / 7)] = _ := hlf
            have ee : eqD (.tup [a.d, b.d]) (.tup [a.d, .tup [a.d, .str [116]]]) = .ok (decide (Srt.f a b = Srt.f a (.f a .t))) := Srt.eqD (.f a b) (.f a (.f a .t)) (by simp only [Srt.dp] at hs ⊢; omega)
            cases h1 : (x / 7 % 3 == 0) with
            | false => exact ⟨.free nm (.f a b), by simp! [Srt.d, h1, hlf], .free (names6_ok hnm) hs, Nat.zero_le _⟩
            | true =>
              by_cases h2 : Srt.f a b = Srt.f a (.f a .t)
              · refine ⟨.same a, by simp! [Srt.d, h1, ee, decide_eq_true h2]; rfl, ?_, Nat.zero_le _⟩
                rw [h2]; rw [h2] at hs
                exact .same hs
              · exact ⟨.free nm (.f a b), by simp! [Srt.d, h1, ee, decide_eq_false h2, hlf], .free (names6_ok hnm) hs, Nat.zero_le _⟩
        | false =>
          simp! [hm, h7, hsd]
          simp! [decide_eq_true (show (2 : Int) < (s.dp : Int) by omega)]
          obtain ⟨nm, hnm, hlf⟩ := (law_leaf_ok) n' s (x / 7)
          cases s with
          | t => simp only [Srt.dp] at h3; omega
          | i => simp only [Srt.dp] at h3; omega
          | f a b =>
            have hlf : R (n' + 1) _ [.tup [a.d, b.d], .int (x / 7)] = _ := hlf
            have ee : eqD (.tup [a.d, b.d]) (.tup [a.d, .tup [a.d, .str [116]]]) = .ok (decide (Srt.f a b = Srt.f a (.f a .t))) := Srt.eqD (.f a b) (.f a (.f a .t)) (by simp only [Srt.dp] at hs ⊢; omega)
            cases h1 : (x / 7 % 3 == 0) with
            | false => exact ⟨.free nm (.f a b), by simp! [Srt.d, h1, hlf], .free (names6_ok hnm) hs, Nat.zero_le _⟩
            | true =>
              by_cases h2 : Srt.f a b = Srt.f a (.f a .t)
              · refine ⟨.same a, by simp! [Srt.d, h1, ee, decide_eq_true h2]; rfl, ?_, Nat.zero_le _⟩
                rw [h2]; rw [h2] at hs
                exact .same hs
              · exact ⟨.free nm (.f a b), by simp! [Srt.d, h1, ee, decide_eq_false h2, hlf], .free (names6_ok hnm) hs, Nat.zero_le _⟩
    simp only [F33, List.drop_succ_cons, List.drop_zero] at rest
    cases hpn : (plL ar s).isEmpty with
    | true => revert rest; simp! []; exact id
    | false =>
      cases h32 : decide (v % 3 < 2) with
      | false => revert rest; simp! [h32]; exact id
      | true =>
        have hne : plL ar s ≠ [] := by intro e; rw [e] at hpn; cases hpn
        obtain ⟨d, hd, e⟩ := at_modn (v / 3) hne
        obtain ⟨j, rfl, hj, hj2⟩ := plL_mem hd
        have hp : 0 < (plL ar s).length := List.length_pos_iff.mpr hne
        refine ⟨.bound j, ?_, .bound hj hj2, Nat.zero_le _⟩
        simp! [h32, v_mod _ _ (show (0 : Int) < ((plL ar s).length : Int) by omega), e]
        rfl
theorem part_r (ns : List Int) (hns : ns.length ≤ 63) (m n : Nat) (k : Int) (s : Srt) (ar : List Srt) (hs : s.dp ≤ 5) (har : ∀ u ∈ ar, u.dp ≤ 5) (hl : ar.length + n ≤ 1000) (hn : m + 10 < n) :
    ∃ t : Tm, R n 33 [iL ns, .int k, s.d, .lst (ar.map Srt.d), .int m] = .ok t.d ∧ WT ar t s ∧ t.dp ≤ 2 * m := by
  by_cases h : s.dp ≤ 3
  · obtain ⟨t, h1, h2⟩ := part_ok ns hns m n k s ar h har hl (by omega)
    exact ⟨t, h1, h2.ty, h2.dp⟩
  · exact part_deep ns hns m n k s ar (by omega) hs har hl (by omega)
theorem at4 (v : Int) : ∃ u : Srt, atD [.str [116], .str [105], .tup [.str [116], .str [116]], .tup [.str [105], .str [105]]] (v % 4) = .ok u.d ∧ u.dp ≤ 1 := by
  obtain ⟨x, hx, h⟩ := at_modn (xs := [Srt.d .t, Srt.d .i, Srt.d (.f .t .t), Srt.d (.f .i .i)]) v (by simp)
  have h : atD [.str [116], .str [105], .tup [.str [116], .str [116]], .tup [.str [105], .str [105]]] (v % 4) = .ok x := h
  simp only [List.mem_cons, List.not_mem_nil, or_false] at hx
  rcases hx with rfl | rfl | rfl | rfl
  · exact ⟨.t, h, by decide⟩
  · exact ⟨.i, h, by decide⟩
  · exact ⟨.f .t .t, h, by decide⟩
  · exact ⟨.f .i .i, h, by decide⟩
theorem at2s (v : Int) : ∃ u : Srt, atD [.str [116], .str [105]] (v % 2) = .ok u.d ∧ u.dp = 0 := by
  obtain ⟨x, hx, h⟩ := at_modn (xs := [Srt.d .t, Srt.d .i]) v (by simp)
  have h : atD [.str [116], .str [105]] (v % 2) = .ok x := h
  simp only [List.mem_cons, List.not_mem_nil, or_false] at hx
  rcases hx with rfl | rfl
  · exact ⟨.t, h, by decide⟩
  · exact ⟨.i, h, by decide⟩
theorem at3s (v : Int) : ∃ u : Srt, atD [.str [116], .str [105], .tup [.str [116], .str [116]]] (v % 3) = .ok u.d ∧ u.dp ≤ 1 := by
  obtain ⟨x, hx, h⟩ := at_modn (xs := [Srt.d .t, Srt.d .i, Srt.d (.f .t .t)]) v (by simp)
  have h : atD [.str [116], .str [105], .tup [.str [116], .str [116]]] (v % 3) = .ok x := h
  simp only [List.mem_cons, List.not_mem_nil, or_false] at hx
  rcases hx with rfl | rfl | rfl
  · exact ⟨.t, h, by decide⟩
  · exact ⟨.i, h, by decide⟩
  · exact ⟨.f .t .t, h, by decide⟩
theorem snoc5 {ar : List Srt} (har : ∀ u ∈ ar, u.dp ≤ 5) {a : Srt} (h : a.dp ≤ 5) : ∀ u ∈ ar ++ [a], u.dp ≤ 5 := fun w hw => by
  rcases List.mem_append.mp hw with hw | hw
  · exact har w hw
  · rw [List.mem_singleton.mp hw]; exact h
theorem folded_ok (ns : List Int) (hns : ns.length ≤ 63) : ∀ (m n : Nat) (k : Int) (s : Srt) (ar : List Srt), s.dp + m ≤ 5 → (∀ u ∈ ar, u.dp ≤ 5) → ar.length + n ≤ 1000 → m + 20 < n →
    ∃ t : Tm, R n 231 [iL ns, .int k, s.d, .lst (ar.map Srt.d), .int m] = .ok t.d ∧ WT ar t s ∧ t.dp ≤ 2 * m + 4
  | m, 0, k, s, ar, _, _, _, h => by omega
  | m, n + 1, k, s, ar, hs, har, hl, hn => by
    obtain ⟨n', rfl⟩ : ∃ q, n = q + 1 := ⟨n - 1, by omega⟩
    have hc := cell_ok n' ns k hns
    have hd := drawn_ok n' (cellI ns k) (k + 300)
    generalize drawI (cellI ns k) (k + 300) = v at hd
    (rw [R_at lib231 rfl]; simp only [F231, start, List.map_cons, List.map_nil, List.cons_append, List.nil_append, Nat.reduceSub, List.replicate, List.append_nil, Nat.sub_self])
    cases m with
    | zero =>
      obtain ⟨t, h1, h2, h3⟩ := part_r ns hns 1 (n' + 1) k s ar (by omega) har (by omega) (by omega)
      have h1 : R (n' + 1) 33 [iL ns, .int k, s.d, .lst (ar.map Srt.d), .int 1] = .ok t.d := h1
      exact ⟨t, by simp! [hc, hd, show (((0 : Nat) : Int) == 0) = true from rfl, h1], h2, by omega⟩
    | succ m =>
      have em : ((m + 1 : Nat) : Int) - 1 = (m : Int) := by omega
      have e0 : (((m + 1 : Nat) : Int) == 0) = false := by rw [beq_eq_false_iff_ne]; omega
      have ih := folded_ok ns hns m (n' + 1)
      simp! [hc, hd, e0, v_modK v 4 (by decide), v_fdivK v 4 (by decide) (by decide +kernel)]
      by_cases h2 : v % 4 < 2
      · obtain ⟨u, hu, hu1⟩ := at4 (v / 4)
        obtain ⟨p1, e1, q1, r1⟩ := ih (3 * k + 1) s (ar ++ [u]) (by omega) (snoc5 har (by omega)) (by simp; omega) (by omega)
        obtain ⟨p2, e2, q2, r2⟩ := ih (3 * k + 2) u ar (by omega) har (by omega) (by omega)
        have e1 : R (n' + 1) 231 [iL ns, .int (3 * k + 1), s.d, .lst (ar.map Srt.d ++ [u.d]), .int m] = .ok p1.d := by
          rw [← e1, List.map_append]; rfl
        refine ⟨.of (.lam u p1) p2, ?_, .of (.lam (by simp only [Srt.dp]; omega) q1) q2, by simp only [Tm.dp]; omega⟩
        simp! [decide_eq_true h2, v_modK (v / 4) 4 (by decide), hu, em, v_addL _ _ (show (ar.map Srt.d).length + [u.d].length ≤ SZ from sz_le (by simp; omega)), e1, e2]
        rfl
      · simp! [decide_eq_false h2]
        have two : ∃ t : Tm, (((evSs (R (n' + 1)) 2000 (F231.body.drop 4) [Sl.val (iL ns), Sl.val (.int k), Sl.val s.d, Sl.val (.lst (ar.map Srt.d)), Sl.val (.int (m + 1 : Nat)), Sl.val (.int v), Sl.no, Sl.no])).out = .ok t.d) ∧ WT ar t s ∧ t.dp ≤ 2 * (m + 1) + 4 := by
          simp only [F231, List.drop_succ_cons, List.drop_zero]
          cases h5 : (v % 4 == 2) with
          | true =>
            obtain ⟨u, hu, hu1⟩ := at2s (v / 4)
            obtain ⟨p1, e1, q1, r1⟩ := ih (3 * k + 1) (.f u s) ar (by simp only [Srt.dp]; omega) har (by omega) (by omega)
            obtain ⟨p2, e2, q2, r2⟩ := ih (3 * k + 2) u ar (by omega) har (by omega) (by omega)
            have e1 : R (n' + 1) 231 [iL ns, .int (3 * k + 1), .tup [u.d, s.d], .lst (ar.map Srt.d), .int m] = .ok p1.d := e1
            refine ⟨.of p1 p2, ?_, .of q1 q2, by simp only [Tm.dp]; omega⟩
            simp! [v_modK v 4 (by decide), v_fdivK v 4 (by decide) (by decide +kernel), h5, v_modK (v / 4) 2 (by decide), hu, em, e1, e2]
            rfl
          | false =>
            obtain ⟨t, h1, h2, h3⟩ := part_r ns hns 2 (n' + 1) k s ar (by omega) har (by omega) (by omega)
            have h1 : R (n' + 1) 33 [iL ns, .int k, s.d, .lst (ar.map Srt.d), .int 2] = .ok t.d := h1
            refine ⟨t, ?_, h2, by omega⟩
            simp! [v_modK v 4 (by decide), h5, h1]
        simp only [F231, List.drop_succ_cons, List.drop_zero] at two
        cases s with
        | t => revert two; simp! [Srt.d]; exact id
        | i => revert two; simp! [Srt.d]; exact id
        | f a b =>
          simp only [Srt.dp] at hs
          obtain ⟨p, e, q, r⟩ := ih (3 * k + 1) b (ar ++ [a]) (by omega) (snoc5 har (by omega)) (by simp; omega) (by omega)
          have e : R (n' + 1) 231 [iL ns, .int (3 * k + 1), b.d, .lst (ar.map Srt.d ++ [a.d]), .int m] = .ok p.d := by
            rw [← e, List.map_append]; rfl
          refine ⟨.lam a p, ?_, .lam (by simp only [Srt.dp]; omega) q, by simp only [Tm.dp]; omega⟩
          simp! [Srt.d, em, v_addL _ _ (show (ar.map Srt.d).length + [a.d].length ≤ SZ from sz_le (by simp; omega)), e]
          rfl
/-! one that doubles itself -/
abbrev twT : Tm := .lam (.f .t .t) (.lam .t (.of (.bound 1) (.of (.bound 1) (.bound 0))))
theorem tw_wt : WT [] twT (.f (.f .t .t) (.f .t .t)) :=
  .lam (by decide) (.lam (by decide) (.of (u := .t) (.bound (by decide) rfl) (.of (u := .t) (.bound (by decide) rfl) (.bound (by decide) rfl))))
abbrev B232 : List S := match F232.body with | [_, _, .for _ _ b, _] => b | _ => []
theorem doubling_ok (n : Nat) (w : Int) : ∃ t : Tm, R (n + 1) 232 [.int w] = .ok t.d ∧ WT [] t .t ∧ t.dp ≤ 30 := by
  have hw : 0 ≤ w % 6 ∧ w % 6 < 6 := ⟨Int.emod_nonneg _ (by decide), Int.emod_lt_of_pos _ (by decide)⟩
  have key : ∃ ρ', kFor (R n) 2000 3 B232 [.val (.int w), .val twT.d, .val (Tm.free [102] (.f .t .t)).d, .no] (rngL 0 1 (1 + w % 6).toNat) = .nxt ρ' ∧ ∃ (t : Tm) (s3 : Sl), ρ' = [.val (.int w), .val twT.d, .val (Tm.d t), s3] ∧ WT [] t (.f .t .t) ∧ t.dp ≤ 4 + (rngL 0 1 (1 + w % 6).toNat).length :=
    kFor_ix (call := R n) (w := 2000) (i := 3) (body := B232) (fun j ρ => ∃ (t : Tm) (s3 : Sl), ρ = [.val (.int w), .val twT.d, .val (Tm.d t), s3] ∧ WT [] t (.f .t .t) ∧ t.dp ≤ 4 + j) (ds := rngL 0 1 (1 + w % 6).toNat) (ρ := [.val (.int w), .val twT.d, .val (Tm.free [102] (.f .t .t)).d, .no])
      ⟨_, _, rfl, .free (by decide) (by decide), by simp [Tm.dp]⟩ (fun j d hd ρ hI => by
        obtain ⟨t, s3, rfl, h1, h2⟩ := hI
        refine ⟨[.val (.int w), .val twT.d, .val (Tm.of twT t).d, .val d], .inl ?_, _, _, rfl, .of tw_wt h1, by simp only [Tm.dp]; omega⟩
        simp only [B232, F232]
        simp! []
        rfl)
  obtain ⟨ρ', q1, t, s3, rfl, h1, h2⟩ := key
  rw [rngL_len] at h2
  refine ⟨.of t (.free [120] .t), ?_, .of h1 (.free (by decide) (by decide)), by simp only [Tm.dp]; omega⟩
  (rw [R_at lib232 rfl]; simp only [F232, start, List.map_cons, List.map_nil, List.cons_append, List.nil_append, Nat.reduceSub, List.replicate, List.append_nil, Nat.sub_self])
  have q1 : kFor (R n) 2000 3 [.set 2 (.tup [.const (.str [111, 102]), .var 1, .var 2])] [.val (.int w), .val (.tup [.str [102, 111, 114], .tup [.str [116], .str [116]], .tup [.str [102, 111, 114], .str [116], .tup [.str [111, 102], .tup [.str [98, 111, 117, 110, 100], .int 1], .tup [.str [111, 102], .tup [.str [98, 111, 117, 110, 100], .int 1], .tup [.str [98, 111, 117, 110, 100], .int 0]]]]]), .val (.tup [.str [102, 114, 101, 101], .str [102], .tup [.str [116], .str [116]]]), .no] (rngL 0 1 (1 + w % 6).toNat) = _ := q1
  simp! [v_modK w 6 (by decide), rngD1 (i := 1 + w % 6) (by omega) (by omega), q1]
  rfl
/-! so many side by side -/
abbrev idT : Tm := .of (.lam .t (.bound 0)) (.free [120] .t)
abbrev g2T : Tm := .free [103] (.f .t (.f .t .t))
theorem id_wt : WT [] idT .t := .of (.lam (by decide) (.bound (by decide) rfl)) (.free (by decide) (by decide))
theorem g2_wt : WT [] g2T (.f .t (.f .t .t)) := .free (by decide) (by decide)
theorem at_tm {l : List Tm} {i : Nat} (h : i < l.length) : ∃ t ∈ l, atD (l.map Tm.d) (i : Int) = .ok t.d :=
  ⟨l[i], List.getElem_mem h, atD_nat (by rw [List.getElem?_map, List.getElem?_eq_getElem h]; rfl)⟩
theorem at_last {l : List Tm} (h : 0 < l.length) : ∃ t ∈ l, atD (l.map Tm.d) (-1) = .ok t.d := by
  refine ⟨l[l.length - 1], List.getElem_mem _, ?_⟩
  unfold atD ixn
  rw [List.length_map, if_neg (by decide), if_pos (by omega)]
  have e : (-1 + (l.length : Int)).toNat = l.length - 1 := by omega
  rw [e, Option.bind_some, List.getElem?_map, List.getElem?_eq_getElem (by omega)]
  rfl
theorem rng2c (m : Nat) (h : 2 ≤ m) (h1 : m ≤ 1000) : rngD [.int 0, .int ((m : Int) - 1), .int 2] = .ok (rngL 0 2 (m / 2)) := by
  have s1 : small62 0 = true := by decide
  have s2 : small62 ((m : Int) - 1) = true := small_of (by omega) (by omega)
  have e : (rngSz 0 ((m : Int) - 1) 2).toNat = m / 2 := by
    unfold rngSz
    rw [if_pos (by decide), if_pos (by omega)]; omega
  simp only [rngD, s1, s2, Bool.true_and, e]
  rfl
theorem rep_flat (c : Nat) (x : Tm) : (List.replicate c [x.d]).flatten = (List.replicate c x).map Tm.d := by
  induction c with
  | zero => rfl
  | succ c ih => rw [List.replicate_succ, List.flatten_cons, ih, List.replicate_succ, List.map_cons]; rfl
abbrev C233 : E := match F233.body with | [_, _, .whl c _, _, _] => c | _ => .var 0
abbrev B233 : List S := match F233.body with | [_, _, .whl _ b, _, _] => b | _ => []
def I233 (c w : Int) (m : Nat) (ρ : Env) : Prop := ∃ (l : List Tm) (s4 : Sl), ρ = [.val (.int c), .val (.int w), .val (.lst (l.map Tm.d)), .val g2T.d, s4, .no] ∧ l.length = m ∧ 1 ≤ m ∧ m ≤ 62 ∧ ∀ t ∈ l, WT [] t .t ∧ t.dp ≤ 2 * (62 - m) + 2
theorem wide_st (n : Nat) (c w : Int) (m : Nat) (ρ : Env) (hI : I233 c w m ρ) : ((evE (R n) C233 ρ).bind truthy) = .ok false ∨ (((evE (R n) C233 ρ).bind truthy) = .ok true ∧ ∃ ρ' m', (evSs (R n) 2000 B233 ρ = .nxt ρ' ∨ evSs (R n) 2000 B233 ρ = .cnt ρ') ∧ m' < m ∧ I233 c w m' ρ') := by
  obtain ⟨l, s4, rfl, hlen, h1, h62, hall⟩ := hI
  by_cases hm : m ≤ 1
  · left
    simp only [C233, F233]
    simp! [List.length_map, hlen, decide_eq_false (show ¬ (1 : Int) < (m : Int) by omega)]
  · right
    refine ⟨by simp only [C233, F233]; simp! [List.length_map, hlen, decide_eq_true (show (1 : Int) < (m : Int) by omega)], ?_⟩
    obtain ⟨ys, y1, y2, y3⟩ := kGo_ex (call := R n) (x := 5) (e := .tup [.const (.str [111, 102]), .tup [.const (.str [111, 102]), .var 3, .sub (.var 2) (.var 5)], .sub (.var 2) (.bop .add (.var 5) (.const (.int 1)))])
      (ρ := [.val (.int c), .val (.int w), .val (.lst (l.map Tm.d)), .val g2T.d, s4, .no]) (fun y => ∃ t, y = Tm.d t ∧ (WT [] t .t ∧ t.dp ≤ 2 * (62 - m) + 4)) (ds := rngL 0 2 (m / 2)) (fun d hd => by
        obtain ⟨i, hi, rfl⟩ := rngL_mem hd
        obtain ⟨a, ha, ea⟩ := at_tm (l := l) (i := 2 * i) (by omega)
        obtain ⟨b, hb, eb⟩ := at_tm (l := l) (i := 2 * i + 1) (by omega)
        have e1 : (0 : Int) + (i : Int) * 2 = ((2 * i : Nat) : Int) := by omega
        have e2 : ((2 * i : Nat) : Int) + 1 = ((2 * i + 1 : Nat) : Int) := by omega
        have A := hall a ha
        have B := hall b hb
        rw [e1]
        refine ⟨(Tm.of (.of g2T a) b).d, by simp! [e2, ea, eb]; rfl, _, rfl, .of (.of g2_wt A.1) B.1, by simp only [Tm.dp]; omega⟩)
    obtain ⟨ts, rfl, hts⟩ := tms_of y3
    rw [List.length_map, rngL_len] at y2
    have lsz : ts.length ≤ SZ := sz_le (by omega)
    cases h2 : ((m : Int) % 2 == 1) with
    | false =>
      have h2' : m % 2 = 0 := by rw [beq_eq_false_iff_ne] at h2; omega
      refine ⟨[.val (.int c), .val (.int w), .val (.lst (ts.map Tm.d)), .val g2T.d, .val (.lst (ts.map Tm.d)), .no], m / 2, .inl ?_, by omega, ts, _, rfl, y2, by omega, by omega, fun t ht => ⟨(hts t ht).1, by have := (hts t ht).2; omega⟩⟩
      simp only [B233, F233]
      simp! [List.length_map, hlen, rng2c m (by omega) (by omega), y1, kLst, if_pos lsz, v_modK (m : Int) 2 (by decide), h2]
    | true =>
      have h2' : m % 2 = 1 := by rw [beq_iff_eq] at h2; omega
      obtain ⟨z, hz, ez⟩ := at_last (l := l) (by omega)
      have Z := hall z hz
      have lsz2 : ts.length < SZ := by have : 1000000 ≤ SZ := sz_le (Nat.le_refl _); omega
      refine ⟨[.val (.int c), .val (.int w), .val (.lst ((ts ++ [z]).map Tm.d)), .val g2T.d, .val (.lst ((ts ++ [z]).map Tm.d)), .no], m / 2 + 1, .inl ?_, by omega, ts ++ [z], _, rfl, by rw [List.length_append, y2]; rfl, by omega, by omega, fun t ht => ?_⟩
      · simp only [B233, F233]
        simp! [List.length_map, hlen, rng2c m (by omega) (by omega), y1, kLst, if_pos lsz, v_modK (m : Int) 2 (by decide), h2, kNeg, ez, kApp_ok, if_pos lsz2, List.map_append, List.map_cons, List.map_nil]
      · rcases List.mem_append.mp ht with ht | ht
        · exact ⟨(hts t ht).1, by have := (hts t ht).2; omega⟩
        · rw [List.mem_singleton.mp ht]
          exact ⟨Z.1, by have := Z.2; omega⟩
abbrev xyT : Tm := .of (.lam .t (.lam .t (.free [120] .t))) (.free [121] .t)
theorem xy_wt : WT [] xyT (.f .t .t) := .of (.lam (by decide) (.lam (by decide) (.free (by decide) (by decide)))) (.free (by decide) (by decide))
theorem wide_ok (n : Nat) (c : Nat) (h1 : 1 ≤ c) (h2 : c ≤ 62) (w : Int) : ∃ t : Tm, R (n + 1) 233 [.int c, .int w] = .ok t.d ∧ WT [] t .t ∧ t.dp ≤ 140 := by
  have h0 : I233 c w c [.val (.int c), .val (.int w), .val (.lst ((List.replicate c idT).map Tm.d)), .val g2T.d, .no, .no] :=
    ⟨_, _, rfl, List.length_replicate, h1, h2, fun t ht => by rw [(List.mem_replicate.mp ht).2]; exact ⟨id_wt, by simp [Tm.dp]⟩⟩
  obtain ⟨ρ', m', q1, ⟨l, s4, rfl, hlen, g1, g2, g3⟩, q3⟩ := kWhl_inv (call := R n) (w := 2000) (c := C233) (body := B233) (I233 c w) (wide_st n c w) (show c < 2000 by omega) h0
  have hm : m' = 1 := by
    simp only [C233, F233] at q3
    revert q3
    simp! [List.length_map, hlen]
    intro q3
    by_cases e : (1 : Int) < (m' : Int)
    · rw [decide_eq_true e] at q3; cases q3
    · omega
  subst hm
  obtain ⟨t, rfl⟩ : ∃ t, l = [t] := by
    match l, hlen with
    | [t], _ => exact ⟨t, rfl⟩
  obtain ⟨W, D⟩ := g3 t (List.mem_singleton.mpr rfl)
  have mul : bopD .mul (.lst [idT.d]) (.int c) = .ok (.lst ((List.replicate c idT).map Tm.d)) := by
    rw [v_mulL _ (by omega) (sz_le (by simp; omega)), rep_flat]
  have mul : bopD .mul (.lst [.tup [.str [111, 102], .tup [.str [102, 111, 114], .str [116], .tup [.str [98, 111, 117, 110, 100], .int 0]], .tup [.str [102, 114, 101, 101], .str [120], .str [116]]]]) (.int c) = .ok (.lst ((List.replicate c idT).map Tm.d)) := mul
  have q1 : kWhl (R n) 2000 C233 B233 [.val (.int c), .val (.int w), .val (.lst ((List.replicate c idT).map Tm.d)), .val (.tup [.str [102, 114, 101, 101], .str [103], .tup [.str [116], .tup [.str [116], .str [116]]]]), .no, .no] = _ := q1
  simp only [C233, B233, F233] at q1
  (rw [R_at lib233 rfl]; simp only [F233, start, List.map_cons, List.map_nil, List.cons_append, List.nil_append, Nat.reduceSub, List.replicate, List.append_nil, Nat.sub_self])
  simp! [mul, q1, v_modK w 2 (by decide), List.map_cons, List.map_nil]
  cases (w % 2 == 0) with
  | true => exact ⟨t, by simp! [], W, by omega⟩
  | false => exact ⟨.of xyT t, by simp! []; rfl, .of xy_wt W, by simp only [Tm.dp]; omega⟩
end Rf

/-! part RfK29 -/
set_option autoImplicit false
set_option linter.all false
set_option Elab.async false
set_option maxRecDepth 100000
set_option maxHeartbeats 4000000
/-! RfK29: the law of what is unfolded to the end. -/
namespace Rf
mutual
theorem Srt.flat : ∀ s : Srt, s.d.flat = true
  | .t => rfl
  | .i => rfl
  | .f a b => by simp [Srt.d, D.flat, flatL, Srt.flat a, Srt.flat b]
end
theorem Tm.flat : ∀ t : Tm, t.d.flat = true
  | .free x s => by simp [Tm.d, D.flat, flatL, s.flat]
  | .bound k => by simp [Tm.d, D.flat, flatL]
  | .same s => by simp [Tm.d, D.flat, flatL, s.flat]
  | .of a b => by simp [Tm.d, D.flat, flatL, a.flat, b.flat]
  | .lam s b => by simp [Tm.d, D.flat, flatL, s.flat, b.flat]
abbrev GREAT : Tx := [103, 114, 101, 97, 116]
theorem gg : (GREAT == GREAT) = true := rfl
theorem thk_tm (t : Tm) : thkO 1 (some GREAT) (.ok t.d) = .ok t.d := by simp only [thkO, t.flat, if_true]
theorem thk_g : thkO 1 (some GREAT) (.exc 1 []) = .ok (.str GREAT) := rfl
/-- what reduction tells -/
def sO (t : Tm) (s : Srt) : Option Tm → Out D
  | none => .exc 1 []
  | some r => if okT (eqT s t r) then .ok (Sn.mk [] (eqT s t r)).d else .exc 1 []
theorem eq_wt {t r : Tm} {s : Srt} (hs : s.dp ≤ 3) (g : G29 t s) (h : G29 r s) : WT [] (eqT s t r) .t := eqT_wt hs g.wt h.wt
theorem reduction_ok (n : Nat) {t : Tm} {s : Srt} (hs : s.dp ≤ 3) (g : G29 t s) (hn : 115 < n) (hl : n ≤ 1000) : R n 221 [t.d] = sO t s (endG 60 t) := by
  obtain ⟨m, rfl⟩ : ∃ m, n = m + 1 := ⟨n - 1, by omega⟩
  have h1 := reduced_ok m g (by omega) (by omega)
  (rw [R_at lib221 rfl]; simp only [F221, start, List.map_cons, List.map_nil, List.cons_append, List.nil_append, Nat.reduceSub, List.replicate, List.append_nil, Nat.sub_self])
  cases e : endG 60 t with
  | none =>
    rw [e] at h1
    simp only [redO] at h1
    simp! [h1]; rfl
  | some r =>
    rw [e] at h1
    simp only [redO] at h1
    have gr := endG_g g e
    have hw := eq_wt hs g gr
    have h2 := equality_ok m (t := t) (u := r) g.wt (by omega) g.wt.rok gr.wt.rok (by have := g.dp; have := gr.dp; rw [eqT_dp]; omega) (by omega)
    rw [isT_okT hw] at h2
    simp only [sO]
    cases ok : okT (eqT s t r) with
    | false =>
      rw [ok, if_neg (by decide)] at h2
      simp! [h1, h2]
    | true =>
      rw [ok, if_pos rfl] at h2
      have ge := okT_g hw ok
      have f : R m 118 [.tup [], (eqT s t r).d] = _ := fo_ok m (l := []) rfl (fun t h => by cases h) (by simp) (Gd.of ge.wt ge.dp ge.sz) (by omega) (by omega)
      have f2 : (foO [] (eqT s t r)).map Sn.d = .ok (Sn.mk [] (eqT s t r)).d := rfl
      rw [f2] at f
      simp! [h1, h2, f]
theorem thk_sO (t : Tm) (s : Srt) (o : Option Tm) : thkO 1 (some GREAT) (sO t s o) = .ok (match o with
    | none => .str GREAT
    | some r => if okT (eqT s t r) then (Sn.mk [] (eqT s t r)).d else .str GREAT) := by
  cases o with
  | none => rfl
  | some r =>
    simp only [sO]
    cases okT (eqT s t r) with
    | false => rfl
    | true =>
      have e : (Sn.mk [] (eqT s t r)).d.flat = true := by
        simp only [Sn.d, List.map_nil, D.flat, flatL, Tm.flat, Bool.and_self]
      show thkO 1 (some GREAT) (.ok (Sn.mk [] (eqT s t r)).d) = _
      simp only [thkO, e, if_true]
theorem thk_redO (o : Option Tm) : thkO 1 (some GREAT) (redO o) = .ok (match o with
    | none => .str GREAT
    | some r => r.d) := by
  cases o with
  | none => rfl
  | some r => exact thk_tm r
theorem eq_self {t : Tm} {s : Srt} (g : G29 t s) : eqD t.d t.d = .ok true := by
  rw [Tm.eqD t t (by have := Tm.dep g.wt.rok; have := g.dp; omega)]
  exact congrArg Out.ok (decide_eq_true rfl)
abbrev B236 : List S := match F236.body with | [.for _ _ b, _] => b | _ => []
/-- what is asked of one term -/
theorem body236 (ns : List Int) (k v : Int) {t : Tm} {s : Srt} (h : WT [] t s) (hs : s.dp ≤ 3) (hd : t.dp ≤ 150) (s4 s5 s6 s7 : Sl) :
    ∃ ρ2, (evSs (R 227) 2000 (B236.drop 4) [.val (iL ns), .val (.int k), .val (.int v), .val t.d, s4, s5, s6, s7] = .nxt ρ2 ∨ evSs (R 227) 2000 (B236.drop 4) [.val (iL ns), .val (.int k), .val (.int v), .val t.d, s4, s5, s6, s7] = .cnt ρ2) ∧ ∃ x2 x3 x4 x5 x6 x7, ρ2 = [.val (iL ns), .val (.int k), x2, x3, x4, x5, x6, x7] := by
  have it := is_term_t 227 t h.rok (by omega) (by decide)
  rw [isT_okT h] at it
  simp only [B236, F236, List.drop_succ_cons, List.drop_zero]
  cases ok : okT t with
  | false =>
    rw [ok] at it
    exact ⟨[.val (iL ns), .val (.int k), .val (.int v), .val t.d, s4, s5, s6, s7], .inr (by simp! [it]), _, _, _, _, _, _, rfl⟩
  | true =>
    rw [ok] at it
    have g := okT_g h ok
    have en := end_ok 227 g (by decide) (by decide)
    have rd : R 227 1220 [t.d] = redO (endG 60 t) := by
      rw [R_wrap (n := 225) (k := 220) (p := 1) lib1220 lib2220 rfl]; exact reduced_ok 225 g (by decide) (by decide)
    have rn : R 227 1221 [t.d] = sO t s (endG 60 t) := by
      rw [R_wrap (n := 225) (k := 221) (p := 1) lib1221 lib2221 rfl]; exact reduction_ok 225 hs g (by decide) (by decide)
    have tr := thk_redO (endG 60 t)
    have tn := thk_sO t s (endG 60 t)
    cases e : endG 60 t with
    | none =>
      rw [e] at en rd rn tr tn
      simp only [nxO] at en
      simp only at tr tn
      refine ⟨[.val (iL ns), .val (.int k), .val (.int v), .val t.d, .val .non, .val (.str GREAT), .val (.str GREAT), s7], .inr ?_, _, _, _, _, _, _, rfl⟩
      simp! [it, en, evE_thk, rd, rn, tr, tn, gg]
    | some r =>
      rw [e] at en rd rn tr tn
      simp only [nxO] at en
      simp only at tr tn
      have gr := endG_g g e
      have hw := eq_wt hs g gr
      have q1 := eq_self gr
      have q2 := sort_of_ok 227 gr.wt gr.wt.rok (by have := gr.dp; omega) (by decide)
      have q3 := sort_of_ok 227 g.wt g.wt.rok (by have := g.dp; omega) (by decide)
      have q4 := reduced_ok 227 gr (by decide) (by decide)
      rw [endG_of (endG_no e)] at q4
      simp only [redO] at q4
      have q5 := equal_ok 227 (u := r) g.wt (by have := g.dp; omega) (by decide)
      have q6 := law_is_term_ok 227 hw hw.rok (by have := g.dp; have := gr.dp; rw [eqT_dp]; omega) (by decide)
      have q6 : R 227 54 [(eqT s t r).d] = .ok (.bl (okT (eqT s t r))) := q6
      have q7 : eqD s.d s.d = .ok true := by rw [Srt.eqD s s (by omega)]; exact congrArg Out.ok (decide_eq_true rfl)
      cases ok2 : okT (eqT s t r) with
      | false =>
        rw [ok2] at q6 tn
        simp only [Bool.false_eq_true, if_false] at tn
        refine ⟨[.val (iL ns), .val (.int k), .val (.int v), .val t.d, .val r.d, .val r.d, .val (.str GREAT), .val (eqT s t r).d], .inl ?_, _, _, _, _, _, _, rfl⟩
        simp! [it, en, evE_thk, rd, rn, tr, tn, gg, nonD_tm, q1, q2, q3, q4, q5, q6, q7]
      | true =>
        rw [ok2] at q6 tn
        simp only [if_true] at tn
        have ge := okT_g hw ok2
        have q8 := eq_self ge
        have hi : kInst (.cls 8) (Sn.mk [] (eqT s t r)).d = .ok (.bl true) := rfl
        have f0 : kFld 0 (Sn.mk [] (eqT s t r)).d = .ok (.tup []) := rfl
        have f1 : kFld 1 (Sn.mk [] (eqT s t r)).d = .ok (eqT s t r).d := rfl
        have e0 : eqD (.tup []) (.tup []) = .ok true := rfl
        refine ⟨[.val (iL ns), .val (.int k), .val (.int v), .val t.d, .val r.d, .val r.d, .val (Sn.mk [] (eqT s t r)).d, .val (eqT s t r).d], .inl ?_, _, _, _, _, _, _, rfl⟩
        simp! [it, en, evE_thk, rd, rn, tr, tn, gg, nonD_tm, q1, q2, q3, q4, q5, q6, q7, q8, hi, f0, f1, e0]
theorem draw236 (ns : List Int) (hns : ns.length ≤ 63) (k : Int) (s2 s3 s4 s5 s6 s7 : Sl) :
    ∃ (v : Int) (t : Tm) (s : Srt), evSs (R 227) 2000 (B236.take 4) [.val (iL ns), .val (.int k), s2, s3, s4, s5, s6, s7] = .nxt [.val (iL ns), .val (.int k), .val (.int v), .val t.d, s4, s5, s6, s7] ∧ WT [] t s ∧ s.dp ≤ 3 ∧ t.dp ≤ 150 := by
  have hcell := cell_ok 226 ns k hns
  have hdr := drawn_ok 226 (cellI ns k) (k + 5000)
  generalize drawI (cellI ns k) (k + 5000) = v at hdr
  obtain ⟨u, hu, hu1⟩ := at3s v
  obtain ⟨m, hm, hm2⟩ : ∃ m : Nat, 2 + v / 3 % 3 = (m : Int) ∧ m ≤ 4 := by
    have a := Int.emod_nonneg (v / 3) (show (3 : Int) ≠ 0 by decide)
    have b := Int.emod_lt_of_pos (v / 3) (show (0 : Int) < 3 by decide)
    obtain ⟨m, hm⟩ := Int.eq_ofNat_of_zero_le (show 0 ≤ 2 + v / 3 % 3 by omega)
    exact ⟨m, hm, by omega⟩
  obtain ⟨t0, h0, w0, d0⟩ := folded_ok ns hns m 227 (40 * k) u [] (by omega) (fun s hs => by cases hs) (by simp) (by omega)
  have h0 : R 227 231 [iL ns, .int (40 * k), u.d, .lst [], .int m] = .ok t0.d := h0
  obtain ⟨t1, h1, w1, d1⟩ := doubling_ok 226 (v / 45)
  obtain ⟨c, hc, hc1, hc2⟩ : ∃ c : Nat, 59 + v / 45 % 4 = (c : Int) ∧ 1 ≤ c ∧ c ≤ 62 := by
    have a := Int.emod_nonneg (v / 45) (show (4 : Int) ≠ 0 by decide)
    have b := Int.emod_lt_of_pos (v / 45) (show (0 : Int) < 4 by decide)
    obtain ⟨m, hm⟩ := Int.eq_ofNat_of_zero_le (show 0 ≤ 59 + v / 45 % 4 by omega)
    exact ⟨m, hm, by omega, by omega⟩
  obtain ⟨t2, h2, w2, d2⟩ := wide_ok 226 c hc1 hc2 (v / 180)
  simp only [B236, F236, List.take_succ_cons, List.take_zero]
  by_cases e0 : v / 9 % 5 = 0
  · refine ⟨v, t1, .t, ?_, w1, by decide, by omega⟩
    simp! [hcell, hdr, v_modK v 3 (by decide), hu, v_fdivK v 3 (by decide) (by decide +kernel), v_modK (v / 3) 3 (by decide), hm, h0, v_fdivK v 9 (by decide) (by decide +kernel), v_modK (v / 9) 5 (by decide), e0, show ((0 : Int) == 0) = true from rfl, show ((0 : Int) == 1) = false from rfl,
      v_fdivK v 45 (by decide) (by decide +kernel), h1]
  · by_cases e1 : v / 9 % 5 = 1
    · refine ⟨v, t2, .t, ?_, w2, by decide, by omega⟩
      simp! [hcell, hdr, v_modK v 3 (by decide), hu, v_fdivK v 3 (by decide) (by decide +kernel), v_modK (v / 3) 3 (by decide), hm, h0, v_fdivK v 9 (by decide) (by decide +kernel), v_modK (v / 9) 5 (by decide), e1, show ((1 : Int) == 0) = false from rfl, show ((1 : Int) == 1) = true from rfl,
        v_fdivK v 45 (by decide) (by decide +kernel), v_modK (v / 45) 4 (by decide), hc, v_fdivK v 180 (by decide) (by decide +kernel), h2]
    · refine ⟨v, t0, u, ?_, w0, by omega, by omega⟩
      simp! [hcell, hdr, v_modK v 3 (by decide), hu, v_fdivK v 3 (by decide) (by decide +kernel), v_modK (v / 3) 3 (by decide), hm, h0, v_fdivK v 9 (by decide) (by decide +kernel), v_modK (v / 9) 5 (by decide), beq_eq_false_iff_ne.mpr e0, beq_eq_false_iff_ne.mpr e1]
theorem mx1 (n : Nat) : ∃ b : Int, (if (if ((n : Nat) : Int) < 4 then ((n : Nat) : Int) else 4) > 1 then (if ((n : Nat) : Int) < 4 then ((n : Nat) : Int) else 4) else 1) = b ∧ 0 ≤ b ∧ b ≤ 4 := by
  refine ⟨_, rfl, ?_, ?_⟩ <;> (split <;> (try split) <;> omega)
theorem k29_run (ns : List Int) (hns : ns.length ≤ 63) : run libF 2000 228 236 [.lst (ns.map .int)] = .ok (.bl true) := by
  show R (227 + 1) 236 [iL ns] = _
  rw [R_at lib236 rfl]
  simp only [F236, start, List.map_cons, List.map_nil, List.cons_append, List.nil_append, Nat.reduceSub, List.replicate]
  obtain ⟨b, hb, hb0, hb1⟩ := mx1 ns.length
  simp! [List.length_map, v_min, v_max, hb, rngD1 (i := b) (by omega) (by omega)]
  have key := kFor_inv (call := R 227) (w := 2000) (i := 1) (body := B236) (fun ρ => ∃ s1 s2 s3 s4 s5 s6 s7, ρ = [.val (iL ns), s1, s2, s3, s4, s5, s6, s7]) (ds := rngL 0 1 b.toNat) (ρ := [.val (iL ns), .no, .no, .no, .no, .no, .no, .no]) ⟨_, _, _, _, _, _, _, rfl⟩ (fun d hd ρ hI => by
    obtain ⟨s1, s2, s3, s4, s5, s6, s7, rfl⟩ := hI
    obtain ⟨j, _, rfl⟩ := rngL_mem hd
    generalize (0 : Int) + (j : Int) * 1 = k
    simp only [List.set_cons_succ, List.set_cons_zero]
    obtain ⟨v, t, s, h1, h2, h3, h4⟩ := draw236 ns hns k s2 s3 s4 s5 s6 s7
    obtain ⟨ρ2, q, x2, x3, x4, x5, x6, x7, rfl⟩ := body236 ns k v h2 h3 h4 s4 s5 s6 s7
    have cutB : B236 = B236.take 4 ++ B236.drop 4 := (List.take_append_drop 4 B236).symm
    refine ⟨[.val (iL ns), .val (.int k), x2, x3, x4, x5, x6, x7], ?_, _, _, _, _, _, _, _, rfl⟩
    rw [cutB, evs_app, h1, seq_nxt]
    exact q)
  obtain ⟨ρ', q1, s1, s2, s3, s4, s5, s6, s7, rfl⟩ := key
  simp only [B236, F236] at q1
  simp! [q1]
end Rf

set_option maxRecDepth 100000
set_option maxHeartbeats 0
namespace K29
open PySem L2 Rf
def fns : List (Nat × Fn) := [(8, F8), (9, F9), (10, F10), (11, F11), (22, F22), (12, F12), (24, F24), (25, F25), (26, F26), (27, F27), (28, F28), (29, F29), (30, F30), (40, F40), (41, F41), (43, F43), (85, F85), (86, F86), (87, F87), (58, F58), (117, F117), (118, F118), (219, F219), (220, F220), (221, F221), (3, F3), (4, F4), (8, F8), (31, F31), (32, F32), (33, F33), (48, F48), (27, F27), (28, F28), (52, F52), (53, F53), (54, F54), (85, F85), (86, F86), (230, F230), (231, F231), (232, F232), (233, F233), (234, F234), (236, F236)]
theorem comp_ok : cDefs pg 60 pg.dfs = some fns := by kernel_rfl
theorem pg_ok : pg.ok = true := by kernel_rfl
theorem sub_ok : subF libF fns := ⟨lib8, lib9, lib10, lib11, lib22, lib12, lib24, lib25, lib26, lib27, lib28, lib29, lib30, lib40, lib41, lib43, lib85, lib86, lib87, lib58, lib117, lib118, lib219, lib220, lib221, lib3, lib4, lib8, lib31, lib32, lib33, lib48, lib27, lib28, lib52, lib53, lib54, lib85, lib86, lib230, lib231, lib232, lib233, lib234, lib236, trivial⟩
def lowF : List (Nat × Fn) := [(1220, F1220), (2220, F2220), (1221, F1221), (2221, F2221)]
theorem low_eq : lowL pg = lowF := by kernel_rfl
theorem low_ok : subF libF (lowL pg) := by
  rw [low_eq]
  exact ⟨lib1220, lib2220, lib1221, lib2221, trivial⟩
end K29
open PySem PySem.W PySem.Calls PyProof.Rows
theorem PySem.Challenge.cw_soundwell_k29_whole_unfolded_to_the_end_holds : PySem.Challenge.rw_soundwell_k29_whole_unfolded_to_the_end.Holds := by
  w_on; o_law
  refine HandSHeadRun.head_any (r := OpenLaw.row PySem.Challenge.rw_soundwell_k29_whole_unfolded_to_the_end) (q := view (OpenLaw.row PySem.Challenge.rw_soundwell_k29_whole_unfolded_to_the_end).prog [K29.lawAt]) (H := K29.hk) (ob := K29.ob) (M := 12000) (loose := K29.loose)
    (d := HandSHeadRun.topDef (OpenLaw.row PySem.Challenge.rw_soundwell_k29_whole_unfolded_to_the_end).prog K29.lawAt) (kwd := []) K29.ob_eq (by kernel_rfl) (fun s => by kernel_rfl) K29.topRun (by kernel_rfl) (by kernel_rfl) (by kernel_rfl) (by rfl)
    (by first | assumption | decide +kernel) (by decide +kernel) ⟨rfl, rfl, rfl, rfl, rfl, by decide +kernel⟩ ?hw ?hc
  case hw => w_witness2
  case hc => exact Rf.walk_rf (l := PySem.Challenge.rw_soundwell_k29_whole_unfolded_to_the_end) rfl (by kernel_rfl) K29.pg_ok (Rf.compOk_of K29.comp_ok K29.sub_ok) K29.low_ok (f := K29.lawD) (by simp [K29.pg]) rfl (by kernel_rfl) Rf.k29_run
#print axioms PySem.Challenge.cw_soundwell_k29_whole_unfolded_to_the_end_holds
