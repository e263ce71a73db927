import PyProof.Rows.All
import Wide.All
import OpenK.AllK
import Wide.FinOn
import HandS.ForMost
import HandS.Walk
import HandS.TupAny
import HandS.TupMul
import HandS.Wide
import HandS.Zip
import HandS.IsInst
import HandS.Style
import HandS.Flow
import KE.DataEq
import KE.DataMinMax
import HandS.Strs
import HandS.SetFor
import HandS.Deep
import KE.GoesEnum
import PyProof.Rows.SortShellAny
import HandS.SortInts
import PyProof.TupleOfSeq
import HandS.Small
import PySem.Challenge.RW_peakprints_k01_loops_rows_and_askings_re
set_option Elab.async false
set_option linter.all false
set_option maxRecDepth 100000 -- deep trees
set_option maxHeartbeats 4000000 -- long walks
/-! An evaluator for a part of Python over frozen data and few live cells. -/
namespace G
open PySem L2

abbrev D := PyData

/-- a value: frozen data, a live cell, or a tuple of such -/
inductive Val where
  | d (x : D)
  | loc (n : Nat)
  | tup (vs : List Val)

/-- what a live cell holds -/
inductive Cell where
  | dead
  | lst (xs : List D)
  | dct (kvs : List (Key × D))

abbrev Store := List Cell
abbrev Env := List (Option Val)

structure Ex where
  cls : String
  args : List D

inductive R (α : Type) where
  | ok (a : α) (S : Store)
  | er (x : Ex) (S : Store)

def bnd {α β : Type} (r : Option (R α)) (k : α → Store → Option (R β)) : Option (R β) :=
  match r with
  | some (.ok a S) => k a S
  | some (.er x S) => some (.er x S)
  | none => none
@[simp] theorem bnd_ok {α β : Type} (a : α) (S : Store) (k : α → Store → Option (R β)) : bnd (some (.ok a S)) k = k a S := Eq.trans rfl rfl
@[simp] theorem bnd_er {α β : Type} (x : Ex) (S : Store) (k : α → Store → Option (R β)) : bnd (some (.er x S)) k = some (.er x S) := Eq.trans rfl rfl
@[simp] theorem bnd_none {α β : Type} (k : α → Store → Option (R β)) : bnd none k = none := Eq.trans rfl rfl

/-- the data that a value is now -/
def view (S : Store) : Val → Option D
  | .d x => some x
  | .loc n => match S[n]? with
    | some (.lst xs) => some (.list xs)
    | _ => none
  | .tup _ => none
@[simp] theorem view_d (S : Store) (x : D) : view S (.d x) = some x := Eq.trans rfl rfl
theorem view_loc {S : Store} {n : Nat} {xs : List D} (h : S[n]? = some (.lst xs)) : view S (.loc n) = some (.list xs) := by simp [view, h]

abbrev Den := Env → Store → Option (R Val)
abbrev DenT := Env → Store → Option (R Bool)
abbrev DenA := Env → Store → Option (R (List Val))

/-- give a datum back -/
def givD (o : Option D) (S : Store) : Option (R Val) := match o with
  | some y => some (.ok (.d y) S)
  | none => none
@[simp] theorem givD_some (y : D) (S : Store) : givD (some y) S = some (.ok (.d y) S) := Eq.trans rfl rfl
@[simp] theorem givD_none (S : Store) : givD none S = none := Eq.trans rfl rfl
def givB (o : Option Bool) (S : Store) : Option (R Bool) := match o with
  | some y => some (.ok y S)
  | none => none
@[simp] theorem givB_some (y : Bool) (S : Store) : givB (some y) S = some (.ok y S) := Eq.trans rfl rfl
@[simp] theorem givB_none (S : Store) : givB none S = none := Eq.trans rfl rfl

def cVar (i : Nat) : Den := fun env S => match env[i]? with
  | some (some v) => some (.ok v S)
  | _ => none
def cCst (x : D) : Den := fun _ S => some (.ok (.d x) S)
def cOp1 (f : D → Option D) (a : Den) : Den := fun env S => bnd (a env S) fun v S1 => givD ((view S1 v).bind f) S1
def cOp2 (f : D → D → Option D) (a b : Den) : Den := fun env S => bnd (a env S) fun v S1 => bnd (b env S1) fun u S2 => givD ((view S2 v).bind fun x => (view S2 u).bind fun y => f x y) S2
def cIte (t : DenT) (a b : Den) : Den := fun env S => bnd (t env S) fun k S1 => if k then a env S1 else b env S1
/-- tests -/
def tru : D → Option Bool
  | .none => some false
  | .bool b => some b
  | .int i => some (i != 0)
  | .str s => if s.length ≤ sizeLine then some (s.length != 0) else none
  | .list xs => some (!xs.isEmpty)
  | .tuple xs => some (!xs.isEmpty)
  | .dict _ => none
def cTru (a : Den) : DenT := fun env S => bnd (a env S) fun v S1 => givB ((view S1 v).bind tru) S1
def cNotT (a : DenT) : DenT := fun env S => bnd (a env S) fun k S1 => some (.ok (!k) S1)
def cAndT (a b : DenT) : DenT := fun env S => bnd (a env S) fun k S1 => if k then b env S1 else some (.ok false S1)
def cOrT (a b : DenT) : DenT := fun env S => bnd (a env S) fun k S1 => if k then some (.ok true S1) else b env S1
def cIteT (t a b : DenT) : DenT := fun env S => bnd (t env S) fun k S1 => if k then a env S1 else b env S1
/-- and, or as values -/
def cAnd (a b : Den) : Den := fun env S => bnd (a env S) fun v S1 => match (view S1 v).bind tru with
  | some k => if k then b env S1 else some (.ok v S1)
  | none => none
def cOr (a b : Den) : Den := fun env S => bnd (a env S) fun v S1 => match (view S1 v).bind tru with
  | some k => if k then some (.ok v S1) else b env S1
  | none => none
def notD (x : D) : Option D := (tru x).map fun k => .bool (!k)
/-- arguments -/
def cNil : DenA := fun _ S => some (.ok [] S)
def cCons (a : Den) (r : DenA) : DenA := fun env S => bnd (a env S) fun v S1 => bnd (r env S1) fun vs S2 => some (.ok (v :: vs) S2)
/-- all are frozen -/
def dats : List Val → Option (List D)
  | [] => some []
  | .d x :: r => (dats r).map (x :: ·)
  | .loc _ :: _ => none
  | .tup _ :: _ => none
@[simp] theorem dats_nil : dats [] = some [] := Eq.trans rfl rfl
@[simp] theorem dats_cons (x : D) (r : List Val) : dats (.d x :: r) = (dats r).map (x :: ·) := Eq.trans rfl rfl
def fitD (mk : List D → D) (xs : List D) : Option D := if xs.length ≤ sizeLine then some (mk xs) else none
def cTup (a : DenA) : Den := fun env S => bnd (a env S) fun vs S1 => givD ((dats vs).bind (fitD .tuple)) S1
def cLst (a : DenA) : Den := fun env S => bnd (a env S) fun vs S1 => givD ((dats vs).bind (fitD .list)) S1
/-- a new live list -/
def cNew (a : DenA) : Den := fun env S => bnd (a env S) fun vs S1 => match dats vs with
  | some xs => if xs.length ≤ sizeLine then some (.ok (.loc S1.length) (S1 ++ [.lst xs])) else none
  | none => none
/-- a live list becomes frozen -/
def cFrz (a : Den) : Den := fun env S => bnd (a env S) fun v S1 => match v with
  | .d x => some (.ok (.d x) S1)
  | .loc n => match S1[n]? with
    | some (.lst xs) => some (.ok (.d (.list xs)) (S1.set n .dead))
    | _ => none
  | .tup _ => none
/-- a tuple with live parts -/
def cLtup (a : DenA) : Den := fun env S => bnd (a env S) fun vs S1 => if vs.length ≤ sizeLine then some (.ok (.tup vs) S1) else none

/-! ### dicts with numbers and texts as keys -/
def keyOf : D → Option Key
  | .int i => some (.inl i)
  | .str s => some (.inr s)
  | _ => none
def getK (kvs : List (Key × D)) (k : Key) : Option D := (kvs.find? fun p => decide (p.1 = k)).map (·.2)
def putD (kvs : List (Key × D)) (k : Key) (v : D) : List (Key × D) :=
  if kvs.any (fun p => decide (p.1 = k)) then kvs.map (fun p => if p.1 = k then (p.1, v) else p) else kvs ++ [(k, v)]
def cDget (o a : Den) : Den := fun env S => bnd (o env S) fun ov S1 => bnd (a env S1) fun kv S2 => match ov with
  | .loc n => match S2[n]? with
    | some (.dct kvs) => givD (((view S2 kv).bind keyOf).bind (getK kvs)) S2
    | _ => none
  | _ => none
def cDin (neg : Bool) (a o : Den) : Den := fun env S => bnd (a env S) fun kv S1 => bnd (o env S1) fun ov S2 => match ov with
  | .loc n => match S2[n]? with
    | some (.dct kvs) => givD (((view S1 kv).bind keyOf).map fun k => .bool (if neg then !(getK kvs k).isSome else (getK kvs k).isSome)) S2
    | _ => none
  | _ => none
def cDnew : Den := fun _ S => some (.ok (.loc S.length) (S ++ [.dct []]))
def mrgD (kvs : List (Key × D)) (ps : List (Key × D)) : List (Key × D) := ps.foldl (fun acc p => putD acc p.1 p.2) kvs
def cDdsp (ks : List Key) (a : DenA) : Den := fun env S => bnd (a env (S ++ [.dct []])) fun vs S1 => match dats vs, S1[S.length]? with
  | some xs, some (.dct []) => if xs.length = ks.length then some (.ok (.loc S.length) (S1.set S.length (.dct (mrgD [] (ks.zip xs))))) else none
  | _, _ => none

/-! ### operations on data -/
def small (i : Int) : Bool := decide (-(2 ^ 64) < i) && decide (i < 2 ^ 64)
def CDivOk (j : Int) : Prop := 0 < j ∧ j.natAbs.log2 < 9000
instance (j : Int) : Decidable (CDivOk j) := by unfold CDivOk; infer_instance
def addD : D → D → Option D
  | .int i, .int j => some (.int (i + j))
  | .str a, .str b => if a.length + b.length ≤ sizeLine then some (.str (a ++ b)) else none
  | .list xs, .list ys => if xs.length + ys.length ≤ sizeLine then some (.list (xs ++ ys)) else none
  | .tuple xs, .tuple ys => if xs.length + ys.length ≤ sizeLine then some (.tuple (xs ++ ys)) else none
  | _, _ => none
def intD (f : Int → Int → Option D) : D → D → Option D
  | .int i, .int j => f i j
  | _, _ => none
def subD : D → D → Option D := intD fun i j => some (.int (i - j))
def okR (i : Int) : Prop := -(2 ^ 62) ≤ i ∧ i < 2 ^ 62
instance (i : Int) : Decidable (okR i) := by unfold okR; infer_instance
def repL (k : Int) (xs : List D) : List D := (List.replicate k.toNat xs).flatten
def mulD : D → D → Option D
  | .int i, .int j => if small i || small j then some (.int (i * j)) else none
  | .list xs, .int k => if okR k ∧ xs.length * k.toNat ≤ sizeLine then some (.list (repL k xs)) else none
  | .tuple xs, .int k => if 0 < xs.length ∧ 2 ≤ k ∧ k ≤ 1000 ∧ xs.length ≤ 1000 then some (.tuple (repL k xs)) else none
  | _, _ => none
def fdivD : D → D → Option D := intD fun i j => if CDivOk j then some (.int (i / j)) else none
def modD : D → D → Option D := intD fun i j => if 0 < j then some (.int (i % j)) else none
def powD : D → D → Option D := intD fun i j => if 0 ≤ j ∧ j ≤ 1000000 ∧ i.natAbs < 2 ^ 64 then some (.int (i ^ j.toNat)) else none
def binD : Operator → D → D → Option D
  | .Add => addD
  | .Sub => subD
  | .Mult => mulD
  | .FloorDiv => fdivD
  | .Mod => modD
  | .Pow => powD
  | _ => fun _ _ => none
/-- one of two is not too deep -/
def shal (x y : D) : Bool := decide (min x.depth y.depth ≤ 60)
def shalAll (x : D) (ys : List D) : Bool := decide (min (PyData.depthAll ys) x.depth ≤ 60)
def inD (x : D) (ys : List D) : Bool := ys.any fun y => PyData.eqv y x
def eqD (x y : D) : Option D := if shal x y then some (.bool (PyData.eqv x y)) else none
def neD (x y : D) : Option D := if shal x y then some (.bool (!PyData.eqv x y)) else none
def ltD : D → D → Option D := intD fun i j => some (.bool (decide (i < j)))
def leD : D → D → Option D := intD fun i j => some (.bool (decide (i ≤ j)))
def gtD : D → D → Option D := intD fun i j => some (.bool (decide (j < i)))
def geD : D → D → Option D := intD fun i j => some (.bool (decide (j ≤ i)))
def memD (n : Bool) (x : D) : D → Option D
  | .list ys => if shalAll x ys then some (.bool (if n then !inD x ys else inD x ys)) else none
  | .tuple ys => if shalAll x ys then some (.bool (if n then !inD x ys else inD x ys)) else none
  | _ => none
def cmpD : CmpOp → D → D → Option D
  | .Eq => eqD
  | .NotEq => neD
  | .Lt => ltD
  | .LtE => leD
  | .Gt => gtD
  | .GtE => geD
  | .In => memD false
  | .NotIn => memD true
  | _ => fun _ _ => none
def isNoneD (neg : Bool) : D → Option D
  | .none => some (.bool (!neg))
  | _ => some (.bool neg)
def negD : D → Option D
  | .int i => some (.int (-i))
  | _ => none
def idxD : D → D → Option D
  | .list xs, .int i => atI xs i
  | .tuple xs, .int i => atI xs i
  | _, _ => none
def cut (xs : List α) (lo hi : Option Int) : List α := (xs.drop (HT.sIx xs.length 0 lo)).take (HT.sIx xs.length xs.length hi - HT.sIx xs.length 0 lo)
def slcD (lo hi : Option Int) : D → Option D
  | .list xs => some (.list (cut xs lo hi))
  | .tuple xs => some (.tuple (cut xs lo hi))
  | _ => none
/-- an optional part of a slice -/
abbrev DenO := Env → Store → Option (R (Option Int))
def cNoPart : DenO := fun _ S => some (.ok none S)
def cPart (a : Den) : DenO := fun env S => bnd (a env S) fun v S1 => match v with
  | .d (.int i) => some (.ok (some i) S1)
  | _ => none
def cSlc (a : Den) (lo hi : DenO) : Den := fun env S => bnd (a env S) fun v S1 => bnd (lo env S1) fun l S2 => bnd (hi env S2) fun h S3 => givD ((view S3 v).bind (slcD l h)) S3
def lenD : D → Option D
  | .str s => if s.length ≤ sizeLine then some (.int s.length) else none
  | .list xs => some (.int xs.length)
  | .tuple xs => some (.int xs.length)
  | _ => none
/-! ### statements -/
inductive Fl where
  | nx (e : Env)
  | ret (v : Val)
  | brk (e : Env)
  | cnt (e : Env)
abbrev DenS := Env → Store → Option (R Fl)
abbrev DenG := Val → Env → Store → Option (R Env)
abbrev DenGs := List Val → Env → Store → Option (R Env)
abbrev DenI := Env → Store → Option (R (List D))
def cSkip : DenS := fun env S => some (.ok (.nx env) S)
def cBrk : DenS := fun env S => some (.ok (.brk env) S)
def cCnt : DenS := fun env S => some (.ok (.cnt env) S)
def thenS (b : DenS) : Fl → Store → Option (R Fl)
  | .nx e, S => b e S
  | .ret v, S => some (.ok (.ret v) S)
  | .brk e, S => some (.ok (.brk e) S)
  | .cnt e, S => some (.ok (.cnt e) S)
def cSeq (a b : DenS) : DenS := fun env S => bnd (a env S) (thenS b)
def cExpr (a : Den) : DenS := fun env S => bnd (a env S) fun _ S1 => some (.ok (.nx env) S1)
def cRet (a : Den) : DenS := fun env S => bnd (a env S) fun v S1 => some (.ok (.ret v) S1)
def cIfS (t : DenT) (a b : DenS) : DenS := fun env S => bnd (t env S) fun k S1 => if k then a env S1 else b env S1
def cAsg (a : Den) (g : DenG) : DenS := fun env S => bnd (a env S) fun v S1 => bnd (g v env S1) fun e S2 => some (.ok (.nx e) S2)
/-- targets -/
def gN (i : Nat) : DenG := fun v env S => if i < env.length then some (.ok (env.set i (some v)) S) else none
def gsN : DenGs := fun xs env S => match xs with
  | [] => some (.ok env S)
  | _ => none
def gsC (g : DenG) (gs : DenGs) : DenGs := fun xs env S => match xs with
  | x :: xs => bnd (g x env S) fun e S1 => gs xs e S1
  | [] => none
def gT (n : Nat) (gs : DenGs) : DenG := fun v env S => match v with
  | .d (.tuple xs) => if xs.length = n then gs (xs.map .d) env S else none
  | .tup vs => if vs.length = n then gs vs env S else none
  | _ => none
/-- two or three names from two or three values -/
def cPar (is : List Nat) (a : DenA) : DenS := fun env S => bnd (a env S) fun vs S1 =>
  if is.all (fun i => decide (i < env.length)) ∧ vs.length = is.length then some (.ok (.nx ((is.zip vs).foldl (fun e p => e.set p.1 (some p.2)) env)) S1) else none
/-- a store into a live list -/
def gL (o i : Den) : DenG := fun v env S => bnd (o env S) fun ov S1 => bnd (i env S1) fun iv S2 => match ov, iv, v with
  | .loc n, .d (.int k), .d x => match S2[n]? with
    | some (.lst xs) => match ixN xs.length k with
      | some j => some (.ok env (S2.set n (.lst (xs.set j x))))
      | none => none
    | _ => none
  | _, _, _ => none
/-- a store into a live dict -/
def gD (o i : Den) : DenG := fun v env S => bnd (o env S) fun ov S1 => bnd (i env S1) fun iv S2 => match ov, v with
  | .loc n, .d x => match S2[n]? with
    | some (.dct kvs) => match (view S2 iv).bind keyOf with
      | some k => if kvs.length < sizeLine then some (.ok env (S2.set n (.dct (putD kvs k x)))) else none
      | none => none
    | _ => none
  | _, _ => none
/-- what is walked -/
def seqOf : D → Option (List D)
  | .list xs => some xs
  | .tuple xs => some xs
  | _ => none
def givL (o : Option (List D)) (S : Store) : Option (R (List D)) := match o with
  | some xs => some (.ok xs S)
  | none => none
@[simp] theorem givL_some (y : List D) (S : Store) : givL (some y) S = some (.ok y S) := Eq.trans rfl rfl
@[simp] theorem givL_none (S : Store) : givL none S = none := Eq.trans rfl rfl
def datOf : Val → Option D
  | .d x => some x
  | .loc _ => none
  | .tup _ => none
@[simp] theorem datOf_d (x : D) : datOf (.d x) = some x := Eq.trans rfl rfl
def iSeq (a : Den) : DenI := fun env S => bnd (a env S) fun v S1 => givL ((datOf v).bind seqOf) S1
def rangeL (lo : Int) (n : Nat) : List D := (List.range n).map fun (i : Nat) => .int (lo + (i : Int))
def rng1 : D → Option (List D)
  | .int j => if okR j then some (rangeL 0 j.toNat) else none
  | _ => none
def rng2 : D → D → Option (List D)
  | .int i, .int j => if okR i ∧ okR j then some (rangeL i (j - i).toNat) else none
  | _, _ => none
def iRng1 (a : Den) : DenI := fun env S => bnd (a env S) fun v S1 => givL ((datOf v).bind rng1) S1
def iRng2 (a b : Den) : DenI := fun env S => bnd (a env S) fun v S1 => bnd (b env S1) fun u S2 => givL ((datOf v).bind fun x => (datOf u).bind fun y => rng2 x y) S2
def enumL (xs : List D) : List D := xs.mapIdx fun i x => .tuple [.int (i : Nat), x]
def zipL (xs ys : List D) : List D := List.zipWith (fun x y => .tuple [x, y]) xs ys
def enm : D → Option (List D)
  | .list xs => some (enumL xs)
  | .tuple xs => some (enumL xs)
  | _ => none
def zp : D → D → Option (List D)
  | .list xs, .list ys => some (zipL xs ys)
  | .tuple xs, .tuple ys => some (zipL xs ys)
  | _, _ => none
def iEnm (a : Den) : DenI := fun env S => bnd (a env S) fun v S1 => givL ((datOf v).bind enm) S1
def iZp (a b : Den) : DenI := fun env S => bnd (a env S) fun v S1 => bnd (b env S1) fun u S2 => givL ((datOf v).bind fun x => (datOf u).bind fun y => zp x y) S2
/-- loops -/
def turnS (again : Env → Store → Option (R Fl)) : Fl → Store → Option (R Fl)
  | .nx e, S => again e S
  | .cnt e, S => again e S
  | .brk e, S => some (.ok (.nx e) S)
  | .ret v, S => some (.ok (.ret v) S)
def forL (g : DenG) (body : DenS) : List D → Env → Store → Option (R Fl)
  | [], env, S => some (.ok (.nx env) S)
  | x :: xs, env, S => bnd (g (.d x) env S) fun e S1 => bnd (body e S1) (turnS (forL g body xs))
def cFor (src : DenI) (g : DenG) (body : DenS) : DenS := fun env S => bnd (src env S) fun xs S1 => forL g body xs env S1
def whileN (c : DenT) (body : DenS) : Nat → Env → Store → Option (R Fl)
  | 0, _, _ => none
  | n + 1, env, S => bnd (c env S) fun k S1 => if k then bnd (body env S1) (turnS (whileN c body n)) else some (.ok (.nx env) S1)
open Classical in
noncomputable def cWhile (c : DenT) (body : DenS) : DenS := fun env S => if h : ∃ n r, whileN c body n env S = some r then some (Classical.choose (Classical.choose_spec h)) else none
/-- a comprehension's targets -/
def setAll (env : Env) : List Nat → List D → Env
  | i :: is, x :: xs => setAll (env.set i (some (.d x))) is xs
  | _, _ => env
def cT (tup : Bool) (is : List Nat) (x : D) (env : Env) : Option Env :=
  if tup then match x with
    | .tuple xs => if xs.length = is.length then some (setAll env is xs) else none
    | _ => none
  else match is with
    | [i] => some (env.set i (some (.d x)))
    | _ => none
/-- comprehensions: the list grows in the cell n0 -/
def lcL (tg : D → Env → Option Env) (t : DenT) (el : Den) (n0 : Nat) : List D → Env → Store → Option Store
  | [], _, S => some S
  | x :: xs, env, S => match tg x env with
    | some e => match t e S with
      | some (.ok true S2) => match el e S2 with
        | some (.ok (.d y) S3) => match S3[n0]? with
          | some (.lst ys) => if ys.length < sizeLine then lcL tg t el n0 xs env (S3.set n0 (.lst (ys ++ [y]))) else none
          | _ => none
        | _ => none
      | some (.ok false S2) => lcL tg t el n0 xs env S2
      | _ => none
    | none => none
def wipeE (env : Env) : List Nat → Env
  | [] => env
  | v :: vs => (wipeE env vs).set v none
def cLc (live : Bool) (src : DenI) (tg : D → Env → Option Env) (t : DenT) (el : Den) (wipes : List Nat) : Den := fun env S => bnd (src env S) fun xs S1 =>
  match lcL tg t el S1.length xs (wipeE env wipes) (S1 ++ [.lst []]) with
  | some S2 => match S2[S1.length]? with
    | some (.lst ys) => if live then some (.ok (.loc S1.length) (S2.take (S1.length + 1))) else some (.ok (.d (.list ys)) (S2.take S1.length))
    | _ => none
  | none => none
/-- a call of a def -/
abbrev Fn := List Val → Store → Option (R Val)
def cCall (f : Fn) (dfl : List D) (a : DenA) : Den := fun env S => bnd (a env S) fun vs S1 => f (vs ++ dfl.map .d) S1
/-- a def's body run: what it made is forgotten but for what it hands back -/
def closeV (n : Nat) (v : Val) (S : Store) : Option (R Val) := match v with
  | .d x => some (.ok (.d x) (S.take n))
  | .loc m => if m < n then some (.ok (.loc m) (S.take n)) else match S[m]? with
    | some c => some (.ok (.loc n) (S.take n ++ [c]))
    | none => none
  | .tup vs => some (.ok (.tup vs) S)
def runFn (np nn : Nat) (body : DenS) : Fn := fun vs S =>
  if vs.length = np then
    match body (vs.map some ++ List.replicate (nn - vs.length) none) S with
    | some (.ok (.ret v) S1) => closeV S.length v S1
    | some (.ok (.nx _) S1) => some (.ok (.d .none) (S1.take S.length))
    | some (.er x S1) => some (.er x (S1.take S.length))
    | _ => none
  else none
/-- isinstance with a built-in class -/
def clsOf : D → String
  | .none => "NoneType"
  | .bool _ => "bool"
  | .int _ => "int"
  | .str _ => "str"
  | .list _ => "list"
  | .tuple _ => "tuple"
  | .dict _ => ""
def isaD (T : String) (x : D) : Option D := (kitB (clsOf x) T).map .bool
def bools : List D → Option (List Bool)
  | [] => some []
  | .bool b :: r => (bools r).map (b :: ·)
  | _ :: _ => none
def intsOf : List D → Option (List Int)
  | [] => some []
  | .int b :: r => (intsOf r).map (b :: ·)
  | _ :: _ => none
theorem intsOf_map (ns : List Int) : intsOf (ns.map .int) = some ns := by
  induction ns with
  | nil => rfl
  | cons n ns ih => simp [intsOf, ih]
theorem intsOf_eq : ∀ {xs : List D} {ns : List Int}, intsOf xs = some ns → xs = ns.map .int
  | [], _, h => by cases h; rfl
  | .int b :: r, ns, h => by
    simp only [intsOf] at h
    cases q : intsOf r with
    | none => rw [q] at h; cases h
    | some m =>
      rw [q] at h
      cases h
      simp [intsOf_eq q]
  | .none :: _, _, h => nomatch h
  | .bool _ :: _, _, h => nomatch h
  | .str _ :: _, _, h => nomatch h
  | .list _ :: _, _, h => nomatch h
  | .tuple _ :: _, _, h => nomatch h
  | .dict _ :: _, _, h => nomatch h
theorem bools_map (ns : List Bool) : bools (ns.map .bool) = some ns := by
  induction ns with
  | nil => rfl
  | cons n ns ih => simp [bools, ih]
theorem bools_eq : ∀ {xs : List D} {ns : List Bool}, bools xs = some ns → xs = ns.map .bool
  | [], _, h => by cases h; rfl
  | .bool b :: r, ns, h => by
    simp only [bools] at h
    cases q : bools r with
    | none => rw [q] at h; cases h
    | some m =>
      rw [q] at h
      cases h
      simp [bools_eq q]
  | .none :: _, _, h => nomatch h
  | .int _ :: _, _, h => nomatch h
  | .str _ :: _, _, h => nomatch h
  | .list _ :: _, _, h => nomatch h
  | .tuple _ :: _, _, h => nomatch h
  | .dict _ :: _, _, h => nomatch h
def allD : D → Option D
  | .list xs => (bools xs).map fun bs => .bool (bs.all id)
  | _ => none
def absD : D → Option D
  | .int i => some (.int (if i < 0 then -i else i))
  | _ => none
def intOfD : D → Option D
  | .int i => some (.int i)
  | .bool k => some (.int (if k then 1 else 0))
  | _ => none
def boolOfD : D → Option D
  | .int i => some (.bool (i != 0))
  | .bool k => some (.bool k)
  | _ => none
def listD : D → Option D
  | .list xs => some (.list xs)
  | .tuple xs => some (.list xs)
  | _ => none
def tupD : D → Option D
  | .list xs => some (.tuple xs)
  | .tuple xs => some (.tuple xs)
  | _ => none
def maxD2 : D → D → Option D := intD fun i j => some (.int (if j > i then j else i))
def minD2 : D → D → Option D := intD fun i j => some (.int (if j < i then j else i))
def bestD (f : Int → Int → Int) : D → Option D
  | .list xs => match intsOf xs with
    | some (n :: ns) => some (.int (ns.foldl f n))
    | _ => none
  | .tuple xs => match intsOf xs with
    | some (n :: ns) => some (.int (ns.foldl f n))
    | _ => none
  | _ => none
/-- x.index(y) -/
def strsOf : List D → Option (List Str)
  | [] => some []
  | .str b :: r => (strsOf r).map (b :: ·)
  | _ :: _ => none
theorem strsOf_eq : ∀ {xs : List D} {ns : List Str}, strsOf xs = some ns → xs = ns.map .str
  | [], _, h => by cases h; rfl
  | .str b :: r, ns, h => by
    simp only [strsOf] at h
    cases q : strsOf r with
    | none => rw [q] at h; nomatch h
    | some m =>
      rw [q] at h
      cases h
      simp [strsOf_eq q]
  | .none :: _, _, h => nomatch h
  | .bool _ :: _, _, h => nomatch h
  | .int _ :: _, _, h => nomatch h
  | .list _ :: _, _, h => nomatch h
  | .tuple _ :: _, _, h => nomatch h
  | .dict _ :: _, _, h => nomatch h
def indexT : D → D → Option D
  | .tuple ys, .str z => match strsOf ys with
    | some zs => (zs.findIdx? fun y => decide (y = z)).map fun (j : Nat) => .int (j : Int)
    | none => none
  | _, _ => none
def indexL : D → D → Option D
  | .list ys, d => if SeqAt.shaped (.list ys) && SeqAt.shaped d then (ys.findIdx? fun z => PyData.eqv z d).map fun (j : Nat) => .int (j : Int) else none
  | _, _ => none
/-- sorted(set(..)) of ints -/
def insU (x : Int) : List Int → List Int
  | [] => [x]
  | y :: ys => if x < y then x :: y :: ys else if x = y then y :: ys else y :: insU x ys
def sortU (xs : List Int) : List Int := xs.foldr insU []
def ssetD : D → Option D
  | .tuple xs => match intsOf xs with
    | some ns => if ns.length ≤ 63 then some (.list ((sortU ns).map .int)) else none
    | none => none
  | _ => none
/-- more forms by name -/
def ext1 (k : String) : D → Option D := if k = "sset" then ssetD else fun _ => none
def cLidx (o a : Den) : Den := fun env S => bnd (o env S) fun v S1 => match v with
  | .d (.list ys) => bnd (a env S1) fun u S2 => givD ((view S2 u).bind (indexL (.list ys))) S2
  | _ => none
/-- the built-ins of one argument -/
def blt1 (id : String) : D → Option D :=
  if id = "len" then lenD else if id = "all" then allD else if id = "abs" then absD else if id = "int" then intOfD else if id = "bool" then boolOfD else if id = "list" then listD else if id = "tuple" then tupD
  else if id = "max" then bestD max else if id = "min" then bestD min else fun _ => none
def blt2 (id : String) : D → D → Option D :=
  if id = "max" then maxD2 else if id = "min" then minD2 else fun _ _ => none
end G

namespace G
open PySem PySem.Spec PyProof.Rows L2

section
variable {K : PySem.W.Frag}
theorem sqT_mono {F F' : Hp} (e : Same F F') {a : Addr} {xs : List V} (h : SqT K F a xs) : SqT K F' a xs := by
  rcases h with (h | ⟨o, h⟩) | h
  · exact .inl (.inl (e _ _ h))
  · exact .inl (.inr ⟨o, e _ _ h⟩)
  · exact .inr h
mutual
theorem dp_mono {F F' : Hp} (e : Same F F') : ∀ (x : D) (v : V), Dp K F v x → Dp K F' v x
  | .none, _, h => by cases h; exact .non
  | .bool _, _, h => by cases h; exact .bl _
  | .int _, _, h => by cases h; exact .int _
  | .str _, _, h => by cases h; exact .str _
  | .list ds, _, h => by
    cases h with
    | lst h1 h2 => exact .lst (e.seq h1) (dpAll_mono e ds _ h2)
  | .tuple ds, _, h => by
    cases h with
    | tup h1 h2 => exact .tup (sqT_mono e h1) (dpAll_mono e ds _ h2)
  | .dict _, _, h => nomatch h
theorem dpAll_mono {F F' : Hp} (e : Same F F') : ∀ (xs : List D) (vs : List V), DpAll K F vs xs → DpAll K F' vs xs
  | [], _, h => by cases h; exact .nil
  | x :: xs, _, h => by
    cases h with
    | cons h1 h2 => exact .cons (dp_mono e x _ h1) (dpAll_mono e xs _ h2)
end
theorem dpAll_length {F : Hp} : ∀ {xs : List D} {vs : List V}, DpAll K F vs xs → vs.length = xs.length
  | [], _, h => by cases h; rfl
  | _ :: _, _, h => by
    cases h with
    | cons h1 h2 => simp [dpAll_length h2]
theorem dpAll_get {F : Hp} : ∀ {xs : List D} {vs : List V} {i : Nat} {x : D}, DpAll K F vs xs → xs[i]? = some x → ∃ v, vs[i]? = some v ∧ Dp K F v x
  | [], _, _, _, _, e => by simp at e
  | _ :: _, _, 0, _, h, e => by
    cases h with
    | cons h1 h2 =>
      simp at e
      subst e
      exact ⟨_, rfl, h1⟩
  | _ :: _, _, i + 1, _, h, e => by
    cases h with
    | cons h1 h2 =>
      obtain ⟨v, e1, e2⟩ := dpAll_get (i := i) h2 (by simpa using e)
      exact ⟨v, by simpa using e1, e2⟩
theorem dpAll_append {F : Hp} : ∀ {xs ys : List D} {vs ws : List V}, DpAll K F vs xs → DpAll K F ws ys → DpAll K F (vs ++ ws) (xs ++ ys)
  | [], _, _, _, h, h' => by cases h; exact h'
  | _ :: _, _, _, _, h, h' => by
    cases h with
    | cons h1 h2 => exact .cons h1 (dpAll_append h2 h')
theorem dpAll_take {F : Hp} : ∀ {xs : List D} {vs : List V} (n : Nat), DpAll K F vs xs → DpAll K F (vs.take n) (xs.take n)
  | _, _, 0, _ => by simp; exact .nil
  | [], _, _ + 1, h => by cases h; exact .nil
  | _ :: _, _, n + 1, h => by
    cases h with
    | cons h1 h2 => exact .cons h1 (dpAll_take n h2)
theorem dpAll_drop {F : Hp} : ∀ {xs : List D} {vs : List V} (n : Nat), DpAll K F vs xs → DpAll K F (vs.drop n) (xs.drop n)
  | _, _, 0, h => by simpa using h
  | [], _, _ + 1, h => by cases h; exact .nil
  | _ :: _, _, n + 1, h => by
    cases h with
    | cons h1 h2 => simpa using dpAll_drop n h2
theorem dpAll_cut {F : Hp} {xs : List D} {vs : List V} (lo hi : Option Int) (h : DpAll K F vs xs) : DpAll K F (cutV vs lo hi) (cut xs lo hi) := by
  unfold cutV cut
  rw [dpAll_length h]
  exact dpAll_take _ (dpAll_drop _ h)
theorem dpAll_at {F : Hp} {xs : List D} {vs : List V} {i : Int} {x : D} (h : DpAll K F vs xs) (e : atI xs i = some x) : ∃ v, atI vs i = some v ∧ Dp K F v x := by
  unfold atI at e ⊢
  rw [dpAll_length h]
  cases q : ixN xs.length i with
  | none => rw [q] at e; cases e
  | some j =>
    rw [q] at e
    exact dpAll_get h e
mutual
theorem dp_plain {F : Hp} : ∀ (x : D) (v : V), Dp K F v x → x.plain = true
  | .none, _, _ => rfl
  | .bool _, _, _ => rfl
  | .int _, _, _ => rfl
  | .str _, _, _ => rfl
  | .list ds, _, h => by
    cases h with
    | lst h1 h2 => exact dpAll_plain ds _ h2
  | .tuple ds, _, h => by
    cases h with
    | tup h1 h2 => exact dpAll_plain ds _ h2
  | .dict _, _, h => nomatch h
theorem dpAll_plain {F : Hp} : ∀ (xs : List D) (vs : List V), DpAll K F vs xs → PyData.plainAll xs = true
  | [], _, _ => rfl
  | x :: xs, _, h => by
    cases h with
    | cons h1 h2 => simp only [PyData.plainAll, dp_plain x _ h1, dpAll_plain xs _ h2, Bool.and_self]
end

/-- keys of a dict -/
def keyD : Key → D
  | .inl i => .int i
  | .inr s => .str s
/-- keys and values, side by side -/
abbrev KvR (K : PySem.W.Frag) (F : Hp) : List (Key × V) → List (Key × D) → Prop := Paired (fun (p : Key × V) (q : Key × D) => p.1 = q.1 ∧ Dp K F p.2 q.2)
theorem KvR.len {F : Hp} {ks : List (Key × V)} {kvs : List (Key × D)} (h : KvR K F ks kvs) : ks.length = kvs.length := by
  induction h with
  | nil => rfl
  | cons _ _ ih => simp [ih]
theorem KvR.get {F : Hp} {ks : List (Key × V)} {kvs : List (Key × D)} (h : KvR K F ks kvs) (k : Key) : (valV ks k = none ∧ getK kvs k = none) ∨ ∃ v d, valV ks k = some v ∧ getK kvs k = some d ∧ Dp K F v d := by
  induction h with
  | nil => exact .inl ⟨rfl, rfl⟩
  | @cons p q ps qs hd t ih =>
    by_cases c : p.1 = k
    · have c' : q.1 = k := hd.1 ▸ c
      exact .inr ⟨p.2, q.2, by simp [valV, List.find?_cons, c], by simp [getK, List.find?_cons, c'], hd.2⟩
    · have c' : ¬ q.1 = k := hd.1 ▸ c
      have e1 : valV (p :: ps) k = valV ps k := by simp [valV, List.find?_cons, c]
      have e2 : getK (q :: qs) k = getK qs k := by simp [getK, List.find?_cons, c']
      rw [e1, e2]
      exact ih
theorem KvR.anyk {F : Hp} {ks : List (Key × V)} {kvs : List (Key × D)} (h : KvR K F ks kvs) (k : Key) : (ks.any fun p => decide (p.1 = k)) = kvs.any fun p => decide (p.1 = k) := by
  induction h with
  | nil => rfl
  | cons hd _ ih => rw [List.any_cons, List.any_cons, ih, hd.1]
theorem KvR.app {F : Hp} {ks ks' : List (Key × V)} {kvs kvs' : List (Key × D)} (h : KvR K F ks kvs) (h' : KvR K F ks' kvs') : KvR K F (ks ++ ks') (kvs ++ kvs') := by
  induction h with
  | nil => exact h'
  | cons hd _ ih => exact .cons hd ih
theorem KvR.put {F : Hp} {ks : List (Key × V)} {kvs : List (Key × D)} (h : KvR K F ks kvs) (k : Key) {v : V} {d : D} (hv : Dp K F v d) : KvR K F (putK ks k v) (putD kvs k d) := by
  have hm : KvR K F (ks.map fun kv => if kv.1 = k then (kv.1, v) else kv) (kvs.map fun p => if p.1 = k then (p.1, d) else p) := by
    induction h with
    | nil => exact .nil
    | @cons p q ps qs hd t ih =>
      refine .cons ?_ ih
      by_cases c : p.1 = k
      · have c' : q.1 = k := hd.1 ▸ c
        simp only [c, c', if_true]
        exact ⟨trivial, hv⟩
      · have c' : ¬ q.1 = k := hd.1 ▸ c
        simp only [c, c', if_false]
        exact hd
  unfold putK putD
  rw [h.anyk k]
  split
  · exact hm
  · exact h.app (.cons ⟨rfl, hv⟩ .nil)
theorem KvR.merge {F : Hp} : ∀ {ms : List (Key × V)} {ns : List (Key × D)}, KvR K F ms ns → ∀ {ks : List (Key × V)} {kvs : List (Key × D)}, KvR K F ks kvs → KvR K F (mergeK ks ms) (mrgD kvs ns)
  | _, _, .nil, _, _, h => h
  | _, _, .cons (a := p) (b := q) hd t, ks, kvs, h => by
    have h2 := h.put p.1 hd.2
    have : KvR K F (putK ks p.1 p.2) (putD kvs q.1 q.2) := by rw [← hd.1]; exact h2
    exact KvR.merge t this
/-- what a live cell is in the heap -/
def CellOk (K : PySem.W.Frag) (F H : Hp) (a : Addr) : Cell → Prop
  | .dead => True
  | .lst xs => F a = none ∧ ∃ vs, H a = some (.lst vs) ∧ DpAll K F vs xs
  | .dct kvs => F a = none ∧ ∃ ks : List (Key × V), H a = some (.dK ks) ∧ Paired (fun (p : Key × V) (q : Key × D) => p.1 = q.1 ∧ Dp K F p.2 q.2) ks kvs

structure Rel (K : PySem.W.Frag) (F : Hp) (ι : List Addr) (S : Store) (H : Hp) : Prop where
  same : Same F H
  nd : ι.Nodup
  len : ι.length = S.length
  tr : ∀ a ∈ ι, H a ≠ none
  cell : ∀ (n : Nat) c a, S[n]? = some c → ι[n]? = some a → CellOk K F H a c

mutual
inductive RV (K : PySem.W.Frag) (F : Hp) (ι : List Addr) : V → Val → Prop where
  | d {v : V} {x : D} (h : Dp K F v x) : RV K F ι v (.d x)
  | loc {n : Nat} {a : Addr} (h : ι[n]? = some a) : RV K F ι (.ref a) (.loc n)
  | tup {a : Addr} {us : List V} {vs : List Val} (h : F a = some (.tup us)) (r : RVs K F ι us vs) : RV K F ι (.ref a) (.tup vs)
inductive RVs (K : PySem.W.Frag) (F : Hp) (ι : List Addr) : List V → List Val → Prop where
  | nil : RVs K F ι [] []
  | cons {u : V} {v : Val} {us : List V} {vs : List Val} (h : RV K F ι u v) (t : RVs K F ι us vs) : RVs K F ι (u :: us) (v :: vs)
end

structure REnv (K : PySem.W.Frag) (F : Hp) (ι : List Addr) (σ : L2.St) (env : Env) : Prop where
  len : σ.length = env.length
  get : ∀ (i : Nat) x, env[i]? = some (some x) → ∃ v, σ[i]? = some (some v) ∧ RV K F ι v x

structure Ext (F : Hp) (ι : List Addr) (F' : Hp) (ι' : List Addr) : Prop where
  same : Same F F'
  pre : ι <+: ι'
theorem Ext.refl (F : Hp) (ι : List Addr) : Ext F ι F ι := ⟨Same.refl F, List.prefix_refl ι⟩
theorem Ext.trans {F F1 F2 : Hp} {ι ι1 ι2 : List Addr} (a : Ext F ι F1 ι1) (b : Ext F1 ι1 F2 ι2) : Ext F ι F2 ι2 := ⟨a.same.trans b.same, a.pre.trans b.pre⟩
theorem pre_get {ι ι' : List Addr} (h : ι <+: ι') {n : Nat} {a : Addr} (e : ι[n]? = some a) : ι'[n]? = some a := by
  obtain ⟨t, rfl⟩ := h
  rw [List.getElem?_append_left (List.getElem?_eq_some_iff.mp e).1]
  exact e
mutual
theorem RV.mono {F F' : Hp} {ι ι' : List Addr} (e : Ext F ι F' ι') : ∀ {v : V} {x : Val}, RV K F ι v x → RV K F' ι' v x
  | _, _, .d h => .d (dp_mono e.same _ _ h)
  | _, _, .loc h => .loc (pre_get e.pre h)
  | _, _, .tup h r => .tup (e.same _ _ h) (RVs.mono e r)
theorem RVs.mono {F F' : Hp} {ι ι' : List Addr} (e : Ext F ι F' ι') : ∀ {vs : List V} {xs : List Val}, RVs K F ι vs xs → RVs K F' ι' vs xs
  | _, _, .nil => .nil
  | _, _, .cons h t => .cons (RV.mono e h) (RVs.mono e t)
end
theorem rvs_dats {F : Hp} {ι : List Addr} : ∀ {xs : List D} {vs : List V}, DpAll K F vs xs → RVs K F ι vs (xs.map .d)
  | [], _, h => by cases h; exact .nil
  | _ :: _, _, h => by
    cases h with
    | cons h1 h2 => exact .cons (.d h1) (rvs_dats h2)
theorem RVs.len {F : Hp} {ι : List Addr} : ∀ {vs : List V} {xs : List Val}, RVs K F ι vs xs → vs.length = xs.length
  | _, _, .nil => rfl
  | _, _, .cons _ t => by simp [RVs.len t]
theorem REnv.mono {F F' : Hp} {ι ι' : List Addr} (e : Ext F ι F' ι') {σ : L2.St} {env : Env} (h : REnv K F ι σ env) : REnv K F' ι' σ env :=
  ⟨h.len, fun i x q => let ⟨v, e1, r⟩ := h.get i x q; ⟨v, e1, r.mono e⟩⟩
theorem Rel.frz {F H : Hp} {ι : List Addr} {S : Store} (r : Rel K F ι S H) {p : Addr} (hp : H p = none) (o : HO) : Rel K (upd F p o) ι S (upd H p o) ∧ Same F (upd F p o) := by
  have hF : F p = none := r.same.free hp
  have sF : Same F (upd F p o) := fun b u e => by rw [upd_ne (ne_of_none e hF)]; exact e
  have nι : ∀ a ∈ ι, a ≠ p := fun a ha z => r.tr a ha (z ▸ hp)
  refine ⟨⟨fun b u e => ?_, r.nd, r.len, fun a ha => ?_, fun n c a h1 h2 => ?_⟩, sF⟩
  · by_cases hb : b = p
    · subst hb; rw [upd_same] at e ⊢; exact e
    · rw [upd_ne hb] at e ⊢; exact r.same _ _ e
  · rw [upd_ne (nι a ha)]; exact r.tr a ha
  · have na := nι a (List.mem_of_getElem? h2)
    have q := r.cell n c a h1 h2
    cases c with
    | dead => trivial
    | lst xs =>
      obtain ⟨q0, vs, q1, q2⟩ := q
      exact ⟨by rw [upd_ne na]; exact q0, vs, by rw [upd_ne na]; exact q1, dpAll_mono sF _ _ q2⟩
    | dct kvs =>
      obtain ⟨q0, ks, q1, q2⟩ := q
      exact ⟨by rw [upd_ne na]; exact q0, ks, by rw [upd_ne na]; exact q1, Paired.mapP q2 fun p q z => ⟨z.1, dp_mono sF _ _ z.2⟩⟩

/-! ### what a value is now -/
inductive VW (K : PySem.W.Frag) (F H : Hp) : V → D → Prop where
  | d {v : V} {x : D} (h : Dp K F v x) : VW K F H v x
  | l {a : Addr} {vs : List V} {xs : List D} (h : H a = some (.lst vs)) (r : DpAll K F vs xs) : VW K F H (.ref a) (.list xs)
theorem vw_of {F H : Hp} {ι : List Addr} {S : Store} (r : Rel K F ι S H) {u : V} {v : Val} {x : D} (h : RV K F ι u v) (e : view S v = some x) : VW K F H u x := by
  cases h with
  | d h => cases e; exact .d h
  | tup _ _ => cases e
  | @loc n a h =>
    simp only [view] at e
    split at e
    · rename_i xs hx
      cases e
      obtain ⟨_, vs, h1, h2⟩ := r.cell n _ a hx h
      exact .l h1 h2
    · cases e
theorem VW.dp {F H : Hp} (s : Same F H) {u : V} {x : D} (h : VW K F H u x) : Dp K H u x := by
  cases h with
  | d h => exact dp_mono s _ _ h
  | l h r => exact .lst (SqL.of h) (dpAll_mono s _ _ r)
theorem VW.list {F H : Hp} (s : Same F H) {u : V} {xs : List D} (h : VW K F H u (.list xs)) : ∃ a vs, u = .ref a ∧ SqL K H a vs ∧ DpAll K F vs xs := by
  cases h with
  | d h =>
    cases h with
    | lst h1 h2 => exact ⟨_, _, rfl, s.seq h1, h2⟩
  | l h r => exact ⟨_, _, rfl, SqL.of h, r⟩
theorem VW.tuple {F H : Hp} (s : Same F H) {u : V} {xs : List D} (h : VW K F H u (.tuple xs)) : ∃ a vs, u = .ref a ∧ SqT K H a vs ∧ DpAll K F vs xs := by
  cases h with
  | d h =>
    cases h with
    | tup h1 h2 => exact ⟨_, _, rfl, sqT_mono s h1, h2⟩
theorem VW.int {F H : Hp} {u : V} {i : Int} (h : VW K F H u (.int i)) : u = .int i := by
  cases h with
  | d h => cases h; rfl
theorem VW.str {F H : Hp} {u : V} {i : Str} (h : VW K F H u (.str i)) : u = .str i := by
  cases h with
  | d h => cases h; rfl
theorem VW.bool {F H : Hp} {u : V} {i : Bool} (h : VW K F H u (.bool i)) : u = .bl i := by
  cases h with
  | d h => cases h; rfl
theorem VW.none {F H : Hp} {u : V} (h : VW K F H u .none) : u = .non := by
  cases h with
  | d h => cases h; rfl

/-! ### readings -/
/-- the wish about an exception -/
abbrev XW := Ex → Hp → List Addr → Store → Hp → Prop
def Post (K : PySem.W.Frag) (W : XW) {α β : Type} (RA : Hp → List Addr → β → α → Prop) (F : Hp) (ι : List Addr) (r : R α) (Q : β → Hp → Prop) : Prop :=
  match r with
  | .ok x S' => ∀ F' ι' H' u, Ext F ι F' ι' → Rel K F' ι' S' H' → RA F' ι' u x → Q u H'
  | .er x S' => ∀ F' ι' H', Ext F ι F' ι' → Rel K F' ι' S' H' → W x F' ι' S' H'
theorem Post.ext {W : XW} {α β : Type} {RA : Hp → List Addr → β → α → Prop} {F F1 : Hp} {ι ι1 : List Addr} {r : R α} {Q : β → Hp → Prop} (h : Post K W RA F ι r Q) (e : Ext F ι F1 ι1) : Post K W RA F1 ι1 r Q := by
  cases r with
  | ok x S' => exact fun F' ι' H' u e' => h F' ι' H' u (e.trans e')
  | er x S' => exact fun F' ι' H' e' => h F' ι' H' (e.trans e')
def tG (K : PySem.W.Frag) (W : XW) {α β : Type} (RA : Hp → List Addr → β → α → Prop) (f : Env → Store → Option (R α)) : L2.St → Hp → (β → Hp → Prop) → Prop := fun σ H Q =>
  ∃ F ι env S r, Rel K F ι S H ∧ REnv K F ι σ env ∧ f env S = some r ∧ Post K W RA F ι r Q
abbrev RB : Hp → List Addr → Bool → Bool → Prop := fun _ _ u x => u = x
abbrev RO : Hp → List Addr → Option Int → Option Int → Prop := fun _ _ u x => u = x
abbrev tD (K : PySem.W.Frag) (W : XW) (f : Den) : TE := tG K W (RV K) f
abbrev tT (K : PySem.W.Frag) (W : XW) (f : DenT) : TT := tG K W RB f
abbrev tA (K : PySem.W.Frag) (W : XW) (f : DenA) : TA := tG K W (RVs K) f
abbrev tO (K : PySem.W.Frag) (W : XW) (f : DenO) : TO := tG K W RO f
theorem tG_bnd {W : XW} {α β γ δ : Type} {RA : Hp → List Addr → β → α → Prop} {RC : Hp → List Addr → δ → γ → Prop} {a : Env → Store → Option (R α)} {k : α → Store → Option (R γ)} {r : R γ} {F H : Hp} {ι : List Addr} {S : Store} {σ : L2.St} {env : Env}
    {Q : δ → Hp → Prop} {Q' : β → Hp → Prop} (rel : Rel K F ι S H) (re : REnv K F ι σ env) (h : bnd (a env S) k = some r) (p : Post K W RC F ι r Q)
    (hk : ∀ F1 ι1 S1 H1 u x, Ext F ι F1 ι1 → Rel K F1 ι1 S1 H1 → REnv K F1 ι1 σ env → RA F1 ι1 u x → k x S1 = some r → Post K W RC F1 ι1 r Q → Q' u H1) : tG K W RA a σ H Q' := by
  cases e : a env S with
  | none => rw [e] at h; cases h
  | some q =>
    rw [e] at h
    cases q with
    | er x S1 =>
      cases h
      exact ⟨F, ι, env, S, .er x S1, rel, re, e, p⟩
    | ok x S1 => exact ⟨F, ι, env, S, .ok x S1, rel, re, e, fun F' ι' H' u e' rel' ra => hk F' ι' S1 H' u x e' rel' (re.mono e') ra h (p.ext e')⟩

section
variable {X : Cx} {W : XW}
theorem _root_.L2.PE.of {e : Expr} {t t' : TE} (h : PE X e t) (i : ∀ σ H Q, t' σ H Q → t σ H Q) : PE X e t' := ⟨fun pins s σ H Q I q => h.run pins s σ H Q I (i σ H Q q)⟩
theorem _root_.L2.PT.of {e : Expr} {t t' : TT} (h : PT X e t) (i : ∀ σ H Q, t' σ H Q → t σ H Q) : PT X e t' := ⟨fun pins s σ H Q I q => h.run pins s σ H Q I (i σ H Q q)⟩
theorem _root_.L2.PA.of {e : List Expr} {t t' : TA} (h : PA X e t) (i : ∀ σ H Q, t' σ H Q → t σ H Q) : PA X e t' := ⟨fun pos pins s σ H Q I q => h.run pos pins s σ H Q I (i σ H Q q)⟩
theorem _root_.L2.PO.of {e : Option Expr} {t t' : TO} (h : PO X e t) (i : ∀ σ H Q, t' σ H Q → t σ H Q) : PO X e t' := ⟨fun pins s σ H Q I q => h.run pins s σ H Q I (i σ H Q q)⟩
theorem _root_.L2.PS.of {e : Stmt} {t t' : TS} (h : PS X e t) (i : ∀ E σ H, t' E σ H → t E σ H) : PS X e t' := ⟨fun pins s σ H E I q => h.run pins s σ H E I (i E σ H q)⟩
theorem _root_.L2.PSs.of {e : List Stmt} {t t' : TS} (h : PSs X e t) (i : ∀ E σ H, t' E σ H → t E σ H) : PSs X e t' := ⟨fun pins s σ H E I q => h.run pins s σ H E I (i E σ H q)⟩

/-- names and constants -/
theorem se_var {i : Nat} {x : Str} {pos : Pos} (h : PE X (.Name x pos) (tVar i)) : PE X (.Name x pos) (tD X.K W (cVar i)) := h.of fun σ H Q ⟨F, ι, env, S, r, rel, re, h, p⟩ => by
  unfold cVar at h
  split at h
  · rename_i v hv
    cases h
    obtain ⟨u, e, ru⟩ := re.get i v hv
    exact ⟨u, e, p F ι H u (Ext.refl _ _) rel ru⟩
  · cases h
theorem se_cst {e : Expr} {v : V} {x : D} (h : PE X e (tC v)) (hd : ∀ F, Dp X.K F v x) : PE X e (tD X.K W (cCst x)) := h.of fun σ H Q ⟨F, ι, env, S, r, rel, re, h, p⟩ => by
  cases h
  exact p F ι H v (Ext.refl _ _) rel (.d (hd F))
end
end
end G

namespace G
open PySem PySem.Spec PyProof.Rows L2
section
variable {K : PySem.W.Frag} {X : Cx} {W : XW}

/-- an operation of two data is told by a reading of values -/
def Imp2 (K : PySem.W.Frag) (f : D → D → Option D) (r : R2) : Prop :=
  ∀ (F : Hp) (ι : List Addr) (S : Store) (H : Hp) (u v : V) (x y z : D) (Q : VK), Rel K F ι S H → VW K F H u x → VW K F H v y → f x y = some z →
    (∀ F' H' w, Same F F' → Rel K F' ι S H' → Dp K F' w z → Q w H') → r u v H Q
def Imp1 (K : PySem.W.Frag) (f : D → Option D) (r : V → Hp → VK → Prop) : Prop :=
  ∀ (F : Hp) (ι : List Addr) (S : Store) (H : Hp) (u : V) (x z : D) (Q : VK), Rel K F ι S H → VW K F H u x → f x = some z →
    (∀ F' H' w, Same F F' → Rel K F' ι S H' → Dp K F' w z → Q w H') → r u H Q
theorem view_ext {S S' : Store} {v : Val} {x : D} (h : view S v = some x) : True := trivial
theorem op2_imp {f : D → D → Option D} {r : R2} (hi : Imp2 K f r) {a b : Den} {σ : L2.St} {H : Hp} {Q : VK} (h : tD K W (cOp2 f a b) σ H Q) : tOp r (tD K W a) (tD K W b) σ H Q := by
  obtain ⟨F, ι, env, S, q, rel, re, h, p⟩ := h
  refine tG_bnd rel re h p fun F1 ι1 S1 H1 u x e1 rel1 re1 ru h p1 => ?_
  refine tG_bnd rel1 re1 h p1 fun F2 ι2 S2 H2 v y e2 rel2 re2 rv h p2 => ?_
  cases hx : view S2 x with
  | none => simp [hx] at h
  | some dx =>
    cases hy : view S2 y with
    | none => simp [hx, hy] at h
    | some dy =>
      cases hz : f dx dy with
      | none => simp [hx, hy, hz] at h
      | some dz =>
        simp only [hx, hy, hz, Option.bind_some, givD_some, Option.some.injEq] at h
        subst h
        exact hi F2 ι2 S2 H2 u v dx dy dz Q rel2 (vw_of rel2 (ru.mono e2) hx) (vw_of rel2 rv hy) hz fun F' H' w s' rel' dp => p2 F' ι2 H' w ⟨s', List.prefix_refl _⟩ rel' (.d dp)
def tUn1 (r : V → Hp → VK → Prop) (t : TE) : TE := fun σ H Q => t σ H fun x H1 => r x H1 Q
theorem op1_imp {f : D → Option D} {r : V → Hp → VK → Prop} (hi : Imp1 K f r) {a : Den} {σ : L2.St} {H : Hp} {Q : VK} (h : tD K W (cOp1 f a) σ H Q) : tD K W a σ H fun x H1 => r x H1 Q := by
  obtain ⟨F, ι, env, S, q, rel, re, h, p⟩ := h
  refine tG_bnd rel re h p fun F1 ι1 S1 H1 u x e1 rel1 re1 ru h p1 => ?_
  cases hx : view S1 x with
  | none => simp [hx] at h
  | some dx =>
    cases hz : f dx with
    | none => simp [hx, hz] at h
    | some dz =>
      simp only [hx, hz, Option.bind_some, givD_some, Option.some.injEq] at h
      subst h
      exact hi F1 ι1 S1 H1 u dx dz Q rel1 (vw_of rel1 ru hx) hz fun F' H' w s' rel' dp => p1 F' ι1 H' w ⟨s', List.prefix_refl _⟩ rel' (.d dp)
/-- the same heap -/
theorem q_same {F H : Hp} {ι : List Addr} {S : Store} {z : D} {w : V} {Q : VK} (rel : Rel K F ι S H) (q : ∀ F' H' w, Same F F' → Rel K F' ι S H' → Dp K F' w z → Q w H') (h : Dp K F w z) : Q w H := q F H w (Same.refl _) rel h
/-- a new tuple, a new list -/
theorem q_tup {F H : Hp} {ι : List Addr} {S : Store} {xs : List D} {vs : List V} {Q : VK} (rel : Rel K F ι S H) (q : ∀ F' H' w, Same F F' → Rel K F' ι S H' → Dp K F' w (.tuple xs) → Q w H') (h : DpAll K F vs xs) : ∀ p, H p = none → Q (.ref p) (upd H p (.tup vs)) := fun p hp =>
  let ⟨r1, s1⟩ := rel.frz hp (.tup vs)
  q _ _ _ s1 r1 (.tup (SqT.of upd_same) (dpAll_mono s1 _ _ h))
theorem q_lst {F H : Hp} {ι : List Addr} {S : Store} {xs : List D} {vs : List V} {Q : VK} (rel : Rel K F ι S H) (q : ∀ F' H' w, Same F F' → Rel K F' ι S H' → Dp K F' w (.list xs) → Q w H') (h : DpAll K F vs xs) : ∀ p, H p = none → Q (.ref p) (upd H p (.lst vs)) := fun p hp =>
  let ⟨r1, s1⟩ := rel.frz hp (.lst vs)
  q _ _ _ s1 r1 (.lst (SqL.of upd_same) (dpAll_mono s1 _ _ h))

end

/-! ### list + list, whatever lists -/
theorem list_add_sl (l : Addr) (items : Array Value) (n : Nat) (b : Addr) (items2 : Array Value) (n2 : Nat) (sl sl2 : Array (Option Value)) (hc0 : items.size + items2.size ≤ sizeLine) :
    Meets (Builtin.«list.__add__» ⟨[.ref l, .ref b], []⟩) (fun _ R s => s.heap.get? l = some { cls := .type "list", dict := none, data := .seq items n, slots := sl } ∧ s.heap.get? b = some { cls := .type "list", dict := none, data := .seq items2 n2, slots := sl2 } ∧ R (.ok (.ret (Value.ref s.heap.objs.size))) { s with heap := s.heap.push { cls := Value.type "list", data := Data.seq (items ++ items2) }, toks := s.toks }) :=
  .of_wp fun prog w A R s h => by
    obtain ⟨hp, g, d, tk, os⟩ := s; obtain ⟨hl, hb, h⟩ := h
    have f1 := AutoSeq1.idx_int; have f2 := AutoSeq1.sub_tuple_tuple; have f3 := AutoSeq1.sub_list_list; have f4 := AutoSeq1.sub_tuple_list; have f5 := AutoSeq1.sub_list_tuple
    wp_walk using AutoSeq1.wpAny_loadPart' hl, AutoSeq1.wpAny_loadPart' hb; exact ⟨_, rfl, h⟩
section
variable {K : PySem.W.Frag} {X : Cx} {W : XW}
def rCatG (K : PySem.W.Frag) : R2 := fun x y H Q => ∃ l b xs zs, x = .ref l ∧ y = .ref b ∧ SqL K H l xs ∧ SqL K H b zs ∧ xs.length + zs.length ≤ sizeLine ∧ ∀ p, H p = none → Q (.ref p) (upd H p (.lst (xs ++ zs)))
theorem op_catG : OpR X (binaryOp .Add) (rCatG X.K) := by
  intro pins s σ H x y v u Q I rx ry h
  obtain ⟨l, b, xs, zs, rfl, rfl, hH, hB, hz, q⟩ := h
  cases rx
  cases ry
  obtain ⟨its, r, ⟨o, n, e, c, d, dt⟩, _⟩ := I.list hH
  obtain ⟨its2, r2, ⟨o2, n2, e2, c2, d2, dt2⟩, _⟩ := I.list hB
  obtain ⟨oc, od, odt, osl⟩ := o
  obtain ⟨oc2, od2, odt2, osl2⟩ := o2
  simp only at c d dt c2 d2 dt2
  subst c d dt c2 d2 dt2
  have hl := r.length
  have hl2 := r2.length
  refine concat_meets ⟨_, e, rfl⟩ ⟨_, e2, rfl⟩ noFill_list_add seq_list_add F.slot_list_add F.entry_list_add (F.args_list_add_2 _ _) (list_add_sl l its.toArray n b its2.toArray n2 osl osl2 (by rw [List.size_toArray, List.size_toArray]; omega)) ⟨e, e2, ?_⟩
  have ea : its.toArray ++ its2.toArray = (its ++ its2).toArray := by simp
  rw [ea]
  exact ⟨.ref _, _, I.lnew (t' := s.toks) (r.append r2) (by rw [List.length_append]; omega), rfl, q _ I.fresh⟩

/-! ### list * int, whatever list -/
theorem list_mul_sl (l : Addr) (items : Array Value) (n : Nat) (x : Int) (u : Tok) (sl : Array (Option Value)) (hc0 : ¬(!Builtin.List.listFitsIndex x) = true) (hc1 : ¬items.size * x.toNat > (2 ^ 63 - 1) / 8) (hc2 : ¬Builtin.List.listTooLong (items.size * x.toNat) = true) :
    Meets (Builtin.«list.__mul__» ⟨[.ref l, .int x u], []⟩) (fun _ R s => s.heap.get? l = some { cls := .type "list", dict := none, data := .seq items n, slots := sl } ∧ R (.ok (.ret (Value.ref s.heap.objs.size))) { s with heap := s.heap.push { cls := Value.type "list", data := Data.seq (List.foldl (fun x1 x2 => x1 ++ x2) #[] (List.replicate (if items.isEmpty = true then 0 else x.toNat) items)) }, toks := s.toks }) :=
  .of_wp fun prog w A R0 s0 h0 => by
    obtain ⟨hp, g, d, tk, os⟩ := s0
    obtain ⟨hl, h1⟩ := h0
    have hfit := AutoListH.joined_fits hc2
    wp_walk using AutoSeq1.wpAny_loadPart' hl
    refine wpAny_ite_false (decide_eq_false (Nat.not_lt.mpr hfit)) ?_
    wp_walk
    exact ⟨_, rfl, h1⟩
theorem int_rmul_sl (a : Int) (t : Tok) (l : Addr) (items : Array Value) (n : Nat) (sl : Array (Option Value)) :
    Meets (Builtin.«int.__rmul__» ⟨[.int a t, .ref l], []⟩) (fun _ R s => s.heap.get? l = some { cls := .type "list", dict := none, data := .seq items n, slots := sl } ∧ R (.ok (.ret Value.notImplemented)) s) :=
  .of_wp fun prog w A R0 s0 h0 => by
    obtain ⟨hp, g, d, tk, os⟩ := s0
    obtain ⟨hl, h1⟩ := h0
    wp_walk
    exact ⟨_, rfl, h1⟩
def rRepG (K : PySem.W.Frag) : R2 := fun x y H Q => ∃ l k xs, x = .ref l ∧ y = .int k ∧ SqL K H l xs ∧ -(2 ^ 63) ≤ k ∧ k < 2 ^ 63 ∧ xs.length * k.toNat ≤ sizeLine ∧ ∀ p, H p = none → Q (.ref p) (upd H p (.lst (List.replicate k.toNat xs).flatten))
theorem op_repG : OpR X (binaryOp .Mult) (rRepG X.K) := by
  intro pins s σ H x y v u Q I rx ry h
  obtain ⟨l, k, xs, rfl, rfl, hH, h1, h2, hz, q⟩ := h
  cases rx
  obtain ⟨t, rfl⟩ := ry
  obtain ⟨its, r, ⟨o, n, e, c, d, dt⟩, _⟩ := I.list hH
  obtain ⟨oc, od, odt, osl⟩ := o
  simp only at c d dt
  subst c d dt
  have hl := r.length
  have hlen : its.toArray.size * k.toNat ≤ sizeLine := by rw [List.size_toArray, ← hl]; exact hz
  have hcap : ¬ its.toArray.size * k.toNat > (2 ^ 63 - 1) / 8 := by
    have : (sizeLine : Nat) ≤ (2 ^ 63 - 1) / 8 := by decide
    omega
  have hfit : ¬ (!Builtin.List.listFitsIndex k) = true := by
    rw [fitsIndex_both h1 h2]
    exact Bool.false_ne_true
  have hlong : ¬ Builtin.List.listTooLong (its.toArray.size * k.toNat) = true := by
    rw [notLongL hlen]
    exact Bool.false_ne_true
  have f0 : ∀ m : Nat, List.foldl (fun x1 x2 => x1 ++ x2) #[] (List.replicate m its.toArray) = (List.replicate m its).flatten.toArray := fun m => by
    have := foldl_rep its m []
    rw [List.nil_append] at this
    exact this
  have hnew : List.foldl (fun x1 x2 => x1 ++ x2) #[] (List.replicate (if its.toArray.isEmpty = true then 0 else k.toNat) its.toArray) = (List.replicate k.toNat its).flatten.toArray := by
    rw [f0]
    cases its with
    | nil => simp
    | cons a r' => rw [if_neg (by simp)]
  refine wpAny_binaryOp_repeat_ref (T := "list") (U := "int") (by decide) ⟨_, e, rfl⟩ (fun s' => typeIs_int s' k t) noFill_list_mul F.fills_int_mul F.slot_int_rmul repeat_list F.slot_int_index.lookup
    (call_meets F.slot_int_rmul (typeIs_int s k t) F.entry_int_rmul (F.args_int_rmul_2 _ _) (int_rmul_sl k t l its.toArray n osl)
      ⟨e, rfl, ⟨_, e, rfl⟩, call_meets F.slot_list_mul ⟨_, e, rfl⟩ F.entry_list_mul (F.args_list_mul_2 _ _) (list_mul_sl l its.toArray n k t osl hfit hcap hlong) ⟨e, ?_⟩⟩)
  rw [hnew]
  exact ⟨.ref _, _, I.lnew (t' := s.toks) (r.rep k.toNat) (by rw [PyProof.Rows.lm_len_rep_flat, Nat.mul_comm]; exact hz), rfl, q _ I.fresh⟩

/-! ### == != in -/
abbrev PyData.dp := @PyData.depth
def rEqP (K : PySem.W.Frag) (n : Bool) : R2 := fun x y H Q => ∃ d e, Dp K H x d ∧ Dp K H y e ∧ min d.depth e.depth ≤ 60 ∧ Q (.bl (if n then !PyData.eqv d e else PyData.eqv d e)) H
theorem op_eqP (hu : X.A.units + 64 < cLine) : OpR X (compareOp .Eq) (rEqP X.K false) := by
  intro pins s σ H x y v u Q I rx ry h
  obtain ⟨d, e, hd, he, hm, q⟩ := h
  obtain ⟨as, r1⟩ := Dp.reads I d x v hd rx
  obtain ⟨bs, r2⟩ := Dp.reads I e y u he ry
  exact PySem.SeqAt.eq_plain r1 r2 (dp_plain d _ hd) (dp_plain e _ he) (by omega) ⟨.bl _, H, I, rfl, q⟩
theorem op_neP (hu : X.A.units + 64 < cLine) : OpR X (compareOp .NotEq) (rEqP X.K true) := by
  intro pins s σ H x y v u Q I rx ry h
  obtain ⟨d, e, hd, he, hm, q⟩ := h
  obtain ⟨as, r1⟩ := Dp.reads I d x v hd rx
  obtain ⟨bs, r2⟩ := Dp.reads I e y u he ry
  exact PySem.SeqAt.ne_plain r1 r2 (dp_plain d _ hd) (dp_plain e _ he) (by omega) ⟨.bl _, H, I, rfl, q⟩
def rInP (K : PySem.W.Frag) (n : Bool) : R2 := fun x y H Q => ∃ d es, Dp K H x d ∧ (Dp K H y (.list es) ∨ Dp K H y (.tuple es)) ∧ min (PyData.depthAll es) d.depth ≤ 60 ∧ Q (.bl (if n then !inD d es else inD d es)) H
theorem op_inP (hu : X.A.units + 64 < cLine) : OpR X (compareOp .In) (rInP X.K false) := by
  intro pins s σ H x y v u Q I rx ry h
  obtain ⟨d, es, hd, he, hm, q⟩ := h
  obtain ⟨as, r1⟩ := Dp.reads I d x v hd rx
  rcases he with he | he
  · obtain ⟨bs, r2⟩ := Dp.reads I _ y u he ry
    exact PySem.SeqAt.in_list_data r2 r1 (dp_plain (.list es) _ he) (dp_plain d _ hd) (by omega) ⟨.bl _, H, I, rfl, q⟩
  · obtain ⟨bs, r2⟩ := Dp.reads I _ y u he ry
    exact PySem.SeqAt.in_tuple_data r2 r1 (dp_plain (.tuple es) _ he) (dp_plain d _ hd) (by omega) ⟨.bl _, H, I, rfl, q⟩
theorem op_notInP (hu : X.A.units + 64 < cLine) : OpR X (compareOp .NotIn) (rInP X.K true) := by
  intro pins s σ H x y v u Q I rx ry h
  obtain ⟨d, es, hd, he, hm, q⟩ := h
  obtain ⟨as, r1⟩ := Dp.reads I d x v hd rx
  rcases he with he | he
  · obtain ⟨bs, r2⟩ := Dp.reads I _ y u he ry
    exact PySem.SeqAt.notIn_list_data r2 r1 (dp_plain (.list es) _ he) (dp_plain d _ hd) (by omega) ⟨.bl _, H, I, rfl, q⟩
  · obtain ⟨bs, r2⟩ := Dp.reads I _ y u he ry
    exact PySem.SeqAt.notIn_tuple_data r2 r1 (dp_plain (.tuple es) _ he) (dp_plain d _ hd) (by omega) ⟨.bl _, H, I, rfl, q⟩

/-! ### the readings of the operators -/
theorem Imp2.or1 {f : D → D → Option D} {r r' : R2} (h : Imp2 K f r) : Imp2 K f (fun x y H Q => r x y H Q ∨ r' x y H Q) := fun F ι S H u v x y z Q a b c d e => .inl (h F ι S H u v x y z Q a b c d e)
/-- + -/
abbrev rAddAll (K : PySem.W.Frag) : R2 := fun x y H Q => rI0 (fun i j => .int (i + j)) x y H Q ∨ (∃ i j, x = .str i ∧ y = .str j ∧ i.length + j.length ≤ sizeLine ∧ Q (.str (i ++ j)) H) ∨ rCatG K x y H Q ∨ rCatA K x y H Q
theorem op_addAll : OpR X (binaryOp .Add) (rAddAll X.K) := op_add.or (op_add_str.or (op_catG.or op_catA))
theorem VW.tupF {F H : Hp} {u : V} {xs : List D} (h : VW K F H u (.tuple xs)) : Dp K F u (.tuple xs) := by
  cases h with
  | d h => exact h
theorem imp_add : Imp2 K addD (rAddAll K) := by
  intro F ι S H u v x y z Q rel hx hy hz q
  unfold addD at hz
  split at hz
  · rename_i i j
    cases hz
    cases hx.int; cases hy.int
    exact .inl ⟨i, j, rfl, rfl, q_same rel q (.int _)⟩
  · rename_i a b
    split at hz <;> cases hz
    rename_i hl
    cases hx.str; cases hy.str
    exact .inr (.inl ⟨a, b, rfl, rfl, hl, q_same rel q (.str _)⟩)
  · rename_i xs ys
    split at hz <;> cases hz
    rename_i hl
    obtain ⟨a, vs, rfl, ha, da⟩ := hx.list rel.same
    obtain ⟨b, ws, rfl, hb, db⟩ := hy.list rel.same
    exact .inr (.inr (.inl ⟨a, b, vs, ws, rfl, rfl, ha, hb, by rw [dpAll_length da, dpAll_length db]; exact hl, q_lst rel q (dpAll_append da db)⟩))
  · rename_i xs ys
    split at hz <;> cases hz
    rename_i hl
    obtain ⟨a, vs, rfl, ha, da⟩ := hx.tuple rel.same
    obtain ⟨b, ws, rfl, hb, db⟩ := hy.tuple rel.same
    have la := dpAll_length da
    have lb := dpAll_length db
    refine .inr (.inr (.inr ⟨a, b, vs, ws, rfl, rfl, ha, hb, by omega, fun e => ?_, fun e e2 => ?_, fun e e2 => q_tup rel q (dpAll_append da db)⟩))
    · subst e
      cases da
      exact q_same rel q hy.tupF
    · subst e2
      cases db
      exact q_same rel q (by simpa using hx.tupF)
  · cases hz
theorem imp_int {f : Int → Int → Option D} {r : R2} (h : ∀ i j z (H : Hp) (Q : VK), f i j = some z → ∃ w, (∀ F, Dp K F w z) ∧ (Q w H → r (.int i) (.int j) H Q)) : Imp2 K (intD f) r := by
  intro F ι S H u v x y z Q rel hx hy hz q
  unfold intD at hz
  split at hz
  · rename_i i j
    cases hx.int; cases hy.int
    obtain ⟨w, hw, hr⟩ := h i j z H Q hz
    exact hr (q_same rel q (hw F))
  · cases hz
theorem imp_sub : Imp2 K subD (rI0 fun i j => .int (i - j)) := imp_int fun i j z H Q e => by
  cases e
  exact ⟨_, fun F => .int _, fun q => ⟨i, j, rfl, rfl, q⟩⟩
theorem small_iff {i : Int} : small i = true ↔ -(2 ^ 64) < i ∧ i < 2 ^ 64 := by simp [small]
theorem dpAll_rep {K : PySem.W.Frag} {F : Hp} {xs : List D} {vs : List V} (h : DpAll K F vs xs) : ∀ n : Nat, DpAll K F (List.replicate n vs).flatten (List.replicate n xs).flatten
  | 0 => .nil
  | n + 1 => by
    rw [List.replicate_succ, List.replicate_succ, List.flatten_cons, List.flatten_cons]
    exact dpAll_append h (dpAll_rep h n)
abbrev rMulAll (K : PySem.W.Frag) : R2 := fun x y H Q => rI CMul (fun i j => .int (i * j)) x y H Q ∨ rRepG K x y H Q ∨ rRepT K x y H Q
theorem op_mulAll : OpR X (binaryOp .Mult) (rMulAll X.K) := op_mul.or (op_repG.or op_repT)
theorem imp_mul : Imp2 K mulD (rMulAll K) := by
  intro F ι S H u v x y z Q rel hx hy hz q
  unfold mulD at hz
  split at hz
  · rename_i i j
    split at hz <;> cases hz
    rename_i h
    cases hx.int; cases hy.int
    refine .inl ⟨i, j, rfl, rfl, ?_, q_same rel q (.int _)⟩
    rcases Bool.or_eq_true_iff.mp h with h | h
    · exact .inl (small_iff.mp h)
    · exact .inr (small_iff.mp h)
  · rename_i xs k
    split at hz <;> cases hz
    rename_i h
    obtain ⟨a, vs, rfl, ha, da⟩ := hx.list rel.same
    cases hy.int
    unfold okR at h
    exact .inr (.inl ⟨a, k, vs, rfl, rfl, ha, by omega, by omega, by rw [dpAll_length da]; exact h.2, q_lst rel q (dpAll_rep da _)⟩)
  · rename_i xs k
    split at hz <;> cases hz
    rename_i h
    obtain ⟨a, vs, rfl, ha, da⟩ := hx.tuple rel.same
    cases hy.int
    have l := dpAll_length da
    refine .inr (.inr ⟨a, k, vs, rfl, rfl, ha, fun e => ?_, h.2.1, h.2.2.1, by omega, q_tup rel q (dpAll_rep da _)⟩)
    rw [e] at l
    simp at l
    omega
  · cases hz
theorem imp_fdiv : Imp2 K fdivD (rI CDivW fun i j => .int (i / j)) := imp_int fun i j z H Q e => by
  split at e <;> cases e
  rename_i h
  exact ⟨_, fun F => .int _, fun q => ⟨i, j, rfl, rfl, h, q⟩⟩
theorem imp_mod : Imp2 K modD (rI (fun _ j => 0 < j) fun i j => .int (i % j)) := imp_int fun i j z H Q e => by
  split at e <;> cases e
  rename_i h
  exact ⟨_, fun F => .int _, fun q => ⟨i, j, rfl, rfl, h, q⟩⟩
theorem imp_pow : Imp2 K powD (rI CPow fun i j => .int (i ^ j.toNat)) := imp_int fun i j z H Q e => by
  split at e <;> cases e
  rename_i h
  exact ⟨_, fun F => .int _, fun q => ⟨i, j, rfl, rfl, h, q⟩⟩
theorem imp_lt : Imp2 K ltD (rI0 fun i j => .bl (decide (i < j))) := imp_int fun i j z H Q e => by
  cases e
  exact ⟨_, fun F => .bl _, fun q => ⟨i, j, rfl, rfl, q⟩⟩
theorem imp_le : Imp2 K leD (rI0 fun i j => .bl (decide (i ≤ j))) := imp_int fun i j z H Q e => by
  cases e
  exact ⟨_, fun F => .bl _, fun q => ⟨i, j, rfl, rfl, q⟩⟩
theorem imp_gt : Imp2 K gtD (rI0 fun i j => .bl (decide (j < i))) := imp_int fun i j z H Q e => by
  cases e
  exact ⟨_, fun F => .bl _, fun q => ⟨i, j, rfl, rfl, q⟩⟩
theorem imp_ge : Imp2 K geD (rI0 fun i j => .bl (decide (j ≤ i))) := imp_int fun i j z H Q e => by
  cases e
  exact ⟨_, fun F => .bl _, fun q => ⟨i, j, rfl, rfl, q⟩⟩
theorem imp_eq : Imp2 K eqD (rEqP K false) := by
  intro F ι S H u v x y z Q rel hx hy hz q
  unfold eqD at hz
  split at hz <;> cases hz
  rename_i h
  exact ⟨x, y, hx.dp rel.same, hy.dp rel.same, of_decide_eq_true h, q_same rel q (.bl _)⟩
theorem imp_ne : Imp2 K neD (rEqP K true) := by
  intro F ι S H u v x y z Q rel hx hy hz q
  unfold neD at hz
  split at hz <;> cases hz
  rename_i h
  exact ⟨x, y, hx.dp rel.same, hy.dp rel.same, of_decide_eq_true h, q_same rel q (.bl _)⟩
theorem imp_mem (n : Bool) : Imp2 K (memD n) (rInP K n) := by
  intro F ι S H u v x y z Q rel hx hy hz q
  unfold memD at hz
  split at hz
  · split at hz <;> cases hz
    rename_i h
    exact ⟨x, _, hx.dp rel.same, .inl (hy.dp rel.same), of_decide_eq_true h, q_same rel q (.bl _)⟩
  · split at hz <;> cases hz
    rename_i h
    exact ⟨x, _, hx.dp rel.same, .inr (hy.dp rel.same), of_decide_eq_true h, q_same rel q (.bl _)⟩
  · cases hz
/-! ### truth -/
theorem tru_imp {F H : Hp} (s : Same F H) {u : V} {x : D} {k : Bool} (h : VW K F H u x) (e : tru x = some k) : TruV K u H k := by
  cases x with
  | none => cases h.none; cases e; rfl
  | bool b => cases h.bool; cases e; rfl
  | int i => cases h.int; cases e; rfl
  | str z =>
    cases h.str
    simp only [tru] at e
    split at e <;> cases e
    rename_i hz
    refine ⟨hz, ?_⟩
    cases z.length <;> rfl
  | list xs =>
    cases e
    obtain ⟨a, vs, rfl, ha, da⟩ := h.list s
    exact .inl ⟨vs, ha, by cases da <;> rfl⟩
  | tuple xs =>
    cases e
    obtain ⟨a, vs, rfl, ha, da⟩ := h.tuple s
    exact .inr (.inl ⟨vs, ha, by cases da <;> rfl⟩)
  | dict kvs => cases e
/-! ### one operand -/
theorem imp1_isN (n : Bool) : Imp1 K (isNoneD n) (fun x H Q => Q (.bl (if n then !decide (x = .non) else decide (x = .non))) H) := by
  intro F ι S H u x z Q rel hx hz q
  have e : z = .bool (if n then !decide (u = .non) else decide (u = .non)) := by
    cases x with
    | none => cases hx.none; cases hz; cases n <;> rfl
    | _ =>
      cases hz
      have hn : u ≠ .non := by
        rintro rfl
        cases hx with
        | d h => cases h
      cases n <;> simp [hn]
  subst e
  exact q_same rel q (.bl _)
theorem imp1_neg : Imp1 K negD (rU fun i => .int (-i)) := by
  intro F ι S H u x z Q rel hx hz q
  cases x with
  | int i => cases hx.int; cases hz; exact ⟨i, rfl, q_same rel q (.int _)⟩
  | _ => cases hz
theorem imp1_not : Imp1 K notD (fun x H Q => ∃ k, TruV K x H k ∧ Q (.bl (!k)) H) := by
  intro F ι S H u x z Q rel hx hz q
  unfold notD at hz
  cases e : tru x with
  | none => rw [e] at hz; cases hz
  | some k =>
    rw [e] at hz
    cases hz
    exact ⟨k, tru_imp rel.same hx e, q_same rel q (.bl _)⟩
theorem imp_idx : Imp2 K idxD (fun x y H Q => rIxL K x y H Q ∨ rIxT K x y H Q) := by
  intro F ι S H u v x y z Q rel hx hy hz q
  unfold idxD at hz
  split at hz
  · rename_i xs i
    cases hy.int
    obtain ⟨a, vs, rfl, ha, da⟩ := hx.list rel.same
    obtain ⟨w, e1, e2⟩ := dpAll_at da hz
    exact .inl ⟨a, vs, i, w, rfl, rfl, ha, e1, q_same rel q e2⟩
  · rename_i xs i
    cases hy.int
    obtain ⟨a, vs, rfl, ha, da⟩ := hx.tuple rel.same
    obtain ⟨w, e1, e2⟩ := dpAll_at da hz
    exact .inr ⟨a, vs, i, w, rfl, rfl, ha, e1, q_same rel q e2⟩
  · cases hz
theorem cut_whole {α : Type} (xs : List α) (lo hi : Option Int) (h : HT.sIx xs.length 0 lo = 0 ∧ HT.sIx xs.length xs.length hi = xs.length) : cut xs lo hi = xs := by
  unfold cut
  rw [h.1, h.2]
  simp
theorem imp1_slc (lo hi : Option Int) : Imp1 K (slcD lo hi) (fun x H Q => rSlL K x lo hi H Q ∨ rSlA K x lo hi H Q) := by
  intro F ι S H u x z Q rel hx hz q
  cases x with
  | list xs =>
    cases hz
    obtain ⟨a, vs, rfl, ha, da⟩ := hx.list rel.same
    exact .inl ⟨a, vs, rfl, ha, q_lst rel q (dpAll_cut lo hi da)⟩
  | tuple xs =>
    cases hz
    have hF := hx.tupF
    obtain ⟨a, vs, rfl, ha, da⟩ := hx.tuple rel.same
    have l := dpAll_length da
    refine .inr ⟨a, vs, rfl, ha, fun e => ?_, fun _ => q_tup rel q (dpAll_cut lo hi da)⟩
    rw [l] at e
    rw [cut_whole xs lo hi e] at q
    exact q_same rel q hF
  | _ => cases hz
theorem imp1_len : Imp1 K lenD (fun x H Q => ∃ n, LenV K x H n ∧ Q (.int n) H) := by
  intro F ι S H u x z Q rel hx hz q
  cases x with
  | str y =>
    simp only [lenD] at hz
    split at hz <;> cases hz
    rename_i h
    cases hx.str
    exact ⟨_, ⟨h, rfl⟩, q_same rel q (.int _)⟩
  | list xs =>
    cases hz
    obtain ⟨a, vs, rfl, ha, da⟩ := hx.list rel.same
    exact ⟨_, .inl ⟨vs, ha, (dpAll_length da).symm⟩, q_same rel q (.int _)⟩
  | tuple xs =>
    cases hz
    obtain ⟨a, vs, rfl, ha, da⟩ := hx.tuple rel.same
    exact ⟨_, .inr ⟨vs, ha, (dpAll_length da).symm⟩, q_same rel q (.int _)⟩
  | _ => cases hz
end
end G

namespace G
open PySem PySem.Spec PyProof.Rows L2
theorem nodup_addr {ι : List Addr} (h : ι.Nodup) {i j : Nat} {a : Addr} (h1 : ι[i]? = some a) (h2 : ι[j]? = some a) : i = j := by
  obtain ⟨b1, e1⟩ := List.getElem?_eq_some_iff.mp h1
  obtain ⟨b2, e2⟩ := List.getElem?_eq_some_iff.mp h2
  exact (List.getElem_inj h).mp (e1.trans e2.symm)
section
variable {X : Cx} {W : XW}

/-! ### operators -/
theorem se_op2 {e : Expr} {f : D → D → Option D} {r : R2} {a b : Den} (hi : Imp2 X.K f r) (h : PE X e (tOp r (tD X.K W a) (tD X.K W b))) : PE X e (tD X.K W (cOp2 f a b)) := h.of fun σ H Q q => op2_imp hi q
theorem st_op2 {e : Expr} {f : D → D → Option D} {r : R2} {a b : Den} (hi : Imp2 X.K f r) (h : PT X e (tTest (tOp r (tD X.K W a) (tD X.K W b)))) (hb : ∀ x y z, f x y = some z → ∃ k, z = .bool k) :
    PT X e (tT X.K W (cTru (cOp2 f a b))) := h.of fun σ H Q q => by
  obtain ⟨F, ι, env, S, q, rel, re, h, p⟩ := q
  refine op2_imp (W := W) hi (Q := fun x H' => ∃ k, x = .bl k ∧ Q k H') ?_
  cases e : cOp2 f a b env S with
  | none => simp [cTru, e] at h
  | some w =>
    refine ⟨F, ι, env, S, w, rel, re, e, ?_⟩
    simp only [cTru, e] at h
    cases w with
    | er x S1 => cases h; exact p
    | ok v S1 =>
      intro F' ι' H' u e' rel' rv
      -- the value is a bool
      have hv : ∃ k, v = .d (.bool k) := by
        clear h p rv rel' hi
        unfold cOp2 at e
        revert e
        cases a env S with
        | none => intro e; cases e
        | some w =>
          cases w with
          | er x S2 => intro e; cases e
          | ok va S2 =>
            simp only [bnd_ok]
            cases b env S2 with
            | none => intro e; cases e
            | some w =>
              cases w with
              | er x S3 => intro e; cases e
              | ok vb S3 =>
                simp only [bnd_ok]
                cases h1 : view S3 va with
                | none => intro e; simp at e
                | some x =>
                  cases h2 : view S3 vb with
                  | none => intro e; simp at e
                  | some y =>
                    cases h3 : f x y with
                    | none => intro e; simp [h3] at e
                    | some z =>
                      intro e
                      obtain ⟨k, rfl⟩ := hb _ _ _ h3
                      simp only [Option.bind_some, h3, givD_some, Option.some.injEq, R.ok.injEq] at e
                      exact ⟨k, e.1.symm⟩
      obtain ⟨k, rfl⟩ := hv
      cases h
      cases rv with
      | d rv =>
        cases rv
        exact ⟨k, rfl, p F' ι' H' k e' rel' rfl⟩
def okBin : Operator → Bool
  | .Add | .Sub | .Mult | .FloorDiv | .Mod | .Pow => true
  | _ => false
theorem se_bin {a b : Expr} {fa fb : Den} {pos : Pos} {op : Operator} (ho : okBin op = true) (ha : PE X a (tD X.K W fa)) (hb : PE X b (tD X.K W fb)) : PE X (.BinOp a op b pos) (tD X.K W (cOp2 (binD op) fa fb)) := by
  cases op <;> first | exact absurd ho (by decide) | skip
  · exact se_op2 imp_add (pe_op op_addAll ha hb)
  · exact se_op2 imp_sub (pe_op op_sub ha hb)
  · exact se_op2 imp_mul (pe_op op_mulAll ha hb)
  · exact se_op2 imp_mod (pe_op op_mod ha hb)
  · exact se_op2 imp_pow (pe_op op_pow ha hb)
  · exact se_op2 imp_fdiv (pe_op op_fdivW ha hb)
def okCmp : CmpOp → Bool
  | .Eq | .NotEq | .Lt | .LtE | .Gt | .GtE | .In | .NotIn => true
  | _ => false
def noSet : Expr → Bool
  | .Set _ _ _ => false
  | _ => true
theorem noSet_mark {op : CmpOp} {b : Expr} (h : noSet b = true) : behindInMarks op b = false := by
  cases b <;> first | rfl | exact absurd h (by simp [noSet])
theorem intD_bool {g : Int → Int → Bool} {x y z : D} (h : intD (fun i j => some (.bool (g i j))) x y = some z) : ∃ k, z = .bool k := by
  unfold intD at h
  split at h
  · cases h; exact ⟨_, rfl⟩
  · cases h
theorem cmpD_bool {op : CmpOp} {x y z : D} (h : cmpD op x y = some z) : ∃ k, z = .bool k := by
  cases op with
  | Eq =>
    simp only [cmpD, eqD] at h
    split at h <;> cases h
    exact ⟨_, rfl⟩
  | NotEq =>
    simp only [cmpD, neD] at h
    split at h <;> cases h
    exact ⟨_, rfl⟩
  | Lt => exact intD_bool h
  | LtE => exact intD_bool h
  | Gt => exact intD_bool h
  | GtE => exact intD_bool h
  | In =>
    simp only [cmpD, memD] at h
    split at h <;> first | cases h | (split at h <;> cases h; exact ⟨_, rfl⟩)
  | NotIn =>
    simp only [cmpD, memD] at h
    split at h <;> first | cases h | (split at h <;> cases h; exact ⟨_, rfl⟩)
  | Is => cases h
  | IsNot => cases h
theorem se_cmp {a b : Expr} {fa fb : Den} {pos : Pos} {op : CmpOp} (hu : X.A.units + 64 < cLine) (ho : okCmp op = true) (hs : noSet b = true) (ha : PE X a (tD X.K W fa)) (hb : PE X b (tD X.K W fb)) :
    PE X (.Compare a [op] [b] pos) (tD X.K W (cOp2 (cmpD op) fa fb)) := by
  have hm := fun {op} => noSet_mark (op := op) hs
  cases op <;> first | exact absurd ho (by decide) | skip
  · exact se_op2 imp_eq (pe_cmpR (op_eqP hu) ha hb hm)
  · exact se_op2 imp_ne (pe_cmpR (op_neP hu) ha hb hm)
  · exact se_op2 imp_lt (pe_cmpR op_lt ha hb hm)
  · exact se_op2 imp_le (pe_cmpR op_le ha hb hm)
  · exact se_op2 imp_gt (pe_cmpR op_gt ha hb hm)
  · exact se_op2 imp_ge (pe_cmpR op_ge ha hb hm)
  · exact se_op2 (imp_mem false) (pe_cmpR (op_inP hu) ha hb hm)
  · exact se_op2 (imp_mem true) (pe_cmpR (op_notInP hu) ha hb hm)
theorem st_cmp {a b : Expr} {fa fb : Den} {pos : Pos} {op : CmpOp} (hu : X.A.units + 64 < cLine) (ho : okCmp op = true) (hs : noSet b = true) (ha : PE X a (tD X.K W fa)) (hb : PE X b (tD X.K W fb)) :
    PT X (.Compare a [op] [b] pos) (tT X.K W (cTru (cOp2 (cmpD op) fa fb))) := by
  have hm := fun {op} => noSet_mark (op := op) hs
  have hB := fun {op x y z} (h : cmpD op x y = some z) => cmpD_bool h
  cases op <;> first | exact absurd ho (by decide) | skip
  · exact st_op2 imp_eq (pt_cmpR (op_eqP hu) ha hb hm) fun _ _ _ h => hB (op := .Eq) h
  · exact st_op2 imp_ne (pt_cmpR (op_neP hu) ha hb hm) fun _ _ _ h => hB (op := .NotEq) h
  · exact st_op2 imp_lt (pt_cmpR op_lt ha hb hm) fun _ _ _ h => hB (op := .Lt) h
  · exact st_op2 imp_le (pt_cmpR op_le ha hb hm) fun _ _ _ h => hB (op := .LtE) h
  · exact st_op2 imp_gt (pt_cmpR op_gt ha hb hm) fun _ _ _ h => hB (op := .Gt) h
  · exact st_op2 imp_ge (pt_cmpR op_ge ha hb hm) fun _ _ _ h => hB (op := .GtE) h
  · exact st_op2 (imp_mem false) (pt_cmpR (op_inP hu) ha hb hm) fun _ _ _ h => hB (op := .In) h
  · exact st_op2 (imp_mem true) (pt_cmpR (op_notInP hu) ha hb hm) fun _ _ _ h => hB (op := .NotIn) h
theorem se_isN {a : Expr} {fa : Den} {pos pos' : Pos} {j : Nat} (ha : PE X a (tD X.K W fa)) : PE X (.Compare a [.Is] [.Constant .none j pos'] pos) (tD X.K W (cOp1 (isNoneD false) fa)) :=
  (pe_cmp (pc_isN ha)).of fun σ H Q q => op1_imp (imp1_isN false) q
theorem se_notN {a : Expr} {fa : Den} {pos pos' : Pos} {j : Nat} (ha : PE X a (tD X.K W fa)) : PE X (.Compare a [.IsNot] [.Constant .none j pos'] pos) (tD X.K W (cOp1 (isNoneD true) fa)) :=
  (pe_cmp (pc_notN ha)).of fun σ H Q q => op1_imp (imp1_isN true) q
/-- the value of a test is a bool -/
theorem tru_bool {a : Den} {env : Env} {S : Store} {r : R Bool} (hb : ∀ v S1, a env S = some (.ok v S1) → ∃ k, v = .d (.bool k)) (h : cTru a env S = some r) : (∃ x S1, r = .er x S1 ∧ a env S = some (.er x S1)) ∨ ∃ k S1, r = .ok k S1 ∧ a env S = some (.ok (.d (.bool k)) S1) := by
  unfold cTru at h
  cases e : a env S with
  | none => rw [e] at h; cases h
  | some w =>
    rw [e] at h
    cases w with
    | er x S1 => cases h; exact .inl ⟨x, S1, rfl, rfl⟩
    | ok v S1 =>
      obtain ⟨k, rfl⟩ := hb v S1 e
      cases h
      exact .inr ⟨k, S1, rfl, rfl⟩
theorem isNone_bool {n : Bool} {x z : D} (h : isNoneD n x = some z) : ∃ k, z = .bool k := by
  cases x <;> cases h <;> exact ⟨_, rfl⟩
theorem st_bool {e : Expr} {a : Den} (h : PT X e (tB (tD X.K W a))) (hb : ∀ env S v S1, a env S = some (.ok v S1) → ∃ k, v = .d (.bool k)) : PT X e (tT X.K W (cTru a)) := h.of fun σ H Q q => by
  obtain ⟨F, ι, env, S, q, rel, re, h, p⟩ := q
  rcases tru_bool (hb env S) h with ⟨x, S1, rfl, e⟩ | ⟨k, S1, rfl, e⟩
  · exact ⟨F, ι, env, S, _, rel, re, e, p⟩
  · refine ⟨F, ι, env, S, _, rel, re, e, fun F' ι' H' u e' rel' rv => ?_⟩
    cases rv with
    | d rv =>
      cases rv
      exact ⟨k, rfl, p F' ι' H' k e' rel' rfl⟩
theorem op1_bool {f : D → Option D} {a : Den} (hb : ∀ x z, f x = some z → ∃ k, z = .bool k) (env S v S1) (h : cOp1 f a env S = some (.ok v S1)) : ∃ k, v = .d (.bool k) := by
  unfold cOp1 at h
  cases e : a env S with
  | none => rw [e] at h; cases h
  | some w =>
    rw [e] at h
    cases w with
    | er x S2 => cases h
    | ok va S2 =>
      simp only [bnd_ok] at h
      cases h1 : view S2 va with
      | none => simp [h1] at h
      | some x =>
        cases h3 : f x with
        | none => simp [h1, h3] at h
        | some z =>
          obtain ⟨k, rfl⟩ := hb _ _ h3
          simp only [h1, Option.bind_some, h3, givD_some, Option.some.injEq, R.ok.injEq] at h
          exact ⟨k, h.1.symm⟩
theorem st_isN {a : Expr} {fa : Den} {pos pos' : Pos} {j : Nat} (ha : PE X a (tD X.K W fa)) : PT X (.Compare a [.Is] [.Constant .none j pos'] pos) (tT X.K W (cTru (cOp1 (isNoneD false) fa))) :=
  st_bool ((pt_cmp (pc_isN ha)).of fun σ H Q q => op1_imp (imp1_isN false) q) (op1_bool fun _ _ => isNone_bool)
theorem st_notN {a : Expr} {fa : Den} {pos pos' : Pos} {j : Nat} (ha : PE X a (tD X.K W fa)) : PT X (.Compare a [.IsNot] [.Constant .none j pos'] pos) (tT X.K W (cTru (cOp1 (isNoneD true) fa))) :=
  st_bool ((pt_cmp (pc_notN ha)).of fun σ H Q q => op1_imp (imp1_isN true) q) (op1_bool fun _ _ => isNone_bool)
theorem se_neg {a : Expr} {fa : Den} {pos : Pos} (ha : PE X a (tD X.K W fa)) : PE X (.UnaryOp .USub a pos) (tD X.K W (cOp1 negD fa)) := (pe_un un_neg ha).of fun σ H Q q => op1_imp imp1_neg q
theorem se_not {a : Expr} {fa : Den} {pos : Pos} (ha : PE X a (tD X.K W fa)) : PE X (.UnaryOp .Not a pos) (tD X.K W (cOp1 notD fa)) := (pe_notT ha).of fun σ H Q q => op1_imp imp1_not q
/-! ### tests -/
theorem st_tru {a : Expr} {fa : Den} (ha : PE X a (tD X.K W fa)) (he : ∀ whole, isTrue a X.env whole = (do let v ← whole; standAt a.pos; holding [v] (truthy v))) : PT X a (tT X.K W (cTru fa)) := (pt_truth ha he).of fun σ H Q q => by
  obtain ⟨F, ι, env, S, q, rel, re, h, p⟩ := q
  refine tG_bnd rel re h p fun F1 ι1 S1 H1 u v e1 rel1 re1 ru h p1 => ?_
  cases hv : view S1 v with
  | none => simp [hv] at h
  | some x =>
    cases ht : tru x with
    | none => simp [hv, ht] at h
    | some k =>
      simp only [hv, ht, Option.bind_some, givB_some, Option.some.injEq] at h
      subst h
      exact ⟨k, tru_imp rel1.same (vw_of rel1 ru hv) ht, p1 F1 ι1 H1 k (Ext.refl _ _) rel1 rfl⟩
theorem st_not {a : Expr} {fa : DenT} {pos : Pos} (ha : PT X a (tT X.K W fa)) : PT X (.UnaryOp .Not a pos) (tT X.K W (cNotT fa)) := (pt_not ha).of fun σ H Q q => by
  obtain ⟨F, ι, env, S, q, rel, re, h, p⟩ := q
  refine tG_bnd rel re h p fun F1 ι1 S1 H1 u v e1 rel1 re1 ru h p1 => ?_
  cases h
  cases ru
  exact p1 F1 ι1 H1 _ (Ext.refl _ _) rel1 rfl
theorem t_of {RA : Hp → List Addr → β → α → Prop} {f : Env → Store → Option (R α)} {F H : Hp} {ι : List Addr} {S : Store} {σ : L2.St} {env : Env} {r : R α} {Q : β → Hp → Prop} (rel : Rel X.K F ι S H) (re : REnv X.K F ι σ env) (h : f env S = some r) (p : Post X.K W RA F ι r Q) : tG X.K W RA f σ H Q :=
  ⟨F, ι, env, S, r, rel, re, h, p⟩
theorem sw_and1 {a : Expr} {fa : DenT} {pos : Pos} (ha : PT X a (tT X.K W fa)) : PW X (.BoolOp .And [a] pos) (tT X.K W fa) := pw_and1 ha
theorem pw_of {e : Expr} {t t' : TT} (h : PW X e t) (i : ∀ σ H Q, t' σ H Q → t σ H Q) : PW X e t' := ⟨fun wh pins s σ H Q I q => h.run wh pins s σ H Q I (i σ H Q q)⟩
theorem sw_and {a b : Expr} {rest : List Expr} {fa fb : DenT} {pos : Pos} (ha : PT X a (tT X.K W fa)) (hb : PW X (.BoolOp .And (b :: rest) pos) (tT X.K W fb)) : PW X (.BoolOp .And (a :: b :: rest) pos) (tT X.K W (cAndT fa fb)) := pw_of (pw_and ha hb) fun σ H Q q => by
  obtain ⟨F, ι, env, S, q, rel, re, h, p⟩ := q
  refine tG_bnd rel re h p fun F1 ι1 S1 H1 u v e1 rel1 re1 ru h p1 => ?_
  cases ru
  cases u with
  | true => exact iteT (t_of rel1 re1 h p1)
  | false =>
    cases h
    exact iteF (p1 F1 ι1 H1 _ (Ext.refl _ _) rel1 rfl)
theorem sw_or {a b : Expr} {rest : List Expr} {fa fb : DenT} {pos : Pos} (ha : PT X a (tT X.K W fa)) (hb : PW X (.BoolOp .Or (b :: rest) pos) (tT X.K W fb)) : PW X (.BoolOp .Or (a :: b :: rest) pos) (tT X.K W (cOrT fa fb)) := pw_of (pw_or ha hb) fun σ H Q q => by
  obtain ⟨F, ι, env, S, q, rel, re, h, p⟩ := q
  refine tG_bnd rel re h p fun F1 ι1 S1 H1 u v e1 rel1 re1 ru h p1 => ?_
  cases ru
  cases u with
  | false => exact iteF (t_of rel1 re1 h p1)
  | true =>
    cases h
    exact iteT (p1 F1 ι1 H1 _ (Ext.refl _ _) rel1 rfl)
theorem st_ite {c a b : Expr} {fc fa fb : DenT} {pos : Pos} (hc : PT X c (tT X.K W fc)) (ha : PT X a (tT X.K W fa)) (hb : PT X b (tT X.K W fb)) : PT X (.IfExp c a b pos) (tT X.K W (cIteT fc fa fb)) := by
  refine ⟨fun pins s σ H Q I q => ?_⟩
  refine PyProof.Rows.isTrue_IfExp (thn (hc.run pins s σ H (fun k H1 => if k = true then tT X.K W fa σ H1 Q else tT X.K W fb σ H1 Q) I ?_) fun k s1 ⟨H1, I1, q1⟩ => ?_)
  · obtain ⟨F, ι, env, S, q, rel, re, h, p⟩ := q
    refine tG_bnd rel re h p fun F1 ι1 S1 H1 u v e1 rel1 re1 ru h p1 => ?_
    cases ru
    cases u with
    | true => exact iteT (t_of rel1 re1 h p1)
    | false => exact iteF (t_of rel1 re1 h p1)
  · cases k with
    | true => exact ha.run pins s1 σ H1 Q I1 q1
    | false => exact hb.run pins s1 σ H1 Q I1 q1
theorem se_ite {c a b : Expr} {fc : DenT} {fa fb : Den} {pos : Pos} (hc : PT X c (tT X.K W fc)) (ha : PE X a (tD X.K W fa)) (hb : PE X b (tD X.K W fb)) : PE X (.IfExp c a b pos) (tD X.K W (cIte fc fa fb)) := (pe_ifExp hc ha hb).of fun σ H Q q => by
  obtain ⟨F, ι, env, S, q, rel, re, h, p⟩ := q
  refine tG_bnd rel re h p fun F1 ι1 S1 H1 u v e1 rel1 re1 ru h p1 => ?_
  cases ru
  cases u with
  | true => exact iteT (t_of rel1 re1 h p1)
  | false => exact iteF (t_of rel1 re1 h p1)
/-! ### and, or as values -/
theorem se_and {a b : Expr} {rest : List Expr} {fa fb : Den} {pos : Pos} (ha : PE X a (tD X.K W fa)) (hb : PE X (.BoolOp .And (b :: rest) pos) (tD X.K W fb)) : PE X (.BoolOp .And (a :: b :: rest) pos) (tD X.K W (cAnd fa fb)) := (pe_andT ha hb).of fun σ H Q q => by
  obtain ⟨F, ι, env, S, q, rel, re, h, p⟩ := q
  refine tG_bnd rel re h p fun F1 ι1 S1 H1 u v e1 rel1 re1 ru h p1 => ?_
  split at h
  · rename_i k hk
    cases hv : view S1 v with
    | none => simp [hv] at hk
    | some x =>
      simp only [hv, Option.bind_some] at hk
      refine ⟨k, tru_imp rel1.same (vw_of rel1 ru hv) hk, ?_⟩
      cases k with
      | true => exact iteT (t_of rel1 re1 h p1)
      | false =>
        cases h
        exact iteF (p1 F1 ι1 H1 _ (Ext.refl _ _) rel1 ru)
  · cases h
theorem se_or {a b : Expr} {rest : List Expr} {fa fb : Den} {pos : Pos} (ha : PE X a (tD X.K W fa)) (hb : PE X (.BoolOp .Or (b :: rest) pos) (tD X.K W fb)) : PE X (.BoolOp .Or (a :: b :: rest) pos) (tD X.K W (cOr fa fb)) := (pe_orT ha hb).of fun σ H Q q => by
  obtain ⟨F, ι, env, S, q, rel, re, h, p⟩ := q
  refine tG_bnd rel re h p fun F1 ι1 S1 H1 u v e1 rel1 re1 ru h p1 => ?_
  split at h
  · rename_i k hk
    cases hv : view S1 v with
    | none => simp [hv] at hk
    | some x =>
      simp only [hv, Option.bind_some] at hk
      refine ⟨k, tru_imp rel1.same (vw_of rel1 ru hv) hk, ?_⟩
      cases k with
      | false => exact iteF (t_of rel1 re1 h p1)
      | true =>
        cases h
        exact iteT (p1 F1 ι1 H1 _ (Ext.refl _ _) rel1 ru)
  · cases h
/-! ### arguments, displays -/
def noStar : Expr → Bool
  | .Starred _ _ => false
  | _ => true
theorem noStar_each {e : Expr} {es : List Expr} {env : PySem.Env} (h : noStar e = true) : starEach (e :: es) env = (false, eval e env) :: starEach es env := by
  cases e <;> first | rfl | exact absurd h (by simp [noStar])
theorem sa_nil : PA X [] (tA X.K W cNil) := pa_nil.of fun σ H Q q => by
  obtain ⟨F, ι, env, S, q, rel, re, h, p⟩ := q
  cases h
  exact p F ι H _ (Ext.refl _ _) rel .nil
theorem sa_cons {e : Expr} {es : List Expr} {f : Den} {fs : DenA} (hs : noStar e = true) (ha : PE X e (tD X.K W f)) (hr : PA X es (tA X.K W fs)) : PA X (e :: es) (tA X.K W (cCons f fs)) := (pa_cons ha hr (noStar_each hs)).of fun σ H Q q => by
  obtain ⟨F, ι, env, S, q, rel, re, h, p⟩ := q
  refine tG_bnd rel re h p fun F1 ι1 S1 H1 u v e1 rel1 re1 ru h p1 => ?_
  refine tG_bnd rel1 re1 h p1 fun F2 ι2 S2 H2 us vs e2 rel2 re2 rus h p2 => ?_
  cases h
  exact p2 F2 ι2 H2 _ (Ext.refl _ _) rel2 (.cons (ru.mono e2) rus)
theorem dats_dp {F : Hp} {ι : List Addr} : ∀ {us : List V} {vs : List Val} {xs : List D}, RVs X.K F ι us vs → dats vs = some xs → DpAll X.K F us xs
  | _, _, _, .nil, e => by cases e; exact .nil
  | _, _, _, .cons (v := v) r t, e => by
    cases r with
    | d h =>
      simp only [dats_cons] at e
      cases q : dats _ with
      | none => rw [q] at e; cases e
      | some ys =>
        rw [q] at e
        cases e
        exact .cons h (dats_dp t q)
    | loc h => cases e
    | tup h r => cases e
theorem fit_some {mk : List D → D} {xs : List D} {z : D} (h : fitD mk xs = some z) : xs.length ≤ sizeLine ∧ z = mk xs := by
  unfold fitD at h
  split at h <;> cases h
  exact ⟨by assumption, rfl⟩
theorem se_tup {es : List Expr} {x1 : Nat} {pos : Pos} {fs : DenA} (h : PA X es (tA X.K W fs)) : PE X (.Tuple es x1 pos) (tD X.K W (cTup fs)) := (pe_tup h).of fun σ H Q q => by
  obtain ⟨F, ι, env, S, q, rel, re, h, p⟩ := q
  refine tG_bnd rel re h p fun F1 ι1 S1 H1 us vs e1 rel1 re1 ru h p1 => ?_
  cases hd : dats vs with
  | none => simp [hd] at h
  | some xs =>
    cases hf : fitD .tuple xs with
    | none => simp [hd, hf] at h
    | some z =>
      obtain ⟨hl, rfl⟩ := fit_some hf
      simp only [hd, hf, Option.bind_some, givD_some, Option.some.injEq] at h
      subst h
      have da := dats_dp ru hd
      exact ⟨by rw [dpAll_length da]; exact hl, q_tup rel1 (fun F' H' w s r d => p1 F' ι1 H' w ⟨s, List.prefix_refl _⟩ r (.d d)) da⟩
theorem se_ltup {es : List Expr} {x1 : Nat} {pos : Pos} {fs : DenA} (h : PA X es (tA X.K W fs)) : PE X (.Tuple es x1 pos) (tD X.K W (cLtup fs)) := (pe_tup h).of fun σ H Q q => by
  obtain ⟨F, ι, env, S, q, rel, re, h, p⟩ := q
  refine tG_bnd rel re h p fun F1 ι1 S1 H1 us vs e1 rel1 re1 ru h p1 => ?_
  split at h
  · rename_i hl
    cases h
    refine ⟨by rw [ru.len]; exact hl, fun a ha => ?_⟩
    obtain ⟨r2, s2⟩ := rel1.frz ha (.tup us)
    exact p1 _ ι1 _ _ ⟨s2, List.prefix_refl _⟩ r2 (.tup upd_same (ru.mono ⟨s2, List.prefix_refl _⟩))
  · cases h
theorem se_lst {es : List Expr} {pos : Pos} {fs : DenA} (h : PA X es (tA X.K W fs)) : PE X (.List es pos) (tD X.K W (cLst fs)) := (pe_lst h).of fun σ H Q q => by
  obtain ⟨F, ι, env, S, q, rel, re, h, p⟩ := q
  refine tG_bnd rel re h p fun F1 ι1 S1 H1 us vs e1 rel1 re1 ru h p1 => ?_
  cases hd : dats vs with
  | none => simp [hd] at h
  | some xs =>
    cases hf : fitD .list xs with
    | none => simp [hd, hf] at h
    | some z =>
      obtain ⟨hl, rfl⟩ := fit_some hf
      simp only [hd, hf, Option.bind_some, givD_some, Option.some.injEq] at h
      subst h
      have da := dats_dp ru hd
      exact ⟨by rw [dpAll_length da]; exact hl, q_lst rel1 (fun F' H' w s r d => p1 F' ι1 H' w ⟨s, List.prefix_refl _⟩ r (.d d)) da⟩
/-- a new live cell -/
theorem _root_.G.Rel.new {K : PySem.W.Frag} {F H : Hp} {ι : List Addr} {S : Store} (r : Rel K F ι S H) {p : Addr} (hp : H p = none) {o : HO} {c : Cell} (hc : CellOk K F (upd H p o) p c) : Rel K F (ι ++ [p]) (S ++ [c]) (upd H p o) := by
  have hF : F p = none := r.same.free hp
  have nι : ∀ a ∈ ι, a ≠ p := fun a ha z => r.tr a ha (z ▸ hp)
  refine ⟨fun b u e => ?_, ?_, by simp [r.len], fun a ha => ?_, fun n c' a h1 h2 => ?_⟩
  · rw [upd_ne (ne_of_none e hF)]; exact r.same _ _ e
  · rw [List.nodup_append]
    refine ⟨r.nd, by simp, fun a ha b hb => ?_⟩
    have : b = p := by simpa using hb
    rw [this]
    exact nι a ha
  · rcases List.mem_append.mp ha with ha | ha
    · rw [upd_ne (nι a ha)]; exact r.tr a ha
    · have : a = p := by simpa using ha
      rw [this, upd_same]; simp
  · by_cases hn : n < S.length
    · rw [List.getElem?_append_left hn] at h1
      rw [List.getElem?_append_left (by rw [r.len]; exact hn)] at h2
      have na := nι a (List.mem_of_getElem? h2)
      have q := r.cell n c' a h1 h2
      cases c' with
      | dead => trivial
      | lst xs =>
        obtain ⟨q0, vs, q1, q2⟩ := q
        exact ⟨q0, vs, by rw [upd_ne na]; exact q1, q2⟩
      | dct kvs =>
        obtain ⟨q0, ks, q1, q2⟩ := q
        exact ⟨q0, ks, by rw [upd_ne na]; exact q1, q2⟩
    · rw [List.getElem?_append_right (by omega)] at h1
      rw [List.getElem?_append_right (by rw [r.len]; omega), r.len] at h2
      have hz : n - S.length = 0 := by
        have := (List.getElem?_eq_some_iff.mp h1).1
        simp at this
        omega
      rw [hz] at h1 h2
      simp at h1 h2
      subst h1 h2
      exact hc
theorem se_new {es : List Expr} {pos : Pos} {fs : DenA} (h : PA X es (tA X.K W fs)) : PE X (.List es pos) (tD X.K W (cNew fs)) := (pe_lst h).of fun σ H Q q => by
  obtain ⟨F, ι, env, S, q, rel, re, h, p⟩ := q
  refine tG_bnd rel re h p fun F1 ι1 S1 H1 us vs e1 rel1 re1 ru h p1 => ?_
  split at h
  · rename_i xs hd
    split at h <;> cases h
    rename_i hl
    have da := dats_dp ru hd
    refine ⟨by rw [dpAll_length da]; exact hl, fun q hq => p1 F1 (ι1 ++ [q]) _ _ ⟨Same.refl _, List.prefix_append _ _⟩ (rel1.new hq ⟨rel1.same.free hq, us, upd_same, da⟩) (.loc ?_)⟩
    rw [List.getElem?_append_right (by rw [rel1.len]; omega), rel1.len]
    simp
  · cases h
/-- a live list is frozen -/
theorem se_frz {e : Expr} {f : Den} (h : PE X e (tD X.K W f)) : PE X e (tD X.K W (cFrz f)) := h.of fun σ H Q q => by
  obtain ⟨F, ι, env, S, q, rel, re, h, p⟩ := q
  refine tG_bnd rel re h p fun F1 ι1 S1 H1 u v e1 rel1 re1 ru h p1 => ?_
  cases ru with
  | d dp => cases h; exact p1 F1 ι1 H1 _ (Ext.refl _ _) rel1 (.d dp)
  | tup h1 h2 => cases h
  | @loc n a ha =>
    simp only at h
    split at h
    · rename_i xs hx
      cases h
      obtain ⟨hF, vs, hH, da⟩ := rel1.cell n _ a hx ha
      have sF : Same F1 (upd F1 a (.lst vs)) := fun b o e => by rw [upd_ne (ne_of_none e hF)]; exact e
      refine p1 (upd F1 a (.lst vs)) ι1 H1 _ ⟨sF, List.prefix_refl _⟩ ⟨fun b o e => ?_, rel1.nd, by simp [rel1.len], rel1.tr, fun m c b h1 h2 => ?_⟩ (.d (.lst (SqL.of upd_same) (dpAll_mono sF _ _ da)))
      · by_cases hb : b = a
        · subst hb; rw [upd_same] at e; cases e; exact hH
        · rw [upd_ne hb] at e; exact rel1.same _ _ e
      · by_cases hm : m = n
        · subst hm
          rw [List.getElem?_set_self (List.getElem?_eq_some_iff.mp hx).1] at h1
          cases h1
          trivial
        · rw [List.getElem?_set_ne (Ne.symm hm)] at h1
          have nb : b ≠ a := fun z => hm (nodup_addr rel1.nd (z ▸ h2) ha)
          have q := rel1.cell m c b h1 h2
          cases c with
          | dead => trivial
          | lst ys =>
            obtain ⟨q0, ws, q1, q2⟩ := q
            exact ⟨by rw [upd_ne nb]; exact q0, ws, q1, dpAll_mono sF _ _ q2⟩
          | dct kvs =>
            obtain ⟨q0, ks, q1, q2⟩ := q
            exact ⟨by rw [upd_ne nb]; exact q0, ks, q1, Paired.mapP q2 fun p q z => ⟨z.1, dp_mono sF _ _ z.2⟩⟩
    · cases h
end
end G

namespace G
open PySem PySem.Spec PyProof.Rows L2
theorem tG_mono {K : PySem.W.Frag} {W : XW} {α β : Type} {RA : Hp → List Addr → β → α → Prop} {f : Env → Store → Option (R α)} {σ : L2.St} {H : Hp} {Q Q' : β → Hp → Prop} (h : tG K W RA f σ H Q) (i : ∀ u H', Q u H' → Q' u H') : tG K W RA f σ H Q' := by
  obtain ⟨F, ι, env, S, r, rel, re, h, p⟩ := h
  refine ⟨F, ι, env, S, r, rel, re, h, ?_⟩
  cases r with
  | ok x S' => exact fun F' ι' H' u e r' ra => i _ _ (p F' ι' H' u e r' ra)
  | er x S' => exact p
section
variable {X : Cx} {W : XW}
/-! ### subscripts -/
def plainSub : Expr → Bool
  | .Slice _ _ _ _ => false
  | _ => true
theorem plainIx_of {b : Expr} (h : plainSub b = true) : PlainIx b := by
  intro o i
  cases b <;> first | rfl | exact absurd h (by simp [plainSub])
theorem se_idx {a b : Expr} {fa fb : Den} {pos : Pos} (hs : plainSub b = true) (ha : PE X a (tD X.K W fa)) (hb : PE X b (tD X.K W fb)) : PE X (.Subscript a b pos) (tD X.K W (cOp2 idxD fa fb)) :=
  se_op2 imp_idx (pe_ix (ix_list.or ix_tup) ha hb (plainIx_of hs))
theorem so_none : PO X none (tO X.K W cNoPart) := po_none.of fun σ H Q q => by
  obtain ⟨F, ι, env, S, q, rel, re, h, p⟩ := q
  cases h
  exact p F ι H _ (Ext.refl _ _) rel rfl
theorem so_some {e : Expr} {f : Den} (h : PE X e (tD X.K W f)) : PO X (some e) (tO X.K W (cPart f)) := (po_some h).of fun σ H Q q => by
  obtain ⟨F, ι, env, S, q, rel, re, h, p⟩ := q
  refine tG_bnd rel re h p fun F1 ι1 S1 H1 u v e1 rel1 re1 ru h p1 => ?_
  split at h
  · rename_i i
    cases h
    cases ru with
    | d ru =>
      cases ru
      exact ⟨i, rfl, p1 F1 ι1 H1 _ (Ext.refl _ _) rel1 rfl⟩
  · cases h
theorem se_slc {e : Expr} {lo hi : Option Expr} {f : Den} {fl fh : DenO} {p2 pos : Pos} (he : PE X e (tD X.K W f)) (hl : PO X lo (tO X.K W fl)) (hh : PO X hi (tO X.K W fh)) :
    PE X (.Subscript e (.Slice lo hi none p2) pos) (tD X.K W (cSlc f fl fh)) := (pe_slice (sl_list.or sl_tupA) he hl hh).of fun σ H Q q => by
  obtain ⟨F, ι, env, S, q, rel, re, h, p⟩ := q
  refine tG_bnd rel re h p fun F1 ι1 S1 H1 u v e1 rel1 re1 ru h p1 => ?_
  refine tG_bnd rel1 re1 h p1 fun F2 ι2 S2 H2 l l' e2 rel2 re2 rl h p2 => ?_
  refine tG_bnd rel2 re2 h p2 fun F3 ι3 S3 H3 m m' e3 rel3 re3 rm h p3 => ?_
  cases rl; cases rm
  cases hv : view S3 v with
  | none => simp [hv] at h
  | some x =>
    cases hz : slcD l m x with
    | none => simp [hv, hz] at h
    | some z =>
      simp only [hv, hz, Option.bind_some, givD_some, Option.some.injEq] at h
      subst h
      exact imp1_slc l m F3 ι3 S3 H3 u x z Q rel3 (vw_of rel3 ((ru.mono e2).mono e3) hv) hz fun F' H' w s r d => p3 F' ι3 H' w ⟨s, List.prefix_refl _⟩ r (.d d)

def noCall0 : Expr → Bool
  | .Call _ _ _ _ => false
  | _ => true
theorem noCall0_base {o : Expr} {a : Str} {env : PySem.Env} {w : Sem Value} (h : noCall0 o = true) : attributeBase o a env w = w := by
  cases o <;> first | rfl | exact absurd h (by simp [noCall0])
/-! ### calls of built-ins -/
theorem noStar_any (pos : Pos) (env : PySem.Env) : ∀ {es : List Expr}, es.all noStar = true → (backTo pos (starEach es env)).any (·.1) = false
  | [], _ => rfl
  | e :: es, h => by
    simp only [List.all_cons, Bool.and_eq_true] at h
    rw [noStar_each h.1]
    have ih := noStar_any pos env h.2
    rw [show backTo pos ((false, eval e env) :: starEach es env) = (false, eval e env) :: backTo pos (starEach es env) from rfl, List.any_cons, ih]
    rfl
theorem se_callB1 {id : String} {x : Str} {e : Expr} {p pos : Pos} {f : Den} {g : D → Option D} {r : List V → Hp → VK → Prop} {r1 : V → Hp → VK → Prop} (hc : CallR X (.builtin id) r) (hr : ∀ u H Q, r1 u H Q → r [u] H Q) (hi : Imp1 X.K g r1)
    (hg : Gl X x) (hm : X.mg x = none) (hv : bootBuiltins x = some (.builtin id)) (hn : x ≠ "__name__") (hdb : (x == ("__debug__" : Str)) = false) (hs : noStar e = true) (ha : PE X e (tD X.K W f)) : PE X (.Call (.Name x p) [e] [] pos) (tD X.K W (cOp1 g f)) :=
  (pe_callB hc hg hm hv (pa_cons ha pa_nil (noStar_each hs)) hn hdb (noStar_each hs) (noStar_any pos X.env rfl)).of fun σ H Q q => by
    have z := op1_imp hi q
    exact (show tCB r (tCons (tD X.K W f) tNil) σ H Q from tG_mono z fun u H1 q => hr u H1 Q q)
theorem se_callT1 {id : String} {x : Str} {e : Expr} {p pos : Pos} {f : Den} {g : D → Option D} {r : List V → Hp → VK → Prop} {r1 : V → Hp → VK → Prop} (hc : CallR X (.type id) r) (hr : ∀ u H Q, r1 u H Q → r [u] H Q) (hi : Imp1 X.K g r1)
    (hg : Gl X x) (hm : X.mg x = none) (hv : bootBuiltins x = some (.type id)) (hn : x ≠ "__name__") (hdb : (x == ("__debug__" : Str)) = false) (hs : noStar e = true) (ha : PE X e (tD X.K W f)) : PE X (.Call (.Name x p) [e] [] pos) (tD X.K W (cOp1 g f)) :=
  (pe_callTy hc hg hm hv (pa_cons ha pa_nil (noStar_each hs)) hn hdb (noStar_each hs) (noStar_any pos X.env rfl)).of fun σ H Q q => by
    have z := op1_imp hi q
    exact (show tCB r (tCons (tD X.K W f) tNil) σ H Q from tG_mono z fun u H1 q => hr u H1 Q q)
theorem se_callB2 {id : String} {x : Str} {e e' : Expr} {p pos : Pos} {f f' : Den} {g : D → D → Option D} {r : List V → Hp → VK → Prop} {r2 : R2} (hc : CallR X (.builtin id) r) (hr : ∀ u v H Q, r2 u v H Q → r [u, v] H Q) (hi : Imp2 X.K g r2)
    (hg : Gl X x) (hm : X.mg x = none) (hv : bootBuiltins x = some (.builtin id)) (hn : x ≠ "__name__") (hdb : (x == ("__debug__" : Str)) = false) (hs : noStar e = true) (hs' : noStar e' = true) (ha : PE X e (tD X.K W f)) (ha' : PE X e' (tD X.K W f')) :
    PE X (.Call (.Name x p) [e, e'] [] pos) (tD X.K W (cOp2 g f f')) :=
  (pe_callB hc hg hm hv (pa_cons ha (pa_cons ha' pa_nil (noStar_each hs')) (noStar_each hs)) hn hdb (noStar_each hs) (noStar_any pos X.env (by simp [hs']))).of fun σ H Q q => by
    have z := op2_imp hi q
    exact (show tCB r (tCons (tD X.K W f) (tCons (tD X.K W f') tNil)) σ H Q from tG_mono z fun u H1 q => tG_mono q fun v H2 q => hr u v H2 Q q)
/-! the built-ins -/
theorem imp1_abs {K : PySem.W.Frag} : Imp1 K absD (fun x H Q => ∃ i, x = .int i ∧ Q (.int (if i < 0 then -i else i)) H) := by
  intro F ι S H u x z Q rel hx hz q
  cases x with
  | int i => cases hx.int; cases hz; exact ⟨i, rfl, q_same rel q (.int _)⟩
  | _ => cases hz
theorem imp1_int {K : PySem.W.Frag} : Imp1 K intOfD (fun x H Q => (∃ i, x = .int i ∧ Q (.int i) H) ∨ ∃ k, x = .bl k ∧ Q (.int (if k then 1 else 0)) H) := by
  intro F ι S H u x z Q rel hx hz q
  cases x with
  | int i => cases hx.int; cases hz; exact .inl ⟨i, rfl, q_same rel q (.int _)⟩
  | bool i => cases hx.bool; cases hz; exact .inr ⟨i, rfl, q_same rel q (.int _)⟩
  | _ => cases hz
theorem imp1_bool {K : PySem.W.Frag} : Imp1 K boolOfD (fun x H Q => (∃ i, x = .int i ∧ Q (.bl (i != 0)) H) ∨ ∃ k, x = .bl k ∧ Q (.bl k) H) := by
  intro F ι S H u x z Q rel hx hz q
  cases x with
  | int i => cases hx.int; cases hz; exact .inl ⟨i, rfl, q_same rel q (.bl _)⟩
  | bool i => cases hx.bool; cases hz; exact .inr ⟨i, rfl, q_same rel q (.bl _)⟩
  | _ => cases hz
theorem dpAll_bools {K : PySem.W.Frag} {F : Hp} : ∀ {bs : List Bool} {vs : List V}, DpAll K F vs (bs.map .bool) → vs = bs.map V.bl
  | [], _, h => by cases h; rfl
  | b :: bs, _, h => by
    cases h with
    | cons h1 h2 =>
      cases h1
      rw [dpAll_bools h2]
      rfl
theorem dpAll_ints {K : PySem.W.Frag} {F : Hp} : ∀ {ns : List Int} {vs : List V}, DpAll K F vs (ns.map .int) → vs = ns.map V.int
  | [], _, h => by cases h; rfl
  | b :: bs, _, h => by
    cases h with
    | cons h1 h2 =>
      cases h1
      rw [dpAll_ints h2]
      rfl
theorem ints_dpAll {K : PySem.W.Frag} {F : Hp} : ∀ (ns : List Int), DpAll K F (ns.map V.int) (ns.map .int)
  | [] => .nil
  | n :: ns => .cons (.int n) (ints_dpAll ns)
theorem imp1_all {K : PySem.W.Frag} : Imp1 K allD (fun x H Q => ∃ (a : Addr) (bs : List Bool), x = V.ref a ∧ SqL K H a (bs.map V.bl) ∧ Q (.bl (bs.all id)) H) := by
  intro F ι S H u x z Q rel hx hz q
  cases x with
  | list xs =>
    simp only [allD] at hz
    cases e : bools xs with
    | none => rw [e] at hz; cases hz
    | some bs =>
      rw [e] at hz
      cases hz
      have ex := bools_eq e
      subst ex
      obtain ⟨a, vs, rfl, ha, da⟩ := hx.list rel.same
      rw [dpAll_bools da] at ha
      exact ⟨a, bs, rfl, ha, q_same rel q (.bl _)⟩
  | _ => cases hz
theorem imp1_list {K : PySem.W.Frag} : Imp1 K listD (fun x H Q => ∃ p ys, x = .ref p ∧ (SqL K H p ys ∨ SqT K H p ys) ∧ ∀ l, H l = none → Q (.ref l) (upd H l (.lst ys))) := by
  intro F ι S H u x z Q rel hx hz q
  cases x with
  | list xs =>
    cases hz
    obtain ⟨a, vs, rfl, ha, da⟩ := hx.list rel.same
    exact ⟨a, vs, rfl, .inl ha, q_lst rel q da⟩
  | tuple xs =>
    cases hz
    obtain ⟨a, vs, rfl, ha, da⟩ := hx.tuple rel.same
    exact ⟨a, vs, rfl, .inr ha, q_lst rel q da⟩
  | _ => cases hz
theorem imp1_tup {K : PySem.W.Frag} : Imp1 K tupD (fun x H Q => ∃ p ys, x = .ref p ∧ ((SqL K H p ys ∧ ∀ l, H l = none → Q (.ref l) (upd H l (.tup ys))) ∨ (SqT K H p ys ∧ Q (.ref p) H))) := by
  intro F ι S H u x z Q rel hx hz q
  cases x with
  | list xs =>
    cases hz
    obtain ⟨a, vs, rfl, ha, da⟩ := hx.list rel.same
    exact ⟨a, vs, rfl, .inl ⟨ha, q_tup rel q da⟩⟩
  | tuple xs =>
    cases hz
    have hF := hx.tupF
    obtain ⟨a, vs, rfl, ha, da⟩ := hx.tuple rel.same
    exact ⟨a, vs, rfl, .inr ⟨ha, q_same rel q hF⟩⟩
  | _ => cases hz
theorem imp_max2 {K : PySem.W.Frag} : Imp2 K maxD2 (fun x y H Q => ∃ i j, x = .int i ∧ y = .int j ∧ Q (.int (if j > i then j else i)) H) := imp_int fun i j z H Q e => by
  cases e
  exact ⟨_, fun F => .int _, fun q => ⟨i, j, rfl, rfl, q⟩⟩
theorem imp_min2 {K : PySem.W.Frag} : Imp2 K minD2 (fun x y H Q => ∃ i j, x = .int i ∧ y = .int j ∧ Q (.int (if j < i then j else i)) H) := imp_int fun i j z H Q e => by
  cases e
  exact ⟨_, fun F => .int _, fun q => ⟨i, j, rfl, rfl, q⟩⟩
/-- max, min of a list or a tuple of ints -/
def rBest (K : PySem.W.Frag) (f : Int → Int → Int) : V → Hp → VK → Prop := fun x H Q => ∃ (a : Addr) (n : Int) (ns : List Int), x = .ref a ∧ (SqL K H a ((n :: ns).map V.int) ∨ SqT K H a ((n :: ns).map V.int)) ∧ Q (.int (ns.foldl f n)) H
theorem imp1_best {K : PySem.W.Frag} {f : Int → Int → Int} : Imp1 K (bestD f) (rBest K f) := by
  intro F ι S H u x z Q rel hx hz q
  cases x with
  | list xs =>
    simp only [bestD] at hz
    split at hz <;> cases hz
    rename_i n ns e
    have ex := intsOf_eq e
    subst ex
    obtain ⟨a, vs, rfl, ha, da⟩ := hx.list rel.same
    rw [dpAll_ints da] at ha
    exact ⟨a, n, ns, rfl, .inl ha, q_same rel q (.int _)⟩
  | tuple xs =>
    simp only [bestD] at hz
    split at hz <;> cases hz
    rename_i n ns e
    have ex := intsOf_eq e
    subst ex
    obtain ⟨a, vs, rfl, ha, da⟩ := hx.tuple rel.same
    rw [dpAll_ints da] at ha
    exact ⟨a, n, ns, rfl, .inr ha, q_same rel q (.int _)⟩
  | _ => cases hz
theorem alike_ints (ns : List Int) : PySem.W.AlikeAll (ns.map PyData.int) := by
  refine ⟨fun x hx y hy => ?_, fun x hx => ?_⟩
  · obtain ⟨i, _, rfl⟩ := List.mem_map.mp hx
    obtain ⟨j, _, rfl⟩ := List.mem_map.mp hy
    rfl
  · obtain ⟨i, _, rfl⟩ := List.mem_map.mp hx
    exact fun z => nomatch z
theorem depth_ints : ∀ (ns : List Int), PyData.depthAll (ns.map PyData.int) = 0
  | [] => rfl
  | n :: ns => by simp [PyData.depthAll, PyData.depth, depth_ints ns]
theorem reads_int {h : Heap} {v : Value} {i : Int} {as : List Addr} (r : Reads h v (.int i) as) : ∃ t, v = .int i t := by
  cases r
  exact ⟨_, rfl⟩
theorem call_max1 (hc : X.calm = true) (hu : X.A.units + 64 < cLine) : CallR X (.builtin "max") (fun xs H Q => ∃ x, xs = [x] ∧ rBest X.K max x H Q) := by
  intro pins s σ H xs us Q I r h
  obtain ⟨x, rfl, a, n, ns, rfl, ha, q⟩ := h
  obtain ⟨u, rfl, rx⟩ := vals1 r
  cases rx
  have hd := depth_ints (n :: ns)
  rcases ha with ha | ha
  · obtain ⟨its, rv, pl, _⟩ := I.list ha
    obtain ⟨as, hr⟩ := Dp.readsAll (X := X) (H := H) I ((n :: ns).map .int) _ its (ints_dpAll (n :: ns)) rv
    refine PySem.W.max_list_data (I.ok.hd hc) pl.isList (by simpa using hr) (alike_ints (n :: ns)) (by rw [show PyData.depthAll (PyData.int n :: ns.map PyData.int) = 0 from hd]; omega) fun i v h' tk bs _ r2 k => ?_
    rw [PySem.W.maxD_ints] at r2
    obtain ⟨t, rfl⟩ := reads_int r2
    exact ⟨.int _, H, I.kept k, ⟨t, rfl⟩, q⟩
  · obtain ⟨its, rv, pl, _⟩ := I.tuple ha
    obtain ⟨as, hr⟩ := Dp.readsAll (X := X) (H := H) I ((n :: ns).map .int) _ its (ints_dpAll (n :: ns)) rv
    refine PySem.W.max_tuple_data (I.ok.hd hc) (show s.heap.IsTuple a its.toArray from pl) (by simpa using hr) (alike_ints (n :: ns)) (by rw [show PyData.depthAll (PyData.int n :: ns.map PyData.int) = 0 from hd]; omega) fun i v h' tk bs _ r2 k => ?_
    rw [PySem.W.maxD_ints] at r2
    obtain ⟨t, rfl⟩ := reads_int r2
    exact ⟨.int _, H, I.kept k, ⟨t, rfl⟩, q⟩
theorem call_min1 (hc : X.calm = true) (hu : X.A.units + 64 < cLine) : CallR X (.builtin "min") (fun xs H Q => ∃ x, xs = [x] ∧ rBest X.K min x H Q) := by
  intro pins s σ H xs us Q I r h
  obtain ⟨x, rfl, a, n, ns, rfl, ha, q⟩ := h
  obtain ⟨u, rfl, rx⟩ := vals1 r
  cases rx
  have hd := depth_ints (n :: ns)
  rcases ha with ha | ha
  · obtain ⟨its, rv, pl, _⟩ := I.list ha
    obtain ⟨as, hr⟩ := Dp.readsAll (X := X) (H := H) I ((n :: ns).map .int) _ its (ints_dpAll (n :: ns)) rv
    refine PySem.W.min_list_data (I.ok.hd hc) pl.isList (by simpa using hr) (alike_ints (n :: ns)) (by rw [show PyData.depthAll (PyData.int n :: ns.map PyData.int) = 0 from hd]; omega) fun i v h' tk bs _ r2 k => ?_
    rw [PySem.W.minD_ints] at r2
    obtain ⟨t, rfl⟩ := reads_int r2
    exact ⟨.int _, H, I.kept k, ⟨t, rfl⟩, q⟩
  · obtain ⟨its, rv, pl, _⟩ := I.tuple ha
    obtain ⟨as, hr⟩ := Dp.readsAll (X := X) (H := H) I ((n :: ns).map .int) _ its (ints_dpAll (n :: ns)) rv
    refine PySem.W.min_tuple_data (I.ok.hd hc) (show s.heap.IsTuple a its.toArray from pl) (by simpa using hr) (alike_ints (n :: ns)) (by rw [show PyData.depthAll (PyData.int n :: ns.map PyData.int) = 0 from hd]; omega) fun i v h' tk bs _ r2 k => ?_
    rw [PySem.W.minD_ints] at r2
    obtain ⟨t, rfl⟩ := reads_int r2
    exact ⟨.int _, H, I.kept k, ⟨t, rfl⟩, q⟩
/-- the built-ins of one and two arguments, by name -/
def names1 : List String := ["len", "all", "abs", "int", "bool", "list", "tuple", "max", "min"]
theorem se_blt1 {id : String} (hid : id ∈ names1) (hc : X.calm = true) (hu : X.A.units + 64 < cLine) {e : Expr} {p pos : Pos} {f : Den} (hg : Gl X (Str.ofString id)) (hm : X.mg (Str.ofString id) = none) (hs : noStar e = true) (ha : PE X e (tD X.K W f)) :
    PE X (.Call (.Name (Str.ofString id) p) [e] [] pos) (tD X.K W (cOp1 (blt1 id) f)) := by
  simp only [names1, List.mem_cons, List.not_mem_nil, or_false] at hid
  rcases hid with rfl | rfl | rfl | rfl | rfl | rfl | rfl | rfl | rfl
  · exact se_callB1 call_len (fun u H Q ⟨n, h, q⟩ => ⟨u, n, rfl, h, q⟩) imp1_len hg hm (by decide +kernel) (by decide +kernel) (by decide +kernel) hs ha
  · exact se_callB1 (cr_all hc) (fun u H Q ⟨a, bs, h, q⟩ => ⟨a, bs, by rw [h], q⟩) imp1_all hg hm (by decide +kernel) (by decide +kernel) (by decide +kernel) hs ha
  · exact se_callB1 call_abs (fun u H Q ⟨i, h, q⟩ => ⟨i, by rw [h], q⟩) imp1_abs hg hm (by decide +kernel) (by decide +kernel) (by decide +kernel) hs ha
  · exact se_callT1 call_int1 (fun u H Q h => h.imp (fun ⟨i, h, q⟩ => ⟨i, by rw [h], q⟩) fun ⟨i, h, q⟩ => ⟨i, by rw [h], q⟩) imp1_int hg hm (by decide +kernel) (by decide +kernel) (by decide +kernel) hs ha
  · exact se_callT1 call_bool1 (fun u H Q h => h.imp (fun ⟨i, h, q⟩ => ⟨i, by rw [h], q⟩) fun ⟨i, h, q⟩ => ⟨i, by rw [h], q⟩) imp1_bool hg hm (by decide +kernel) (by decide +kernel) (by decide +kernel) hs ha
  · exact se_callT1 call_list_of (fun u H Q ⟨p, ys, h, q⟩ => ⟨p, ys, by rw [h], q⟩) imp1_list hg hm (by decide +kernel) (by decide +kernel) (by decide +kernel) hs ha
  · exact se_callT1 call_tuple_of (fun u H Q ⟨p, ys, h, q⟩ => ⟨p, ys, by rw [h], q⟩) imp1_tup hg hm (by decide +kernel) (by decide +kernel) (by decide +kernel) hs ha
  · exact se_callB1 (call_max1 hc hu) (fun u H Q h => ⟨u, rfl, h⟩) imp1_best hg hm (by decide +kernel) (by decide +kernel) (by decide +kernel) hs ha
  · exact se_callB1 (call_min1 hc hu) (fun u H Q h => ⟨u, rfl, h⟩) imp1_best hg hm (by decide +kernel) (by decide +kernel) (by decide +kernel) hs ha
def names2 : List String := ["max", "min"]
theorem se_blt2 {id : String} (hid : id ∈ names2) (hc : X.calm = true) {e e' : Expr} {p pos : Pos} {f f' : Den} (hg : Gl X (Str.ofString id)) (hm : X.mg (Str.ofString id) = none) (hs : noStar e = true) (hs' : noStar e' = true) (ha : PE X e (tD X.K W f)) (ha' : PE X e' (tD X.K W f')) :
    PE X (.Call (.Name (Str.ofString id) p) [e, e'] [] pos) (tD X.K W (cOp2 (blt2 id) f f')) := by
  simp only [names2, List.mem_cons, List.not_mem_nil, or_false] at hid
  rcases hid with rfl | rfl
  · exact se_callB2 (call_max2 hc) (fun u v H Q ⟨i, j, h, h', q⟩ => ⟨i, j, by rw [h, h'], q⟩) imp_max2 hg hm (by decide +kernel) (by decide +kernel) (by decide +kernel) hs hs' ha ha'
  · exact se_callB2 (call_min2 hc) (fun u v H Q ⟨i, j, h, h', q⟩ => ⟨i, j, by rw [h, h'], q⟩) imp_min2 hg hm (by decide +kernel) (by decide +kernel) (by decide +kernel) hs hs' ha ha'
/-- isinstance(e, T) -/
theorem tyx_of {K : PySem.W.Frag} {F H : Hp} (s : Same F H) {u : V} {x : D} (h : VW K F H u x) (e : clsOf x ≠ "") : TyX K H u (.type (clsOf x)) := by
  cases x with
  | none => cases h.none; exact .base .non
  | bool b => cases h.bool; exact .base (.bl b)
  | int i => cases h.int; exact .base (.int i)
  | str z => cases h.str; exact .base (.str z)
  | list xs =>
    obtain ⟨a, vs, rfl, ha, _⟩ := h.list s
    rcases ha with (ha | ⟨o, ha⟩) | ⟨o, _, _, hk, hc, _⟩
    · exact .base (.lst ha)
    · exact .base (.frz ha)
    · exact .kList hk hc
  | tuple xs =>
    obtain ⟨a, vs, rfl, ha, _⟩ := h.tuple s
    rcases ha with (ha | ⟨o, ha⟩) | ⟨o, _, _, hk, hc, _⟩
    · exact .base (.tup ha)
    · exact .fTuple ha
    · exact .kTuple hk hc
  | dict kvs => exact absurd rfl e
theorem se_isa {T : String} {e : Expr} {p p' pos : Pos} {f : Den} (hg : Gl X "isinstance") (hm : X.mg "isinstance" = none) (hgT : Gl X (Str.ofString T)) (hmT : X.mg (Str.ofString T) = none) (hvT : bootBuiltins (Str.ofString T) = some (.type T)) (hnT : Str.ofString T ≠ "__name__")
    (hdT : (Str.ofString T == ("__debug__" : Str)) = false) (hs : noStar e = true) (ha : PE X e (tD X.K W f)) : PE X (.Call (.Name "isinstance" p) [e, .Name (Str.ofString T) p'] [] pos) (tD X.K W (cOp1 (isaD T) f)) :=
  (pe_callB call_isi hg hm (by decide +kernel) (pa_cons ha (pa_cons (pe_bltn (v := .ty T) hgT hmT hvT rfl hnT hdT) pa_nil (noStar_each rfl)) (noStar_each hs)) (by decide +kernel) (by decide +kernel) (noStar_each hs) (noStar_any pos X.env rfl)).of fun σ H Q q => by
    refine op1_imp (r := fun u H Q => rIsi X.K [u, .ty T] H Q) ?_ q
    intro F ι S H u x z Q rel hx hz q
    unfold isaD at hz
    cases e : kitB (clsOf x) T with
    | none => rw [e] at hz; cases hz
    | some b =>
      rw [e] at hz
      cases hz
      have hne : clsOf x ≠ "" := by
        cases x with
        | dict kvs =>
          cases hx with
          | d h => cases h
        | _ => simp [clsOf]
      exact ⟨u, .ty T, _, .type T, b, rfl, .ty T, tyx_of rel.same hx hne, kit_ty e, q_same rel q (.bl _)⟩
end
end G

/-! index, sorted(set(..)). -/
namespace G
open PySem PySem.Spec PyProof.Rows L2
section
variable {K : PySem.W.Frag} {X : Cx} {W : XW}
theorem findIdx_some {α : Type} {p : α → Bool} : ∀ {xs : List α} {j : Nat}, xs.findIdx? p = some j → ∃ z, xs[j]? = some z ∧ p z = true ∧ ∀ m z', m < j → xs[m]? = some z' → p z' = false
  | [], j, h => by simp at h
  | x :: xs, j, h => by
    rw [List.findIdx?_cons] at h
    by_cases q : p x = true
    · rw [if_pos q] at h
      cases h
      exact ⟨x, rfl, q, fun m z' hm _ => absurd hm (by omega)⟩
    · rw [if_neg q] at h
      cases e : xs.findIdx? p with
      | none => rw [e] at h; cases h
      | some i =>
        rw [e] at h
        cases h
        obtain ⟨z, h1, h2, h3⟩ := findIdx_some e
        refine ⟨z, by simpa using h1, h2, fun m z' hm hz => ?_⟩
        have hm2 : m < i + 1 := hm
        cases m with
        | zero => simp at hz; subst hz; simpa using q
        | succ m => exact h3 m z' (by omega) (by simpa using hz)
theorem dp_str {F : Hp} {v : V} {z : Str} (h : Dp K F v (.str z)) : v = .str z := by cases h; rfl
theorem dpAll_strs {F : Hp} : ∀ {zs : List Str} {vs : List V}, DpAll K F vs (zs.map .str) → vs = zs.map V.str
  | [], _, h => by cases h; rfl
  | z :: zs, _, h => by
    cases h with
    | cons h1 h2 => rw [dp_str h1, dpAll_strs h2]; rfl
theorem indexL_some {ys : List D} {d z : D} (h : indexL (.list ys) d = some z) : ∃ (j : Nat) (x : D), SeqAt.shaped (.list ys) = true ∧ SeqAt.shaped d = true ∧ ys[j]? = some x ∧ PyData.eqv x d = true ∧ (∀ (m : Nat) z', m < j → ys[m]? = some z' → PyData.eqv z' d = false) ∧ z = .int (j : Int) := by
  have e : indexL (.list ys) d = if SeqAt.shaped (.list ys) && SeqAt.shaped d then (ys.findIdx? fun z => PyData.eqv z d).map fun (j : Nat) => .int (j : Int) else none := rfl
  rw [e] at h
  split at h
  · rename_i hsh
    rw [Bool.and_eq_true] at hsh
    cases hj : ys.findIdx? fun z => PyData.eqv z d with
    | none => rw [hj] at h; cases h
    | some j =>
      rw [hj] at h
      cases h
      obtain ⟨x, z1, z2, z3⟩ := findIdx_some hj
      exact ⟨j, x, hsh.1, hsh.2, z1, z2, z3, rfl⟩
  · cases h
theorem indexT_some {c d z : D} (h : indexT c d = some z) : ∃ (zs : List Str) (x : Str) (j : Nat), c = .tuple (zs.map .str) ∧ d = .str x ∧ zs[j]? = some x ∧ (∀ m : Nat, m < j → zs[m]? ≠ some x) ∧ z = .int (j : Int) := by
  unfold indexT at h
  split at h
  · rename_i ys x
    cases hzs : strsOf ys with
    | none => rw [hzs] at h; cases h
    | some zs =>
      rw [hzs] at h
      have := strsOf_eq hzs
      subst this
      cases hj : zs.findIdx? fun y => decide (y = x) with
      | none => simp [hj] at h
      | some j =>
        simp only [hj, Option.map_some, Option.some.injEq] at h
        subst h
        obtain ⟨z0, z1, z2, z3⟩ := findIdx_some hj
        have e0 : z0 = x := of_decide_eq_true z2
        subst e0
        exact ⟨zs, z0, j, rfl, rfl, z1, fun m hm e => by simpa using z3 m z0 hm e, rfl⟩
  · cases h
/-- xs.index(y), xs a list -/
theorem se_lidx {o e : Expr} {apos cpos : Pos} {f g : Den} (hu : X.A.units + 65 < cLine) (ho : PE X o (tD X.K W f)) (he : PE X e (tD X.K W g)) (hb : noCall0 o = true) (hl : (apos.endLine == cpos.line) = true) (hs : noStar e = true) :
    PE X (.Call (.Attribute o "index" apos) [e] [] cpos) (tD X.K W (cLidx f g)) :=
  (pe_bm PySem.F.plainAttrs_list PySem.F.slot_list_index PySem.F.type_list_index (mt_indexD hu) ho (pa_cons he pa_nil (noStar_each hs)) (noCall0_base hb) (by rw [noStar_each hs]; rfl) hl (noStar_each hs) (noStar_any cpos X.env rfl)).of fun σ H Q q => by
    obtain ⟨F, ι, env, S, r, rel, re, h, p⟩ := q
    refine tG_bnd rel re h p fun F1 ι1 S1 H1 u x e1 rel1 re1 ru h p1 => ?_
    cases x with
    | loc _ => simp at h
    | tup _ => simp at h
    | d x =>
      cases x with
      | list ys =>
        cases ru with
        | d ru =>
          obtain ⟨a, vs, rfl, ha, da⟩ := (VW.d ru : VW X.K F1 H1 u (.list ys)).list rel1.same
          refine ⟨.inl ⟨rfl, vs, ha⟩, ?_⟩
          simp only at h
          refine tG_bnd rel1 re1 h p1 fun F2 ι2 S2 H2 v y e2 rel2 re2 rv h p2 => ?_
          cases hy : view S2 y with
          | none => simp [hy] at h
          | some dy =>
            cases hz : indexL (.list ys) dy with
            | none => simp [hy, hz] at h
            | some dz =>
              simp only [hy, hz, Option.bind_some, givD_some, Option.some.injEq] at h
              subst h
              obtain ⟨j, z, s1, s2, z1, z2, z3, rfl⟩ := indexL_some hz
              exact show rIndexD X.K (.ref a) [v] H2 Q from ⟨a, v, dy, ys, j, z, rfl, rfl, dp_mono (e2.same.trans rel2.same) _ _ ru, (vw_of rel2 rv hy).dp rel2.same, s1, s2, z1, z2, z3, p2 F2 ι2 _ _ (Ext.refl _ _) rel2 (.d (.int _))⟩
      | none => simp at h
      | bool _ => simp at h
      | int _ => simp at h
      | str _ => simp at h
      | tuple _ => simp at h
      | dict _ => simp at h
/-- a constant's tuple of words -/
def KTup (K : PySem.W.Frag) (v : V) : Prop := ∃ a o, v = .ref a ∧ K.lookup a = some o ∧ o.cls = .type "tuple" ∧ o.dict = none
theorem se_gidx {o e : Expr} {apos cpos : Pos} {g : Den} {v : V} {d : D} (ho : PE X o (tC v)) (hv : KTup X.K v) (hd : ∀ F, Dp X.K F v d) (he : PE X e (tD X.K W g)) (hb : noCall0 o = true) (hl : (apos.endLine == cpos.line) = true) (hs : noStar e = true) :
    PE X (.Call (.Attribute o "index" apos) [e] [] cpos) (tD X.K W (cOp1 (indexT d) g)) :=
  (pe_bm PySem.F.plainAttrs_tuple PySem.F.slot_tuple_index PySem.F.type_tuple_index mt_tup_index ho (pa_cons he pa_nil (noStar_each hs)) (noCall0_base hb) (by rw [noStar_each hs]; rfl) hl (noStar_each hs) (noStar_any cpos X.env rfl)).of fun σ H Q q => by
    obtain ⟨a, ob, rfl, h1, h2, h3⟩ := hv
    refine ⟨.inr (.inl ⟨rfl, ob, h1, h2, h3⟩), ?_⟩
    obtain ⟨F, ι, env, S, r, rel, re, h, p⟩ := q
    refine tG_bnd rel re h p fun F2 ι2 S2 H2 v y e2 rel2 re2 rv h p2 => ?_
    cases hy : view S2 y with
    | none => simp [hy] at h
    | some dy =>
      cases hz : indexT d dy with
      | none => simp [hy, hz] at h
      | some dz =>
        simp only [hy, hz, Option.bind_some, givD_some, Option.some.injEq] at h
        subst h
        obtain ⟨zs, z0, j, rfl, rfl, z1, z3, rfl⟩ := indexT_some hz
        cases (vw_of rel2 rv hy).str
        have hT := (VW.d (hd F2) : VW X.K F2 H2 (.ref a) (.tuple (zs.map .str))).tuple rel2.same
        obtain ⟨a', vs, ea, ha, da⟩ := hT
        cases ea
        rw [dpAll_strs da] at ha
        exact ⟨a, zs, z0, j, rfl, rfl, ha, z1, z3, p2 F2 ι2 _ _ (Ext.refl _ _) rel2 (.d (.int _))⟩
/-! sorted(set(x)), x a tuple of ints -/
def rSetTup (K : PySem.W.Frag) (w : World) : List V → Hp → VK → Prop := fun vs H Q => ∃ (p : Addr) (ns : List Int), vs = [.ref p] ∧ SqT K H p (ns.map V.int) ∧ ns.length ≤ 1000 ∧ ∀ (a : Addr) (c : Nat), c ≤ ns.length → H a = none → Q (.ref a) (upd H a (SetO w a (fun j => decide (j ∈ ns)) c))
theorem cr_setTup (hc : X.calm = true) : CallR X (.type "set") (rSetTup X.K X.w) := by
  intro pins s σ H vs us Q I r h
  obtain ⟨p, ns, rfl, hq, hl, q⟩ := h
  rw [Vals.ref1 r]
  obtain ⟨its, rv, pt, hz⟩ := I.tuple hq
  refine call_set_tupI ns (I.ok.hd hc) (show s.heap.IsTuple p its.toArray from pt) (ints_of_vals rv) (by unfold scanBound; omega) fun h' tk c R1 hcn k => ?_
  have hn : H s.heap.objs.size = none := I.hok.fresh (Nat.le_refl _)
  exact ⟨.ref _, _, I.laid (t' := tk) k (Nat.le_refl _) (setO_new R1), rfl, q _ c hcn hn⟩
theorem insU_mem (x y : Int) : ∀ ys : List Int, y ∈ insU x ys ↔ y = x ∨ y ∈ ys
  | [] => by simp [insU]
  | z :: ys => by
    unfold insU
    split
    · simp
    · split
      · rename_i h
        subst h
        simp
      · simp only [List.mem_cons, insU_mem x y ys]
        constructor
        · rintro (a | a | a) <;> simp [a]
        · rintro (a | a | a) <;> simp [a]
theorem insU_lt (x : Int) : ∀ ys : List Int, ys.Pairwise (· < ·) → (insU x ys).Pairwise (· < ·)
  | [], _ => by simp [insU]
  | z :: ys, h => by
    rw [List.pairwise_cons] at h
    unfold insU
    split
    · rename_i c
      rw [List.pairwise_cons]
      refine ⟨fun b hb => ?_, List.pairwise_cons.mpr h⟩
      rcases List.mem_cons.mp hb with rfl | hb
      · exact c
      · exact Int.lt_trans c (h.1 b hb)
    · split
      · exact List.pairwise_cons.mpr h
      · rename_i c1 c2
        rw [List.pairwise_cons]
        refine ⟨fun b hb => ?_, insU_lt x ys h.2⟩
        rcases (insU_mem x b ys).mp hb with rfl | hb
        · omega
        · exact h.1 b hb
theorem sortU_lt : ∀ xs : List Int, (sortU xs).Pairwise (· < ·)
  | [] => List.Pairwise.nil
  | x :: xs => insU_lt x _ (sortU_lt xs)
theorem sortU_mem (y : Int) : ∀ xs : List Int, y ∈ sortU xs ↔ y ∈ xs
  | [] => by simp [sortU]
  | x :: xs => by
    show y ∈ insU x (sortU xs) ↔ _
    rw [insU_mem, sortU_mem y xs, List.mem_cons]
theorem lt_unique : ∀ (xs ys : List Int), xs.Pairwise (· < ·) → ys.Pairwise (· < ·) → (∀ k, k ∈ xs ↔ k ∈ ys) → xs = ys
  | [], [], _, _, _ => rfl
  | [], y :: ys, _, _, h => absurd ((h y).mpr (by simp)) (by simp)
  | x :: xs, [], _, _, h => absurd ((h x).mp (by simp)) (by simp)
  | x :: xs, y :: ys, hx, hy, h => by
    rw [List.pairwise_cons] at hx hy
    have e : x = y := by
      rcases List.mem_cons.mp ((h x).mp (by simp)) with e | e
      · exact e
      · have h1 := hy.1 x e
        rcases List.mem_cons.mp ((h y).mpr (by simp)) with e2 | e2
        · exact e2.symm
        · have h2 := hx.1 y e2
          omega
    subst e
    congr 1
    refine lt_unique xs ys hx.2 hy.2 fun k => ?_
    constructor
    · intro hk
      rcases List.mem_cons.mp ((h k).mp (by simp [hk])) with e | e
      · have := hx.1 k hk
        omega
      · exact e
    · intro hk
      rcases List.mem_cons.mp ((h k).mpr (by simp [hk])) with e | e
      · have := hy.1 k hk
        omega
      · exact e
theorem imp1_sset : Imp1 K ssetD (fun x H Q => rSetTup K w [x] H fun y H2 => rSortedSet w [y] H2 Q) := by
  intro F ι S H u x z Q rel hx hz q
  cases x with
  | tuple xs =>
    simp only [ssetD] at hz
    cases e : intsOf xs with
    | none => rw [e] at hz; cases hz
    | some ns =>
      rw [e] at hz
      simp only at hz
      split at hz <;> cases hz
      rename_i hl
      have := intsOf_eq e
      subst this
      obtain ⟨a, vs, rfl, ha, da⟩ := hx.tuple rel.same
      rw [dpAll_ints da] at ha
      refine ⟨a, ns, rfl, ha, by omega, fun a2 c hc hn => ⟨a2, _, c, rfl, upd_same, by omega, fun ns' p h1 h2 h3 hp => ?_⟩⟩
      have en : ns' = sortU ns := lt_unique _ _ h1 (sortU_lt ns) fun k => by rw [h2 k, sortU_mem]; simp
      subst en
      obtain ⟨r1, s1⟩ := rel.frz hn (SetO w a2 (fun j => decide (j ∈ ns)) c)
      obtain ⟨r2, s2⟩ := r1.frz hp (.lst ((sortU ns).map V.int))
      exact q _ _ _ (s1.trans s2) r2 (.lst (SqL.of upd_same) (ints_dpAll _))
  | _ => cases hz
theorem se_sset {e : Expr} {p p2 pos pos2 : Pos} {f : Den} (hc : X.calm = true) (hg : Gl X "sorted") (hm : X.mg "sorted" = none) (hg2 : Gl X "set") (hm2 : X.mg "set" = none) (hs : noStar e = true) (ha : PE X e (tD X.K W f)) :
    PE X (.Call (.Name "sorted" p) [.Call (.Name "set" p2) [e] [] pos2] [] pos) (tD X.K W (cOp1 ssetD f)) :=
  (pe_callB (cr_sortedSet hc) hg hm (by decide +kernel) (pa_cons (pe_callTy (cr_setTup hc) hg2 hm2 (by decide +kernel) (pa_cons ha pa_nil (noStar_each hs)) (by decide +kernel) (by decide +kernel) (noStar_each hs) (noStar_any pos2 X.env rfl)) pa_nil (noStar_each rfl)) (by decide +kernel) (by decide +kernel) (noStar_each rfl) (noStar_any pos X.env rfl)).of fun σ H Q q => by
    have z := op1_imp (imp1_sset (w := X.w)) q
    exact tG_mono z fun u H1 q => q
end
end G

namespace PySem
theorem meets_enumerate_newB1 {v : Value} {o : Obj} {H : Heap → Prop} (B : Begins v o H) :
    Meets (Builtin.«enumerate.__new__» ⟨[.type "enumerate", v], []⟩) (fun _ R s => H s.heap ∧
      R (.ok (.ret (.ref (s.heap.push o).objs.size))) { s with heap := (s.heap.push o).push { cls := .type "enumerate", data := .fields #[.none, .bool false, .ref s.heap.objs.size, rawInt 0, .none, .none] } }) :=
  .of_wp fun prog w A R s h => by
    obtain ⟨hp, g, d, tk, os⟩ := s; obtain ⟨h1, h⟩ := h
    have hsub := sub_enumerate
    have q1 : ∀ {A' : Around} {E : Value → Shared → Prop} {Q : Value → Shared → Prop}, Q (.ref hp.objs.size) ⟨hp.push o, g, d, tk, os⟩ → wpAny (model prog w) A' (pyIter v) Q E ⟨hp, g, d, tk, os⟩ :=
      fun q => B.iter prog w _ _ ⟨hp, g, d, tk, os⟩ _ h1 q
    wp_walk using q1
    refine wpAny_stack_any fun st => wpAny_pure ?_
    split
    · rename_i c _ _ _ _ _
      cases (c == Value.type "enumerate")
      · wp_walk using q1
        exact ⟨_, rfl, h⟩
      · wp_walk using q1
        exact ⟨_, rfl, h⟩
    · wp_walk using q1
      exact ⟨_, rfl, h⟩
theorem enum_begins1 {prog : Program} {w : World} {A : Around} {E : Value → Shared → Prop} {s : Shared} {v : Value} {o : Obj} {H : Heap → Prop} {Q : Value → Shared → Prop} (B : Begins v o H) (h1 : H s.heap)
    (h : ∀ h', IsEnum h' (s.heap.objs.size + 1) s.heap.objs.size 0 .none → h'.get? s.heap.objs.size = some o → h'.objs.size = s.heap.objs.size + 2 →
      (∀ b o, s.heap.get? b = some o → h'.get? b = some o) → Q (.ref (s.heap.objs.size + 1)) { s with heap := h' }) :
    wpAny (model prog w) A (call (.type "enumerate") [v]) Q E s := by
  refine callType_new F.called_enumerate (by decide) (F.typeCall_enumerate_1 _) (F.newCall_enumerate_1 _) (fun obj => F.args_object_init_2 obj _) F.entry_enumerate_new
    (meets_enumerate_newB1 B) ⟨h1, ?_⟩
  have hz : (s.heap.push o).objs.size = s.heap.objs.size + 1 := Heap.size_push ..
  show _ ∧ _
  rw [hz]
  have he : IsEnum ((s.heap.push o).push { cls := .type "enumerate", data := .fields #[.none, .bool false, .ref s.heap.objs.size, rawInt 0, .none, .none] }) (s.heap.objs.size + 1) s.heap.objs.size 0 .none := by
    have := Heap.get?_push_size (s.heap.push o) (o := { cls := .type "enumerate", data := .fields #[.none, .bool false, .ref s.heap.objs.size, rawInt 0, .none, .none] }) rfl
    rw [hz] at this; exact this
  refine ⟨⟨_, he, rfl⟩, h _ he (Heap.get?_push_of_some _ (Heap.get?_push_size _ B.free)) (by rw [Heap.size_push, hz]) fun b o x => Heap.get?_push_of_some _ (Heap.get?_push_of_some _ x)⟩
theorem enum_end_tuple {prog : Program} {w : World} {A : Around} {E : Value → Shared → Prop} {s : Shared} {e it l : Addr} {i : Nat} {items : Array Value} {old : Value} {Q : Option Value → Shared → Prop} (hh : A.handled = none)
    (he : IsEnum s.heap e it i old) (hit : s.heap.IsTupleIter it l i) (hl : s.heap.IsTuple l items) (hx : items[i]? = none)
    (hQ : ∀ h', Heap.ExtBut it s.heap h' → Q none { s with heap := h' }) : wpAny (model prog w) A (pyNext (.ref e)) Q E s := by
  have hT : s.TypeIs (.ref e) "enumerate" := ⟨_, he, rfl⟩
  unfold pyNext
  refine wpAny_bind (wpAny_attempt (wpAny_callSpecial?_slot (name := Str.ofString "__next__") hT F.slot_enumerate_next
    (wpAny_call_entry F.slot_enumerate_next hT F.entry_enumerate_next ?_ (F.args_enumerate_next_1 _))))
  show wpAny _ _ (field (.ref e) 2 >>= _) _ _ _
  refine wpAny_bind (wpAny_field he rfl (x := .ref it) rfl ?_)
  refine wpAny_bind (wpAny_nextOf_tuple_end hh hit hl hx fun h' x he' hx' => ?_)
  obtain ⟨o, ho, hc⟩ := hx'
  refine wpAny_bind (wpAny_isInstance (T := "StopIteration") (b := true) ⟨o, ho, hc⟩ isSubtype_stop ?_)
  exact wpAny_pure (hQ _ he')
end PySem
namespace G
open PySem PySem.Spec PyProof.Rows L2
/-- enumerate(tuple): each item in a new pair -/
def Itet (K : PySem.W.Frag) (a : Addr) : It :=
  ⟨fun i H => ∃ (xs : List V) (x : V), SqT K H a xs ∧ xs[i]? = some x, fun i H v H' => ∃ T x, v = .ref T ∧ H T = none ∧ H' = upd H T (.tup [.int (i : Nat), x]) ∧ ∀ xs, SqT K H a xs → xs[i]? = some x, fun i H => ∃ xs : List V, SqT K H a xs ∧ xs.length ≤ i⟩
theorem turn_enumT {P : Program} {w : World} {K : PySem.W.Frag} {elts : List Expr} {kk : Nat} {tpos : Pos} (a e it : Addr) :
    Turn P w K (.Tuple elts kk tpos) (Itet K a) [e, it] e (fun i h => (∃ old, IsEnum h e it ((i : Nat) : Int) old) ∧ h.IsTupleIter it a i ∧ e ≠ it) where
  mem := by simp
  obj := fun i h st b hb => by
    obtain ⟨⟨old, he⟩, ⟨o, ho, hc, hd⟩, _⟩ := st
    have e' : b = e ∨ b = it := by simpa using hb
    rcases e' with z | z
    · rw [z]; exact ⟨_, he, fun v q => nomatch q⟩
    · rw [z]; exact ⟨o, ho, fun v q => by rw [hd] at q; cases q⟩
  keep := fun i h h' st k => let ⟨⟨old, he⟩, hi, hne⟩ := st; ⟨⟨old, k e (by simp) _ he⟩, hi.at fun o q => k it (by simp) o q, hne⟩
  item := by
    intro X hP hw hK hc i pins s σ H E I hf st hg
    subst hP hw hK
    obtain ⟨⟨old, he⟩, hit, hne⟩ := st
    obtain ⟨xs, x, hq, hx⟩ := hg
    obtain ⟨its, rv, p, hz⟩ := I.tuple hq
    obtain ⟨u, hu, ru⟩ := rv.get hx
    have hel : e < s.heap.objs.size := Heap.lt_size he
    have hil : it < s.heap.objs.size := by obtain ⟨_, q, _⟩ := hit; exact Heap.lt_size q
    have hlt : i < its.toArray.size := by simpa using (List.getElem?_eq_some_iff.mp hu).1
    have nea : e ≠ a := fun z => by
      obtain ⟨o, ho, hc2, _⟩ := p
      have he' : s.heap.get? e = some _ := he
      rw [z, ho] at he'
      cases he'
      exact absurd (show Value.type "enumerate" = Value.type "tuple" from hc2) (by decide)
    have nia : a ≠ it := fun z => by
      obtain ⟨o, ho, hc2, _⟩ := p
      obtain ⟨o', ho', hc3, _⟩ := hit
      rw [z, ho'] at ho
      cases ho
      rw [hc3] at hc2
      exact absurd hc2 (by decide)
    refine wpAny_pyNext_enum_itemD (Draws.tuple (A := X.A.in1) (prog := X.prog) (w := X.w) (I.ok.hd hc) it a nia its.toArray) he ⟨hit, show s.heap.IsTuple a its.toArray from p⟩ hlt hne (by simp [nea, hne]) fun y h' tk hy ho hst' hT hsz hk => ?_
    have ey : y = u := by
      have : its[i]? = some y := by simpa using hy
      rw [hu] at this
      exact (Option.some.inj this).symm
    subst ey
    refine ⟨_, rfl, wpAny_letOwnedTupleGo_enum (s := { s with heap := h', toks := tk + 1 }) ho fun h'' he' sb => ?_⟩
    have hT2 : h''.get? s.heap.objs.size = some { cls := .type "tuple", data := .seq #[.int i tk, y] } := (sb.2 _ (Nat.ne_of_gt hel)).trans hT
    have new : ObjOk X.prog X.w (upd H s.heap.objs.size (.tup [.int (i : Nat), x])) h'' s.heap.objs.size (.tup [.int (i : Nat), x]) :=
      ⟨by show 2 ≤ sizeLine; decide, [.int i tk, y], .cons ⟨_, rfl⟩ (.cons ru .nil), ⟨_, hT2, rfl, _, rfl⟩⟩
    have I1 : Inv X pins σ (upd H s.heap.objs.size (.tup [.int (i : Nat), x])) { s with heap := h'', toks := tk + 1 } :=
      I.turnedNew (ch := [e, it]) (fun b ob hb q => (sb.2 b (fun z => hb (by simp [z]))).trans (hk b ob (fun z => hb (by simp [z])) (fun z => hb (by simp [z])) q)) hf (Nat.le_refl _) new
    refine ⟨.ref s.heap.objs.size, _, I1, rfl, ⟨_, x, rfl, I.hok.fresh (Nat.le_refl _), rfl, fun ys hy => by rw [I.tuple_inj hy hq]; exact hx⟩, ⟨⟨y, ?_⟩, hst'.1.at fun o q => (sb.2 it (Ne.symm hne)).trans q, hne⟩, fun b hb => ?_⟩
    · have e1 : ((i + 1 : Nat) : Int) = (i : Int) + 1 := by omega
      rw [e1]; exact he'
    · have hb' : b < s.heap.objs.size := by
        have e' : b = e ∨ b = it := by simpa using hb
        rcases e' with z | z
        · rw [z]; exact hel
        · rw [z]; exact hil
      rw [upd_ne (Nat.ne_of_lt hb')]
      exact (hf b hb).1
  done := by
    intro X hP hw hK hc i pins s σ H E I hf st hg
    subst hP hw hK
    obtain ⟨⟨old, he⟩, hit, hne⟩ := st
    obtain ⟨xs, hq, hx⟩ := hg
    obtain ⟨its, rv, p, hz⟩ := I.tuple hq
    obtain ⟨f0, f1, f2, f3, f4, f5⟩ := hf it (by simp)
    have hl := rv.length
    exact enum_end_tuple (I.ok.hd hc) he hit (show s.heap.IsTuple a its.toArray from p) (by simp; omega) fun h' eb => ⟨rfl, I.turned (t' := s.toks) (fun b o hb q => eb b o hb q) f0 f1 f3 f4 f5⟩
  self := fun A i s Q E st h => let ⟨⟨_, he⟩, _⟩ := st; wpAny_pyIter_enum he h
/-- enumerate of a list or a tuple -/
def iEnumA (K : PySem.W.Frag) (ta : TA) : TI := fun σ H R => ta σ H fun vs H1 => ∃ a xs, vs = [.ref a] ∧ ((SqL K H1 a xs ∧ R (Ite K a) H1) ∨ (SqT K H1 a xs ∧ R (Itet K a) H1))
theorem pi_enumA {X : Cx} {e : Expr} {ta : TA} {p pos tpos : Pos} {elts : List Expr} {kk : Nat} (hg : Gl X "enumerate") (hm : X.mg "enumerate" = none) (ha : PA X [e] ta) (hs : starEach [e] X.env = [(false, eval e X.env)] := by rfl) :
    PI X (.Tuple elts kk tpos) (.Call (.Name "enumerate" p) [e] [] pos) (iEnumA X.K ta) := by
  refine ⟨fun pins s σ H R I h => ?_⟩
  refine Call_ (ld_blt I hg hm boot_enumerate (PyProof.Rows.callWith_type1 (thn (ha.run pos pins s σ H _ I h) fun us s1 ⟨vs, H1, I1, r1, q1⟩ => ?_) hs rfl))
  obtain ⟨a, xs, ex, q1⟩ := q1
  subst ex
  have fp : ∀ b ∈ [s1.heap.objs.size + 1, s1.heap.objs.size], FpOk X pins H1 b := fun b hb => by
    have e' : b = s1.heap.objs.size + 1 ∨ b = s1.heap.objs.size := by simpa using hb
    have hle : s1.heap.objs.size ≤ b := by
      rcases e' with z | z
      · rw [z]; exact Nat.le_add_right _ _
      · rw [z]; exact Nat.le_refl _
    exact I1.fpOk hle (I1.hok.fresh hle)
  cases r1 with
  | cons r rr =>
    cases rr
    cases r
    rcases q1 with ⟨hq, q⟩ | ⟨hq, q⟩
    · obtain ⟨its, rv, p', hz⟩ := I1.list hq
      refine call_enumerate_list p'.isList fun h' he hit hsz hk => wpAny_pyIter_enum he ?_
      have I2 : Inv X pins σ H1 { s1 with heap := h' } := I1.kept (t' := s1.toks) hk
      exact ⟨s1.heap.objs.size + 1, [s1.heap.objs.size + 1, s1.heap.objs.size], _, _, H1, rfl, I2, turn_enum a (s1.heap.objs.size + 1) s1.heap.objs.size, ⟨⟨.none, he⟩, hit, Nat.succ_ne_self _⟩, fp, q⟩
    · obtain ⟨its, rv, p', hz⟩ := I1.tuple hq
      refine enum_begins1 (begins_tuple a its.toArray) (show s1.heap.IsTuple a its.toArray from p') fun h' he hit hsz hk => wpAny_pyIter_enum he ?_
      have I2 : Inv X pins σ H1 { s1 with heap := h' } := I1.kept (t' := s1.toks) hk
      exact ⟨s1.heap.objs.size + 1, [s1.heap.objs.size + 1, s1.heap.objs.size], _, _, H1, rfl, I2, turn_enumT a (s1.heap.objs.size + 1) s1.heap.objs.size, ⟨⟨.none, he⟩, ⟨_, hit, rfl, rfl⟩, Nat.succ_ne_self _⟩, fp, q⟩
end G

namespace G
open PySem PySem.Spec PyProof.Rows L2
section
variable {K : PySem.W.Frag} {W : XW}
abbrev RE (K : PySem.W.Frag) : Hp → List Addr → L2.St → Env → Prop := fun F ι σ e => REnv K F ι σ e
/-- targets -/
def tGt (K : PySem.W.Frag) (W : XW) (g : DenG) : TG := fun u σ H Q => ∃ F ι env S v r, Rel K F ι S H ∧ REnv K F ι σ env ∧ RV K F ι u v ∧ g v env S = some r ∧ Post K W (RE K) F ι r Q
def tGs (K : PySem.W.Frag) (W : XW) (g : DenGs) : TGs := fun us σ H Q => ∃ F ι env S xs r, Rel K F ι S H ∧ REnv K F ι σ env ∧ RVs K F ι us xs ∧ g xs env S = some r ∧ Post K W (RE K) F ι r Q
/-- statements -/
def PostS (K : PySem.W.Frag) (W : XW) (F : Hp) (ι : List Addr) (r : R Fl) (E : Ends) : Prop :=
  match r with
  | .ok (.nx e) S' => ∀ F' ι' H' σ', Ext F ι F' ι' → Rel K F' ι' S' H' → REnv K F' ι' σ' e → E.nx σ' H'
  | .ok (.brk e) S' => ∀ F' ι' H' σ', Ext F ι F' ι' → Rel K F' ι' S' H' → REnv K F' ι' σ' e → E.bk σ' H'
  | .ok (.cnt e) S' => ∀ F' ι' H' σ', Ext F ι F' ι' → Rel K F' ι' S' H' → REnv K F' ι' σ' e → E.ct σ' H'
  | .ok (.ret v) S' => ∀ F' ι' H' u, Ext F ι F' ι' → Rel K F' ι' S' H' → RV K F' ι' u v → E.rt u H'
  | .er x S' => ∀ F' ι' H', Ext F ι F' ι' → Rel K F' ι' S' H' → W x F' ι' S' H'
theorem PostS.ext {F F1 : Hp} {ι ι1 : List Addr} {r : R Fl} {E : Ends} (h : PostS K W F ι r E) (e : Ext F ι F1 ι1) : PostS K W F1 ι1 r E := by
  cases r with
  | er x S' => exact fun F' ι' H' e' => h F' ι' H' (e.trans e')
  | ok f S' => cases f <;> exact fun F' ι' H' u e' => h F' ι' H' u (e.trans e')
def tSt (K : PySem.W.Frag) (W : XW) (f : DenS) : TS := fun E σ H => ∃ F ι env S r, Rel K F ι S H ∧ REnv K F ι σ env ∧ f env S = some r ∧ PostS K W F ι r E
/-- a value, then a statement's rest -/
theorem tG_bndS {α β : Type} {RA : Hp → List Addr → β → α → Prop} {a : Env → Store → Option (R α)} {k : α → Store → Option (R Fl)} {r : R Fl} {F H : Hp} {ι : List Addr} {S : Store} {σ : L2.St} {env : Env}
    {E : Ends} {Q' : β → Hp → Prop} (rel : Rel K F ι S H) (re : REnv K F ι σ env) (h : bnd (a env S) k = some r) (p : PostS K W F ι r E)
    (hk : ∀ F1 ι1 S1 H1 u x, Ext F ι F1 ι1 → Rel K F1 ι1 S1 H1 → REnv K F1 ι1 σ env → RA F1 ι1 u x → k x S1 = some r → PostS K W F1 ι1 r E → Q' u H1) : tG K W RA a σ H Q' := by
  cases e : a env S with
  | none => rw [e] at h; cases h
  | some q =>
    rw [e] at h
    cases q with
    | er x S1 =>
      cases h
      exact ⟨F, ι, env, S, .er x S1, rel, re, e, p⟩
    | ok x S1 => exact ⟨F, ι, env, S, .ok x S1, rel, re, e, fun F' ι' H' u e' rel' ra => hk F' ι' S1 H' u x e' rel' (re.mono e') ra h (p.ext e')⟩
/-- a target, then the rest -/
theorem tGt_bndS {g : DenG} {k : Env → Store → Option (R Fl)} {r : R Fl} {F H : Hp} {ι : List Addr} {S : Store} {σ : L2.St} {env : Env} {u : V} {v : Val}
    {E : Ends} {Q' : L2.St → Hp → Prop} (rel : Rel K F ι S H) (re : REnv K F ι σ env) (ru : RV K F ι u v) (h : bnd (g v env S) k = some r) (p : PostS K W F ι r E)
    (hk : ∀ F1 ι1 S1 H1 σ1 e1, Ext F ι F1 ι1 → Rel K F1 ι1 S1 H1 → REnv K F1 ι1 σ1 e1 → k e1 S1 = some r → PostS K W F1 ι1 r E → Q' σ1 H1) : tGt K W g u σ H Q' := by
  cases e : g v env S with
  | none => rw [e] at h; cases h
  | some q =>
    rw [e] at h
    cases q with
    | er x S1 =>
      cases h
      exact ⟨F, ι, env, S, v, .er x S1, rel, re, ru, e, p⟩
    | ok x S1 => exact ⟨F, ι, env, S, v, .ok x S1, rel, re, ru, e, fun F' ι' H' s e' rel' ra => hk F' ι' S1 H' s x e' rel' ra h (p.ext e')⟩
theorem tGt_bnd {γ δ : Type} {RC : Hp → List Addr → δ → γ → Prop} {g : DenG} {k : Env → Store → Option (R γ)} {r : R γ} {F H : Hp} {ι : List Addr} {S : Store} {σ : L2.St} {env : Env} {u : V} {v : Val}
    {Q : δ → Hp → Prop} {Q' : L2.St → Hp → Prop} (rel : Rel K F ι S H) (re : REnv K F ι σ env) (ru : RV K F ι u v) (h : bnd (g v env S) k = some r) (p : Post K W RC F ι r Q)
    (hk : ∀ F1 ι1 S1 H1 σ1 e1, Ext F ι F1 ι1 → Rel K F1 ι1 S1 H1 → REnv K F1 ι1 σ1 e1 → k e1 S1 = some r → Post K W RC F1 ι1 r Q → Q' σ1 H1) : tGt K W g u σ H Q' := by
  cases e : g v env S with
  | none => rw [e] at h; cases h
  | some q =>
    rw [e] at h
    cases q with
    | er x S1 =>
      cases h
      exact ⟨F, ι, env, S, v, .er x S1, rel, re, ru, e, p⟩
    | ok x S1 => exact ⟨F, ι, env, S, v, .ok x S1, rel, re, ru, e, fun F' ι' H' s e' rel' ra => hk F' ι' S1 H' s x e' rel' ra h (p.ext e')⟩
/-- a statement, then the rest -/
theorem tSt_bndS {a : DenS} {k : Fl → Store → Option (R Fl)} {r : R Fl} {F H : Hp} {ι : List Addr} {S : Store} {σ : L2.St} {env : Env} {E E' : Ends}
    (rel : Rel K F ι S H) (re : REnv K F ι σ env) (h : bnd (a env S) k = some r) (p : PostS K W F ι r E)
    (hk : ∀ f S1, k f S1 = some r → PostS K W F ι (.ok f S1) E') : tSt K W a E' σ H := by
  cases e : a env S with
  | none => rw [e] at h; cases h
  | some q =>
    rw [e] at h
    cases q with
    | er x S1 =>
      cases h
      exact ⟨F, ι, env, S, .er x S1, rel, re, e, p⟩
    | ok x S1 => exact ⟨F, ι, env, S, .ok x S1, rel, re, e, hk x S1 h⟩
theorem REnv.set {F : Hp} {ι : List Addr} {σ : L2.St} {env : Env} (re : REnv K F ι σ env) {u : V} {v : Val} (ru : RV K F ι u v) (i : Nat) : REnv K F ι (σ.set i (some u)) (env.set i (some v)) := by
  refine ⟨by simp [re.len], fun j x h => ?_⟩
  by_cases hj : i = j
  · subst hj
    by_cases hi : i < env.length
    · rw [List.getElem?_set_self hi] at h
      cases h
      exact ⟨u, by rw [List.getElem?_set_self (by rw [re.len]; exact hi)], ru⟩
    · rw [List.getElem?_eq_none (by simpa using hi)] at h
      cases h
  · rw [List.getElem?_set_ne hj] at h ⊢
    exact re.get j x h
end
section
variable {X : Cx} {W : XW}
/-! ### targets -/
theorem sg_name {g : Expr} {i : Nat} (h : PG X g (gName i)) : PG X g (tGt X.K W (gN i)) := ⟨fun pins s σ H v u Q I r q => by
  obtain ⟨F, ι, env, S, w, q, rel, re, rw', h', p⟩ := q
  refine h.run pins s σ H v u Q I r ?_
  unfold gN at h'
  split at h' <;> cases h'
  exact p F ι H _ (Ext.refl _ _) rel (re.set rw' i)⟩
theorem sgs_nil : PGs X [] (tGs X.K W gsN) := ⟨fun pins s σ H vs us Q I r q => by
  obtain ⟨F, ι, env, S, xs, q, rel, re, da, h', p⟩ := q
  refine pgs_nil.run pins s σ H vs us Q I r ?_
  unfold gsN at h'
  split at h' <;> cases h'
  cases da
  exact ⟨rfl, p F ι H _ (Ext.refl _ _) rel re⟩⟩
theorem sgs_cons {e : Expr} {es : List Expr} {g : DenG} {gs : DenGs} (h1 : PG X e (tGt X.K W g)) (h2 : PGs X es (tGs X.K W gs)) (hs : (assignEach (e :: es) X.env).map (·.2) = assign e X.env :: (assignEach es X.env).map (·.2)) : PGs X (e :: es) (tGs X.K W (gsC g gs)) := ⟨fun pins s σ H vs us Q I r q => by
  obtain ⟨F, ι, env, S, xs, q, rel, re, da, h', p⟩ := q
  refine (pgs_cons h1 h2 hs).run pins s σ H vs us Q I r ?_
  unfold gsC at h'
  split at h'
  · cases da with
    | cons d1 d2 =>
      refine ⟨_, _, rfl, tGt_bnd rel re d1 h' p fun F1 ι1 S1 H1 σ1 e1 x1 rel1 re1 h1 p1 => ?_⟩
      exact ⟨F1, ι1, e1, S1, _, q, rel1, re1, d2.mono x1, h1, p1⟩
  · cases h'⟩
theorem sg_tup {es : List Expr} {k : Nat} {gs : DenGs} {n : Nat} {pos : Pos} (hc : X.calm = true) (h : PGs X es (tGs X.K W gs)) (hn : (assignEach es X.env).length = n) (hst : (assignEach es X.env).findIdx? (·.1) = none) : PG X (.Tuple es k pos) (tGt X.K W (gT n gs)) := ⟨fun pins s σ H v u Q I r q => by
  obtain ⟨F, ι, env, S, w, q, rel, re, rw', h', p⟩ := q
  refine (pg_tup hc h hn hst).run pins s σ H v u Q I r ?_
  unfold gT at h'
  split at h'
  · split at h'
    · rename_i xs hl
      cases rw' with
      | d dp =>
        cases dp with
        | tup d1 d2 =>
          exact ⟨_, _, rfl, sqT_mono rel.same d1, by rw [dpAll_length d2]; exact hl, F, ι, env, S, _, q, rel, re, rvs_dats d2, h', p⟩
    · cases h'
  · split at h'
    · rename_i vs hl
      cases rw' with
      | tup h1 h2 => exact ⟨_, _, rfl, sqT_mono rel.same (.inl (.inl h1)), by rw [h2.len]; exact hl, F, ι, env, S, _, q, rel, re, h2, h', p⟩
    · cases h'
  · cases h'⟩
/-! ### plain statements -/
theorem ss_skip {st : Stmt} (h : PS X st tNext) : PS X st (tSt X.K W cSkip) := h.of fun E σ H q => by
  obtain ⟨F, ι, env, S, r, rel, re, h, p⟩ := q
  cases h
  exact p F ι H σ (Ext.refl _ _) rel re
theorem ss_brk {pos : Pos} : PS X (.Break pos) (tSt X.K W cBrk) := ps_break.of fun E σ H q => by
  obtain ⟨F, ι, env, S, r, rel, re, h, p⟩ := q
  cases h
  exact p F ι H σ (Ext.refl _ _) rel re
theorem ss_cnt {pos : Pos} : PS X (.Continue pos) (tSt X.K W cCnt) := ps_continue.of fun E σ H q => by
  obtain ⟨F, ι, env, S, r, rel, re, h, p⟩ := q
  cases h
  exact p F ι H σ (Ext.refl _ _) rel re
theorem ss_nil : PSs X [] (tSt X.K W cSkip) := pss_nil.of fun E σ H q => by
  obtain ⟨F, ι, env, S, r, rel, re, h, p⟩ := q
  cases h
  exact p F ι H σ (Ext.refl _ _) rel re
theorem ss_cons {st : Stmt} {rest : List Stmt} {a b : DenS} (h1 : PS X st (tSt X.K W a)) (h2 : PSs X rest (tSt X.K W b)) : PSs X (st :: rest) (tSt X.K W (cSeq a b)) := (pss_cons h1 h2).of fun E σ H q => by
  obtain ⟨F, ι, env, S, r, rel, re, h, p⟩ := q
  refine tSt_bndS (E := E) rel re h p fun f S1 h1 => ?_
  cases f with
  | nx e => exact fun F' ι' H' σ' x rel' re' => ⟨F', ι', e, S1, r, rel', re', h1, p.ext x⟩
  | ret v => cases h1; exact p
  | brk e => cases h1; exact p
  | cnt e => cases h1; exact p
theorem ss_expr {e : Expr} {f : Den} {pos : Pos} (h : PS X (.Expr e pos) (tDrop (tD X.K W f))) : PS X (.Expr e pos) (tSt X.K W (cExpr f)) := h.of fun E σ H q => by
  obtain ⟨F, ι, env, S, r, rel, re, h, p⟩ := q
  refine tG_bndS rel re h p fun F1 ι1 S1 H1 u x e1 rel1 re1 ru h p1 => ?_
  cases h
  exact p1 F1 ι1 H1 σ (Ext.refl _ _) rel1 re1
theorem ss_ret {e : Expr} {f : Den} {pos : Pos} (h : PE X e (tD X.K W f)) : PS X (.Return (some e) pos) (tSt X.K W (cRet f)) := (ps_ret h).of fun E σ H q => by
  obtain ⟨F, ι, env, S, r, rel, re, h, p⟩ := q
  refine tG_bndS rel re h p fun F1 ι1 S1 H1 u x e1 rel1 re1 ru h p1 => ?_
  cases h
  exact p1 F1 ι1 H1 u (Ext.refl _ _) rel1 ru
theorem ss_if {c : Expr} {a b : List Stmt} {t : DenT} {fa fb : DenS} {pos : Pos} (hc : PT X c (tT X.K W t)) (ha : PSs X a (tSt X.K W fa)) (hb : PSs X b (tSt X.K W fb)) : PS X (.If c a b pos) (tSt X.K W (cIfS t fa fb)) := (ps_if hc ha hb).of fun E σ H q => by
  obtain ⟨F, ι, env, S, r, rel, re, h, p⟩ := q
  refine tG_bndS rel re h p fun F1 ι1 S1 H1 u x e1 rel1 re1 ru h p1 => ?_
  cases ru
  cases u with
  | true => exact iteT ⟨F1, ι1, env, S1, r, rel1, re1, h, p1⟩
  | false => exact iteF ⟨F1, ι1, env, S1, r, rel1, re1, h, p1⟩
theorem ss_asg {tg e : Expr} {f : Den} {g : DenG} {pos : Pos} (he : PE X e (tD X.K W f)) (hg : PG X tg (tGt X.K W g)) (hs : swapsWithSole [tg] e pos.line X.env = pure false) (hw : swappedStores [tg] e X.env = pure none)
    (h1 : (assignEach [tg] X.env).map (·.2) = [assign tg X.env]) : PS X (.Assign [tg] e pos) (tSt X.K W (cAsg f g)) := (ps_asg he hg hs hw h1).of fun E σ H q => by
  obtain ⟨F, ι, env, S, r, rel, re, h, p⟩ := q
  refine tG_bndS rel re h p fun F1 ι1 S1 H1 u x e1 rel1 re1 ru h p1 => ?_
  refine tGt_bndS rel1 re1 ru h p1 fun F2 ι2 S2 H2 σ2 env2 e2 rel2 re2 h p2 => ?_
  cases h
  exact p2 F2 ι2 H2 σ2 (Ext.refl _ _) rel2 re2
theorem ss_set {i : Nat} {st : Stmt} {t : TE} {f : Den} (hp : PS X st (tAsg t (gName i))) (hm : ∀ σ H Q, tD X.K W f σ H Q → t σ H Q) : PS X st (tSt X.K W (cAsg f (gN i))) := hp.of fun E σ H q => by
  obtain ⟨F, ι, env, S, r, rel, re, h, p⟩ := q
  refine hm _ _ _ (tG_bndS rel re h p fun F1 ι1 S1 H1 u x e1 rel1 re1 ru h p1 => ?_)
  unfold gN at h
  split at h
  · cases h
    exact p1 F1 ι1 H1 _ (Ext.refl _ _) rel1 (re1.set ru i)
  · cases h
theorem ss_par2 {i j : Nat} {st : Stmt} {f : DenA} (hp : PS X st (tPar i j (tA X.K W f))) : PS X st (tSt X.K W (cPar [i, j] f)) := hp.of fun E σ H q => by
  obtain ⟨F, ι, env, S, r, rel, re, h, p⟩ := q
  refine tG_bndS rel re h p fun F1 ι1 S1 H1 us xs e1 rel1 re1 ru h p1 => ?_
  split at h
  · rename_i hl
    cases h
    have hl2 := hl.2
    cases ru with
    | nil => simp at hl2
    | cons r1 r2 =>
      cases r2 with
      | nil => simp at hl2
      | cons r2 r3 =>
        cases r3 with
        | cons _ _ => simp at hl2
        | nil => exact ⟨_, _, rfl, p1 F1 ι1 H1 _ (Ext.refl _ _) rel1 ((re1.set r1 i).set r2 j)⟩
  · cases h
theorem ss_par3 {i j l : Nat} {st : Stmt} {f : DenA} (hp : PS X st (tPar3 i j l (tA X.K W f))) : PS X st (tSt X.K W (cPar [i, j, l] f)) := hp.of fun E σ H q => by
  obtain ⟨F, ι, env, S, r, rel, re, h, p⟩ := q
  refine tG_bndS rel re h p fun F1 ι1 S1 H1 us xs e1 rel1 re1 ru h p1 => ?_
  split at h
  · rename_i hl
    cases h
    have hl2 := hl.2
    cases ru with
    | nil => simp at hl2
    | cons r1 r2 =>
      cases r2 with
      | nil => simp at hl2
      | cons r2 r3 =>
        cases r3 with
        | nil => simp at hl2
        | cons r3 r4 =>
          cases r4 with
          | cons _ _ => simp at hl2
          | nil => exact ⟨_, _, _, rfl, p1 F1 ι1 H1 _ (Ext.refl _ _) rel1 (((re1.set r1 i).set r2 j).set r3 l)⟩
  · cases h
/-! ### what is walked -/
def WalkOk (K : PySem.W.Frag) (F : Hp) (J : It) (xs : List D) : Prop :=
  ∃ G Y, Walk J xs.length G Y ∧ (∀ H, Same F H → G H) ∧
    ∀ i H x H', i < xs.length → Y i H x H' → Same F H → ∀ F2 ι2 S2, Same F F2 → Rel K F2 ι2 S2 H → ∃ F3 d, Same F2 F3 ∧ Rel K F3 ι2 S2 H' ∧ xs[i]? = some d ∧ Dp K F3 x d
def PostI (K : PySem.W.Frag) (W : XW) (F : Hp) (ι : List Addr) (r : R (List D)) (R' : It → Hp → Prop) : Prop :=
  match r with
  | .ok xs S' => ∀ F' ι' H' J, Ext F ι F' ι' → Rel K F' ι' S' H' → WalkOk K F' J xs → R' J H'
  | .er x S' => ∀ F' ι' H', Ext F ι F' ι' → Rel K F' ι' S' H' → W x F' ι' S' H'
theorem PostI.ext {K : PySem.W.Frag} {F F1 : Hp} {ι ι1 : List Addr} {r : R (List D)} {R' : It → Hp → Prop} (h : PostI K W F ι r R') (e : Ext F ι F1 ι1) : PostI K W F1 ι1 r R' := by
  cases r with
  | er x S' => exact fun F' ι' H' e' => h F' ι' H' (e.trans e')
  | ok f S' => exact fun F' ι' H' u e' => h F' ι' H' u (e.trans e')
def tSrc (K : PySem.W.Frag) (W : XW) (f : DenI) : TI := fun σ H R' => ∃ F ι env S r, Rel K F ι S H ∧ REnv K F ι σ env ∧ f env S = some r ∧ PostI K W F ι r R'
theorem _root_.L2.PI.of {tg e : Expr} {t t' : TI} (h : PI X tg e t) (i : ∀ σ H Q, t' σ H Q → t σ H Q) : PI X tg e t' := ⟨fun pins s σ H Q I q => h.run pins s σ H Q I (i σ H Q q)⟩
theorem tSrc_bnd {K : PySem.W.Frag} {γ : Type} {PC : Hp → List Addr → R γ → Prop} (ext : ∀ {F ι F1 ι1 r}, PC F ι r → Ext F ι F1 ι1 → PC F1 ι1 r) (er : ∀ {F ι x S'}, PC F ι (.er x S') → ∀ F' ι' H', Ext F ι F' ι' → Rel K F' ι' S' H' → W x F' ι' S' H')
    {f : DenI} {k : List D → Store → Option (R γ)} {r : R γ} {F H : Hp} {ι : List Addr} {S : Store} {σ : L2.St} {env : Env} {R' : It → Hp → Prop} (rel : Rel K F ι S H) (re : REnv K F ι σ env) (h : bnd (f env S) k = some r) (p : PC F ι r)
    (hk : ∀ F1 ι1 S1 H1 J xs, Ext F ι F1 ι1 → Rel K F1 ι1 S1 H1 → REnv K F1 ι1 σ env → WalkOk K F1 J xs → k xs S1 = some r → PC F1 ι1 r → R' J H1) : tSrc K W f σ H R' := by
  cases e : f env S with
  | none => rw [e] at h; cases h
  | some q =>
    rw [e] at h
    cases q with
    | er x S1 =>
      cases h
      exact ⟨F, ι, env, S, .er x S1, rel, re, e, er p⟩
    | ok x S1 => exact ⟨F, ι, env, S, .ok x S1, rel, re, e, fun F' ι' H' J e' rel' w => hk F' ι' S1 H' J x e' rel' (re.mono e') w h (ext p e')⟩
/-- the source of one value, then the rest of a tSrc -/
theorem tG_src {K : PySem.W.Frag} {α β : Type} {RA : Hp → List Addr → β → α → Prop} {a : Env → Store → Option (R α)} {k : α → Store → Option (R (List D))} {F H : Hp} {ι : List Addr} {S : Store} {σ : L2.St} {env : Env} {r : R (List D)} {R' : It → Hp → Prop} {Q' : β → Hp → Prop}
    (rel : Rel K F ι S H) (re : REnv K F ι σ env) (h : bnd (a env S) k = some r)
    (p : PostI K W F ι r R')
    (hk : ∀ F1 ι1 S1 H1 u x, Ext F ι F1 ι1 → Rel K F1 ι1 S1 H1 → REnv K F1 ι1 σ env → RA F1 ι1 u x → k x S1 = some r → PostI K W F1 ι1 r R' → Q' u H1) : tG K W RA a σ H Q' := by
  cases e : a env S with
  | none => rw [e] at h; cases h
  | some q =>
    rw [e] at h
    cases q with
    | er x S1 =>
      cases h
      exact ⟨F, ι, env, S, .er x S1, rel, re, e, p⟩
    | ok x S1 => exact ⟨F, ι, env, S, .ok x S1, rel, re, e, fun F' ι' H' u e' rel' ra => hk F' ι' S1 H' u x e' rel' (re.mono e') ra h (p.ext e')⟩
section
variable {K : PySem.W.Frag}
theorem walk_lst {F : Hp} {a : Addr} {vs : List V} {xs : List D} (h : SqL K F a vs) (d : DpAll K F vs xs) : WalkOk K F (Itl K a) xs := by
  have hl := dpAll_length d
  refine ⟨fun H => SqL K H a vs, YAt vs, hl ▸ walk_list, fun H s => s.seq h, fun i H x H' hi y s F2 ι2 S2 s2 rel2 => ?_⟩
  obtain ⟨rfl, hx⟩ := y
  obtain ⟨dd, hd⟩ : ∃ dd, xs[i]? = some dd := ⟨xs[i], by simp [hi]⟩
  obtain ⟨v, e1, e2⟩ := dpAll_get d hd
  rw [hx] at e1
  cases e1
  exact ⟨F2, dd, Same.refl _, rel2, hd, dp_mono s2 _ _ e2⟩
theorem walk_tp {F : Hp} {a : Addr} {vs : List V} {xs : List D} (h : SqT K F a vs) (d : DpAll K F vs xs) : WalkOk K F (Itt K a) xs := by
  have hl := dpAll_length d
  refine ⟨fun H => SqT K H a vs, YAt vs, hl ▸ walk_tup, fun H s => sqT_mono s h, fun i H x H' hi y s F2 ι2 S2 s2 rel2 => ?_⟩
  obtain ⟨rfl, hx⟩ := y
  obtain ⟨dd, hd⟩ : ∃ dd, xs[i]? = some dd := ⟨xs[i], by simp [hi]⟩
  obtain ⟨v, e1, e2⟩ := dpAll_get d hd
  rw [hx] at e1
  cases e1
  exact ⟨F2, dd, Same.refl _, rel2, hd, dp_mono s2 _ _ e2⟩
theorem walk_rg {F : Hp} (lo : Int) (n : Nat) : WalkOk K F (Itr lo n) (rangeL lo n) := by
  have hl : (rangeL lo n).length = n := by simp [rangeL]
  refine ⟨fun _ => True, YFn fun i => .int (lo + i), by rw [hl]; exact walk_range, fun H s => trivial, fun i H x H' hi y s F2 ι2 S2 s2 rel2 => ?_⟩
  obtain ⟨rfl, rfl⟩ := y
  rw [hl] at hi
  exact ⟨F2, .int (lo + i), Same.refl _, rel2, by simp [rangeL, hi], .int _⟩
/-- a new pair is laid -/
theorem pair_frz {F2 H H' : Hp} {ι2 : List Addr} {S2 : Store} {T : Addr} {x y : V} {d e : D} (rel2 : Rel K F2 ι2 S2 H) (hT : H T = none) (hH : H' = upd H T (.tup [x, y])) (dx : Dp K F2 x d) (dy : Dp K F2 y e) :
    ∃ F3, Same F2 F3 ∧ Rel K F3 ι2 S2 H' ∧ Dp K F3 (.ref T) (.tuple [d, e]) := by
  subst hH
  obtain ⟨r3, s3⟩ := rel2.frz hT (.tup [x, y])
  exact ⟨_, s3, r3, .tup (SqT.of upd_same) (.cons (dp_mono s3 _ _ dx) (.cons (dp_mono s3 _ _ dy) .nil))⟩
theorem enumL_length (xs : List D) : (enumL xs).length = xs.length := by simp [enumL]
theorem walk_enL {F : Hp} {a : Addr} {vs : List V} {xs : List D} (h : SqL K F a vs) (d : DpAll K F vs xs) : WalkOk K F (Ite K a) (enumL xs) := by
  have hl := dpAll_length d
  refine ⟨fun H => SqL K H a vs, YPair (fun i => some (.int (i : Nat))) (fun i => vs[i]?), by rw [enumL_length, ← hl]; exact walk_enum, fun H s => s.seq h, fun i H x H' hi y s F2 ι2 S2 s2 rel2 => ?_⟩
  rw [enumL_length] at hi
  obtain ⟨T, p, q, rfl, hT, hH, hp, hq⟩ := y
  cases hp
  replace hq : vs[i]? = some q := hq
  obtain ⟨dd, hd⟩ : ∃ dd, xs[i]? = some dd := ⟨xs[i], by simp [hi]⟩
  obtain ⟨v, e1, e2⟩ := dpAll_get d hd
  rw [hq] at e1
  cases e1
  obtain ⟨F3, s3, r3, dp⟩ := pair_frz rel2 hT hH (.int (i : Nat)) (dp_mono s2 _ _ e2)
  exact ⟨F3, _, s3, r3, by simp [enumL, hd], dp⟩
theorem walk_enT {F : Hp} {a : Addr} {vs : List V} {xs : List D} (h : SqT K F a vs) (d : DpAll K F vs xs) : WalkOk K F (Itet K a) (enumL xs) := by
  have hl := dpAll_length d
  have wk : Walk (Itet K a) vs.length (fun H => SqT K H a vs) (YPair (fun i => some (.int (i : Nat))) (fun i => vs[i]?)) := by
    refine ⟨fun i _ hi q => ⟨vs, vs[i], q, by simp [hi]⟩, fun _ q => ⟨vs, q, Nat.le_refl _⟩, fun i H v H' _ q y => ?_⟩
    obtain ⟨T, x, h1, h2, h3, h4⟩ := y
    exact ⟨T, .int (i : Nat), x, h1, h2, h3, rfl, h4 vs q⟩
  refine ⟨fun H => SqT K H a vs, YPair (fun i => some (.int (i : Nat))) (fun i => vs[i]?), by rw [enumL_length, ← hl]; exact wk, fun H s => sqT_mono s h, fun i H x H' hi y s F2 ι2 S2 s2 rel2 => ?_⟩
  rw [enumL_length] at hi
  obtain ⟨T, p, q, rfl, hT, hH, hp, hq⟩ := y
  cases hp
  replace hq : vs[i]? = some q := hq
  obtain ⟨dd, hd⟩ : ∃ dd, xs[i]? = some dd := ⟨xs[i], by simp [hi]⟩
  obtain ⟨v, e1, e2⟩ := dpAll_get d hd
  rw [hq] at e1
  cases e1
  obtain ⟨F3, s3, r3, dp⟩ := pair_frz rel2 hT hH (.int (i : Nat)) (dp_mono s2 _ _ e2)
  exact ⟨F3, _, s3, r3, by simp [enumL, hd], dp⟩
theorem zipL_length (xs ys : List D) : (zipL xs ys).length = min xs.length ys.length := by simp [zipL]
theorem zip_walk {F : Hp} {J : It} {G' : Hp → Prop} {vs ws : List V} {xs ys : List D} (wk : Walk J (min vs.length ws.length) G' (YPair (fun i => vs[i]?) (fun i => ws[i]?))) (hG : ∀ H, Same F H → G' H) (d : DpAll K F vs xs) (d' : DpAll K F ws ys) : WalkOk K F J (zipL xs ys) := by
  have hl := dpAll_length d
  have hl' := dpAll_length d'
  refine ⟨G', YPair (fun i => vs[i]?) (fun i => ws[i]?), by rw [zipL_length, ← hl, ← hl']; exact wk, hG, fun i H x H' hi y s F2 ι2 S2 s2 rel2 => ?_⟩
  rw [zipL_length] at hi
  obtain ⟨T, p, q, rfl, hT, hH, hp, hq⟩ := y
  replace hp : vs[i]? = some p := hp
  replace hq : ws[i]? = some q := hq
  obtain ⟨dd, hd⟩ : ∃ dd, xs[i]? = some dd := ⟨xs[i], by simp [show i < xs.length by omega]⟩
  obtain ⟨ee, he⟩ : ∃ dd, ys[i]? = some dd := ⟨ys[i], by simp [show i < ys.length by omega]⟩
  obtain ⟨v, e1, e2⟩ := dpAll_get d hd
  obtain ⟨v', e1', e2'⟩ := dpAll_get d' he
  rw [hp] at e1
  rw [hq] at e1'
  cases e1
  cases e1'
  obtain ⟨F3, s3, r3, dp⟩ := pair_frz rel2 hT hH (dp_mono s2 _ _ e2) (dp_mono s2 _ _ e2')
  exact ⟨F3, _, s3, r3, by simp [zipL, List.getElem?_zipWith, hd, he], dp⟩
theorem walk_zpL {F : Hp} {a b : Addr} {vs ws : List V} {xs ys : List D} (h : SqL K F a vs) (d : DpAll K F vs xs) (h' : SqL K F b ws) (d' : DpAll K F ws ys) : WalkOk K F (Itz K a b) (zipL xs ys) :=
  zip_walk (walk_zip rfl) (fun H s => ⟨s.seq h, s.seq h'⟩) d d'
theorem walk_zpT {F : Hp} {a b : Addr} {vs ws : List V} {xs ys : List D} (h : SqT K F a vs) (d : DpAll K F vs xs) (h' : SqT K F b ws) (d' : DpAll K F ws ys) : WalkOk K F (RZ.ItzT K a b) (zipL xs ys) := by
  have wk : Walk (RZ.ItzT K a b) (min vs.length ws.length) (fun H => SqT K H a vs ∧ SqT K H b ws) (YPair (fun i => vs[i]?) (fun i => ws[i]?)) := by
    refine ⟨fun i _ hi q => ?_, fun _ q => ⟨vs, ws, q.1, q.2, by omega⟩, fun i H v H' _ q y => ?_⟩
    · have h1 : i < vs.length := by omega
      have h2 : i < ws.length := by omega
      exact ⟨vs, ws, vs[i], ws[i], q.1, q.2, by simp [h1], by simp [h2]⟩
    · obtain ⟨T, x, z, h1, h2, h3, h4, h5⟩ := y
      exact ⟨T, x, z, h1, h2, h3, h4 vs q.1, h5 ws q.2⟩
  exact zip_walk wk (fun H s => ⟨sqT_mono s h, sqT_mono s h'⟩) d d'
end
/-- a list or a tuple -/
def iSq (K : PySem.W.Frag) (tl : TE) : TI := fun σ H R' => tl σ H fun x H1 => ∃ a xs, x = .ref a ∧ ((SqL K H1 a xs ∧ R' (Itl K a) H1) ∨ (SqT K H1 a xs ∧ R' (Itt K a) H1))
theorem pi_sq {tg l : Expr} {tl : TE} (hl : PE X l tl) : PI X tg l (iSq X.K tl) := by
  refine ⟨fun pins s σ H R' I h => ?_⟩
  refine thn (hl.run pins s σ H _ I h) fun v s1 ⟨x, H1, I1, r1, q1⟩ => ?_
  obtain ⟨a, xs, e, q1⟩ := q1
  subst e
  cases r1
  have fp : ∀ b ∈ [s1.heap.objs.size], FpOk X pins H1 b := fun b hb => by
    have e : b = s1.heap.objs.size := by simpa using hb
    subst e
    exact I1.fpOk (Nat.le_refl _) (I1.hok.fresh (Nat.le_refl _))
  rcases q1 with ⟨hq, q⟩ | ⟨hq, q⟩
  · obtain ⟨its, rv, p, hz⟩ := I1.list hq
    refine wpAny_pyIter_list p.isList ?_
    exact ⟨s1.heap.objs.size, [s1.heap.objs.size], _, _, H1, rfl, I1.kept (t' := s1.toks) fun b o e => Heap.get?_push_of_some _ e, turn_list a _, ⟨_, Heap.get?_push_size _ rfl, rfl, rfl⟩, fp, q⟩
  · obtain ⟨its, rv, p, hz⟩ := I1.tuple hq
    refine wpAny_pyIter_tuple (show s1.heap.IsTuple a its.toArray from p) ?_
    exact ⟨s1.heap.objs.size, [s1.heap.objs.size], _, _, H1, rfl, I1.kept (t' := s1.toks) fun b o e => Heap.get?_push_of_some _ e, turn_tuple a _, ⟨_, Heap.get?_push_size _ rfl, rfl, rfl⟩, fp, q⟩
theorem datOf_some {v : Val} {x : D} (h : datOf v = some x) : v = .d x := by
  cases v <;> cases h
  rfl
theorem si_seq {tg l : Expr} {f : Den} (h : PE X l (tD X.K W f)) : PI X tg l (tSrc X.K W (iSeq f)) := (pi_sq h).of fun σ H R' q => by
  obtain ⟨F, ι, env, S, r, rel, re, h, p⟩ := q
  refine tG_src rel re h p fun F1 ι1 S1 H1 u v e1 rel1 re1 ru h p1 => ?_
  cases hv : datOf v with
  | none => simp [hv] at h
  | some x =>
    cases datOf_some hv
    cases hs : seqOf x with
    | none => simp [hs] at h
    | some xs =>
      simp only [datOf_d, hs, Option.bind_some, givL_some, Option.some.injEq] at h
      subst h
      cases ru with
      | d dp =>
        cases x <;> cases hs
        · cases dp with
          | lst d1 d2 => exact ⟨_, _, rfl, .inl ⟨rel1.same.seq d1, p1 F1 ι1 H1 _ (Ext.refl _ _) rel1 (walk_lst d1 d2)⟩⟩
        · cases dp with
          | tup d1 d2 => exact ⟨_, _, rfl, .inr ⟨sqT_mono rel1.same d1, p1 F1 ι1 H1 _ (Ext.refl _ _) rel1 (walk_tp d1 d2)⟩⟩
theorem si_rng1 {tg e : Expr} {f : Den} {p pos : Pos} (hg : Gl X "range") (hm : X.mg "range" = none) (hs : noStar e = true) (h : PE X e (tD X.K W f)) : PI X tg (.Call (.Name "range" p) [e] [] pos) (tSrc X.K W (iRng1 f)) :=
  (pi_range1 hg hm (pa_cons h pa_nil (noStar_each hs)) (noStar_each hs)).of fun σ H R' q => by
    obtain ⟨F, ι, env, S, r, rel, re, h, p⟩ := q
    refine tG_src rel re h p fun F1 ι1 S1 H1 u v e1 rel1 re1 ru h p1 => ?_
    cases hv : datOf v with
    | none => simp [hv] at h
    | some x =>
      cases datOf_some hv
      cases hs : rng1 x with
      | none => simp [hs] at h
      | some xs =>
        simp only [datOf_d, hs, Option.bind_some, givL_some, Option.some.injEq] at h
        subst h
        cases ru with
        | d dp =>
          cases x <;> simp only [rng1] at hs <;> try cases hs
          split at hs <;> cases hs
          rename_i i ho
          cases dp
          exact ⟨i, rfl, ho.1, ho.2, p1 F1 ι1 H1 _ (Ext.refl _ _) rel1 (walk_rg 0 _)⟩
theorem si_rng2 {tg e e' : Expr} {f f' : Den} {p pos : Pos} (hg : Gl X "range") (hm : X.mg "range" = none) (hs : noStar e = true) (hs' : noStar e' = true) (h : PE X e (tD X.K W f)) (h' : PE X e' (tD X.K W f')) :
    PI X tg (.Call (.Name "range" p) [e, e'] [] pos) (tSrc X.K W (iRng2 f f')) :=
  (pi_range2 hg hm (pa_cons h (pa_cons h' pa_nil (noStar_each hs')) (noStar_each hs)) (by rw [noStar_each hs, noStar_each hs']; rfl) (noStar_each hs')).of fun σ H R' q => by
    obtain ⟨F, ι, env, S, r, rel, re, h, p⟩ := q
    refine tG_src rel re h p fun F1 ι1 S1 H1 u v e1 rel1 re1 ru h p1 => ?_
    refine tG_src rel1 re1 h p1 fun F2 ι2 S2 H2 u' v' e2 rel2 re2 ru' h p2 => ?_
    cases hv : datOf v with
    | none => simp [hv] at h
    | some x =>
      cases hv' : datOf v' with
      | none => simp [hv, hv'] at h
      | some y =>
        cases datOf_some hv
        cases datOf_some hv'
        cases hs : rng2 x y with
        | none => simp [hs] at h
        | some xs =>
          simp only [datOf_d, hs, Option.bind_some, givL_some, Option.some.injEq] at h
          subst h
          obtain ⟨i, j, rfl, rfl, ho, rfl⟩ : ∃ i j, x = .int i ∧ y = .int j ∧ (okR i ∧ okR j) ∧ xs = rangeL i (j - i).toNat := by
            unfold rng2 at hs
            split at hs
            · rename_i i j
              split at hs <;> cases hs
              exact ⟨i, j, rfl, rfl, ‹okR i ∧ okR j›, rfl⟩
            · cases hs
          cases ru with
          | d dp =>
            cases ru' with
            | d dp' =>
              cases dp
              cases dp'
              exact ⟨i, j, rfl, ⟨ho.1.1, ho.1.2, ho.2.1, ho.2.2⟩, p2 F2 ι2 H2 _ (Ext.refl _ _) rel2 (walk_rg i _)⟩
theorem si_enm {e : Expr} {elts : List Expr} {kk : Nat} {tpos p pos : Pos} {f : Den} (hg : Gl X "enumerate") (hm : X.mg "enumerate" = none) (hs : noStar e = true) (h : PE X e (tD X.K W f)) :
    PI X (.Tuple elts kk tpos) (.Call (.Name "enumerate" p) [e] [] pos) (tSrc X.K W (iEnm f)) :=
  (pi_enumA hg hm (pa_cons h pa_nil (noStar_each hs)) (noStar_each hs)).of fun σ H R' q => by
    obtain ⟨F, ι, env, S, r, rel, re, h, p⟩ := q
    refine tG_src rel re h p fun F1 ι1 S1 H1 u v e1 rel1 re1 ru h p1 => ?_
    cases hv : datOf v with
    | none => simp [hv] at h
    | some x =>
      cases datOf_some hv
      cases hs : enm x with
      | none => simp [hs] at h
      | some xs =>
        simp only [datOf_d, hs, Option.bind_some, givL_some, Option.some.injEq] at h
        subst h
        cases ru with
        | d dp =>
          cases x <;> cases hs
          · cases dp with
            | lst d1 d2 => exact ⟨_, _, rfl, .inl ⟨rel1.same.seq d1, p1 F1 ι1 H1 _ (Ext.refl _ _) rel1 (walk_enL d1 d2)⟩⟩
          · cases dp with
            | tup d1 d2 => exact ⟨_, _, rfl, .inr ⟨sqT_mono rel1.same d1, p1 F1 ι1 H1 _ (Ext.refl _ _) rel1 (walk_enT d1 d2)⟩⟩
theorem si_zp {e e' : Expr} {elts : List Expr} {kk : Nat} {tpos p pos : Pos} {f f' : Den} (hg : Gl X "zip") (hm : X.mg "zip" = none) (hs : noStar e = true) (hs' : noStar e' = true) (h : PE X e (tD X.K W f)) (h' : PE X e' (tD X.K W f')) :
    PI X (.Tuple elts kk tpos) (.Call (.Name "zip" p) [e, e'] [] pos) (tSrc X.K W (iZp f f')) :=
  (RZ.pi_zipA hg hm (pa_cons h (pa_cons h' pa_nil (noStar_each hs')) (noStar_each hs)) (noStar_each hs) (noStar_any pos X.env (by simp [hs']))).of fun σ H R' q => by
    obtain ⟨F, ι, env, S, r, rel, re, h, p⟩ := q
    refine tG_src rel re h p fun F1 ι1 S1 H1 u v e1 rel1 re1 ru h p1 => ?_
    refine tG_src rel1 re1 h p1 fun F2 ι2 S2 H2 u' v' e2 rel2 re2 ru' h p2 => ?_
    cases hv : datOf v with
    | none => simp [hv] at h
    | some x =>
      cases hv' : datOf v' with
      | none => simp [hv, hv'] at h
      | some y =>
        cases datOf_some hv
        cases datOf_some hv'
        cases hs : zp x y with
        | none => simp [hs] at h
        | some xs =>
          simp only [datOf_d, hs, Option.bind_some, givL_some, Option.some.injEq] at h
          subst h
          have ru := ru.mono e2
          cases ru with
          | d dp =>
            cases ru' with
            | d dp' =>
              cases x <;> cases y <;> cases hs
              · cases dp with
                | lst d1 d2 =>
                  cases dp' with
                  | lst d1' d2' => exact ⟨_, _, _, _, rfl, .inl ⟨rel2.same.seq d1, rel2.same.seq d1', p2 F2 ι2 H2 _ (Ext.refl _ _) rel2 (walk_zpL d1 d2 d1' d2')⟩⟩
              · cases dp with
                | tup d1 d2 =>
                  cases dp' with
                  | tup d1' d2' => exact ⟨_, _, _, _, rfl, .inr ⟨sqT_mono rel2.same d1, sqT_mono rel2.same d1', p2 F2 ι2 H2 _ (Ext.refl _ _) rel2 (walk_zpT d1 d2 d1' d2')⟩⟩
/-! ### for -/
theorem ss_for {tg iter : Expr} {body : List Stmt} {src : DenI} {g : DenG} {b : DenS} {pos : Pos} (hp : PassesOwn (model X.prog X.w) X.A X.env X.xe) (hc : X.calm = true) (hi : PI X tg iter (tSrc X.K W src)) (hg : PG X tg (tGt X.K W g)) (hb : PSs X body (tSt X.K W b))
    (hs : ∀ x, foldedSetIterable iter X.env x = pure x) : PS X (.For tg iter body [] pos) (tSt X.K W (cFor src g b)) := (ps_for hp hc hi hg hb hs).of fun E σ H q => by
  obtain ⟨F, ι, env, S, r, rel, re, h, p⟩ := q
  refine tSrc_bnd (PC := fun F ι r => PostS X.K W F ι r E) (fun h e => h.ext e) (fun h => h) rel re h p fun F1 ι1 S1 H1 J xs e1 rel1 re1 wk h p1 => ?_
  obtain ⟨G, Y, wk, hG, hY⟩ := wk
  refine for_it wk (fun i σ H => ∃ F2 ι2 S2 env2, Ext F1 ι1 F2 ι2 ∧ Rel X.K F2 ι2 S2 H ∧ REnv X.K F2 ι2 σ env2 ∧ forL g b (xs.drop i) env2 S2 = some r) ⟨F1, ι1, S1, env, Ext.refl _ _, rel1, re1, by simpa using h⟩ ?_ ?_ ?_
  · rintro i σ2 H2 _ ⟨F2, ι2, S2, env2, x2, rel2, re2, h2⟩
    exact hG H2 (x2.same.trans rel2.same)
  · rintro i x σ2 H2 H2' hi ⟨F2, ι2, S2, env2, x2, rel2, re2, h2⟩ y
    obtain ⟨F3, d, s3, rel3, hd, dp⟩ := hY i H2 x H2' hi y (x2.same.trans rel2.same) F2 ι2 S2 x2.same rel2
    have hdr : xs.drop i = d :: xs.drop (i + 1) := by
      obtain ⟨hlt, e⟩ := List.getElem?_eq_some_iff.mp hd
      rw [List.drop_eq_getElem_cons hlt, e]
    rw [hdr] at h2
    have x3 : Ext F1 ι1 F3 ι2 := ⟨x2.same.trans s3, x2.pre⟩
    refine tGt_bndS rel3 (re2.mono ⟨s3, List.prefix_refl _⟩) (.d dp) h2 (p1.ext x3) fun F4 ι4 S4 H4 σ4 env4 x4 rel4 re4 h4 p4 => ?_
    refine tSt_bndS rel4 re4 h4 p4 fun f S5 h5 => ?_
    cases f with
    | nx e => exact fun F6 ι6 H6 σ6 x6 rel6 re6 => ⟨F6, ι6, S5, e, (x3.trans x4).trans x6, rel6, re6, h5⟩
    | cnt e => exact fun F6 ι6 H6 σ6 x6 rel6 re6 => ⟨F6, ι6, S5, e, (x3.trans x4).trans x6, rel6, re6, h5⟩
    | brk e => cases h5; exact p4
    | ret v => cases h5; exact p4
  · rintro σ2 H2 ⟨F2, ι2, S2, env2, x2, rel2, re2, h2⟩
    rw [List.drop_length] at h2
    cases h2
    exact p1 F2 ι2 H2 σ2 x2 rel2 re2
/-! ### while -/
theorem whileN_mono {c : DenT} {b : DenS} : ∀ {n env S r}, whileN c b n env S = some r → whileN c b (n + 1) env S = some r
  | 0, _, _, _, h => nomatch h
  | n + 1, env, S, r, h => by
    unfold whileN at h ⊢
    cases e : c env S with
    | none => rw [e] at h; cases h
    | some q =>
      rw [e] at h
      cases q with
      | er x S1 => exact h
      | ok k S1 =>
        cases k with
        | false => exact h
        | true =>
          simp only [bnd_ok, if_true] at h ⊢
          cases e2 : b env S1 with
          | none => rw [e2] at h; cases h
          | some q =>
            rw [e2] at h
            cases q with
            | er x S2 => exact h
            | ok f S2 =>
              cases f with
              | nx e => exact whileN_mono (n := n) h
              | cnt e => exact whileN_mono (n := n) h
              | brk e => exact h
              | ret v => exact h
theorem whileN_le {c : DenT} {b : DenS} {n m : Nat} {env : Env} {S : Store} {r : R Fl} (h : whileN c b n env S = some r) (hl : n ≤ m) : whileN c b m env S = some r := by
  induction m with
  | zero =>
    have : n = 0 := by omega
    subst this
    exact h
  | succ m ih =>
    by_cases e : n = m + 1
    · subst e; exact h
    · exact whileN_mono (ih (by omega))
theorem cWhile_some {c : DenT} {b : DenS} {env : Env} {S : Store} {r : R Fl} (h : cWhile c b env S = some r) : ∃ n, whileN c b n env S = some r := by
  unfold cWhile at h
  split at h
  · rename_i hh
    cases h
    exact ⟨_, Classical.choose_spec (Classical.choose_spec hh)⟩
  · cases h
theorem cWhile_of {c : DenT} {b : DenS} {n : Nat} {env : Env} {S : Store} {r : R Fl} (h : whileN c b n env S = some r) : cWhile c b env S = some r := by
  have hh : ∃ n r, whileN c b n env S = some r := ⟨n, r, h⟩
  unfold cWhile
  rw [dif_pos hh]
  have q := Classical.choose_spec (Classical.choose_spec hh)
  have h1 := whileN_le h (Nat.le_max_left n (Classical.choose hh))
  have h2 := whileN_le q (Nat.le_max_right n (Classical.choose hh))
  rw [h1] at h2
  exact congrArg some (Option.some.inj h2).symm
theorem ss_while {c : Expr} {body : List Stmt} {t : DenT} {b : DenS} {pos : Pos} (hp : PassesOwn (model X.prog X.w) X.A X.env X.xe) (hc : PT X c (tT X.K W t)) (hb : PSs X body (tSt X.K W b)) : PS X (.While c body [] pos) (tSt X.K W (cWhile t b)) := (ps_while hp hc hb).of fun E σ H q => by
  obtain ⟨F, ι, env, S, r, rel, re, h, p⟩ := q
  obtain ⟨n, h⟩ := cWhile_some h
  refine ⟨fun m σ H => ∃ F2 ι2 S2 env2, Ext F ι F2 ι2 ∧ Rel X.K F2 ι2 S2 H ∧ REnv X.K F2 ι2 σ env2 ∧ whileN t b m env2 S2 = some r, ⟨n, F, ι, S, env, Ext.refl _ _, rel, re, h⟩, ?_⟩
  rintro m σ2 H2 ⟨F2, ι2, S2, env2, x2, rel2, re2, h2⟩
  cases m with
  | zero => cases h2
  | succ m =>
    refine tG_bndS rel2 re2 h2 (p.ext x2) fun F3 ι3 S3 H3 u k x3 rel3 re3 ru h3 p3 => ?_
    cases ru
    cases u with
    | false =>
      cases h3
      exact iteF (p3 F3 ι3 H3 σ2 (Ext.refl _ _) rel3 re3)
    | true =>
      refine iteT ⟨fun σ H => ∃ F4 ι4 S4 env4, Ext F ι F4 ι4 ∧ Rel X.K F4 ι4 S4 H ∧ REnv X.K F4 ι4 σ env4 ∧ whileN t b m env4 S4 = some r, fun σ' H' q => ⟨m, Nat.lt_succ_self _, q⟩, ?_⟩
      refine tSt_bndS rel3 re3 h3 p3 fun f S5 h5 => ?_
      cases f with
      | nx e => exact fun F6 ι6 H6 σ6 x6 rel6 re6 => ⟨F6, ι6, S5, e, (x2.trans x3).trans x6, rel6, re6, h5⟩
      | cnt e => exact fun F6 ι6 H6 σ6 x6 rel6 re6 => ⟨F6, ι6, S5, e, (x2.trans x3).trans x6, rel6, re6, h5⟩
      | brk e => cases h5; exact p3
      | ret v => cases h5; exact p3
end
end G

/-! texts: join, split. -/
namespace G
open PySem PySem.Spec PyProof.Rows L2
inductive Op1 where
  | join (s : Str)
  | split (s : Str)
def joinL' (s : Str) (xs : List D) : Option D := match strsOf xs with
  | some zs => if (zs.map (·.length)).sum + zs.length * s.length ≤ 16777216 then some (.str (Txt.join s zs)) else none
  | none => none
def joinD (s : Str) : D → Option D
  | .list xs => joinL' s xs
  | .tuple xs => joinL' s xs
  | _ => none
def splitD (s : Str) : D → Option D
  | .str a => if (s.length == 0) = false ∧ a.length + 2 ≤ sizeLine then some (.list ((Txt.split a s).map .str)) else none
  | _ => none
def op1D : Op1 → D → Option D
  | .join s => joinD s
  | .split s => splitD s
section
variable {K : PySem.W.Frag} {X : Cx} {W : XW}
theorem strs_dpAll {F : Hp} : ∀ zs : List Str, DpAll K F (zs.map V.str) (zs.map .str)
  | [] => .nil
  | z :: zs => .cons (.str _) (strs_dpAll zs)
theorem joinL_some {s : Str} {xs : List D} {z : D} (h : joinL' s xs = some z) : ∃ zs : List Str, xs = zs.map .str ∧ (zs.map (·.length)).sum + zs.length * s.length ≤ 16777216 ∧ z = .str (Txt.join s zs) := by
  unfold joinL' at h
  cases e : strsOf xs with
  | none => rw [e] at h; cases h
  | some zs =>
    rw [e] at h
    simp only at h
    split at h <;> cases h
    exact ⟨zs, strsOf_eq e, by assumption, rfl⟩
theorem imp1_join (s : Str) : Imp1 K (joinD s) (fun y H Q => ∃ a p, ∃ ys : List Str, V.str s = .str a ∧ [y] = [.ref p] ∧ (SqL K H p (ys.map V.str) ∨ SqT K H p (ys.map V.str)) ∧ (ys.map (·.length)).sum + ys.length * a.length ≤ 16777216 ∧ Q (.str (Txt.join a ys)) H) := by
  intro F ι S H u x z Q rel hx hz q
  cases x with
  | list xs =>
    obtain ⟨zs, rfl, hl, rfl⟩ := joinL_some hz
    obtain ⟨a, vs, rfl, ha, da⟩ := hx.list rel.same
    rw [dpAll_strs da] at ha
    exact ⟨s, a, zs, rfl, rfl, .inl ha, hl, q F H _ (Same.refl _) rel (.str _)⟩
  | tuple xs =>
    obtain ⟨zs, rfl, hl, rfl⟩ := joinL_some hz
    obtain ⟨a, vs, rfl, ha, da⟩ := hx.tuple rel.same
    rw [dpAll_strs da] at ha
    exact ⟨s, a, zs, rfl, rfl, .inr ha, hl, q F H _ (Same.refl _) rel (.str _)⟩
  | _ => cases hz
theorem imp1_split (s : Str) : Imp1 K (splitD s) (fun y H Q => (∃ a, y = .str a) ∧ ∃ a b, y = .str a ∧ [V.str s] = [.str b] ∧ (b.length == 0) = false ∧ a.length + 2 ≤ sizeLine ∧ rNewStrs (Txt.split a b) H Q) := by
  intro F ι S H u x z Q rel hx hz q
  cases x with
  | str a =>
    simp only [splitD] at hz
    split at hz <;> cases hz
    rename_i hl
    cases hx.str
    exact ⟨⟨a, rfl⟩, a, s, rfl, rfl, hl.1, hl.2, q_lst rel q (strs_dpAll _)⟩
  | _ => cases hz
theorem se_join {s : Str} {j : Nat} {p : Pos} {e : Expr} {apos cpos : Pos} {f : Den} (he : PE X e (tD X.K W f)) (hl : (apos.endLine == cpos.line) = true) (hs : noStar e = true) :
    PE X (.Call (.Attribute (.Constant (.str s) j p) "join" apos) [e] [] cpos) (tD X.K W (cOp1 (joinD s) f)) :=
  (pe_join pe_str he (by rw [noStar_each hs]; rfl) (noCall0_base rfl) hl).of fun σ H Q q => ⟨⟨s, rfl⟩, op1_imp (imp1_join s) q⟩
theorem se_split {s : Str} {j : Nat} {p : Pos} {o : Expr} {apos cpos : Pos} {f : Den} (ho : PE X o (tD X.K W f)) (hb : noCall0 o = true) (hl : (apos.endLine == cpos.line) = true) :
    PE X (.Call (.Attribute o "split" apos) [.Constant (.str s) j p] [] cpos) (tD X.K W (cOp1 (splitD s) f)) :=
  (pe_split ho pe_str rfl (noCall0_base hb) hl).of fun σ H Q q => op1_imp (imp1_split s) q
end
end G

/-! t[::-1] of a tuple; the keys of a dict, sorted. -/
namespace G
open PySem PySem.Spec PyProof.Rows L2
section
variable {prog : Program} {w : World} {A : Around} {E : Value → Shared → Prop} {s : Shared}
theorem rev_adjust (n : Nat) : Builtin.Slice.sliceAdjust none none (-1) (n : Int) = ((n : Int) - 1, -1) := by
  unfold Builtin.Slice.sliceAdjust
  simp
theorem rev_places (n : Nat) : Builtin.Slice.slicePlaces ((n : Int) - 1) (-1) (-1) = n := by
  unfold Builtin.Slice.slicePlaces
  simp
  split <;> omega
theorem rev_applied {sl : Addr} {vs : Value} {n : Nat} {Q : Int × Int × Nat → Shared → Prop} (hs : s.heap.IsSliceOf sl .none .none vs) (ps : IsPart vs (some (-1))) (h : Q ((n : Int) - 1, -1, n) s) : wpAny (model prog w) A (Builtin.Slice.sliceApplied (.ref sl) (pure (n : Int))) Q E s := by
  obtain ⟨os, hos, hcs, hds⟩ := id hs
  unfold Builtin.Slice.sliceApplied Builtin.Slice.sliceFields
  refine wpAny_bind (wpAny_bind (wpAny_field hos hds (x := .none) rfl (wpAny_bind (wpAny_field hos hds (x := .none) rfl (wpAny_bind (wpAny_field hos hds (x := vs) rfl (wpAny_pure ?_)))))))
  refine wpAny_bind (HT.slicePart_ ps ?_)
  show wpAny _ _ (if ((-1 : Int) == 0) = true then _ else _) _ _ s
  rw [if_neg (by decide)]
  refine wpAny_bind (HT.slicePart_ .none (wpAny_bind (HT.slicePart_ .none (wpAny_bind (wpAny_pure ?_)))))
  show wpAny _ _ (match Builtin.Slice.sliceAdjust none none (-1) (n : Int) with | (lo, hi) => pure (lo, (-1 : Int), Builtin.Slice.slicePlaces lo hi (-1))) _ _ s
  rw [rev_adjust]
  show wpAny _ _ (pure ((n : Int) - 1, (-1 : Int), Builtin.Slice.slicePlaces ((n : Int) - 1) (-1) (-1))) _ _ s
  rw [rev_places]
  exact wpAny_pure h
theorem rev_pick (xs : Array Value) : ((List.range xs.size).filterMap fun (m : Nat) => xs[(((xs.size : Int) - 1) + (m : Int) * (-1)).toNat]?).toArray = xs.toList.reverse.toArray := by
  have e : ((List.range xs.size).filterMap fun (m : Nat) => xs[(((xs.size : Int) - 1) + (m : Int) * (-1)).toNat]?) = ((List.range xs.size).map fun k => xs.size - 1 - k).filterMap (xs[·]?) := by
    rw [List.filterMap_map]
    congr 1
    funext m
    have : (((xs.size : Int) - 1) + (m : Int) * (-1)).toNat = xs.size - 1 - m := by omega
    rw [this]
    rfl
  rw [e, PySem.W.krv_range, List.filterMap_reverse, PySem.W.krv_all]
theorem getItem_tuple_rev {t sl : Addr} {items : Array Value} {vs : Value} {Q : Value → Shared → Prop} (ht : IsTup s.heap t items) (hs : s.heap.IsSliceOf sl .none .none vs) (ps : IsPart vs (some (-1)))
    (h : Q (.ref s.heap.objs.size) { s with heap := s.heap.push { cls := .type "tuple", data := .seq items.toList.reverse.toArray } })
    (hsz : items.size ≤ sizeLine) : wpAny (model prog w) A (getItem (.ref t) (.ref sl)) Q E s := by
  have htake : sizeOk (.seq items.toList.reverse.toArray) := by
    show items.toList.reverse.toArray.size ≤ sizeLine
    rw [List.size_toArray, List.length_reverse, Array.length_toList]
    exact hsz
  obtain ⟨os, hos, hcs, hds⟩ := id hs
  have hTs : s.TypeIs (.ref sl) "slice" := ⟨os, hos, hcs⟩
  unfold getItem
  try with_reducible refine wpAny_holding ?_
  first | refine wpAny_bind (wpAny_pure ?_) | skip
  refine wpAny_bind (wpAny_sequenceKey ht.typeIs (by decide) ?_)
  refine wpAny_bind (wpAny_callSpecial?_slot (name := Str.ofString "__getitem__") ht.typeIs PyProof.Rows.slot_tuple_getitem
    (wpAny_call_entry PyProof.Rows.slot_tuple_getitem ht.typeIs entry_tuple_getitem ?_ (args_tuple_getitem _ _)))
  show wpAny _ _ (Builtin.Tuple.tupleItemsOf (.ref t) >>= _) _ _ s
  refine wpAny_bind (tupleItemsOf_ ht ?_)
  refine wpAny_bind (wpAny_typeOf hTs ?_)
  rw [if_pos (by decide)]
  refine wpAny_bind (rev_applied hs ps ?_)
  have hno : ¬ (((items.size : Int) - 1 == 0 && (-1 : Int) == 1 && items.size == items.size) = true) := by simp
  show wpAny _ _ (if ((items.size : Int) - 1 == 0 && (-1 : Int) == 1 && items.size == items.size) = true then _ else _) _ _ s
  rw [if_neg hno, rev_pick]
  first
    | exact wpAny_bind (m := Builtin.Tuple.tupleExact _) (wpAny_newObj_type (wpAny_pure ⟨_, rfl, wpAny_pure h⟩) htake)
    | exact wpAny_bind (m := Builtin.Tuple.tupleExact _) (wpAny_newObj_type (wpAny_bind (wpAny_pure (wpAny_pure ⟨_, rfl, wpAny_pure h⟩))) htake)
    | exact wpAny_bind (wpAny_bind (m := Builtin.Tuple.tupleExact _) (wpAny_newObj_type (wpAny_pure (wpAny_pure ⟨_, rfl, wpAny_pure h⟩)) htake))
    | exact wpAny_bind (wpAny_bind (m := Builtin.Tuple.tupleExact _) (wpAny_newObj_type (wpAny_pure ⟨_, rfl, wpAny_pure h⟩) htake))
end
section
variable {K : PySem.W.Frag} {X : Cx} {W : XW}
def tRevT (K : PySem.W.Frag) (te : TE) : TE := fun σ H Q => te σ H fun x H1 => ∃ a xs, x = .ref a ∧ SqT K H1 a xs ∧ ∀ p, H1 p = none → Q (.ref p) (upd H1 p (.tup xs.reverse))
theorem pe_revT {e : Expr} {te : TE} {k : Nat} {p1 p2 p3 pos : Pos} (he : PE X e te) : PE X (.Subscript e (.Slice none none (some (.UnaryOp .USub (.Constant (.int 1) k p1) p2)) p3) pos) (tRevT X.K te) := by
  refine ⟨fun pins s σ H Q I h => ?_⟩
  refine Subscript_ (thn (he.run pins s σ H _ I h) fun v s1 ⟨x, H1, I1, r1, q1⟩ => ?_)
  obtain ⟨a, xs, ex, hx, q⟩ := q1
  subst ex
  cases r1
  have hst : PO X (some (.UnaryOp .USub (.Constant (.int 1) k p1) p2)) (tPart (tUn (rU fun i => .int (-i)) (tC (.int 1)))) := po_some (pe_un un_neg pe_int)
  refine wpAny_Slice (thn (po_none.run pins s1 σ H1 (fun o H2 => o = none ∧ H2 = H1) I1 ⟨rfl, rfl⟩) fun vl s2 ⟨l, H2, I2, pl, el, e2⟩ => ?_)
  subst el e2
  refine thn (po_none.run pins s2 σ H2 (fun o H3 => o = none ∧ H3 = H2) I2 ⟨rfl, rfl⟩) fun vu s3 ⟨u, H3, I3, pu, eu, e3⟩ => ?_
  subst eu e3
  refine thn (hst.run pins s3 σ H3 (fun o H4 => o = some (-1) ∧ H4 = H3) I3 ⟨1, rfl, -1, rfl, rfl, rfl⟩) fun vs s4 ⟨o, H4, I4, ps, eo, e4⟩ => ?_
  subst eo e4
  cases pl
  cases pu
  have I5 : Inv X pins σ H4 { s4 with heap := s4.heap.push { cls := .type "slice", data := .fields #[.none, .none, vs] } } := I4.kept (t' := s4.toks) fun b ob q => Heap.get?_push_of_some _ q
  obtain ⟨its, r, ht, hz⟩ := I5.tuple hx
  have hlen := r.length
  show wpAny (model X.prog X.w) X.A (subscriptTail e (.Slice none none (some (.UnaryOp .USub (.Constant (.int 1) k p1) p2)) p3) (.ref a) (.ref s4.heap.objs.size)) (EP X pins σ Q) X.xe { s4 with heap := s4.heap.push { cls := .type "slice", data := .fields #[.none, .none, vs] } }
  refine tail_any (ops := [.ref a, .ref s4.heap.objs.size]) ht.typeIs PyProof.Rows.slot_tuple_getitem.lookup ?_ (by with_unfolding_all rfl)
  refine getItem_tuple_rev ht (Heap.IsSliceOf.new _ .none .none vs) ps ?_ (by rw [List.size_toArray]; omega)
  refine ⟨.ref _, _, I5.laid (t' := s4.toks) (o := .tup xs.reverse) (fun b ob q => Heap.get?_push_of_some _ q) (Nat.le_refl _) ?_, rfl, q _ (I5.hok.fresh (Nat.le_refl _))⟩
  exact ⟨by rw [List.length_reverse]; exact hz, _, r.reverse, IsTup.new _ _⟩
theorem call_sortedDA (hcalm : X.calm = true) : CallR X (.builtin "sorted") (fun xs H Q => ∃ (a : Addr) (kvs : List (Key × V)) (ks : List Str), xs = [.ref a] ∧ Rd H a (.dK kvs) ∧ kvs.map (·.1) = ks.map Sum.inr ∧ ks.length ≤ sizeLine ∧
    ∀ ys p, ys.Perm ks → sortedS ys = true → H p = none → Q (.ref p) (upd H p (.lst (ys.map V.str)))) := by
  intro pins s σ H xs us Q I r q
  obtain ⟨a, kvs, ks, ex, hd, hks, hsz, q⟩ := q
  subst ex
  obtain ⟨u, eu, rx⟩ := vals1 r
  subst eu
  cases rx
  obtain ⟨z, lo, vs, rel, dd⟩ := dk_rd I.hok hd
  obtain ⟨ep, hat⟩ := dd.dictAt
  have hkeys : vs.map (·.1) = ks.map Sum.inr := rel.keys.symm.trans hks
  have hl : vs.length = ks.length := by
    have e := congrArg List.length hkeys
    rw [List.length_map, List.length_map] at e
    exact e
  have h16 : vs.length ≤ sizeLine := by rw [hl]; exact hsz
  refine Calls.call_function_entry PyProof.Rows.kind_sorted PyProof.Rows.plain_sorted PyProof.Rows.entry_sorted (PyProof.Rows.args_sorted1 _) ?_
  unfold Builtin.«sorted»
  refine wpAny_bind (m := checkCount "sorted" 1 1 _) (wpAny_pure ?_)
  refine wpAny_bind (PySem.W.kdu_collect (A := X.A.in1) (PySem.W.kdl_dict (knd := mixKind X.prog X.w) (kvs := vs) (ep := ep) lo) (I.ok.hd hcalm) hat h16 fun h' tk acc hk hacc => ?_)
  have hal : acc.toList.length = ks.length := by rw [Array.length_toList, hacc.1, hl]
  have hS : StrsAre acc.toList ks := strs_at hal fun j v e => by
    obtain ⟨k, x, e1, e2⟩ := hacc.2 j v (by rw [← Array.getElem?_toList]; exact e)
    have e3 : (vs.map (·.1))[j]? = some k := by rw [List.getElem?_map, e1]; all_goals rfl
    rw [hkeys, List.getElem?_map] at e3
    cases e4 : ks[j]? with
    | none => rw [e4] at e3; cases e3
    | some y =>
      rw [e4] at e3
      have e5 : Sum.inr y = k := Option.some.inj e3
      subst e5
      obtain ⟨t, ev⟩ := Value.isStrOf_shape (x := y) (v := v) e2
      exact ⟨y, t, rfl, ev⟩
  have I1 : Inv X pins σ H { s with heap := h', toks := tk } := I.kept hk
  refine wpAny_bind (wpAny_newList ?_ (by rw [hal]; exact hsz))
  have hoL : (h'.push (seqObj "list" acc.toList.toArray 0)).get? h'.objs.size = some (seqObj "list" acc.toList.toArray 0) := Heap.get?_push_size _ rfl
  show wpAny _ _ _ _ _ { s with heap := h'.push (seqObj "list" acc.toList.toArray 0), toks := tk }
  refine wpAny_bind (wpAny_holding (wpAny_call_entry PyProof.Rows.slot_list_sort ⟨_, hoL, rfl⟩ PyProof.Rows.entry_list_sort
    (list_sort_treeKAny strKind_oneLt (s := { s with heap := h'.push (seqObj "list" acc.toList.toArray 0), toks := tk }) hoL hS.keysOf (fun v₁ v₂ rest e => keyKind_strs (by rw [← e]; exact hS)) (by rw [hal]; exact hsz) fun st' hp hs => ⟨_, rfl, ?_⟩)
    (PyProof.Rows.args_list_sort _)))
  obtain ⟨ys, g1, g2, g3⟩ := sorted_out_str hS hp hs
  obtain ⟨e', he'⟩ := PyProof.Rows.sortedHeap_at (vs := acc.toList) (out := (arrOf st').map (·.2)) hoL
  have hlen : (ys.map V.str).length ≤ sizeLine := by
    rw [List.length_map, g2.length_eq]
    exact hsz
  refine wpAny_pure ⟨_, rfl, .ref h'.objs.size, upd H h'.objs.size (.lst (ys.map V.str)), I1.laid (t' := tk) (fun b u e => ?_) (Nat.le_refl _)
    (show ObjOk X.prog X.w _ _ _ (.lst (ys.map V.str)) from ⟨hlen, ((arrOf st').map (·.2)).toList, e', vals_of_strs g1, by rw [Array.toArray_toList]; exact he'⟩), rfl, q ys _ g2 g3 (I1.hok.fresh (Nat.le_refl _))⟩
  have hb : b < h'.objs.size := Heap.lt_size e
  rw [PyProof.Rows.sortedHeap_old (Nat.ne_of_lt hb) (by rw [size_push']; exact Nat.lt_succ_of_lt hb)]
  exact Heap.get?_push_of_some _ e
end
/-! ### sorting texts -/
def leS (a b : Str) : Bool := !ltCps b.cps.toList a.cps.toList
theorem leS_iff {a b : Str} : leS a b = true ↔ a.cps.toList ≤ b.cps.toList := by
  unfold leS
  rw [PyProof.Rows.ltCps_eq, Bool.not_eq_true', decide_eq_false_iff_not]
  exact Iff.rfl
theorem leS_trans (a b c : Str) (h : leS a b = true) (k : leS b c = true) : leS a c = true := leS_iff.mpr (List.le_trans (leS_iff.mp h) (leS_iff.mp k))
theorem leS_total (a b : Str) : (leS a b || leS b a) = true := by
  rw [Bool.or_eq_true, leS_iff, leS_iff]
  exact List.le_total _ _
theorem leS_anti (a b : Str) (h : leS a b = true) (k : leS b a = true) : a = b := by
  have := List.le_antisymm (leS_iff.mp h) (leS_iff.mp k)
  exact Str.ext' (Array.toList_inj.mp this)
def srtS (ks : List Str) : List Str := ks.mergeSort leS
theorem srtS_perm (ks : List Str) : (srtS ks).Perm ks := List.mergeSort_perm ks leS
theorem srtS_pw (ks : List Str) : (srtS ks).Pairwise (fun a b => leS a b = true) := List.pairwise_mergeSort leS_trans leS_total ks
theorem rising_pw : ∀ (p : Str) (l : List Str), risingS p l = true → (p :: l).Pairwise fun a b => leS a b = true
  | p, [], _ => by simp
  | p, x :: r, h => by
    simp only [risingS, Bool.and_eq_true] at h
    have ih := rising_pw x r h.2
    have hx : leS p x = true := h.1
    rw [List.pairwise_cons]
    refine ⟨fun a ha => ?_, ih⟩
    rcases List.mem_cons.mp ha with rfl | ha
    · exact hx
    · exact leS_trans _ _ _ hx ((List.pairwise_cons.mp ih).1 a ha)
theorem sortedS_pw : ∀ l : List Str, sortedS l = true → l.Pairwise fun a b => leS a b = true
  | [], _ => by simp
  | x :: r, h => rising_pw x r h
theorem srtS_eq {ys ks : List Str} (hp : ys.Perm ks) (hs : sortedS ys = true) : ys = srtS ks :=
  List.Perm.eq_of_pairwise (fun a b _ _ => leS_anti a b) (sortedS_pw ys hs) (srtS_pw ks) (hp.trans (srtS_perm ks).symm)
theorem srtS_of_perm {ks ls : List Str} (h : ks.Perm ls) : srtS ks = srtS ls :=
  List.Perm.eq_of_pairwise (fun a b _ _ => leS_anti a b) (srtS_pw ks) (srtS_pw ls) ((srtS_perm ks).trans (h.trans (srtS_perm ls).symm))
/-- the keys of a dict, all texts -/
def strKeys : List (Key × D) → Option (List Str)
  | [] => some []
  | (.inr s, _) :: r => (strKeys r).map (s :: ·)
  | (.inl _, _) :: _ => none
def cSrtK (o : Den) : Den := fun env S => bnd (o env S) fun ov S1 => match ov with
  | .loc n => match S1[n]? with
    | some (.dct kvs) => match strKeys kvs with
      | some ks => if ks.length ≤ sizeLine then some (.ok (.d (.list ((srtS ks).map .str))) S1) else none
      | none => none
    | _ => none
  | _ => none
def revD : D → Option D
  | .tuple xs => some (.tuple xs.reverse)
  | _ => none
section
variable {K : PySem.W.Frag} {X : Cx} {W : XW}
theorem strKeys_some {F : Hp} : ∀ {kvs : List (Key × D)} {ks : List (Key × V)} {ss : List Str}, KvR K F ks kvs → strKeys kvs = some ss → ks.map (·.1) = ss.map Sum.inr
  | [], _, _, h, e => by cases h; cases e; rfl
  | (.inl _, _) :: _, _, _, _, e => by cases e
  | (.inr s, d) :: r, _, ss, .cons (a := p) hd t, e => by
    simp only [strKeys] at e
    cases q : strKeys r with
    | none => rw [q] at e; cases e
    | some m =>
      rw [q] at e
      cases e
      rw [List.map_cons, List.map_cons, strKeys_some t q, hd.1]
theorem se_srtK {e : Expr} {p pos : Pos} {f : Den} (hc : X.calm = true) (hg : Gl X "sorted") (hm : X.mg "sorted" = none) (hs : noStar e = true) (ha : PE X e (tD X.K W f)) : PE X (.Call (.Name "sorted" p) [e] [] pos) (tD X.K W (cSrtK f)) :=
  (pe_callB (call_sortedDA hc) hg hm (by decide +kernel) (pa_cons ha pa_nil (noStar_each hs)) (by decide +kernel) (by decide +kernel) (noStar_each hs) (noStar_any pos X.env rfl)).of fun σ H Q q => by
    obtain ⟨F, ι, env, S, r, rel, re, h, p⟩ := q
    refine tG_bnd rel re h p fun F1 ι1 S1 H1 u x e1 rel1 re1 ru h p1 => ?_
    split at h
    · rename_i n
      split at h
      · rename_i kvs hx
        split at h
        · rename_i ks hk
          by_cases hl : ks.length ≤ sizeLine
          case neg => rw [if_neg hl] at h; cases h
          rw [if_pos hl] at h
          cases h
          cases ru with
          | loc ha =>
            obtain ⟨hF, kk, hH, kr⟩ := rel1.cell _ _ _ hx ha
            refine ⟨_, kk, ks, rfl, .inl hH, strKeys_some kr hk, hl, fun ys q hp hs hq => ?_⟩
            have := srtS_eq hp hs
            subst this
            obtain ⟨r2, s2⟩ := rel1.frz hq (.lst ((srtS ks).map V.str))
            exact p1 _ ι1 _ _ ⟨s2, List.prefix_refl _⟩ r2 (.d (.lst (SqL.of upd_same) (strs_dpAll _)))
        · cases h
      · cases h
    · cases h
theorem dpAll_rev {F : Hp} : ∀ {xs : List D} {vs : List V}, DpAll K F vs xs → DpAll K F vs.reverse xs.reverse
  | [], _, h => by cases h; exact .nil
  | x :: xs, _, h => by
    cases h with
    | cons h1 h2 =>
      rw [List.reverse_cons, List.reverse_cons]
      exact dpAll_append (dpAll_rev h2) (.cons h1 .nil)
theorem imp1_rev : Imp1 K revD (fun x H Q => ∃ a xs, x = .ref a ∧ SqT K H a xs ∧ ∀ p, H p = none → Q (.ref p) (upd H p (.tup xs.reverse))) := by
  intro F ι S H u x z Q rel hx hz q
  cases x with
  | tuple xs =>
    cases hz
    obtain ⟨a, vs, rfl, ha, da⟩ := hx.tuple rel.same
    exact ⟨a, vs, rfl, ha, q_tup rel q (dpAll_rev da)⟩
  | _ => cases hz
theorem se_rev {e : Expr} {k : Nat} {p1 p2 p3 pos : Pos} {f : Den} (he : PE X e (tD X.K W f)) : PE X (.Subscript e (.Slice none none (some (.UnaryOp .USub (.Constant (.int 1) k p1) p2)) p3) pos) (tD X.K W (cOp1 revD f)) :=
  (pe_revT he).of fun σ H Q q => op1_imp imp1_rev q
end
end G

/-! sorted(xs) of ints, xs a tuple or a list, any length. -/
namespace G
open PySem PySem.Spec PyProof.Rows L2
def leI (a b : Int) : Bool := decide (a ≤ b)
def srtI (ns : List Int) : List Int := ns.mergeSort leI
theorem srtI_perm (ns : List Int) : (srtI ns).Perm ns := List.mergeSort_perm ns leI
theorem srtI_pw (ns : List Int) : (srtI ns).Pairwise (· ≤ ·) :=
  (List.pairwise_mergeSort (le := leI) (fun a b c h k => decide_eq_true (Int.le_trans (of_decide_eq_true h) (of_decide_eq_true k))) (fun a b => by
    unfold leI
    rcases Int.le_total a b with h | h
    · simp [h]
    · simp [h]) ns).imp fun {a b} h => of_decide_eq_true h
theorem srtI_eq {ys ns : List Int} (hp : ys.Perm ns) (hs : ys.Pairwise (· ≤ ·)) : ys = srtI ns :=
  List.Perm.eq_of_pairwise (fun a b _ _ h k => Int.le_antisymm h k) hs (srtI_pw ns) (hp.trans (srtI_perm ns).symm)
theorem srtI_len (ns : List Int) : (srtI ns).length = ns.length := (srtI_perm ns).length_eq
def srtD : D → Option D
  | .list xs => match intsOf xs with
    | some ns => some (.list ((srtI ns).map .int))
    | none => none
  | .tuple xs => match intsOf xs with
    | some ns => some (.list ((srtI ns).map .int))
    | none => none
  | _ => none
section
variable {K : PySem.W.Frag} {X : Cx} {W : XW}
def rSortedT' (K : PySem.W.Frag) : List V → Hp → VK → Prop := fun vs H Q => ∃ (a : Addr) (ns : List Int), vs = [V.ref a] ∧ (SqL K H a (ns.map V.int) ∨ SqT K H a (ns.map V.int)) ∧
  ∀ (ns' : List Int) (p : Addr), ns'.Perm ns → ns'.Pairwise (· ≤ ·) → H p = none → Q (.ref p) (upd H p (.lst (ns'.map V.int)))
theorem call_sortedT : CallR X (.builtin "sorted") (rSortedT' X.K) := by
  intro pins s σ H vs us Q I r h
  obtain ⟨a, ns, rfl, hs, q⟩ := h
  rcases hs with hs | hs
  · exact cr_sortedI pins s σ H _ us Q I r ⟨a, ns, rfl, hs, q⟩
  · obtain ⟨its, rv, hl, hz⟩ := I.tuple hs
    rw [Vals.ref1 r]
    have hi := rv.ints
    have hlen := rv.length
    rw [List.length_map] at hlen hz
    have hsz : its.length ≤ sizeLine := by omega
    have pt : s.heap.IsTuple a its.toArray := hl
    obtain ⟨o, ho, hc, n, hd⟩ := pt
    refine Calls.call_function_entry PyProof.Rows.kind_sorted PyProof.Rows.plain_sorted PyProof.Rows.entry_sorted (PyProof.Rows.args_sorted1 _) ?_
    unfold Builtin.«sorted»
    refine wpAny_bind (m := checkCount "sorted" 1 1 _) (wpAny_pure ?_)
    refine wpAny_bind (wpAny_collect_seq a (.inr rfl) ho hc hd (fun h' hk => ?_) (by simpa using hsz))
    refine wpAny_bind (wpAny_newList ?_ (by simpa using hsz))
    have I1 : Inv X pins σ H { s with heap := h' } := I.kept (t' := s.toks) hk
    have hoL : (h'.push (seqObj "list" its.toArray 0)).get? h'.objs.size = some (seqObj "list" its.toArray 0) := Heap.get?_push_size _ rfl
    show wpAny _ _ _ _ _ { s with heap := h'.push (seqObj "list" its.toArray 0) }
    refine wpAny_bind (wpAny_holding (wpAny_call_entry PyProof.Rows.slot_list_sort ⟨_, hoL, rfl⟩ PyProof.Rows.entry_list_sort
      (SrtO.list_sort_ord SrtO.swo_int hoL hsz (fun h2 => SrtO.ints_sortable hi h2) fun out h1 h2 => ⟨_, rfl, ?_⟩)
      (PyProof.Rows.args_list_sort _)))
    obtain ⟨k1, k2, k3⟩ := SrtO.ints_out hi h1 h2
    obtain ⟨ep, he'⟩ := PyProof.Rows.sortedHeap_at (vs := its) (out := out.toArray) hoL
    have hlen2 : ((out.map SrtO.iv).map V.int).length ≤ sizeLine := by
      rw [List.length_map, k2.length_eq]
      exact hz
    refine wpAny_pure ⟨_, rfl, .ref h'.objs.size, upd H h'.objs.size (.lst ((out.map SrtO.iv).map V.int)), I1.laid (t' := s.toks) (fun b u e => ?_) (Nat.le_refl _)
      (show ObjOk X.prog X.w _ _ _ (.lst ((out.map SrtO.iv).map V.int)) from ⟨hlen2, out, ep, vals_of_ints k1, he'⟩), rfl, q _ _ k2 k3 (I1.hok.fresh (Nat.le_refl _))⟩
    have hb : b < h'.objs.size := Heap.lt_size e
    rw [PyProof.Rows.sortedHeap_old (Nat.ne_of_lt hb) (by rw [size_push']; exact Nat.lt_succ_of_lt hb)]
    exact Heap.get?_push_of_some _ e
theorem imp1_srt : Imp1 K srtD (fun x H Q => rSortedT' K [x] H Q) := by
  intro F ι S H u x z Q rel hx hz q
  cases x with
  | list xs =>
    simp only [srtD] at hz
    cases e : intsOf xs with
    | none => rw [e] at hz; cases hz
    | some ns =>
      rw [e] at hz
      cases hz
      have := intsOf_eq e
      subst this
      obtain ⟨a, vs, rfl, ha, da⟩ := hx.list rel.same
      rw [dpAll_ints da] at ha
      refine ⟨a, ns, rfl, .inl ha, fun ns' p hp hs hq => ?_⟩
      rw [srtI_eq hp hs]
      exact q_lst rel q (ints_dpAll _) p hq
  | tuple xs =>
    simp only [srtD] at hz
    cases e : intsOf xs with
    | none => rw [e] at hz; cases hz
    | some ns =>
      rw [e] at hz
      cases hz
      have := intsOf_eq e
      subst this
      obtain ⟨a, vs, rfl, ha, da⟩ := hx.tuple rel.same
      rw [dpAll_ints da] at ha
      refine ⟨a, ns, rfl, .inr ha, fun ns' p hp hs hq => ?_⟩
      rw [srtI_eq hp hs]
      exact q_lst rel q (ints_dpAll _) p hq
  | _ => cases hz
theorem se_srtI {e : Expr} {p pos : Pos} {f : Den} (hg : Gl X "sorted") (hm : X.mg "sorted" = none) (hs : noStar e = true) (ha : PE X e (tD X.K W f)) : PE X (.Call (.Name "sorted" p) [e] [] pos) (tD X.K W (cOp1 srtD f)) :=
  (pe_callB call_sortedT hg hm (by decide +kernel) (pa_cons ha pa_nil (noStar_each hs)) (by decide +kernel) (by decide +kernel) (noStar_each hs) (noStar_any pos X.env rfl)).of fun σ H Q q => by
    have z := op1_imp (imp1_srt) q
    exact tG_mono z fun u H1 q => q
end
end G

/-! The evaluator's trees, what they mean, and when a tree of the program is one. -/
namespace G
open PySem L2

mutual
inductive ME where
  | var (i : Nat) | cst (d : D) | glb (x : String) (d : D)
  | bin (op : Operator) (a b : ME) | cmp (op : CmpOp) (a b : ME) | chain (op op' : CmpOp) (a b c : ME)
  | isN (n : Bool) (a : ME) | neg (a : ME) | not (a : ME) | bool (isAnd : Bool) (es : MEs) | ite (c a b : ME)
  | tup (es : MEs) | ltup (es : MEs) | lst (es : MEs) | new (es : MEs)
  | idx (a b : ME) | slc (a : ME) (lo hi : MO)
  | blt1 (id : String) (a : ME) | blt2 (id : String) (a b : ME) | isa (T : String) (a : ME)
  | dget (o a : ME) | din (n : Bool) (a o : ME) | dnew | ddsp (ks : List Key) (es : MEs)
  | op1 (o : Op1) (a : ME) | addL (a b : ME) | srtK (a : ME) | srtI (a : ME) | rev (a : ME)
  | app (o a : ME) | lidx (o a : ME) | gidx (x : String) (d : D) (a : ME) | sset (a : ME)
  | call (x : String) (key : String) (es : MEs)
  | comp (live : Bool) (tup : Bool) (is : List Nat) (src : MI) (ifs : MO) (el : ME) (own : List (String × Nat))
inductive MEs where
  | nil | cons (a : ME) (r : MEs)
inductive MO where
  | none | some (a : ME)
inductive MI where
  | seq (a : ME) | rng1 (a : ME) | rng2 (a b : ME) | enm (a : ME) | zip (a b : ME)
inductive MT where
  | name (i : Nat) | tup (ts : MTs) | sub (o i : ME) | dsub (o i : ME)
inductive MTs where
  | nil | cons (a : MT) (r : MTs)
end
mutual
inductive MS where
  | asg (t : MT) (e : ME) | par (is : List Nat) (es : MEs) | expr (e : ME) | ret (e : ME) | retN | ifs (c : ME) (a b : MSs)
  | for (t : MT) (src : MI) (b : MSs) | while (c : ME) (b : MSs) | brk | cnt | pass | never
inductive MSs where
  | nil | cons (a : MS) (r : MSs) | frz (i : Nat) (r : MSs)
end
def MTs.len : MTs → Nat
  | .nil => 0
  | .cons _ r => r.len + 1

/-- a op b op' c -/
def cChain (f g : D → D → Option D) (a b c : Den) : Den := fun env S => bnd (a env S) fun v S1 => bnd (b env S1) fun u S2 => match (view S2 v).bind fun x => (view S2 u).bind fun y => f x y with
  | some (.bool true) => bnd (c env S2) fun w S3 => givD ((view S3 u).bind fun y => (view S3 w).bind fun z => g y z) S3
  | some (.bool false) => some (.ok (.d (.bool false)) S2)
  | _ => none
/-- xs.append(x), xs live -/
def cApp (o a : Den) : Den := fun env S => bnd (o env S) fun ov S1 => match ov with
  | .loc n => match S1[n]? with
    | some (.lst _) => bnd (a env S1) fun v S2 => match v with
      | .d x => match S2[n]? with
        | some (.lst xs) => if xs.length < sizeLine then some (.ok (.d .none) (S2.set n (.lst (xs ++ [x])))) else none
        | _ => none
      | _ => none
    | _ => none
  | _ => none
/-- xs + ys, a new live list -/
def cAddL (a b : Den) : Den := fun env S => bnd (a env S) fun v S1 => bnd (b env S1) fun u S2 => match view S2 v, view S2 u with
  | some (.list xs), some (.list ys) => if xs.length + ys.length ≤ sizeLine then some (.ok (.loc S2.length) (S2 ++ [.lst (xs ++ ys)])) else none
  | _, _ => none
/-- a variable's live list is frozen -/
def cFrzV (i : Nat) : DenS := fun env S => match env[i]? with
  | some (some (.loc n)) => match S[n]? with
    | some (.lst xs) => some (.ok (.nx (env.set i (some (.d (.list xs))))) (S.set n .dead))
    | _ => none
  | _ => some (.ok (.nx env) S)
/-- a call that raises is not told -/
def okOnly (r : Option (R Val)) : Option (R Val) := match r with
  | some (.ok v S) => some (.ok v S)
  | _ => none
@[simp] theorem okOnly_ok (v : Val) (S : Store) : okOnly (some (.ok v S)) = some (.ok v S) := Eq.trans rfl rfl
@[simp] theorem okOnly_none : okOnly none = none := Eq.trans rfl rfl
def cCallO (f : Fn) (a : DenA) : Den := fun env S => bnd (a env S) fun vs S1 => okOnly (f vs S1)
def cYes : DenT := fun _ S => some (.ok true S)

mutual
noncomputable def evE (fs : String → Fn) : ME → Den
  | .var i => cVar i
  | .cst d => cCst d
  | .glb _ d => cCst d
  | .bin op a b => cOp2 (binD op) (evE fs a) (evE fs b)
  | .cmp op a b => cOp2 (cmpD op) (evE fs a) (evE fs b)
  | .chain op op' a b c => cChain (cmpD op) (cmpD op') (evE fs a) (evE fs b) (evE fs c)
  | .isN n a => cOp1 (isNoneD n) (evE fs a)
  | .neg a => cOp1 negD (evE fs a)
  | .not a => cOp1 notD (evE fs a)
  | .bool isAnd es => evB fs isAnd es
  | .ite c a b => cIte (cTru (evE fs c)) (evE fs a) (evE fs b)
  | .tup es => cTup (evEs fs es)
  | .ltup es => cLtup (evEs fs es)
  | .lst es => cLst (evEs fs es)
  | .new es => cNew (evEs fs es)
  | .idx a b => cOp2 idxD (evE fs a) (evE fs b)
  | .slc a lo hi => cSlc (evE fs a) (evO fs lo) (evO fs hi)
  | .blt1 id a => cOp1 (blt1 id) (evE fs a)
  | .blt2 id a b => cOp2 (blt2 id) (evE fs a) (evE fs b)
  | .isa T a => cOp1 (isaD T) (evE fs a)
  | .app o a => cApp (evE fs o) (evE fs a)
  | .op1 o a => cOp1 (op1D o) (evE fs a)
  | .addL a b => cAddL (evE fs a) (evE fs b)
  | .srtK a => cSrtK (evE fs a)
  | .srtI a => cOp1 srtD (evE fs a)
  | .rev a => cOp1 revD (evE fs a)
  | .dget o a => cDget (evE fs o) (evE fs a)
  | .din n a o => cDin n (evE fs a) (evE fs o)
  | .dnew => cDnew
  | .ddsp ks es => cDdsp ks (evEs fs es)
  | .lidx o a => cLidx (evE fs o) (evE fs a)
  | .gidx _ d a => cOp1 (indexT d) (evE fs a)
  | .sset a => cOp1 ssetD (evE fs a)
  | .call _ key es => cCallO (fs key) (evEs fs es)
  | .comp live tup is src ifs el own => cLc live (evI fs src) (cT tup is) (evIf fs ifs) (evE fs el) (own.map (·.2))
noncomputable def evB (fs : String → Fn) (isAnd : Bool) : MEs → Den
  | .nil => fun _ _ => none
  | .cons a .nil => evE fs a
  | .cons a (.cons b r) => if isAnd then cAnd (evE fs a) (evB fs isAnd (.cons b r)) else cOr (evE fs a) (evB fs isAnd (.cons b r))
noncomputable def evEs (fs : String → Fn) : MEs → DenA
  | .nil => cNil
  | .cons a r => cCons (evE fs a) (evEs fs r)
noncomputable def evO (fs : String → Fn) : MO → DenO
  | .none => cNoPart
  | .some a => cPart (evE fs a)
noncomputable def evIf (fs : String → Fn) : MO → DenT
  | .none => cYes
  | .some a => cTru (evE fs a)
noncomputable def evI (fs : String → Fn) : MI → DenI
  | .seq a => iSeq (evE fs a)
  | .rng1 a => iRng1 (evE fs a)
  | .rng2 a b => iRng2 (evE fs a) (evE fs b)
  | .enm a => iEnm (evE fs a)
  | .zip a b => iZp (evE fs a) (evE fs b)
noncomputable def evG (fs : String → Fn) : MT → DenG
  | .name i => gN i
  | .tup ts => gT ts.len (evGs fs ts)
  | .sub o i => gL (evE fs o) (evE fs i)
  | .dsub o i => gD (evE fs o) (evE fs i)
noncomputable def evGs (fs : String → Fn) : MTs → DenGs
  | .nil => gsN
  | .cons a r => gsC (evG fs a) (evGs fs r)
end
mutual
noncomputable def evS (fs : String → Fn) : MS → DenS
  | .asg t e => cAsg (evE fs e) (evG fs t)
  | .par is es => cPar is (evEs fs es)
  | .expr e => cExpr (evE fs e)
  | .ret e => cRet (evE fs e)
  | .retN => cRet (cCst .none)
  | .ifs c a b => cIfS (cTru (evE fs c)) (evSs fs a) (evSs fs b)
  | .for t src b => cFor (evI fs src) (evG fs t) (evSs fs b)
  | .while c b => cWhile (cTru (evE fs c)) (evSs fs b)
  | .brk => cBrk
  | .cnt => cCnt
  | .pass => cSkip
  | .never => fun _ _ => none
noncomputable def evSs (fs : String → Fn) : MSs → DenS
  | .nil => cSkip
  | .cons a r => cSeq (evS fs a) (evSs fs r)
  | .frz i r => cSeq (cFrzV i) (evSs fs r)
end

/-! ### the check -/
mutual
/-- the very same data -/
def deq : D → D → Bool
  | .none, .none => true
  | .bool a, .bool b => a == b
  | .int a, .int b => decide (a = b)
  | .str a, .str b => decide (a = b)
  | .list a, .list b => deqs a b
  | .tuple a, .tuple b => deqs a b
  | _, _ => false
def deqs : List D → List D → Bool
  | [], [] => true
  | x :: xs, y :: ys => deq x y && deqs xs ys
  | _, _ => false
end
def isTupD : D → Bool
  | .tuple _ => true
  | _ => false
/-- the program's tables: the defs by name and key, the constants -/
structure Tab where
  calls : List (String × String)
  glbs : List (String × D)
structure Sc where
  T : Tab
  N : List Str
  sc : Scope
def visB (sc : Scope) (x : Str) : Bool := match sc.names.lookup x with
  | some .local => true
  | some .cell => true
  | some .free => true
  | _ => false
def globB (sc : Scope) (x : Str) : Bool := decide (sc.names.lookup x = some .globalImplicit)
def plainN (x : Str) : Bool := decide (x ≠ "__debug__") && decide (x ≠ "__classdict__") && decide (x ≠ "__name__")
def cstB : D → Const → Bool
  | .none, .none => true
  | .bool a, .bool b => a == b
  | .int a, .int b => decide (a = b)
  | .str a, .str b => decide (a = b)
  | _, _ => false
def tupleTg : Expr → Bool
  | .Tuple _ _ _ => true
  | _ => false
/-- a local, or a local or a cell -/
def locB (strict : Bool) (sc : Scope) (x : Str) : Bool := match sc.names.lookup x with
  | some .local => true
  | some .cell => !strict
  | _ => false
/-- a comprehension's targets: its own local names -/
def chkNs (N : List Str) (sc : Scope) (own : List Nat) : List Nat → List Expr → Bool
  | [], [] => true
  | i :: is, .Name x _ :: es => decide (N[i]? = some x) && decide (sc.names.lookup x = some .local) && decide (i ∈ own) && chkNs N sc own is es
  | _, _ => false
def chkT (N : List Str) (sc : Scope) (own : List Nat) (tup : Bool) (is : List Nat) (e : Expr) : Bool :=
  if tup then match e with
    | .Tuple es _ _ => chkNs N sc own is es
    | _ => false
  else is.length == 1 && chkNs N sc own is [e]
def keyB : Key → Option Expr → Bool
  | .inl i, some (.Constant (.int j) _ _) => decide (i = j)
  | .inr i, some (.Constant (.str j) _ _) => decide (i = j)
  | _, _ => false
def keysB : List Key → List (Option Expr) → Bool
  | [], [] => true
  | k :: ks, e :: es => keyB k e && keysB ks es
  | _, _ => false
mutual
def chkE (c : Sc) : ME → Expr → Bool
  | .var i, e => match e with
    | .Name x _ => decide (c.N[i]? = some x) && visB c.sc x && plainN x
    | _ => false
  | .cst d, e => match e with
    | .Constant k _ _ => cstB d k
    | _ => false
  | .glb x d, e => match e with
    | .Name y _ => decide (y = Str.ofString x) && globB c.sc y && plainN y && c.T.glbs.any fun p => decide (p.1 = x) && deq p.2 d
    | _ => false
  | .bin op a b, e => match e with
    | .BinOp x op' y _ => decide (op = op') && okBin op && chkE c a x && chkE c b y
    | _ => false
  | .cmp op a b, e => match e with
    | .Compare x [op'] [y] _ => decide (op = op') && okCmp op && noSet y && chkE c a x && chkE c b y
    | _ => false
  | .chain op op' a b d, e => match e with
    | .Compare x [o1, o2] [y, z] _ => decide (op = o1) && decide (op' = o2) && decide (op ∈ [CmpOp.Lt, CmpOp.LtE]) && decide (op' ∈ [CmpOp.Lt, CmpOp.LtE]) && noSet z && chkE c a x && chkE c b y && chkE c d z
    | _ => false
  | .isN n a, e => match e with
    | .Compare x [op] [.Constant .none _ _] _ => decide (op = if n then CmpOp.IsNot else CmpOp.Is) && chkE c a x
    | _ => false
  | .neg a, e => match e with
    | .UnaryOp .USub x _ => chkE c a x
    | _ => false
  | .not a, e => match e with
    | .UnaryOp .Not x _ => chkE c a x
    | _ => false
  | .bool isAnd es, e => match e with
    | .BoolOp op xs _ => decide (op = if isAnd then BoolOp.And else BoolOp.Or) && (match xs with | [] => false | _ => true) && chkEs c es xs
    | _ => false
  | .ite t a b, e => match e with
    | .IfExp x y z _ => chkE c t x && chkE c a y && chkE c b z
    | _ => false
  | .tup es, e => match e with
    | .Tuple xs _ _ => chkEs c es xs
    | _ => false
  | .ltup es, e => match e with
    | .Tuple xs _ _ => chkEs c es xs
    | _ => false
  | .lst es, e => match e with
    | .List xs _ => chkEs c es xs
    | _ => false
  | .new es, e => match e with
    | .List xs _ => chkEs c es xs
    | _ => false
  | .idx a b, e => match e with
    | .Subscript x y _ => plainSub y && chkE c a x && chkE c b y
    | _ => false
  | .slc a lo hi, e => match e with
    | .Subscript x (.Slice l h none _) _ => chkE c a x && chkO c lo l && chkO c hi h
    | _ => false
  | .blt1 id a, e => match e with
    | .Call (.Name y _) [x] [] _ => decide (y = Str.ofString id) && decide (id ∈ names1) && globB c.sc y && noStar x && chkE c a x
    | _ => false
  | .blt2 id a b, e => match e with
    | .Call (.Name y _) [x, z] [] _ => decide (y = Str.ofString id) && decide (id ∈ names2) && globB c.sc y && noStar x && noStar z && chkE c a x && chkE c b z
    | _ => false
  | .isa T a, e => match e with
    | .Call (.Name y _) [x, .Name t _] [] _ => decide (y = "isinstance") && decide (t = Str.ofString T) && decide (T ∈ ["int", "bool", "str", "tuple", "list"]) && globB c.sc y && globB c.sc t && noStar x && chkE c a x
    | _ => false
  | .dget a b, e => match e with
    | .Subscript x y _ => plainSub y && chkE c a x && chkE c b y
    | _ => false
  | .din n a o, e => match e with
    | .Compare x [op] [y] _ => decide (op = if n then CmpOp.NotIn else CmpOp.In) && noSet y && chkE c a x && chkE c o y
    | _ => false
  | .dnew, e => match e with
    | .Dict [] [] _ => true
    | _ => false
  | .ddsp ks es, e => match e with
    | .Dict qs vs _ => keysB ks qs && decide (0 < ks.length) && decide (ks.length ≤ 15) && decide (vs.length = ks.length) && chkEs c es vs
    | _ => false
  | .srtK a, e => match e with
    | .Call (.Name s _) [y] [] _ => decide (s = "sorted") && globB c.sc s && noStar y && chkE c a y
    | _ => false
  | .srtI a, e => match e with
    | .Call (.Name s _) [y] [] _ => decide (s = "sorted") && globB c.sc s && noStar y && chkE c a y
    | _ => false
  | .rev a, e => match e with
    | .Subscript x (.Slice none none (some (.UnaryOp .USub (.Constant (.int i) _ _) _)) _) _ => decide (i = 1) && chkE c a x
    | _ => false
  | .addL a b, e => match e with
    | .BinOp x op' y _ => decide (op' = Operator.Add) && chkE c a x && chkE c b y
    | _ => false
  | .op1 o a, e => match e with
    | .Call (.Attribute x f ap) [y] [] cp => (match o with
      | .join s => (match x with
        | .Constant (.str t) _ _ => decide (f = "join") && decide (t = s) && (ap.endLine == cp.line) && noStar y && chkE c a y
        | _ => false)
      | .split s => (match y with
        | .Constant (.str t) _ _ => decide (f = "split") && decide (t = s) && noCall0 x && (ap.endLine == cp.line) && chkE c a x
        | _ => false))
    | _ => false
  | .app o a, e => match e with
    | .Call (.Attribute x f ap) [y] [] cp => decide (f = "append") && noCall0 x && (ap.endLine == cp.line) && noStar y && chkE c o x && chkE c a y
    | _ => false
  | .lidx o a, e => match e with
    | .Call (.Attribute x f ap) [y] [] cp => decide (f = "index") && noCall0 x && (ap.endLine == cp.line) && noStar y && chkE c o x && chkE c a y
    | _ => false
  | .gidx x d a, e => match e with
    | .Call (.Attribute (.Name g _) f ap) [y] [] cp => decide (f = "index") && (ap.endLine == cp.line) && noStar y && decide (g = Str.ofString x) && globB c.sc g && plainN g && (c.T.glbs.any fun p => decide (p.1 = x) && deq p.2 d && isTupD p.2) && chkE c a y
    | _ => false
  | .sset a, e => match e with
    | .Call (.Name s _) [.Call (.Name t _) [y] [] _] [] _ => decide (s = "sorted") && decide (t = "set") && globB c.sc s && globB c.sc t && noStar y && chkE c a y
    | _ => false
  | .call x key es, e => match e with
    | .Call (.Name y _) xs [] _ => decide (y = Str.ofString x) && globB c.sc y && plainN y && decide ((x, key) ∈ c.T.calls) && chkEs c es xs
    | _ => false
  | .comp live tup is src ifs el own, e => match e with
    | .ListComp elt [⟨t, it, fs, asy⟩] scope _ => decide (asy = 0) && noSet it && chkI c t src it && blkC c.N c.sc scope (own.map fun p => (Str.ofString p.1, p.2)) && chkT c.N (relS scope c.sc) (own.map (·.2)) tup is t && chkIf ⟨c.T, c.N, relS scope c.sc⟩ ifs fs && chkE ⟨c.T, c.N, relS scope c.sc⟩ el elt
    | _ => false
def chkEs (c : Sc) : MEs → List Expr → Bool
  | .nil, es => match es with
    | [] => true
    | _ => false
  | .cons a r, es => match es with
    | e :: es => noStar e && chkE c a e && chkEs c r es
    | [] => false
def chkO (c : Sc) : MO → Option Expr → Bool
  | .none, e => match e with
    | none => true
    | _ => false
  | .some a, e => match e with
    | some e => chkE c a e
    | none => false
def chkIf (c : Sc) : MO → List Expr → Bool
  | .none, e => match e with
    | [] => true
    | _ => false
  | .some a, e => match e with
    | [e] => chkE c a e
    | _ => false
def chkI (c : Sc) (tg : Expr) : MI → Expr → Bool
  | .seq a, e => chkE c a e
  | .rng1 a, e => match e with
    | .Call (.Name y _) [x] [] _ => decide (y = "range") && globB c.sc y && noStar x && chkE c a x
    | _ => false
  | .rng2 a b, e => match e with
    | .Call (.Name y _) [x, z] [] _ => decide (y = "range") && globB c.sc y && noStar x && noStar z && chkE c a x && chkE c b z
    | _ => false
  | .enm a, e => match e with
    | .Call (.Name y _) [x] [] _ => decide (y = "enumerate") && globB c.sc y && noStar x && tupleTg tg && chkE c a x
    | _ => false
  | .zip a b, e => match e with
    | .Call (.Name y _) [x, z] [] _ => decide (y = "zip") && globB c.sc y && noStar x && noStar z && tupleTg tg && chkE c a x && chkE c b z
    | _ => false
def chkG (c : Sc) (strict : Bool) : MT → Expr → Bool
  | .name i, e => match e with
    | .Name x _ => decide (c.N[i]? = some x) && locB strict c.sc x
    | _ => false
  | .tup ts, e => match e with
    | .Tuple es _ _ => chkGs c strict ts es
    | _ => false
  | .sub o i, e => match e with
    | .Subscript x y _ => plainSub y && chkE c o x && chkE c i y
    | _ => false
  | .dsub o i, e => match e with
    | .Subscript x y _ => plainSub y && chkE c o x && chkE c i y
    | _ => false
def chkGs (c : Sc) (strict : Bool) : MTs → List Expr → Bool
  | .nil, es => match es with
    | [] => true
    | _ => false
  | .cons a r, es => match es with
    | e :: es => noStar e && chkG c strict a e && chkGs c strict r es
    | [] => false
end
end G

namespace G
open PySem L2
def isStarred : Expr → Bool
  | .Starred .. => true
  | _ => false
def swNames (sc : Scope) (ts : List Expr) : List Str :=
  ts.filterMap fun
    | .Name id pos => if sc.names.lookup id == some .local && pos.line == (ts.head?.map (·.pos.line)).getD 0 then some id else none
    | _ => none
/-- the stores are swapped (or the model stops) -/
def swp2 (sc : Scope) (tg x : Expr) : Bool := match tg, x with
  | .Tuple ts _ _, .Tuple vs _ _ => (ts.length == 2 || ts.length == 3) && vs.length == ts.length && !(vs.any isStarred) && !((swNames sc ts).length != ts.length || (swNames sc ts).eraseDups.length != (swNames sc ts).length) && !(vs.all (foldedForSure 8))
  | .List ts _, .Tuple vs _ _ => true
  | _, _ => false
theorem swappedStores_eq (env : PySem.Env) (ts vs : List Expr) (k : Nat) (p : Pos) (k' : Nat) (p' : Pos) : swappedStores [.Tuple ts k p] (.Tuple vs k' p') env =
    (if (!(ts.length == 2 || ts.length == 3) || vs.length != ts.length || env.blockKind != .function) = true then return none
    else if vs.any isStarred = true then return none
    else if ((swNames env.scope ts).length != ts.length || (swNames env.scope ts).eraseDups.length != (swNames env.scope ts).length) = true then return none
    else if vs.all (foldedForSure 8) = true then return none
    else if vs.all (constantsAlone 8) = true then (do let _ : PUnit ← unsupported "assign.tuple-of-constant-expressions:order-of-the-stores"; return some (swNames env.scope ts))
    else return some (swNames env.scope ts)) := rfl
theorem kind_block {env : PySem.Env} (hk : env.scope.kind = .function) : (env.blockKind != .function) = false := by
  unfold Env.blockKind
  rw [hk]
  rfl
theorem swp2_none {env : PySem.Env} {tg x : Expr} (hk : env.scope.kind = .function) (h : swp2 env.scope tg x = false) : swappedStores [tg] x env = pure none := by
  cases tg <;> first | rfl | skip
  all_goals (cases x <;> first | rfl | skip)
  · exact absurd h (by simp [swp2])
  · rename_i ts _ _ vs _ _
    simp only [swp2] at h
    rw [swappedStores_eq, kind_block hk, Bool.or_false]
    by_cases c1 : (!(ts.length == 2 || ts.length == 3) || vs.length != ts.length) = true
    · rw [if_pos c1]
    · rw [if_neg c1]
      by_cases c2 : vs.any isStarred = true
      · rw [if_pos c2]
      · rw [if_neg c2]
        by_cases c3 : ((swNames env.scope ts).length != ts.length || (swNames env.scope ts).eraseDups.length != (swNames env.scope ts).length) = true
        · rw [if_pos c3]
        · rw [if_neg c3]
          by_cases c4 : vs.all (foldedForSure 8) = true
          · rw [if_pos c4]
          · exfalso
            rw [Bool.not_eq_true] at c1 c2 c3 c4
            rw [Bool.or_eq_false_iff] at c1
            have h1 : (ts.length == 2 || ts.length == 3) = true := by
              have := c1.1
              revert this
              cases (ts.length == 2 || ts.length == 3) <;> simp
            have h2 : (vs.length == ts.length) = true := by simpa using c1.2
            rw [h1, h2, c2, c3, c4] at h
            simp at h
theorem swp2_some {env : PySem.Env} {ts vs : List Expr} {k k' : Nat} {p p' : Pos} (hk : env.scope.kind = .function) (h : swp2 env.scope (.Tuple ts k p) (.Tuple vs k' p') = true) (hc : vs.all (constantsAlone 8) = false) :
    swappedStores [.Tuple ts k p] (.Tuple vs k' p') env = pure (some (swNames env.scope ts)) := by
  simp only [swp2, Bool.and_eq_true] at h
  obtain ⟨⟨⟨⟨h1, h2⟩, h3⟩, h4⟩, h5⟩ := h
  rw [swappedStores_eq, kind_block hk, Bool.or_false]
  rw [if_neg (by rw [h1]; simpa using h2), if_neg (by simpa using h3), if_neg (by simpa using h4), if_neg (by simpa using h5), if_neg (by rw [hc]; exact Bool.false_ne_true)]
/-- name = [..] stores within the comprehension's frame -/
def swp1 (sc : Scope) (tg x : Expr) : Bool := match tg, x with
  | .Name t pos, .ListComp _ _ s p => decide (sc.names.lookup t = some .local) && pos.line == p.line && !(s.names.any fun (n, k) => n == t && (k == .local || k == .cell))
  | .Name t pos, .SetComp _ _ s p => true
  | .Name t pos, .DictComp _ _ _ s p => true
  | _, _ => false
theorem swp1_none {env : PySem.Env} {tg x : Expr} {l : Nat} (hk : env.scope.kind = .function) (h : swp1 env.scope tg x = false) : swapsWithSole [tg] x l env = pure false := by
  show swapsWith x (some tg) l env = pure false
  cases x <;> first | rfl | skip
  · rename_i elt gs s p
    cases tg <;> first | rfl | skip
    rename_i t pos
    have hb : (env.blockKind == .function) = true := by unfold Env.blockKind; rw [hk]; rfl
    have e : swapsWith (.ListComp elt gs s p) (some (.Name t pos)) l env = pure (env.blockKind == .function && env.kindOf t == some .local && pos.line == p.line && !(s.names.any fun (n, k) => n == t && (k == .local || k == .cell))) := rfl
    rw [e, hb, Bool.true_and]
    congr 1
    have e2 : (env.kindOf t == some .local) = decide (env.scope.names.lookup t = some .local) := by
      show (env.scope.names.lookup t == some NameKind.local) = _
      by_cases q : env.scope.names.lookup t = some .local
      · rw [q]; rfl
      · rw [decide_eq_false q]
        exact beq_eq_false_iff_ne.mpr q
    rw [e2]
    exact h
  · cases tg <;> first | rfl | exact absurd h (by simp [swp1])
  · cases tg <;> first | rfl | exact absurd h (by simp [swp1])
def noComp : Expr → Bool
  | .ListComp .. => false
  | .SetComp .. => false
  | .DictComp .. => false
  | _ => true
theorem noComp_drop {x : Expr} {t : Option Expr} {l : Nat} {env : PySem.Env} (h : noComp x = true) : swapsWith x t l env = pure false := by
  cases x <;> first | rfl | exact absurd h (by simp [noComp])
mutual
def chkS (c : Sc) : MS → Stmt → Bool
  | .asg t e, st => match st with
    | .Assign [tg] x pos => !(swp2 c.sc tg x) && chkG c false t tg && chkE c e x
    | _ => false
  | .par is es, st => match st with
    | .Assign [.Tuple [.Name x px, .Name y py] kt pt] (.Tuple vs k2 pt2) pos => (match is with
      | [i, j] => decide (c.N[i]? = some x) && decide (c.N[j]? = some y) && decide (i ≠ j) && locB true c.sc x && locB true c.sc y && swp2 c.sc (.Tuple [.Name x px, .Name y py] kt pt) (.Tuple vs k2 pt2) && !(vs.all (constantsAlone 8)) && decide (swNames c.sc [.Name x px, .Name y py] = [x, y]) && decide (vs.length = 2) && chkEs c es vs
      | _ => false)
    | .Assign [.Tuple [.Name x px, .Name y py, .Name z pz] kt pt] (.Tuple vs k2 pt2) pos => (match is with
      | [i, j, l] => decide (c.N[i]? = some x) && decide (c.N[j]? = some y) && decide (c.N[l]? = some z) && decide (i ≠ j) && decide (i ≠ l) && decide (j ≠ l) && locB true c.sc x && locB true c.sc y && locB true c.sc z && swp2 c.sc (.Tuple [.Name x px, .Name y py, .Name z pz] kt pt) (.Tuple vs k2 pt2) && !(vs.all (constantsAlone 8)) &&
        decide (swNames c.sc [.Name x px, .Name y py, .Name z pz] = [x, y, z]) && decide (vs.length = 3) && chkEs c es vs
      | _ => false)
    | _ => false
  | .expr e, st => match st with
    | .Expr x pos => noComp x && chkE c e x
    | _ => false
  | .ret e, st => match st with
    | .Return (some x) _ => chkE c e x
    | _ => false
  | .retN, st => match st with
    | .Return none _ => true
    | _ => false
  | .ifs t a b, st => match st with
    | .If x p q _ => chkE c t x && chkSs c a p && chkSs c b q
    | _ => false
  | .for t src b, st => match st with
    | .For tg it p [] _ => noSet it && chkI c tg src it && chkG c false t tg && chkSs c b p
    | _ => false
  | .while t b, st => match st with
    | .While x p [] _ => chkE c t x && chkSs c b p
    | _ => false
  | .brk, st => match st with
    | .Break _ => true
    | _ => false
  | .cnt, st => match st with
    | .Continue _ => true
    | _ => false
  | .pass, st => match st with
    | .Pass _ => true
    | .Expr (.Constant (.str _) _ _) _ => true
    | _ => false
  | .never, _ => true
def chkSs (c : Sc) : MSs → List Stmt → Bool
  | .nil, sts => match sts with
    | [] => true
    | _ => false
  | .cons a r, sts => match sts with
    | st :: sts => chkS c a st && chkSs c r sts
    | [] => false
  | .frz _ r, sts => chkSs c r sts
end
end G

namespace G
open PySem PySem.Spec PyProof.Rows L2
mutual
theorem deq_eq : ∀ {x y : D}, deq x y = true → x = y
  | .none, .none, _ => rfl
  | .bool a, .bool b, h => by rw [show a = b from by simpa [deq] using h]
  | .int a, .int b, h => by rw [show a = b from by simpa [deq] using h]
  | .str a, .str b, h => by rw [show a = b from by simpa [deq] using h]
  | .list a, .list b, h => by rw [deqs_eq (show deqs a b = true from by simpa [deq] using h)]
  | .tuple a, .tuple b, h => by rw [deqs_eq (show deqs a b = true from by simpa [deq] using h)]
  | .none, .bool _, h => by simp [deq] at h
  | .none, .int _, h => by simp [deq] at h
  | .none, .str _, h => by simp [deq] at h
  | .none, .list _, h => by simp [deq] at h
  | .none, .tuple _, h => by simp [deq] at h
  | .none, .dict _, h => by simp [deq] at h
  | .bool _, .none, h => by simp [deq] at h
  | .bool _, .int _, h => by simp [deq] at h
  | .bool _, .str _, h => by simp [deq] at h
  | .bool _, .list _, h => by simp [deq] at h
  | .bool _, .tuple _, h => by simp [deq] at h
  | .bool _, .dict _, h => by simp [deq] at h
  | .int _, .none, h => by simp [deq] at h
  | .int _, .bool _, h => by simp [deq] at h
  | .int _, .str _, h => by simp [deq] at h
  | .int _, .list _, h => by simp [deq] at h
  | .int _, .tuple _, h => by simp [deq] at h
  | .int _, .dict _, h => by simp [deq] at h
  | .str _, .none, h => by simp [deq] at h
  | .str _, .bool _, h => by simp [deq] at h
  | .str _, .int _, h => by simp [deq] at h
  | .str _, .list _, h => by simp [deq] at h
  | .str _, .tuple _, h => by simp [deq] at h
  | .str _, .dict _, h => by simp [deq] at h
  | .list _, .none, h => by simp [deq] at h
  | .list _, .bool _, h => by simp [deq] at h
  | .list _, .int _, h => by simp [deq] at h
  | .list _, .str _, h => by simp [deq] at h
  | .list _, .tuple _, h => by simp [deq] at h
  | .list _, .dict _, h => by simp [deq] at h
  | .tuple _, .none, h => by simp [deq] at h
  | .tuple _, .bool _, h => by simp [deq] at h
  | .tuple _, .int _, h => by simp [deq] at h
  | .tuple _, .str _, h => by simp [deq] at h
  | .tuple _, .list _, h => by simp [deq] at h
  | .tuple _, .dict _, h => by simp [deq] at h
  | .dict _, .none, h => by simp [deq] at h
  | .dict _, .bool _, h => by simp [deq] at h
  | .dict _, .int _, h => by simp [deq] at h
  | .dict _, .str _, h => by simp [deq] at h
  | .dict _, .list _, h => by simp [deq] at h
  | .dict _, .tuple _, h => by simp [deq] at h
  | .dict _, .dict _, h => by simp [deq] at h
theorem deqs_eq : ∀ {xs ys : List D}, deqs xs ys = true → xs = ys
  | [], [], _ => rfl
  | x :: xs, y :: ys, h => by
    have h' : deq x y = true ∧ deqs xs ys = true := by simpa [deqs] using h
    rw [deq_eq h'.1, deqs_eq h'.2]
  | [], _ :: _, h => by simp [deqs] at h
  | _ :: _, [], h => by simp [deqs] at h
end
/-! ### truth of composed values -/
theorem cTru_and (a b : Den) : cTru (cAnd a b) = cAndT (cTru a) (cTru b) := by
  funext env S
  simp only [cTru, cAnd, cAndT]
  cases a env S with
  | none => rfl
  | some r =>
    cases r with
    | er x S1 => rfl
    | ok v S1 =>
      simp only [bnd_ok]
      cases e : (view S1 v).bind tru with
      | none => rfl
      | some k =>
        cases k with
        | true => simp
        | false => simp [e]
theorem cTru_or (a b : Den) : cTru (cOr a b) = cOrT (cTru a) (cTru b) := by
  funext env S
  simp only [cTru, cOr, cOrT]
  cases a env S with
  | none => rfl
  | some r =>
    cases r with
    | er x S1 => rfl
    | ok v S1 =>
      simp only [bnd_ok]
      cases e : (view S1 v).bind tru with
      | none => rfl
      | some k =>
        cases k with
        | false => simp
        | true => simp [e]
theorem cTru_not (a : Den) : cTru (cOp1 notD a) = cNotT (cTru a) := by
  funext env S
  simp only [cTru, cOp1, cNotT]
  cases a env S with
  | none => rfl
  | some r =>
    cases r with
    | er x S1 => rfl
    | ok v S1 =>
      simp only [bnd_ok]
      cases hv : view S1 v with
      | none => rfl
      | some x =>
        simp only [Option.bind_some, notD]
        cases e : tru x with
        | none => rfl
        | some k => simp [tru]
theorem cTru_ite (t : DenT) (a b : Den) : cTru (cIte t a b) = cIteT t (cTru a) (cTru b) := by
  funext env S
  simp only [cTru, cIte, cIteT]
  cases t env S with
  | none => rfl
  | some r =>
    cases r with
    | er x S1 => rfl
    | ok k S1 => cases k <;> simp
section
variable {X : Cx} {W : XW}
/-! ### chains -/
theorem chain_imp {f g : D → D → Option D} {r r' : R2} (hi : Imp2 X.K f r) (hj : Imp2 X.K g r') (hb : ∀ x y z, f x y = some z → ∃ k, z = .bool k) {a b c : Den} {σ : L2.St} {H : Hp} {Q : VK} (h : tD X.K W (cChain f g a b c) σ H Q) : tChain r r' (tD X.K W a) (tD X.K W b) (tD X.K W c) σ H Q := by
  obtain ⟨F, ι, env, S, q, rel, re, h, p⟩ := h
  refine tG_bnd rel re h p fun F1 ι1 S1 H1 u x e1 rel1 re1 ru h p1 => ?_
  refine tG_bnd rel1 re1 h p1 fun F2 ι2 S2 H2 v y e2 rel2 re2 rv h p2 => ?_
  cases hx : view S2 x with
  | none => simp [hx] at h
  | some dx =>
    cases hy : view S2 y with
    | none => simp [hx, hy] at h
    | some dy =>
      cases hz : f dx dy with
      | none => simp [hx, hy, hz] at h
      | some dz =>
        obtain ⟨k, rfl⟩ := hb _ _ _ hz
        simp only [hx, hy, hz, Option.bind_some] at h
        refine hi F2 ι2 S2 H2 u v dx dy _ _ rel2 (vw_of rel2 (ru.mono e2) hx) (vw_of rel2 rv hy) hz fun F' H' w s' rel' dp => ?_
        cases dp
        refine ⟨k, rfl, ?_⟩
        have xs' : Ext F2 ι2 F' ι2 := ⟨s', List.prefix_refl _⟩
        cases k with
        | false =>
          cases h
          exact iteF (p2 F' ι2 H' _ xs' rel' (.d (.bl _)))
        | true =>
          refine iteT (tG_bnd rel' (re2.mono xs') h (p2.ext xs') fun F3 ι3 S3 H3 w x3 e3 rel3 re3 rw3 h p3 => ?_)
          cases hy3 : view S3 y with
          | none => simp [hy3] at h
          | some dy3 =>
            cases hw3 : view S3 x3 with
            | none => simp [hy3, hw3] at h
            | some dw =>
              cases hg : g dy3 dw with
              | none => simp [hy3, hw3, hg] at h
              | some z =>
                simp only [hy3, hw3, hg, Option.bind_some, givD_some, Option.some.injEq] at h
                subst h
                exact hj F3 ι3 S3 H3 v w dy3 dw z Q rel3 (vw_of rel3 ((rv.mono xs').mono e3) hy3) (vw_of rel3 rw3 hw3) hg fun F' H' w s' rel' dp => p3 F' ι3 H' w ⟨s', List.prefix_refl _⟩ rel' (.d dp)
theorem chain_bool {f g : D → D → Option D} (hb : ∀ x y z, g x y = some z → ∃ k, z = .bool k) {a b c : Den} (env S v S1) (h : cChain f g a b c env S = some (.ok v S1)) : ∃ k, v = .d (.bool k) := by
  unfold cChain at h
  cases ea : a env S with
  | none => rw [ea] at h; cases h
  | some ra =>
    rw [ea] at h
    cases ra with
    | er x S2 => cases h
    | ok va S2 =>
      simp only [bnd_ok] at h
      cases eb : b env S2 with
      | none => rw [eb] at h; cases h
      | some rb =>
        rw [eb] at h
        cases rb with
        | er x S3 => cases h
        | ok vb S3 =>
          simp only [bnd_ok] at h
          split at h
          · cases ec : c env S3 with
            | none => rw [ec] at h; cases h
            | some rc =>
              rw [ec] at h
              cases rc with
              | er x S4 => cases h
              | ok vc S4 =>
                simp only [bnd_ok] at h
                cases hy : view S4 vb with
                | none => simp [hy] at h
                | some y =>
                  cases hw : view S4 vc with
                  | none => simp [hy, hw] at h
                  | some w =>
                    cases hg : g y w with
                    | none => simp [hy, hw, hg] at h
                    | some z =>
                      obtain ⟨k, rfl⟩ := hb _ _ _ hg
                      simp only [hy, hw, hg, Option.bind_some, givD_some, Option.some.injEq, R.ok.injEq] at h
                      exact ⟨k, h.1.symm⟩
          · cases h
            exact ⟨_, rfl⟩
          · cases h
/-! ### append -/
theorem dpAll_set {K : PySem.W.Frag} {F : Hp} {v : V} {x : D} : ∀ {xs : List D} {vs : List V}, DpAll K F vs xs → Dp K F v x → ∀ j, DpAll K F (vs.set j v) (xs.set j x)
  | [], _, h, _, _ => by cases h; exact .nil
  | _ :: _, _, h, d, 0 => by
    cases h with
    | cons h1 h2 => exact .cons d h2
  | _ :: _, _, h, d, j + 1 => by
    cases h with
    | cons h1 h2 => exact .cons h1 (dpAll_set h2 d j)
theorem cell_lst {K : PySem.W.Frag} {F H : Hp} {ι : List Addr} {S : Store} (r : Rel K F ι S H) {n : Nat} {a : Addr} {xs : List D} (h1 : S[n]? = some (.lst xs)) (h2 : ι[n]? = some a) : F a = none ∧ ∃ vs, H a = some (.lst vs) ∧ DpAll K F vs xs := r.cell n _ a h1 h2
/-- a live cell is written -/
theorem Rel.put {K : PySem.W.Frag} {F H : Hp} {ι : List Addr} {S : Store} (r : Rel K F ι S H) {n : Nat} {a : Addr} {o : HO} {c : Cell} (h2 : ι[n]? = some a) (hF : F a = none) (hc : CellOk K F (upd H a o) a c) : Rel K F ι (S.set n c) (upd H a o) := by
  refine ⟨fun b u e => ?_, r.nd, by simp [r.len], fun b hb => ?_, fun m c' b h1 h3 => ?_⟩
  · have hne : b ≠ a := fun z => by rw [z, hF] at e; cases e
    rw [upd_ne hne]; exact r.same _ _ e
  · by_cases hb' : b = a
    · rw [hb', upd_same]; simp
    · rw [upd_ne hb']; exact r.tr b hb
  · by_cases hm : m = n
    · subst hm
      rw [h2] at h3
      cases h3
      have hlt : m < S.length := by rw [← r.len]; exact (List.getElem?_eq_some_iff.mp h2).1
      rw [List.getElem?_set_self hlt] at h1
      cases h1
      exact hc
    · rw [List.getElem?_set_ne (Ne.symm hm)] at h1
      have nb : b ≠ a := fun z => hm (nodup_addr r.nd (z ▸ h3) h2)
      have q := r.cell m c' b h1 h3
      cases c' with
      | dead => trivial
      | lst ys =>
        obtain ⟨q0, ws, q1, q2⟩ := q
        exact ⟨q0, ws, by rw [upd_ne nb]; exact q1, q2⟩
      | dct kvs =>
        obtain ⟨q0, ks, q1, q2⟩ := q
        exact ⟨q0, ks, by rw [upd_ne nb]; exact q1, q2⟩
theorem se_app {o e : Expr} {apos cpos : Pos} {f g : Den} (ho : PE X o (tD X.K W f)) (he : PE X e (tD X.K W g)) (hb : noCall0 o = true) (hl : (apos.endLine == cpos.line) = true) (hs : noStar e = true) :
    PE X (.Call (.Attribute o "append" apos) [e] [] cpos) (tD X.K W (cApp f g)) :=
  (pe_bm PySem.F.plainAttrs_list PySem.F.slot_list_append PySem.F.type_list_append mt_append ho (pa_cons he pa_nil (noStar_each hs)) (noCall0_base hb) (by rw [noStar_each hs]; rfl) hl (noStar_each hs) (noStar_any cpos X.env rfl)).of fun σ H Q q => by
    obtain ⟨F, ι, env, S, r, rel, re, h, p⟩ := q
    refine tG_bnd rel re h p fun F1 ι1 S1 H1 u x e1 rel1 re1 ru h p1 => ?_
    cases ru with
    | d _ => cases h
    | tup _ _ => cases h
    | @loc n a ha =>
      simp only at h
      split at h
      · rename_i ys hys
        obtain ⟨_, vs, hH, _⟩ := cell_lst rel1 hys ha
        refine ⟨.inl ⟨rfl, _, SqL.of hH⟩, ?_⟩
        refine tG_bnd rel1 re1 h p1 fun F2 ι2 S2 H2 v y e2 rel2 re2 rv h p2 => ?_
        split at h
        · split at h
          · rename_i xs hxs
            split at h <;> cases h
            have hl : xs.length < sizeLine := by assumption
            have ha2 := pre_get e2.pre ha
            obtain ⟨hF2, ws, hH2, dw⟩ := cell_lst rel2 hxs ha2
            cases rv with
            | d rv =>
              exact ⟨a, ws, v, rfl, rfl, hH2, by rw [dpAll_length dw]; exact hl, p2 F2 ι2 _ _ (Ext.refl _ _) (rel2.put ha2 hF2 ⟨hF2, ws ++ [v], upd_same, dpAll_append dw (.cons rv .nil)⟩) (.d .non)⟩
          · cases h
        · cases h
      · cases h
theorem se_addL {a b : Expr} {pos : Pos} {f g : Den} (ha : PE X a (tD X.K W f)) (hb : PE X b (tD X.K W g)) : PE X (.BinOp a .Add b pos) (tD X.K W (cAddL f g)) := (pe_op op_catG ha hb).of fun σ H Q q => by
  obtain ⟨F, ι, env, S, r, rel, re, h, p⟩ := q
  refine tG_bnd rel re h p fun F1 ι1 S1 H1 u v e1 rel1 re1 ru h p1 => ?_
  refine tG_bnd rel1 re1 h p1 fun F2 ι2 S2 H2 w y e2 rel2 re2 rw' h p2 => ?_
  split at h
  · rename_i xs ys hv hu
    by_cases hl : xs.length + ys.length ≤ sizeLine
    case neg => rw [if_neg hl] at h; cases h
    rw [if_pos hl] at h
    cases h
    obtain ⟨a1, vs, rfl, h1, d1⟩ := (vw_of rel2 (ru.mono e2) hv).list rel2.same
    obtain ⟨a2, ws, rfl, h2, d2⟩ := (vw_of rel2 rw' hu).list rel2.same
    refine ⟨a1, a2, vs, ws, rfl, rfl, h1, h2, by rw [dpAll_length d1, dpAll_length d2]; exact hl, fun q hq => p2 F2 (ι2 ++ [q]) _ _ ⟨Same.refl _, List.prefix_append _ _⟩ (rel2.new hq ⟨rel2.same.free hq, vs ++ ws, upd_same, dpAll_append d1 d2⟩) (.loc ?_)⟩
    rw [List.getElem?_append_right (by rw [rel2.len]; omega), rel2.len]
    simp
  · cases h
/-! ### dicts -/
theorem cell_dct {K : PySem.W.Frag} {F H : Hp} {ι : List Addr} {S : Store} (r : Rel K F ι S H) {n : Nat} {a : Addr} {kvs : List (Key × D)} (h1 : S[n]? = some (.dct kvs)) (h2 : ι[n]? = some a) : F a = none ∧ ∃ ks, H a = some (.dK ks) ∧ KvR K F ks kvs := r.cell n _ a h1 h2
theorem keyOf_vw {K : PySem.W.Frag} {F H : Hp} {u : V} {x : D} {k : Key} (h : VW K F H u x) (e : keyOf x = some k) : u = kV k := by
  cases x <;> simp only [keyOf] at e <;> cases e
  · exact h.int
  · exact h.str
theorem noSl_of {b : Expr} (h : plainSub b = true) : NoSl b := by
  intro ov iv
  cases b <;> first | rfl | exact absurd h (by simp [plainSub])
theorem se_dget {o i : Expr} {pos : Pos} {f g : Den} (hu : X.A.units + 1 < cLine) (hs : plainSub i = true) (ho : PE X o (tD X.K W f)) (hi : PE X i (tD X.K W g)) : PE X (.Subscript o i pos) (tD X.K W (cDget f g)) := (pe_dget hu ho hi (noSl_of hs)).of fun σ H Q q => by
  obtain ⟨F, ι, env, S, r, rel, re, h, p⟩ := q
  refine tG_bnd rel re h p fun F1 ι1 S1 H1 u x e1 rel1 re1 ru h p1 => ?_
  refine tG_bnd rel1 re1 h p1 fun F2 ι2 S2 H2 v y e2 rel2 re2 rv h p2 => ?_
  split at h
  · rename_i n
    split at h
    · rename_i kvs hx
      cases ru with
      | loc ha =>
        have ha2 := pre_get e2.pre ha
        obtain ⟨hF, ks, hH, kr⟩ := cell_dct rel2 hx ha2
        cases hy : view S2 y with
        | none => simp [hy] at h
        | some dy =>
          cases hk : keyOf dy with
          | none => simp [hy, hk] at h
          | some k =>
            cases hg : getK kvs k with
            | none => simp [hy, hk, hg] at h
            | some d =>
              simp only [hy, hk, hg, Option.bind_some, givD_some, Option.some.injEq] at h
              subst h
              rcases kr.get k with ⟨_, g2⟩ | ⟨w, d', g1, g2, g3⟩
              · rw [g2] at hg; cases hg
              · rw [g2] at hg
                cases hg
                have := keyOf_vw (vw_of rel2 rv hy) hk
                subst this
                exact ⟨_, w, rfl, by rw [← g1]; exact DGet.k hH, p2 F2 ι2 H2 w (Ext.refl _ _) rel2 (.d g3)⟩
    · cases h
  · cases h
theorem din_imp {n : Bool} {f g : Den} {σ : L2.St} {H : Hp} {Q : VK} (q : tD X.K W (cDin n f g) σ H Q) : tD X.K W f σ H fun y H1 => tD X.K W g σ H1 fun x H2 => ∃ a o, x = .ref a ∧ DGet H2 a y o ∧ Q (.bl (if n then !o.isSome else o.isSome)) H2 := by
  obtain ⟨F, ι, env, S, r, rel, re, h, p⟩ := q
  refine tG_bnd rel re h p fun F1 ι1 S1 H1 u x e1 rel1 re1 ru h p1 => ?_
  refine tG_bnd rel1 re1 h p1 fun F2 ι2 S2 H2 v y e2 rel2 re2 rv h p2 => ?_
  split at h
  · rename_i n
    split at h
    · rename_i kvs hx
      cases rv with
      | loc ha =>
        obtain ⟨hF, ks, hH, kr⟩ := cell_dct rel2 hx ha
        cases hy : view S1 x with
        | none => simp [hy] at h
        | some dy =>
          cases hk : keyOf dy with
          | none => simp [hy, hk] at h
          | some k =>
            simp only [hy, hk, Option.bind_some, Option.map_some, givD_some, Option.some.injEq] at h
            subst h
            have := keyOf_vw (vw_of rel1 ru hy) hk
            subst this
            refine ⟨_, valV ks k, rfl, DGet.k hH, ?_⟩
            have e : (valV ks k).isSome = (getK kvs k).isSome := by
              rcases kr.get k with ⟨g1, g2⟩ | ⟨w, d', g1, g2, g3⟩ <;> rw [g1, g2] <;> rfl
            rw [e]
            exact p2 F2 ι2 H2 _ (Ext.refl _ _) rel2 (.d (.bl _))
    · cases h
  · cases h
theorem se_din {i o : Expr} {pos : Pos} {f g : Den} {n : Bool} {op : CmpOp} (hu : X.A.units + 1 < cLine) (hop : op = if n then CmpOp.NotIn else CmpOp.In) (hs : behindInMarks op o = false) (hi : PE X i (tD X.K W f)) (ho : PE X o (tD X.K W g)) : PE X (.Compare i [op] [o] pos) (tD X.K W (cDin n f g)) := by
  subst hop
  cases n with
  | true => exact (pe_cmp (pc_dnotin hu hi ho) hs).of fun σ H Q q => din_imp q
  | false => exact (pe_cmp (pc_din hu hi ho) hs).of fun σ H Q q => din_imp q
theorem din_bool {n : Bool} {f g : Den} (env S v S1) (h : cDin n f g env S = some (.ok v S1)) : ∃ k, v = .d (.bool k) := by
  unfold cDin at h
  cases e1 : f env S with
  | none => rw [e1] at h; cases h
  | some q1 =>
    cases q1 with
    | er x S' => rw [e1] at h; cases h
    | ok x S' =>
      rw [e1, bnd_ok] at h
      cases e2 : g env S' with
      | none => rw [e2] at h; cases h
      | some q2 =>
        cases q2 with
        | er x S' => rw [e2] at h; cases h
        | ok y S'' =>
          rw [e2, bnd_ok] at h
          split at h
          · split at h
            · cases hk : (view S' x).bind keyOf with
              | none => rw [hk] at h; cases h
              | some k =>
                rw [hk, Option.map_some, givD_some] at h
                cases h
                exact ⟨_, rfl⟩
            · cases h
          · cases h
theorem st_din {i o : Expr} {pos : Pos} {f g : Den} {n : Bool} {op : CmpOp} (hu : X.A.units + 1 < cLine) (hop : op = if n then CmpOp.NotIn else CmpOp.In) (hs : behindInMarks op o = false) (hi : PE X i (tD X.K W f)) (ho : PE X o (tD X.K W g)) : PT X (.Compare i [op] [o] pos) (tT X.K W (cTru (cDin n f g))) := by
  subst hop
  refine st_bool ?_ din_bool
  cases n with
  | true => exact (pt_cmp (pc_dnotin hu hi ho) hs).of fun σ H Q q => din_imp q
  | false => exact (pt_cmp (pc_din hu hi ho) hs).of fun σ H Q q => din_imp q
theorem se_dnew {pos : Pos} : PE X (.Dict [] [] pos) (tD X.K W cDnew) := pe_dnewK.of fun σ H Q q => by
  obtain ⟨F, ι, env, S, r, rel, re, h, p⟩ := q
  cases h
  refine fun a ha => p F (ι ++ [a]) _ _ ⟨Same.refl _, List.prefix_append _ _⟩ (rel.new ha ⟨rel.same.free ha, [], upd_same, .nil⟩) (.loc ?_)
  rw [List.getElem?_append_right (by rw [rel.len]; omega), rel.len]
  simp
theorem sg_dput {o i : Expr} {pos : Pos} {f g : Den} (hu : X.A.units + 1 < cLine) (ho : PE X o (tD X.K W f)) (hi : PE X i (tD X.K W g)) (hs : plainSub i = true) : PG X (.Subscript o i pos) (tGt X.K W (gD f g)) := ⟨fun pins s σ H v u Q I r q => by
  obtain ⟨F, ι, env, S, w, q, rel, re, rw', h', p⟩ := q
  refine (pg_sub ho hi (set_dict hu) (by intro v; cases i <;> first | rfl | exact absurd hs (by simp [plainSub]))).run pins s σ H v u Q I r ?_
  refine tG_bnd rel re h' p fun F1 ι1 S1 H1 ov x e1 rel1 re1 ru h p1 => ?_
  refine tG_bnd rel1 re1 h p1 fun F2 ι2 S2 H2 iv y e2 rel2 re2 rv h p2 => ?_
  split at h
  · rename_i n z
    split at h
    · rename_i kvs hx
      split at h
      · rename_i k hk
        split at h <;> cases h
        rename_i hl
        have ru2 := ru.mono e2
        have rw2 := (rw'.mono e1).mono e2
        cases ru2 with
        | @loc _ a ha =>
          cases rw2 with
          | d rw2 =>
            obtain ⟨hF, ks, hH, kr⟩ := cell_dct rel2 hx ha
            cases hy : view S2 y with
            | none => rw [hy] at hk; cases hk
            | some dy =>
              rw [hy] at hk
              have := keyOf_vw (vw_of rel2 rv hy) hk
              subst this
              exact ⟨a, _, rfl, DPut.k hH (by rw [kr.len]; exact hl), p2 F2 ι2 _ σ (Ext.refl _ _) (rel2.put ha hF ⟨hF, _, upd_same, kr.put k rw2⟩) re2⟩
      · cases h
    · cases h
  · cases h⟩
/-- values, each with its tree -/
inductive PVs (X : Cx) (W : XW) (fs : String → Fn) : MEs → List Expr → Prop where
  | nil : PVs X W fs .nil []
  | cons {a : ME} {r : MEs} {e : Expr} {es : List Expr} (h : PE X e (tD X.K W (evE fs a))) (t : PVs X W fs r es) : PVs X W fs (.cons a r) (e :: es)
def MEs.len : MEs → Nat
  | .nil => 0
  | .cons _ r => r.len + 1
/-- a display with written keys -/
noncomputable def tPs (K : PySem.W.Frag) (W : XW) (fs : String → Fn) : List Key → MEs → List (TE × TE)
  | k :: ks, .cons a r => (tC (kV k), tD K W (evE fs a)) :: tPs K W fs ks r
  | _, _ => []
theorem tPs_imp {K : PySem.W.Frag} {fs : String → Fn} : ∀ (ks : List Key) (es : MEs) {F H : Hp} {ι : List Addr} {S : Store} {σ : L2.St} {env : Env} {r : R (List Val)} {Q : List (V × V) → Hp → Prop}, es.len = ks.length → Rel K F ι S H → REnv K F ι σ env → evEs fs es env S = some r →
    (∀ x S', r = .er x S' → ∀ F' ι' H', Ext F ι F' ι' → Rel K F' ι' S' H' → W x F' ι' S' H') →
    (∀ vs S', r = .ok vs S' → ∀ F' ι' H' us, Ext F ι F' ι' → Rel K F' ι' S' H' → RVs K F' ι' us vs → Q ((ks.zip us).map fun p => (kV p.1, p.2)) H') → tPairs (tPs K W fs ks es) σ H Q
  | [], .nil, F, H, ι, S, σ, env, r, Q, hl, rel, re, h, he, hq => by
    rw [evEs] at h
    cases h
    exact hq [] S rfl F ι H [] (Ext.refl _ _) rel .nil
  | k :: ks, .nil, F, H, ι, S, σ, env, r, Q, hl, rel, re, h, he, hq => by simp [MEs.len] at hl
  | [], .cons a es, F, H, ι, S, σ, env, r, Q, hl, rel, re, h, he, hq => by simp [MEs.len] at hl
  | k :: ks, .cons a es, F, H, ι, S, σ, env, r, Q, hl, rel, re, h, he, hq => by
    have hl' : es.len = ks.length := by simpa [MEs.len] using hl
    rw [evEs] at h
    unfold cCons at h
    show tD K W (evE fs a) σ H fun y H2 => tPairs (tPs K W fs ks es) σ H2 fun ps H3 => Q ((kV k, y) :: ps) H3
    cases e1 : evE fs a env S with
    | none => rw [e1] at h; cases h
    | some q1 =>
      rw [e1] at h
      cases q1 with
      | er x S1 =>
        cases h
        exact ⟨F, ι, env, S, .er x S1, rel, re, e1, he x S1 rfl⟩
      | ok v S1 =>
        rw [bnd_ok] at h
        refine ⟨F, ι, env, S, .ok v S1, rel, re, e1, fun F1 ι1 H1 u x1 rel1 ru => ?_⟩
        cases e2 : evEs fs es env S1 with
        | none => rw [e2] at h; cases h
        | some q2 =>
          rw [e2] at h
          refine tPs_imp ks es hl' rel1 (re.mono x1) e2 (fun x S' hx F' ι' H' x' rel' => ?_) fun vs S' hv F' ι' H' us x' rel' rus => ?_
          · subst hx
            cases h
            exact he x S' rfl F' ι' H' (x1.trans x') rel'
          · subst hv
            cases h
            exact hq (v :: vs) S' rfl F' ι' H' (u :: us) (x1.trans x') rel' (.cons (ru.mono x') rus)
theorem pps_of {fs : String → Fn} {pos : Pos} : ∀ (ks : List Key) (es : MEs) (qs : List (Option Expr)) (vs : List Expr), keysB ks qs = true → vs.length = ks.length → es.len = vs.length → (∀ (a : ME) (e : Expr), True) → PVs X W fs es vs → PPs X pos qs vs (tPs X.K W fs ks es)
  | [], es, qs, vs, hk, hv, he, _, hp => by
    cases qs with
    | cons _ _ => cases hk
    | nil =>
      cases vs with
      | cons _ _ => cases hv
      | nil => exact pps_nil
  | k :: ks, es, qs, vs, hk, hv, he, hz, hp => by
    cases qs with
    | nil => cases hk
    | cons q qs =>
      cases vs with
      | nil => cases hv
      | cons v vs =>
        cases hp with
        | @cons a r _ _ h1 h2 =>
          simp only [keysB, Bool.and_eq_true] at hk
          have hr := pps_of (pos := pos) ks r qs vs hk.2 (by simpa using hv) (by simpa [MEs.len] using he) hz h2
          cases k with
          | inl i =>
            cases q with
            | none => simp [keyB] at hk
            | some q =>
              cases q <;> first | (simp [keyB] at hk; done) | skip
              rename_i c _ _
              cases c <;> first | (simp [keyB] at hk; done) | skip
              simp only [keyB, decide_eq_true_eq] at hk
              rw [← hk.1]
              exact pps_cons pe_int h1 hr
          | inr i =>
            cases q with
            | none => simp [keyB] at hk
            | some q =>
              cases q <;> first | (simp [keyB] at hk; done) | skip
              rename_i c _ _
              cases c <;> first | (simp [keyB] at hk; done) | skip
              simp only [keyB, decide_eq_true_eq] at hk
              rw [← hk.1]
              exact pps_cons pe_str h1 hr
theorem keysB_len : ∀ {ks : List Key} {qs : List (Option Expr)}, keysB ks qs = true → qs.length = ks.length ∧ qs.all (·.isSome) = true
  | [], [], _ => ⟨rfl, rfl⟩
  | [], _ :: _, h => by cases h
  | _ :: _, [], h => by cases h
  | k :: ks, q :: qs, h => by
    simp only [keysB, Bool.and_eq_true] at h
    obtain ⟨h1, h2⟩ := keysB_len h.2
    refine ⟨by simp [h1], ?_⟩
    rw [List.all_cons, h2]
    cases q with
    | none => cases k <;> simp [keyB] at h
    | some q => rfl
theorem zip_kvr {K : PySem.W.Frag} {F : Hp} : ∀ (ks : List Key) {us : List V} {xs : List D}, DpAll K F us xs → KvR K F (ks.zip us) (ks.zip xs)
  | [], _, _, _ => .nil
  | k :: ks, _, [], h => by cases h; exact .nil
  | k :: ks, _, x :: xs, h => by
    cases h with
    | cons h1 h2 => exact .cons ⟨rfl, h1⟩ (zip_kvr ks h2)
theorem se_ddsp {fs : String → Fn} {pos : Pos} {ks : List Key} {es : MEs} {qs : List (Option Expr)} {vs : List Expr} (hk : keysB ks qs = true) (h0 : 0 < ks.length) (h15 : ks.length ≤ 15) (hv : vs.length = ks.length) (he : es.len = vs.length) (hp : PVs X W fs es vs) :
    PE X (.Dict qs vs pos) (tD X.K W (cDdsp ks (evEs fs es))) := by
  obtain ⟨k1, k2⟩ := keysB_len hk
  refine (pe_disp (pps_of ks es qs vs hk hv he (fun _ _ => trivial) hp) k2 (by rw [k1, hv]) (by intro z; rw [z] at k1; simp at k1; omega) (by rw [k1]; exact h15)).of fun σ H Q q => ?_
  obtain ⟨F, ι, env, S, r, rel, re, h, p⟩ := q
  intro a ha
  have rel1 := rel.new ha (o := .dK []) (c := .dct []) ⟨rel.same.free ha, [], upd_same, .nil⟩
  have x1 : Ext F ι F (ι ++ [a]) := ⟨Same.refl _, List.prefix_append _ _⟩
  unfold cDdsp at h
  cases e1 : evEs fs es env (S ++ [.dct []]) with
  | none => rw [e1] at h; cases h
  | some q1 =>
    rw [e1] at h
    refine tPs_imp ks es (by rw [he, hv]) rel1 (re.mono x1) e1 (fun x S' hx F' ι' H' x' rel' => ?_) fun ws S' hw F' ι' H' us x' rel' rus => ?_
    · subst hx
      cases h
      exact p F' ι' H' (x1.trans x') rel'
    · subst hw
      rw [bnd_ok] at h
      split at h
      · rename_i xs hd hc
        split at h <;> cases h
        rename_i hxl
        have hι : ι'[S.length]? = some a := pre_get x'.pre (by rw [List.getElem?_append_right (by rw [rel.len]; exact Nat.le_refl _), rel.len]; simp)
        obtain ⟨hF, kk, hH, kr⟩ := cell_dct rel' hc hι
        cases kr
        have da := dats_dp rus hd
        have hul : us.length = ks.length := by rw [dpAll_length da]; exact hxl
        refine ⟨hH, ks.zip us, rfl, by rw [List.length_zip, hul]; omega, ?_⟩
        exact p F' ι' _ _ (x1.trans x') (rel'.put hι hF ⟨hF, _, upd_same, (zip_kvr ks da).merge .nil⟩) (.loc hι)
      · cases h
/-! ### a live list is frozen where a name holds it -/
theorem ss_frz {sts : List Stmt} {i : Nat} {b : DenS} (h : PSs X sts (tSt X.K W b)) : PSs X sts (tSt X.K W (cSeq (cFrzV i) b)) := h.of fun E σ H q => by
  obtain ⟨F, ι, env, S, r, rel, re, h, p⟩ := q
  unfold cSeq cFrzV at h
  split at h
  · rename_i n hn
    split at h
    · rename_i xs hx
      simp only [bnd_ok, thenS] at h
      obtain ⟨v, hv, rv⟩ := re.get i _ hn
      cases rv with
      | @loc _ a ha =>
        obtain ⟨hF, vs, hH, da⟩ := cell_lst rel hx ha
        have sF : Same F (upd F a (.lst vs)) := fun b o e => by rw [upd_ne (ne_of_none e hF)]; exact e
        have x1 : Ext F ι (upd F a (.lst vs)) ι := ⟨sF, List.prefix_refl _⟩
        have re1 := (re.mono x1).set (.d (.lst (SqL.of upd_same) (dpAll_mono sF _ _ da))) i
        have eσ : σ.set i (some (V.ref a)) = σ := by
          apply List.ext_getElem?
          intro j
          by_cases hj : i = j
          · subst hj
            rw [List.getElem?_set_self (List.getElem?_eq_some_iff.mp hv).1, hv]
          · rw [List.getElem?_set_ne hj]
        rw [eσ] at re1
        refine ⟨upd F a (.lst vs), ι, _, _, r, ⟨fun b o e => ?_, rel.nd, by simp [rel.len], rel.tr, fun m c b h1 h2 => ?_⟩, re1, h, p.ext x1⟩
        · by_cases hb : b = a
          · subst hb; rw [upd_same] at e; cases e; exact hH
          · rw [upd_ne hb] at e; exact rel.same _ _ e
        · by_cases hm : m = n
          · subst hm
            rw [List.getElem?_set_self (List.getElem?_eq_some_iff.mp hx).1] at h1
            cases h1
            trivial
          · rw [List.getElem?_set_ne (Ne.symm hm)] at h1
            have nb : b ≠ a := fun z => hm (nodup_addr rel.nd (z ▸ h2) ha)
            have q := rel.cell m c b h1 h2
            cases c with
            | dead => trivial
            | lst ys =>
              obtain ⟨q0, ws, q1, q2⟩ := q
              exact ⟨by rw [upd_ne nb]; exact q0, ws, q1, dpAll_mono sF _ _ q2⟩
            | dct kvs =>
              obtain ⟨q0, ks, q1, q2⟩ := q
              exact ⟨by rw [upd_ne nb]; exact q0, ks, q1, Paired.mapP q2 fun p q z => ⟨z.1, dp_mono sF _ _ z.2⟩⟩
    · cases h
  · exact ⟨F, ι, env, S, r, rel, re, h, p⟩
/-! ### a store into a live list -/
theorem sg_sub {o i : Expr} {pos : Pos} {f g : Den} (ho : PE X o (tD X.K W f)) (hi : PE X i (tD X.K W g)) (hs : plainSub i = true) : PG X (.Subscript o i pos) (tGt X.K W (gL f g)) := ⟨fun pins s σ H v u Q I r q => by
  obtain ⟨F, ι, env, S, w, q, rel, re, rw', h', p⟩ := q
  refine (pg_sub ho hi set_list (by intro v; cases i <;> first | rfl | exact absurd hs (by simp [plainSub]))).run pins s σ H v u Q I r ?_
  refine tG_bnd rel re h' p fun F1 ι1 S1 H1 ov x e1 rel1 re1 ru h p1 => ?_
  refine tG_bnd rel1 re1 h p1 fun F2 ι2 S2 H2 iv y e2 rel2 re2 rv h p2 => ?_
  split at h
  · rename_i n k y
    split at h
    · rename_i xs hx
      split at h
      · rename_i j hj
        cases h
        have ru2 := ru.mono e2
        have rw2 := (rw'.mono e1).mono e2
        cases ru2 with
        | @loc _ a ha =>
          cases rv with
          | d rv =>
            cases rv
            cases rw2 with
            | d rw2 =>
              obtain ⟨hF, vs, hH, da⟩ := cell_lst rel2 hx ha
              refine ⟨a, vs, _, j, rfl, rfl, hH, by rw [dpAll_length da]; exact hj, p2 F2 ι2 _ σ (Ext.refl _ _) (rel2.put ha hF ⟨hF, vs.set j v, upd_same, dpAll_set da rw2 j⟩) re2⟩
      · cases h
    · cases h
  · cases h⟩
/-! ### comprehensions -/
theorem cYes_ok : PTs X [] (tT X.K W cYes) := ⟨fun pins s σ H Q I q => pts_nil.run pins s σ H Q I (by
  obtain ⟨F, ι, env, S, r, rel, re, h, p⟩ := q
  cases h
  exact p F ι H true (Ext.refl _ _) rel rfl)⟩
def gNs : List Nat → TGs
  | [] => gNil
  | i :: r => gCons (gName i) (gNs r)
theorem pgs_names {sc : Scope} {own : List Nat} (hN : X.N.Nodup) (hsc : X.env.scope = sc) : ∀ {is : List Nat} {es : List Expr}, chkNs X.N sc own is es = true → PGs X es (gNs is) ∧ (assignEach es X.env).length = is.length ∧ (assignEach es X.env).findIdx? (·.1) = none ∧ ∀ i ∈ is, i ∈ own
  | [], [], _ => ⟨pgs_nil, rfl, rfl, fun _ h => nomatch h⟩
  | i :: is, .Name x p :: es, h => by
    simp only [chkNs, Bool.and_eq_true, decide_eq_true_eq] at h
    obtain ⟨⟨⟨h1, h2⟩, h3⟩, h4⟩ := h
    obtain ⟨k1, k2, k3, k4⟩ := pgs_names hN hsc h4
    subst hsc
    refine ⟨pgs_cons (pg_name hN h1 (.inl h2) (.inr h2)) k1 rfl, ?_, ?_, fun j hj => ?_⟩
    · show (assignEach es X.env).length + 1 = is.length + 1
      rw [k2]
    · show ((false, assign (.Name x p) X.env) :: assignEach es X.env).findIdx? (·.1) = none
      rw [List.findIdx?_cons, k3]
      rfl
    · rcases List.mem_cons.mp hj with e | hj
      · rw [e]; exact h3
      · exact k4 j hj
  | [], _ :: _, h => by simp [chkNs] at h
  | _ :: _, [], h => by simp [chkNs] at h
  | _ :: _, e :: _, h => by
    cases e <;> first | (simp [chkNs] at h; done) | skip
    rename_i x p
    simp only [chkNs, Bool.and_eq_true, decide_eq_true_eq] at h
    obtain ⟨⟨⟨h1, h2⟩, h3⟩, h4⟩ := h
    obtain ⟨k1, k2, k3, k4⟩ := pgs_names hN hsc h4
    subst hsc
    refine ⟨pgs_cons (pg_name hN h1 (.inl h2) (.inr h2)) k1 rfl, ?_, ?_, fun j hj => ?_⟩
    · show (assignEach _ X.env).length + 1 = _ + 1
      rw [k2]
    · show ((false, assign (.Name x p) X.env) :: assignEach _ X.env).findIdx? (·.1) = none
      rw [List.findIdx?_cons, k3]
      rfl
    · rcases List.mem_cons.mp hj with e | hj
      · rw [e]; exact h3
      · exact k4 j hj
/-- slots set in a row -/
def setV (σ : L2.St) : List Nat → List V → L2.St
  | i :: is, v :: vs => setV (σ.set i (some v)) is vs
  | _, _ => σ
theorem gNs_of : ∀ {is : List Nat} {vs : List V} {σ : L2.St} {H : Hp} {Q : L2.St → Hp → Prop}, vs.length = is.length → Q (setV σ is vs) H → gNs is vs σ H Q
  | [], [], _, _, _, _, q => ⟨rfl, q⟩
  | i :: is, v :: vs, σ, H, Q, hl, q => ⟨v, vs, rfl, gNs_of (is := is) (by simpa using hl) q⟩
  | [], _ :: _, _, _, _, hl, _ => by simp at hl
  | _ :: _, [], _, _, _, hl, _ => by simp at hl
theorem setV_env {K : PySem.W.Frag} {F : Hp} {ι : List Addr} : ∀ {is : List Nat} {vs : List V} {xs : List D} {σ : L2.St} {env : Env}, REnv K F ι σ env → DpAll K F vs xs → REnv K F ι (setV σ is vs) (setAll env is xs)
  | [], _, _, _, _, re, _ => re
  | i :: is, _, [], _, _, re, d => by cases d; exact re
  | i :: is, _, x :: xs, σ, env, re, d => by
    cases d with
    | cons d1 d2 =>
      show REnv K F ι (setV (σ.set i _) is _) (setAll (env.set i _) is xs)
      exact setV_env (re.set (.d d1) i) d2
theorem wipe_set {σ : L2.St} {v : V} {i : Nat} : ∀ {own : List Nat}, i ∈ own → wipe (σ.set i (some v)) own = wipe σ own
  | [], h => nomatch h
  | j :: own, h => by
    have key : ∀ own, (wipe (σ.set i (some v)) own).set i none = (wipe σ own).set i none := by
      intro own
      induction own with
      | nil => simp [wipe]
      | cons k own ih =>
        show ((wipe (σ.set i (some v)) own).set k none).set i none = ((wipe σ own).set k none).set i none
        by_cases hk : k = i
        · subst hk
          rw [ih]
        · rw [List.set_comm _ _ hk, ih, List.set_comm _ _ hk]
    by_cases hj : j = i
    · subst hj
      exact key own
    · have hi : i ∈ own := by
        rcases List.mem_cons.mp h with e | h
        · exact absurd e.symm hj
        · exact h
      show (wipe (σ.set i (some v)) own).set j none = (wipe σ own).set j none
      rw [wipe_set hi]
theorem wipe_setV {own : List Nat} : ∀ {is : List Nat} {vs : List V} {σ : L2.St}, (∀ i ∈ is, i ∈ own) → wipe (setV σ is vs) own = wipe σ own
  | [], _, _, _ => rfl
  | _ :: _, [], _, _ => rfl
  | i :: is, v :: vs, σ, h => by
    show wipe (setV (σ.set i (some v)) is vs) own = _
    rw [wipe_setV fun j hj => h j (List.mem_cons_of_mem _ hj), wipe_set (h i List.mem_cons_self)]
theorem wipe_wipe (σ : L2.St) : ∀ (own : List Nat), wipe (wipe σ own) own = wipe σ own := by
  have mem : ∀ (own : List Nat) (σ : L2.St) (i : Nat), i ∈ own → (wipe σ own).set i none = wipe σ own := by
    intro own
    induction own with
    | nil => intro _ _ h; nomatch h
    | cons k own ih =>
      intro σ i h
      show ((wipe σ own).set k none).set i none = (wipe σ own).set k none
      by_cases hk : k = i
      · subst hk; rw [List.set_set]
      · have hi : i ∈ own := by
          rcases List.mem_cons.mp h with e | h
          · exact absurd e.symm hk
          · exact h
        rw [List.set_comm _ _ hk, ih σ i hi]
  have sub : ∀ (a own : List Nat) (σ : L2.St), (∀ i ∈ a, i ∈ own) → wipe (wipe σ own) a = wipe σ own := by
    intro a
    induction a with
    | nil => intro _ _ _; rfl
    | cons k a ih =>
      intro own σ h
      show (wipe (wipe σ own) a).set k none = wipe σ own
      rw [ih own σ fun i hi => h i (List.mem_cons_of_mem _ hi)]
      exact mem own σ k (h k List.mem_cons_self)
  intro own
  exact sub own own σ fun i h => h
theorem wipe_env {K : PySem.W.Frag} {F : Hp} {ι : List Addr} {σ : L2.St} {env : Env} (re : REnv K F ι σ env) : ∀ own : List Nat, REnv K F ι (wipe σ own) (wipeE env own)
  | [] => re
  | i :: own => by
    have ih := wipe_env re own
    refine ⟨by simp [wipe, wipeE, ih.len], fun j x h => ?_⟩
    have h' : ((wipeE env own).set i none)[j]? = some (some x) := h
    by_cases hj : i = j
    · subst hj
      by_cases hl : i < (wipeE env own).length
      · rw [List.getElem?_set_self hl] at h'
        cases h'
      · rw [List.getElem?_eq_none (by simpa using hl)] at h'
        cases h'
    · rw [List.getElem?_set_ne hj] at h'
      obtain ⟨v, e, r⟩ := ih.get j x h'
      exact ⟨v, by show ((wipe σ own).set i none)[j]? = _; rw [List.getElem?_set_ne hj]; exact e, r⟩
def gC (K : PySem.W.Frag) (tup : Bool) (is : List Nat) : TG :=
  if tup then gTup K is.length (gNs is) else match is with
    | [i] => gName i
    | _ => fun _ _ _ _ => False
theorem gC_of {K : PySem.W.Frag} {F H : Hp} {ι : List Addr} {tup : Bool} {is : List Nat} {σ : L2.St} {env e : Env} {v : V} {x : D} {Q : L2.St → Hp → Prop} {own : List Nat} (sm : Same F H) (re : REnv K F ι σ env) (dp : Dp K F v x) (h : cT tup is x env = some e) (hown : ∀ i ∈ is, i ∈ own)
    (q : ∀ σ', REnv K F ι σ' e → wipe σ' own = wipe σ own → Q σ' H) : gC K tup is v σ H Q := by
  unfold cT at h
  unfold gC
  cases tup with
  | true =>
    simp only [if_true] at h ⊢
    cases x <;> simp only at h <;> try cases h
    rename_i xs
    split at h <;> cases h
    rename_i hl
    cases dp with
    | tup d1 d2 =>
      refine ⟨_, _, rfl, sqT_mono sm d1, by rw [dpAll_length d2]; exact hl, gNs_of (by rw [dpAll_length d2]; exact hl) ?_⟩
      exact q _ (setV_env re d2) (wipe_setV hown)
  | false =>
    simp only [Bool.false_eq_true, if_false] at h ⊢
    split at h <;> cases h
    exact q _ (re.set (.d dp) _) (wipe_set (hown _ List.mem_cons_self))
/-- a live cell is forgotten -/
theorem Rel.take {K : PySem.W.Frag} {F H : Hp} {ι : List Addr} {S : Store} (r : Rel K F ι S H) (n : Nat) : Rel K F (ι.take n) (S.take n) H := by
  refine ⟨r.same, r.nd.sublist (List.take_sublist _ _), by simp [r.len], fun a ha => r.tr a (List.mem_of_mem_take ha), fun m c a h1 h2 => ?_⟩
  rw [List.getElem?_take] at h1 h2
  split at h1
  · rename_i hm
    rw [if_pos hm] at h2
    exact r.cell m c a h1 h2
  · cases h1
theorem pre_take {ι ι' : List Addr} (h : ι <+: ι') : ι'.take ι.length = ι := by
  obtain ⟨t, rfl⟩ := h
  simp
theorem lc_imp {src : DenI} {t : DenT} {el : Den} {tup live : Bool} {is own : List Nat} {σ : L2.St} {H : Hp} {Q : VK} {W' : XW} (hown : ∀ i ∈ is, i ∈ own) (h : tD X.K W (cLc live src (cT tup is) t el own) σ H Q) :
    tLc (tSrc X.K W src) (gC X.K tup is) (tT X.K W' t) (tD X.K W' el) own σ H Q := by
  obtain ⟨F, ι, env, S, r, rel, re, h, p⟩ := h
  refine tSrc_bnd (PC := fun F ι r => Post X.K W (RV X.K) F ι r Q) (fun h e => h.ext e) (fun h => h) rel re h p fun F1 ι1 S1 H1 J xs e1 rel1 re1 wk h p1 => ?_
  intro Da hDa
  obtain ⟨G, Y, wk, hG, hY⟩ := wk
  have rel0 : Rel X.K F1 (ι1 ++ [Da]) (S1 ++ [.lst []]) (upd H1 Da (.lst [])) := rel1.new hDa ⟨rel1.same.free hDa, [], upd_same, .nil⟩
  have hn0 : (ι1 ++ [Da])[S1.length]? = some Da := by rw [List.getElem?_append_right (by rw [rel1.len]; exact Nat.le_refl _), rel1.len]; simp
  cases hL : lcL (cT tup is) t el S1.length xs (wipeE env own) (S1 ++ [.lst []]) with
  | none => rw [hL] at h; cases h
  | some S2 =>
    rw [hL] at h
    simp only at h
    refine lc_it wk (fun i H => ∃ F2 ι2 S3, Ext F1 (ι1 ++ [Da]) F2 ι2 ∧ Rel X.K F2 ι2 S3 H ∧ lcL (cT tup is) t el S1.length (xs.drop i) (wipeE env own) S3 = some S2) ⟨F1, ι1 ++ [Da], _, Ext.refl _ _, rel0, by simpa using hL⟩ ?_ ?_ ?_
    · rintro i H2 _ ⟨F2, ι2, S3, x2, rel2, h2⟩
      exact hG H2 (x2.same.trans rel2.same)
    · rintro i x H2 H2' hi ⟨F2, ι2, S3, x2, rel2, h2⟩ y
      obtain ⟨F3, d, s3, rel3, hd, dp⟩ := hY i H2 x H2' hi y (x2.same.trans rel2.same) F2 ι2 S3 x2.same rel2
      have hdr : xs.drop i = d :: xs.drop (i + 1) := by
        obtain ⟨hlt, e⟩ := List.getElem?_eq_some_iff.mp hd
        rw [List.drop_eq_getElem_cons hlt, e]
      rw [hdr] at h2
      have x3 : Ext F1 (ι1 ++ [Da]) F3 ι2 := ⟨x2.same.trans s3, x2.pre⟩
      have x13 : Ext F1 ι1 F3 ι2 := ⟨x3.same, (List.prefix_append _ _).trans x3.pre⟩
      have rew := wipe_env (re1.mono x13) own
      unfold lcL at h2
      split at h2
      · rename_i e4 ht4
        refine gC_of rel3.same rew dp ht4 hown fun σ4 re4 hw4 => ⟨by rw [hw4, wipe_wipe], ?_⟩
        split at h2
        · rename_i S4 hS4
          refine ⟨F3, ι2, e4, S3, _, rel3, re4, hS4, fun F5 ι5 H5 u5 x5 rel5 r5 => ?_⟩
          cases r5
          split at h2
          · rename_i y6 S6 hS6
            refine iteT ⟨F5, ι5, e4, S4, _, rel5, re4.mono x5, hS6, fun F6 ι6 H6 u6 x6 rel6 r6 => ?_⟩
            split at h2
            · rename_i ys hys
              split at h2
              · rename_i hlen
                have hD6 : ι6[S1.length]? = some Da := pre_get (x3.trans (x5.trans x6)).pre hn0
                obtain ⟨hF6, vs, hH6, da⟩ := cell_lst rel6 hys hD6
                cases r6 with
                | d r6 =>
                  exact ⟨vs, hH6, by rw [dpAll_length da]; exact hlen, F6, ι6, _, (x3.trans x5).trans x6, rel6.put (c := .lst (ys ++ [y6])) hD6 hF6 ⟨hF6, vs ++ [u6], upd_same, dpAll_append da (.cons r6 .nil)⟩, h2⟩
              · cases h2
            · cases h2
          · cases h2
        · rename_i S4 hS4
          refine ⟨F3, ι2, e4, S3, _, rel3, re4, hS4, fun F5 ι5 H5 u5 x5 rel5 r5 => ?_⟩
          cases r5
          exact iteF ⟨F5, ι5, S4, x3.trans x5, rel5, h2⟩
        · cases h2
      · cases h2
    · rintro H2 ⟨F2, ι2, S3, x2, rel2, h2⟩
      rw [List.drop_length] at h2
      cases h2
      split at h
      · rename_i ys hys
        have hD2 : ι2[S1.length]? = some Da := pre_get x2.pre hn0
        obtain ⟨hF2, vs, hH2, da⟩ := cell_lst rel2 hys hD2
        have x12 : Ext F1 ι1 F2 ι2 := ⟨x2.same, (List.prefix_append _ _).trans x2.pre⟩
        cases live with
        | true =>
          simp only [if_true, Option.some.injEq] at h
          subst h
          have et : ι2.take (S1.length + 1) = ι1 ++ [Da] := by
            have := pre_take x2.pre
            rw [List.length_append, rel1.len] at this
            exact this
          have r' := rel2.take (S1.length + 1)
          rw [et] at r'
          exact p1 F2 (ι1 ++ [Da]) H2 _ ⟨x2.same, List.prefix_append _ _⟩ r' (.loc hn0)
        | false =>
          simp only [Bool.false_eq_true, if_false, Option.some.injEq] at h
          subst h
          have et : ι2.take S1.length = ι1 := by
            have := pre_take x12.pre
            rw [rel1.len] at this
            exact this
          have r' := rel2.take S1.length
          rw [et] at r'
          have sF : Same F2 (upd F2 Da (.lst vs)) := fun b o e => by rw [upd_ne (ne_of_none e hF2)]; exact e
          refine p1 (upd F2 Da (.lst vs)) ι1 H2 _ ⟨x2.same.trans sF, List.prefix_refl _⟩ ⟨fun b o e => ?_, r'.nd, r'.len, r'.tr, fun m c b h1 h2 => ?_⟩ (.d (.lst (SqL.of upd_same) (dpAll_mono sF _ _ da)))
          · by_cases hb : b = Da
            · subst hb; rw [upd_same] at e; cases e; exact hH2
            · rw [upd_ne hb] at e; exact rel2.same _ _ e
          · have nb : b ≠ Da := fun z => rel1.tr b (List.mem_of_getElem? h2) (z ▸ hDa)
            have q := r'.cell m c b h1 h2
            cases c with
            | dead => trivial
            | lst ys =>
              obtain ⟨q0, ws, q1, q2⟩ := q
              exact ⟨by rw [upd_ne nb]; exact q0, ws, q1, dpAll_mono sF _ _ q2⟩
            | dct kvs =>
              obtain ⟨q0, ks, q1, q2⟩ := q
              exact ⟨by rw [upd_ne nb]; exact q0, ks, q1, Paired.mapP q2 fun p q z => ⟨z.1, dp_mono sF _ _ z.2⟩⟩
      · cases h
end
end G

namespace G
open PySem PySem.Spec PyProof.Rows L2
/-- a def's promise: what the function f of data and cells gives -/
def spG (K : PySem.W.Frag) (np : Nat) (f : Fn) : Sp := fun vs H Q _ => ∃ F ι S args v S', Rel K F ι S H ∧ RVs K F ι vs args ∧ args.length = np ∧ f args S = some (.ok v S') ∧
  ∀ F' ι' H' u, Ext F ι F' ι' → Rel K F' ι' S' H' → RV K F' ι' u v → Q u H'
theorem RVs.app {K : PySem.W.Frag} {F : Hp} {ι : List Addr} : ∀ {vs ws : List V} {xs ys : List Val}, RVs K F ι vs xs → RVs K F ι ws ys → RVs K F ι (vs ++ ws) (xs ++ ys)
  | _, _, _, _, .nil, h => h
  | _, _, _, _, .cons r t, h => .cons r (RVs.app t h)
theorem RVs.get {K : PySem.W.Frag} {F : Hp} {ι : List Addr} : ∀ {vs : List V} {xs : List Val} (i : Nat) (x : Val), RVs K F ι vs xs → xs[i]? = some x → ∃ v, vs[i]? = some v ∧ RV K F ι v x
  | _, _, _, _, .nil, e => by simp at e
  | _, _, 0, _, .cons r _, e => by
    simp at e
    subst e
    exact ⟨_, rfl, r⟩
  | _, _, i + 1, x, .cons _ t, e => by
    obtain ⟨v, e1, e2⟩ := RVs.get i x t (by simpa using e)
    exact ⟨v, by simpa using e1, e2⟩
/-- the def that a name calls -/
structure CallOk (X : Cx) (k : Nat) (x : Str) (f : Fn) : Prop where
  ex : ∃ fa fd ps ds dvs dfl g, X.mg x = some (.ref fa) ∧ PySem.W.keepIn X.K (.ref fa) = true ∧ Binds X.K fd ps ds ∧ Vals dvs ds ∧ (∀ F, DpAll X.K F dvs dfl) ∧ FnOk X.prog X.w X.K X.mg X.base CX0 k fa fd ps (spG X.K ps.length g) ∧
    (∀ vs S r, g vs S = some r → vs.length = ps.length) ∧ ∀ vs S, f vs S = g (vs ++ dfl.map .d) S
section
variable {X : Cx} {W : XW}
theorem okOnly_some {r : Option (R Val)} {q : R Val} (h : okOnly r = some q) : ∃ v S, q = .ok v S ∧ r = some (.ok v S) := by
  unfold okOnly at h
  split at h <;> cases h
  exact ⟨_, _, rfl, rfl⟩
theorem se_call {k : Nat} {x : Str} {f : Fn} {e : Expr} {es : List Expr} {a : DenA} {p pos : Pos} (C : CallOk X k x f) (hr : Room k X.A) (hg : Gl X x) (hdb : (x == ("__debug__" : Str)) = false) (hs : (e :: es).all noStar = true) (ha : PA X (e :: es) (tA X.K W a)) :
    PE X (.Call (.Name x p) (e :: es) [] pos) (tD X.K W (cCallO f a)) := by
  obtain ⟨fa, fd, ps, ds, dvs, dfl, g, hm, hk, hb, hd, hdp, F, hnp, hfg⟩ := C.ex
  have hs' : noStar e = true ∧ es.all noStar = true := by simpa using hs
  refine (pe_call F hr hg hm hk hb hd pass0 ha hdb (noStar_each hs'.1) (noStar_any pos X.env hs'.2)).of fun σ H Q h => ?_
  obtain ⟨F0, ι, env, S, r, rel, re, h, p⟩ := h
  refine tG_bnd rel re h p fun F1 ι1 S1 H1 us xs e1 rel1 re1 ru h p1 => ?_
  obtain ⟨v, S2, rfl, hf⟩ := okOnly_some h
  rw [hfg] at hf
  exact ⟨F1, ι1, S1, _, v, S2, rel1, ru.app (rvs_dats (hdp F1)), hnp _ _ _ hf, hf, p1⟩
theorem se_call0 {k : Nat} {x : Str} {f : Fn} {p pos : Pos} (C : CallOk X k x f) (hr : Room k X.A) (hg : Gl X x) (hdb : (x == ("__debug__" : Str)) = false) :
    PE X (.Call (.Name x p) [] [] pos) (tD X.K W (cCallO f cNil)) := by
  obtain ⟨fa, fd, ps, ds, dvs, dfl, g, hm, hk, hb, hd, hdp, F, hnp, hfg⟩ := C.ex
  refine (pe_call0 F hr hg hm hk hb hd pass0 hdb).of fun σ H Q h => ?_
  obtain ⟨F0, ι, env, S, r, rel, re, h, p⟩ := h
  obtain ⟨v, S2, rfl, hf⟩ := okOnly_some (show okOnly (f [] S) = some r from h)
  rw [hfg] at hf
  exact ⟨F0, ι, S, _, v, S2, rel, rvs_dats (hdp F0), hnp _ _ _ hf, hf, p⟩
end
/-! ### a def's body -/
theorem start_env {K : PySem.W.Frag} {F : Hp} {ι : List Addr} {N : List Str} {vs : List V} {xs : List Val} (h : RVs K F ι vs xs) : REnv K F ι (L2.start N vs) (xs.map some ++ List.replicate (N.length - xs.length) none) := by
  have hl := h.len
  unfold L2.start
  refine ⟨by simp [hl], fun i x e => ?_⟩
  have hi : i < xs.length := by
    by_cases hi : i < xs.length
    · exact hi
    · rw [List.getElem?_append_right (by simpa using hi)] at e
      rw [List.getElem?_replicate] at e
      split at e <;> cases e
  rw [List.getElem?_append_left (by simpa using hi), List.getElem?_map] at e
  cases q : xs[i]? with
  | none => rw [q] at e; cases e
  | some y =>
    rw [q] at e
    cases e
    obtain ⟨v, e1, e2⟩ := RVs.get i _ h q
    exact ⟨v, by rw [List.getElem?_append_left (by simpa [hl] using hi), List.getElem?_map, e1]; rfl, e2⟩
/-- the cells that the body made are forgotten but for what it hands back -/
theorem close_rel {K : PySem.W.Frag} {F F' H' : Hp} {ι ι' : List Addr} {S S1 S' : Store} {u : V} {v v' : Val} (hlen : ι.length = S.length) (x : Ext F ι F' ι') (rel : Rel K F' ι' S1 H') (ru : RV K F' ι' u v) (h : closeV S.length v S1 = some (.ok v' S')) :
    ∃ ι2, Ext F ι F' ι2 ∧ Rel K F' ι2 S' H' ∧ RV K F' ι2 u v' := by
  have et : ι'.take S.length = ι := by rw [← hlen]; exact pre_take x.pre
  have r0 := rel.take S.length
  rw [et] at r0
  cases ru with
  | d dp =>
    cases h
    exact ⟨ι, ⟨x.same, List.prefix_refl _⟩, r0, .d dp⟩
  | tup h1 h2 =>
    cases h
    exact ⟨ι', x, rel, .tup h1 h2⟩
  | @loc m a ha =>
    simp only [closeV] at h
    split at h
    · rename_i hm
      cases h
      refine ⟨ι, ⟨x.same, List.prefix_refl _⟩, r0, .loc ?_⟩
      rw [← et, List.getElem?_take, if_pos hm]
      exact ha
    · rename_i hm
      split at h
      · rename_i c hc
        cases h
        have hnot : a ∉ ι := fun hin => by
          obtain ⟨j, hj⟩ := List.getElem?_of_mem hin
          have hj' := pre_get x.pre hj
          have : j = m := nodup_addr rel.nd hj' ha
          have hlt := (List.getElem?_eq_some_iff.mp hj).1
          omega
        refine ⟨ι ++ [a], ⟨x.same, List.prefix_append _ _⟩, ⟨r0.same, ?_, by rw [List.length_append, List.length_append, r0.len]; rfl, fun b hb => ?_, fun n c' b h1 h2 => ?_⟩, .loc ?_⟩
        · rw [List.nodup_append]
          refine ⟨r0.nd, by simp, fun b hb c hc => ?_⟩
          have : c = a := by simpa using hc
          rw [this]
          exact fun z => hnot (z ▸ hb)
        · rcases List.mem_append.mp hb with hb | hb
          · exact r0.tr b hb
          · have : b = a := by simpa using hb
            rw [this]
            exact rel.tr a (List.mem_of_getElem? ha)
        · by_cases hn : n < ι.length
          · rw [List.getElem?_append_left hn] at h2
            rw [List.getElem?_append_left (by rw [← r0.len]; exact hn)] at h1
            exact r0.cell n c' b h1 h2
          · rw [List.getElem?_append_right (by omega)] at h2
            rw [List.getElem?_append_right (by rw [← r0.len]; omega), ← r0.len] at h1
            have hz : n - ι.length = 0 := by
              have := (List.getElem?_eq_some_iff.mp h2).1
              simp at this
              omega
            rw [hz] at h1 h2
            simp at h1 h2
            subst h1 h2
            exact rel.cell m _ _ hc ha
        · rw [List.getElem?_append_right (by rw [hlen]; exact Nat.le_refl _), hlen]
          simp
      · cases h
theorem fn_ok {P : Program} {w : World} {K : PySem.W.Frag} {mg : Str → Option Value} {base : Heap} {x qual : Str} {st : Stmt} {f : Addr} {fd : FuncData} {N ps : List Str} {k : Nat} {b : DenS} (Fu : Fun K x qual st f fd) (Sc : FnScope N ps (defScope st))
    (hb : ∀ (cdv : Value) (A : Around) (outer : List PySem.Env) (s : Shared) (H : Hp) (E : XK), Room k (A.deeper (envOfC qual (defScope st) s.heap.objs.size f cdv)) →
      PSs (cxOf CX0 P w K mg base N qual (defScope st) f cdv A outer s H E).nox (defBody st) (tSt K (fun _ _ _ _ _ => False) b)) :
    FnOk P w K mg base CX0 (k + 1) f fd ps (spG K ps.length (runFn ps.length N.length b)) := by
  refine Fu.ok Sc (fun vs H Q E h => ?_) (fun cdv A outer s H vs Q E hr h => ?_)
  · obtain ⟨F, ι, S, args, v, S', rel, ra, hl, _⟩ := h
    rw [ra.len, hl]
  · obtain ⟨F, ι, S, args, v, S', rel, ra, hl, hf, q⟩ := h
    refine ⟨_, hb cdv A outer s H E hr, ?_⟩
    unfold runFn at hf
    rw [if_pos hl] at hf
    split at hf
    · rename_i v1 S1 e
      refine ⟨F, ι, _, S, _, rel, start_env ra, e, fun F' ι' H' u x1 rel' ru => ?_⟩
      obtain ⟨ι2, x2, r2, rv2⟩ := close_rel rel.len x1 rel' ru hf
      exact q F' ι2 H' u x2 r2 rv2
    · rename_i e1 S1 e
      cases hf
      refine ⟨F, ι, _, S, _, rel, start_env ra, e, fun F' ι' H' σ' x1 rel' re' => ?_⟩
      have et : ι'.take S.length = ι := by rw [← rel.len]; exact pre_take x1.pre
      have r0 := rel'.take S.length
      rw [et] at r0
      exact q F' ι H' .non ⟨x1.same, List.prefix_refl _⟩ r0 (.d .non)
    · cases hf
    · cases hf
end G

namespace G
open PySem PySem.Spec PyProof.Rows L2
def bltNames : List String := ["len", "all", "abs", "int", "bool", "list", "tuple", "max", "min", "isinstance", "str", "range", "enumerate", "zip", "sorted", "set"]
structure Cok (X : Cx) (fs : String → Fn) (k : Nat) (c : Sc) : Prop where
  N : X.N = c.N
  sc : X.env.scope = c.sc
  kd : c.sc.kind = .function
  calm : X.calm = true
  nd : X.N.Nodup
  rm : Room k X.A
  call : ∀ p ∈ c.T.calls, CallOk X k (Str.ofString p.1) (fs p.2)
  glb : ∀ p ∈ c.T.glbs, ∃ v u, X.mg (Str.ofString p.1) = some u ∧ RelV v u ∧ (∀ F, Dp X.K F v p.2) ∧ (isTupD p.2 = true → KTup X.K v)
  blt : ∀ id ∈ bltNames, X.mg (Str.ofString id) = none
section
variable {X : Cx} {W : XW} {fs : String → Fn} {k : Nat} {c : Sc}
theorem Cok.blk (h : Cok X fs k c) (s : Shared) (H : Hp) (scope : Scope) (C : Addr) (cl : List (Str × Addr)) (fp : List Addr) (hk : scope.kind = .function) : Cok (X.blk s H scope (compEnvC scope cl C X.env) fp) fs k ⟨c.T, c.N, relS scope c.sc⟩ :=
  ⟨h.N, by show relS scope X.env.scope = _; rw [h.sc], hk, h.calm, h.nd, h.rm, fun p hp => ⟨(h.call p hp).ex⟩, h.glb, h.blt⟩
theorem Cok.vis (h : Cok X fs k c) {x : Str} (v : visB c.sc x = true) : Vis X.env.scope x := by
  rw [h.sc]
  unfold visB at v
  split at v
  · exact .inl (by assumption)
  · exact .inr (.inl (by assumption))
  · exact .inr (.inr (by assumption))
  · cases v
theorem Cok.gl (h : Cok X fs k c) {x : Str} (v : globB c.sc x = true) : Gl X x := by
  show X.env.scope.names.lookup x = some .globalImplicit
  rw [h.sc]
  exact of_decide_eq_true v
theorem plainN_dbg {x : Str} (h : plainN x = true) : (x == ("__debug__" : Str)) = false ∧ (x == ("__classdict__" : Str)) = false ∧ x ≠ "__name__" := by
  simp only [plainN, Bool.and_eq_true, decide_eq_true_eq] at h
  exact ⟨beq_eq_false_iff_ne.mpr h.1.1, beq_eq_false_iff_ne.mpr h.1.2, h.2⟩
theorem Cok.units (h : Cok X fs k c) : X.A.units + 64 < cLine := h.rm.units
theorem Cok.units1 (h : Cok X fs k c) : X.A.units + 65 < cLine := by
  have := h.rm.un
  omega
theorem cst_of {d : D} {q : Const} {j : Nat} {pos : Pos} (h : cstB d q = true) : PE X (.Constant q j pos) (tD X.K W (cCst d)) := by
  cases d <;> cases q <;> first | (simp [cstB] at h; done) | skip
  · exact se_cst pe_non fun F => .non
  · rename_i a b
    rw [show a = b from by simpa [cstB] using h]
    exact se_cst pe_bl fun F => .bl _
  · rename_i a b
    rw [show a = b from by simpa [cstB] using h]
    exact se_cst pe_int fun F => .int _
  · rename_i a b
    rw [show a = b from by simpa [cstB] using h]
    exact se_cst pe_str fun F => .str _
/-- an expression, and as a test -/
abbrev Both (X : Cx) (W : XW) (e : Expr) (f : Den) : Prop := PE X e (tD X.K W f) ∧ PT X e (tT X.K W (cTru f))
theorem both_tru {e : Expr} {f : Den} (h : PE X e (tD X.K W f)) (he : ∀ whole, isTrue e X.env whole = (do let v ← whole; standAt e.pos; holding [v] (truthy v))) : Both X W e f := ⟨h, st_tru h he⟩
theorem lt_rule {op : CmpOp} (h : op ∈ [CmpOp.Lt, CmpOp.LtE]) : ∃ r, OpR X (compareOp op) r ∧ Imp2 X.K (cmpD op) r := by
  simp only [List.mem_cons, List.not_mem_nil, or_false] at h
  rcases h with rfl | rfl
  · exact ⟨_, op_lt, imp_lt⟩
  · exact ⟨_, op_le, imp_le⟩
theorem sg_any {i : Nat} {x : Str} {p : Pos} {strict : Bool} (h : Cok X fs k c) (hN : c.N[i]? = some x) (hl : locB strict c.sc x = true) (hf : strict = true ∨ ∀ y, X.fn y = true) : PG X (.Name x p) (tGt X.K W (gN i)) := by
  refine sg_name (pg_name h.nd (by rw [h.N]; exact hN) ?_ ?_)
  · unfold locB at hl
    rw [← h.sc] at hl
    split at hl
    · exact .inl (by assumption)
    · exact .inr (by assumption)
    · cases hl
  · rcases hf with e | e
    · subst e
      unfold locB at hl
      rw [← h.sc] at hl
      split at hl
      · exact .inr (by assumption)
      · cases hl
      · cases hl
    · exact .inl (e x)
end

theorem evB_both {X : Cx} {W : XW} {fs : String → Fn} {b : Bool} {a : ME} {e : Expr} {es : List Expr} {r : MEs} {pos : Pos} (h1 : Both X W e (evE fs a)) (h2 : ∀ b' r', r = .cons b' r' → es ≠ [] ∧
      PE X (.BoolOp (if b then BoolOp.And else BoolOp.Or) es pos) (tD X.K W (evB fs b r)) ∧ PW X (.BoolOp (if b then BoolOp.And else BoolOp.Or) es pos) (tT X.K W (cTru (evB fs b r)))) (h3 : r = .nil → es = []) :
    PE X (.BoolOp (if b then BoolOp.And else BoolOp.Or) (e :: es) pos) (tD X.K W (evB fs b (.cons a r))) ∧ PW X (.BoolOp (if b then BoolOp.And else BoolOp.Or) (e :: es) pos) (tT X.K W (cTru (evB fs b (.cons a r)))) := by
  cases r with
  | nil =>
    have e0 := h3 rfl
    subst e0
    cases b with
    | true => exact ⟨pe_one h1.1, pw_and1 h1.2⟩
    | false => exact ⟨pe_one h1.1, pw_or1 h1.2⟩
  | cons b' r' =>
    obtain ⟨hne, k1, k2⟩ := h2 b' r' rfl
    cases es with
    | nil => exact absurd rfl hne
    | cons e2 es2 =>
      cases b with
      | true =>
        refine ⟨se_and h1.1 k1, ?_⟩
        have := sw_and h1.2 k2
        rw [← cTru_and] at this
        exact this
      | false =>
        refine ⟨se_or h1.1 k1, ?_⟩
        have := sw_or h1.2 k2
        rw [← cTru_or] at this
        exact this
theorem isa_names {T : String} (h : T ∈ ["int", "bool", "str", "tuple", "list"]) : T ∈ bltNames ∧ bootBuiltins (Str.ofString T) = some (.type T) ∧ Str.ofString T ≠ "__name__" ∧ (Str.ofString T == ("__debug__" : Str)) = false := by
  simp only [List.mem_cons, List.not_mem_nil, or_false] at h
  rcases h with rfl | rfl | rfl | rfl | rfl <;> exact ⟨by decide, by decide +kernel, by decide +kernel, by decide +kernel⟩
theorem names1_blt {id : String} (h : id ∈ names1) : id ∈ bltNames := by
  simp only [names1, List.mem_cons, List.not_mem_nil, or_false] at h
  rcases h with rfl | rfl | rfl | rfl | rfl | rfl | rfl | rfl | rfl <;> decide
theorem names2_blt {id : String} (h : id ∈ names2) : id ∈ bltNames := by
  simp only [names2, List.mem_cons, List.not_mem_nil, or_false] at h
  rcases h with rfl | rfl <;> decide
theorem noSet_fold {e : Expr} {env : PySem.Env} (h : noSet e = true) : ∀ x, foldedSetIterable e env x = pure x := by
  intro x
  cases e <;> first | rfl | exact absurd h (by simp [noSet])
theorem chkNs_own {N : List Str} {sc : Scope} {own : List Nat} : ∀ {is : List Nat} {es : List Expr}, chkNs N sc own is es = true → ∀ i ∈ is, i ∈ own
  | [], _, _ => fun _ h => nomatch h
  | i :: is, [], h => by simp [chkNs] at h
  | i :: is, e :: es, h => by
    cases e <;> first | (simp [chkNs] at h; done) | skip
    simp only [chkNs, Bool.and_eq_true, decide_eq_true_eq] at h
    intro j hj
    rcases List.mem_cons.mp hj with e | hj
    · rw [e]; exact h.1.2
    · exact chkNs_own h.2 j hj
theorem chkT_own {N : List Str} {sc : Scope} {own : List Nat} {tup : Bool} {is : List Nat} {e : Expr} (h : chkT N sc own tup is e = true) : ∀ i ∈ is, i ∈ own := by
  unfold chkT at h
  cases tup with
  | true =>
    simp only [if_true] at h
    split at h
    · exact chkNs_own h
    · cases h
  | false =>
    simp only [Bool.false_eq_true, if_false, Bool.and_eq_true] at h
    exact chkNs_own h.2
theorem pgC {X : Cx} {fs : String → Fn} {k : Nat} {c : Sc} {own : List Nat} {tup : Bool} {is : List Nat} {e : Expr} (ok : Cok X fs k c) (h : chkT c.N c.sc own tup is e = true) : PG X e (gC X.K tup is) ∧ True := by
  refine ⟨?_, trivial⟩
  unfold chkT at h
  unfold gC
  rw [← ok.N] at h
  cases tup with
  | true =>
    simp only [if_true] at h ⊢
    split at h
    · obtain ⟨k1, k2, k3, _⟩ := pgs_names ok.nd ok.sc h
      exact pg_tup ok.calm k1 k2 k3
    · cases h
  | false =>
    simp only [Bool.false_eq_true, if_false, Bool.and_eq_true, beq_iff_eq] at h ⊢
    obtain ⟨h1, h2⟩ := h
    cases is with
    | nil => simp at h1
    | cons i is =>
      cases is with
      | cons _ _ => simp at h1
      | nil =>
        cases e <;> first | (simp [chkNs] at h2; done) | skip
        simp only [chkNs, Bool.and_eq_true, decide_eq_true_eq] at h2
        have hl := h2.1.1.2
        rw [← ok.sc] at hl
        exact pg_name ok.nd h2.1.1.1 (.inl hl) (.inr hl)
set_option maxHeartbeats 16000000 in
mutual
theorem soundE {W : XW} {fs : String → Fn} {k : Nat} : ∀ (m : ME) {X : Cx} {c : Sc} {e : Expr}, Cok X fs k c → chkE c m e = true → Both X W e (evE fs m)
  | .var i, X, c, e, ok, h => by
    simp only [chkE] at h
    split at h
    · rename_i x pos
      simp only [Bool.and_eq_true, decide_eq_true_eq] at h
      obtain ⟨⟨h1, h2⟩, h3⟩ := h
      obtain ⟨d1, d2, d3⟩ := plainN_dbg h3
      exact both_tru (se_var (pe_var (by rw [ok.N]; exact h1) (ok.vis h2) d1 d2)) fun _ => rfl
    · cases h
  | .cst d, X, c, e, ok, h => by
    simp only [chkE] at h
    split at h
    · exact both_tru (cst_of h) fun _ => rfl
    · cases h
  | .glb x d, X, c, e, ok, h => by
    simp only [chkE] at h
    split at h
    · rename_i y pos
      simp only [Bool.and_eq_true, decide_eq_true_eq, List.any_eq_true] at h
      obtain ⟨⟨⟨rfl, h2⟩, h3⟩, p, hp, h4, h5⟩ := h
      obtain ⟨d1, d2, d3⟩ := plainN_dbg h3
      obtain ⟨v, u, e1, e2, e3, _⟩ := ok.glb p hp
      rw [h4] at e1
      rw [deq_eq h5] at e3
      exact both_tru (se_cst (pe_glob (ok.gl h2) e1 e2 d1) e3) fun _ => rfl
    · cases h
  | .bin op a b, X, c, e, ok, h => by
    simp only [chkE] at h
    split at h
    · simp only [Bool.and_eq_true, decide_eq_true_eq] at h
      obtain ⟨⟨⟨rfl, h2⟩, h3⟩, h4⟩ := h
      exact both_tru (se_bin h2 (soundE a ok h3).1 (soundE b ok h4).1) fun _ => rfl
    · cases h
  | .cmp op a b, X, c, e, ok, h => by
    simp only [chkE] at h
    split at h
    · simp only [Bool.and_eq_true, decide_eq_true_eq] at h
      obtain ⟨⟨⟨⟨rfl, h2⟩, h3⟩, h4⟩, h5⟩ := h
      exact ⟨se_cmp ok.units h2 h3 (soundE a ok h4).1 (soundE b ok h5).1, st_cmp ok.units h2 h3 (soundE a ok h4).1 (soundE b ok h5).1⟩
    · cases h
  | .chain op op' a b d, X, c, e, ok, h => by
    simp only [chkE] at h
    split at h
    · rename_i x o1 o2 y z pos
      simp only [Bool.and_eq_true, decide_eq_true_eq] at h
      obtain ⟨⟨⟨⟨⟨⟨⟨rfl, rfl⟩, h2⟩, h3⟩, h4⟩, h5⟩, h6⟩, h7⟩ := h
      obtain ⟨r, q1, q2⟩ := lt_rule (X := X) h2
      obtain ⟨r', q1', q2'⟩ := lt_rule (X := X) h3
      have hm : lastMarks [op, op'] [y, z] = false := by
        show behindInMarks op' z = false
        exact noSet_mark h4
      refine ⟨(pe_chain q1 q1' (soundE a ok h5).1 (soundE b ok h6).1 (soundE d ok h7).1 hm).of fun σ H Q q => chain_imp q2 q2' (fun _ _ _ => cmpD_bool) q, st_bool ⟨fun pins s σ H Q I q => (pt_chain q1 q1' (soundE a ok h5).1 (soundE b ok h6).1 (soundE d ok h7).1 hm).run pins s σ H Q I (chain_imp q2 q2' (fun _ _ _ => cmpD_bool) q)⟩ (chain_bool fun _ _ _ => cmpD_bool)⟩
    · cases h
  | .isN n a, X, c, e, ok, h => by
    simp only [chkE] at h
    split at h
    · simp only [Bool.and_eq_true, decide_eq_true_eq] at h
      obtain ⟨h1, h2⟩ := h
      cases n with
      | true =>
        simp only [if_true] at h1
        subst h1
        exact ⟨se_notN (soundE a ok h2).1, st_notN (soundE a ok h2).1⟩
      | false =>
        simp only [Bool.false_eq_true, if_false] at h1
        subst h1
        exact ⟨se_isN (soundE a ok h2).1, st_isN (soundE a ok h2).1⟩
    · cases h
  | .neg a, X, c, e, ok, h => by
    simp only [chkE] at h
    split at h
    · exact both_tru (se_neg (soundE a ok h).1) fun _ => rfl
    · cases h
  | .not a, X, c, e, ok, h => by
    simp only [chkE] at h
    split at h
    · have q := soundE (W := W) a ok h
      refine ⟨se_not q.1, ?_⟩
      have := st_not (pos := by assumption) q.2
      rw [← cTru_not] at this
      exact this
    · cases h
  | .bool b es, X, c, e, ok, h => by
    simp only [chkE] at h
    split at h
    · rename_i op xs pos
      simp only [Bool.and_eq_true, decide_eq_true_eq] at h
      obtain ⟨⟨rfl, h1⟩, h2⟩ := h
      have hne : xs ≠ [] := by
        rintro rfl
        cases h1
      obtain ⟨q1, q2⟩ := soundB (W := W) es ok b h2 hne
      exact ⟨q1, q2.pt⟩
    · cases h
  | .ite t a b, X, c, e, ok, h => by
    simp only [chkE] at h
    split at h
    · simp only [Bool.and_eq_true] at h
      obtain ⟨⟨h1, h2⟩, h3⟩ := h
      refine ⟨se_ite (soundE t ok h1).2 (soundE a ok h2).1 (soundE b ok h3).1, ?_⟩
      have := st_ite (W := W) (pos := by assumption) (soundE t ok h1).2 (soundE a ok h2).2 (soundE b ok h3).2
      rw [← cTru_ite] at this
      exact this
    · cases h
  | .tup es, X, c, e, ok, h => by
    simp only [chkE] at h
    split at h
    · exact both_tru (se_tup (soundEs es ok h).1) fun _ => rfl
    · cases h
  | .ltup es, X, c, e, ok, h => by
    simp only [chkE] at h
    split at h
    · exact both_tru (se_ltup (soundEs es ok h).1) fun _ => rfl
    · cases h
  | .lst es, X, c, e, ok, h => by
    simp only [chkE] at h
    split at h
    · exact both_tru (se_lst (soundEs es ok h).1) fun _ => rfl
    · cases h
  | .new es, X, c, e, ok, h => by
    simp only [chkE] at h
    split at h
    · exact both_tru (se_new (soundEs es ok h).1) fun _ => rfl
    · cases h
  | .idx a b, X, c, e, ok, h => by
    simp only [chkE] at h
    split at h
    · simp only [Bool.and_eq_true] at h
      obtain ⟨⟨h1, h2⟩, h3⟩ := h
      exact both_tru (se_idx h1 (soundE a ok h2).1 (soundE b ok h3).1) fun _ => rfl
    · cases h
  | .slc a lo hi, X, c, e, ok, h => by
    simp only [chkE] at h
    split at h
    · simp only [Bool.and_eq_true] at h
      obtain ⟨⟨h1, h2⟩, h3⟩ := h
      exact both_tru (se_slc (soundE a ok h1).1 (soundO lo ok h2) (soundO hi ok h3)) fun _ => rfl
    · cases h
  | .blt1 id a, X, c, e, ok, h => by
    simp only [chkE] at h
    split at h
    · simp only [Bool.and_eq_true, decide_eq_true_eq] at h
      obtain ⟨⟨⟨⟨rfl, h1⟩, h2⟩, h3⟩, h4⟩ := h
      exact both_tru (se_blt1 h1 ok.calm ok.units (ok.gl h2) (ok.blt id (names1_blt h1)) h3 (soundE a ok h4).1) fun _ => rfl
    · cases h
  | .blt2 id a b, X, c, e, ok, h => by
    simp only [chkE] at h
    split at h
    · simp only [Bool.and_eq_true, decide_eq_true_eq] at h
      obtain ⟨⟨⟨⟨⟨⟨rfl, h1⟩, h2⟩, h3⟩, h3'⟩, h4⟩, h5⟩ := h
      exact both_tru (se_blt2 h1 ok.calm (ok.gl h2) (ok.blt id (names2_blt h1)) h3 h3' (soundE a ok h4).1 (soundE b ok h5).1) fun _ => rfl
    · cases h
  | .isa T a, X, c, e, ok, h => by
    simp only [chkE] at h
    split at h
    · simp only [Bool.and_eq_true, decide_eq_true_eq] at h
      obtain ⟨⟨⟨⟨⟨⟨rfl, rfl⟩, h1⟩, h2⟩, h3⟩, h4⟩, h5⟩ := h
      obtain ⟨k1, k2, k3, k4⟩ := isa_names h1
      exact both_tru (se_isa (ok.gl h2) (ok.blt "isinstance" (by decide)) (ok.gl h3) (ok.blt T k1) k2 k3 k4 h4 (soundE a ok h5).1) fun _ => rfl
    · cases h
  | .dget a b, X, c, e, ok, h => by
    simp only [chkE] at h
    split at h
    · simp only [Bool.and_eq_true] at h
      obtain ⟨⟨h1, h2⟩, h3⟩ := h
      exact both_tru (se_dget (by have := ok.units; omega) h1 (soundE a ok h2).1 (soundE b ok h3).1) fun _ => rfl
    · cases h
  | .din n a b, X, c, e, ok, h => by
    simp only [chkE] at h
    split at h
    · simp only [Bool.and_eq_true, decide_eq_true_eq] at h
      obtain ⟨⟨⟨h1, h2⟩, h3⟩, h4⟩ := h
      have hu : X.A.units + 1 < cLine := by have := ok.units; omega
      exact ⟨se_din hu h1 (noSet_mark h2) (soundE a ok h3).1 (soundE b ok h4).1, st_din hu h1 (noSet_mark h2) (soundE a ok h3).1 (soundE b ok h4).1⟩
    · cases h
  | .dnew, X, c, e, ok, h => by
    simp only [chkE] at h
    split at h
    · exact both_tru se_dnew fun _ => rfl
    · cases h
  | .ddsp ks es, X, c, e, ok, h => by
    simp only [chkE] at h
    split at h
    · simp only [Bool.and_eq_true, decide_eq_true_eq] at h
      obtain ⟨⟨⟨⟨h1, h2⟩, h3⟩, h4⟩, h5⟩ := h
      obtain ⟨q1, q2⟩ := soundVs (W := W) es ok h5
      exact both_tru (se_ddsp h1 h2 h3 h4 q2 q1) fun _ => rfl
    · cases h
  | .srtK a, X, c, e, ok, h => by
    simp only [chkE] at h
    split at h
    · simp only [Bool.and_eq_true, decide_eq_true_eq] at h
      obtain ⟨⟨⟨rfl, h1⟩, h2⟩, h3⟩ := h
      exact both_tru (se_srtK ok.calm (ok.gl h1) (ok.blt "sorted" (by decide)) h2 (soundE a ok h3).1) fun _ => rfl
    · cases h
  | .srtI a, X, c, e, ok, h => by
    simp only [chkE] at h
    split at h
    · simp only [Bool.and_eq_true, decide_eq_true_eq] at h
      obtain ⟨⟨⟨rfl, h1⟩, h2⟩, h3⟩ := h
      exact both_tru (se_srtI (ok.gl h1) (ok.blt "sorted" (by decide)) h2 (soundE a ok h3).1) fun _ => rfl
    · cases h
  | .rev a, X, c, e, ok, h => by
    simp only [chkE] at h
    split at h
    · simp only [Bool.and_eq_true, decide_eq_true_eq] at h
      obtain ⟨rfl, h1⟩ := h
      exact both_tru (se_rev (soundE a ok h1).1) fun _ => rfl
    · cases h
  | .addL a b, X, c, e, ok, h => by
    simp only [chkE] at h
    split at h
    · simp only [Bool.and_eq_true, decide_eq_true_eq] at h
      obtain ⟨⟨rfl, h3⟩, h4⟩ := h
      exact both_tru (se_addL (soundE a ok h3).1 (soundE b ok h4).1) fun _ => rfl
    · cases h
  | .op1 o a, X, c, e, ok, h => by
    simp only [chkE] at h
    split at h
    · cases o with
      | join s =>
        simp only at h
        split at h
        · simp only [Bool.and_eq_true, decide_eq_true_eq] at h
          obtain ⟨⟨⟨⟨rfl, rfl⟩, h2⟩, h3⟩, h4⟩ := h
          exact both_tru (se_join (soundE a ok h4).1 h2 h3) fun _ => rfl
        · cases h
      | split s =>
        simp only at h
        split at h
        · simp only [Bool.and_eq_true, decide_eq_true_eq] at h
          obtain ⟨⟨⟨⟨rfl, rfl⟩, h2⟩, h3⟩, h4⟩ := h
          exact both_tru (se_split (soundE a ok h4).1 h2 h3) fun _ => rfl
        · cases h
    · cases h
  | .app o a, X, c, e, ok, h => by
    simp only [chkE] at h
    split at h
    · simp only [Bool.and_eq_true, decide_eq_true_eq] at h
      obtain ⟨⟨⟨⟨⟨rfl, h1⟩, h2⟩, h3⟩, h4⟩, h5⟩ := h
      exact both_tru (se_app (soundE o ok h4).1 (soundE a ok h5).1 h1 h2 h3) fun _ => rfl
    · cases h
  | .lidx o a, X, c, e, ok, h => by
    simp only [chkE] at h
    split at h
    · simp only [Bool.and_eq_true, decide_eq_true_eq] at h
      obtain ⟨⟨⟨⟨⟨rfl, h1⟩, h2⟩, h3⟩, h4⟩, h5⟩ := h
      exact both_tru (se_lidx ok.units1 (soundE o ok h4).1 (soundE a ok h5).1 h1 h2 h3) fun _ => rfl
    · cases h
  | .gidx x d a, X, c, e, ok, h => by
    simp only [chkE] at h
    split at h
    · simp only [Bool.and_eq_true, decide_eq_true_eq, List.any_eq_true] at h
      obtain ⟨⟨⟨⟨⟨⟨⟨rfl, h1⟩, h2⟩, rfl⟩, h4⟩, h5⟩, p, hp, ⟨h6, h7⟩, h8⟩, h9⟩ := h
      obtain ⟨d1, d2, d3⟩ := plainN_dbg h5
      obtain ⟨v, u, e1, e2, e3, e4⟩ := ok.glb p hp
      rw [h6] at e1
      have e5 := e4 h8
      rw [deq_eq h7] at e3
      exact both_tru (se_gidx (pe_glob (ok.gl h4) e1 e2 d1) e5 e3 (soundE a ok h9).1 rfl h1 h2) fun _ => rfl
    · cases h
  | .sset a, X, c, e, ok, h => by
    simp only [chkE] at h
    split at h
    · simp only [Bool.and_eq_true, decide_eq_true_eq] at h
      obtain ⟨⟨⟨⟨⟨rfl, rfl⟩, h2⟩, h3⟩, h4⟩, h5⟩ := h
      exact both_tru (se_sset ok.calm (ok.gl h2) (ok.blt "sorted" (by decide)) (ok.gl h3) (ok.blt "set" (by decide)) h4 (soundE a ok h5).1) fun _ => rfl
    · cases h
  | .call x key es, X, c, e, ok, h => by
    simp only [chkE] at h
    split at h
    · rename_i y p xs pos
      simp only [Bool.and_eq_true, decide_eq_true_eq] at h
      obtain ⟨⟨⟨⟨rfl, h1⟩, h2⟩, h3⟩, h4⟩ := h
      obtain ⟨d1, d2, d3⟩ := plainN_dbg h2
      have C := ok.call (x, key) h3
      obtain ⟨q1, q2, q3⟩ := soundEs (W := W) es ok h4
      cases xs with
      | nil =>
        have e0 := q3 rfl
        subst e0
        exact both_tru (se_call0 C ok.rm (ok.gl h1) d1) fun _ => rfl
      | cons e1 xs => exact both_tru (se_call C ok.rm (ok.gl h1) d1 q2 q1) fun _ => rfl
    · cases h
  | .comp live tup is src ifs el own, X, c, e, ok, h => by
    simp only [chkE] at h
    split at h
    · rename_i elt t it fs' asy scope pos
      simp only [Bool.and_eq_true, decide_eq_true_eq] at h
      obtain ⟨⟨⟨⟨⟨⟨rfl, h1⟩, h2⟩, h3⟩, h4⟩, h5⟩, h6⟩ := h
      have hB := blkOk_by (by rw [← ok.N, ← ok.sc] at h3; exact h3)
      have hown : (own.map fun p => (Str.ofString p.1, p.2)).map (·.2) = own.map (·.2) := by simp [List.map_map]
      have hkd := hB.kind
      refine both_tru ((pe_lc (g := gC X.K tup is) (tt := tT X.K W (evIf fs ifs)) (te := tD X.K W (evE fs el)) ok.calm ok.nd (soundI (W := W) src ok h2) hB (fun s H C cl fp => (pgC (ok.blk s H scope C cl fp hkd) h4).1) (fun s H C cl fp => soundIf (W := W) ifs (ok.blk s H scope C cl fp hkd) h5)
        (fun s H C cl fp => (soundE (W := W) el (ok.blk s H scope C cl fp hkd) h6).1) (noSet_fold h1)).of fun σ H Q q => ?_) fun _ => rfl
      rw [hown]
      exact lc_imp (chkT_own h4) q
    · cases h
theorem soundB {W : XW} {fs : String → Fn} {k : Nat} : ∀ (m : MEs) {X : Cx} {c : Sc} {es : List Expr} {pos : Pos}, Cok X fs k c → ∀ b : Bool, chkEs c m es = true → es ≠ [] →
      PE X (.BoolOp (if b then BoolOp.And else BoolOp.Or) es pos) (tD X.K W (evB fs b m)) ∧ PW X (.BoolOp (if b then BoolOp.And else BoolOp.Or) es pos) (tT X.K W (cTru (evB fs b m)))
  | .nil, X, c, es, pos, ok, b, h, hne => by
    cases es with
    | nil => exact absurd rfl hne
    | cons _ _ => simp [chkEs] at h
  | .cons a r, X, c, es, pos, ok, b, h, hne => by
    simp only [chkEs] at h
    split at h
    · rename_i e es
      simp only [Bool.and_eq_true] at h
      obtain ⟨⟨h1, h2⟩, h3⟩ := h
      refine evB_both (soundE a ok h2) (fun b' r' e' => ?_) fun e' => ?_
      · have hne' : es ≠ [] := by
          rintro rfl
          subst e'
          simp [chkEs] at h3
        exact ⟨hne', soundB r ok b h3 hne'⟩
      · subst e'
        simp only [chkEs] at h3
        split at h3
        · rfl
        · cases h3
    · cases h
theorem soundEs {W : XW} {fs : String → Fn} {k : Nat} : ∀ (m : MEs) {X : Cx} {c : Sc} {es : List Expr}, Cok X fs k c → chkEs c m es = true → PA X es (tA X.K W (evEs fs m)) ∧ es.all noStar = true ∧ (es = [] → m = .nil)
  | .nil, X, c, es, ok, h => by
    simp only [chkEs] at h
    split at h
    · exact ⟨sa_nil, rfl, fun _ => rfl⟩
    · cases h
  | .cons a r, X, c, es, ok, h => by
    simp only [chkEs] at h
    split at h
    · simp only [Bool.and_eq_true] at h
      obtain ⟨⟨h1, h2⟩, h3⟩ := h
      obtain ⟨q1, q2, q3⟩ := soundEs (W := W) r ok h3
      exact ⟨sa_cons h1 (soundE a ok h2).1 q1, by rw [List.all_cons, h1, q2]; rfl, fun e => nomatch e⟩
    · cases h
theorem soundVs {W : XW} {fs : String → Fn} {k : Nat} : ∀ (m : MEs) {X : Cx} {c : Sc} {es : List Expr}, Cok X fs k c → chkEs c m es = true → PVs X W fs m es ∧ m.len = es.length
  | .nil, X, c, es, ok, h => by
    simp only [chkEs] at h
    split at h
    · exact ⟨.nil, rfl⟩
    · cases h
  | .cons a r, X, c, es, ok, h => by
    simp only [chkEs] at h
    split at h
    · simp only [Bool.and_eq_true] at h
      obtain ⟨⟨h1, h2⟩, h3⟩ := h
      obtain ⟨q1, q2⟩ := soundVs (W := W) r ok h3
      exact ⟨.cons (soundE a ok h2).1 q1, by simp [MEs.len, q2]⟩
    · cases h
theorem soundO {W : XW} {fs : String → Fn} {k : Nat} : ∀ (m : MO) {X : Cx} {c : Sc} {e : Option Expr}, Cok X fs k c → chkO c m e = true → PO X e (tO X.K W (evO fs m))
  | .none, X, c, e, ok, h => by
    simp only [chkO] at h
    split at h
    · exact so_none
    · cases h
  | .some a, X, c, e, ok, h => by
    simp only [chkO] at h
    split at h
    · exact so_some (soundE a ok h).1
    · cases h
theorem soundIf {W : XW} {fs : String → Fn} {k : Nat} : ∀ (m : MO) {X : Cx} {c : Sc} {e : List Expr}, Cok X fs k c → chkIf c m e = true → PTs X e (tT X.K W (evIf fs m))
  | .none, X, c, e, ok, h => by
    simp only [chkIf] at h
    split at h
    · exact cYes_ok
    · cases h
  | .some a, X, c, e, ok, h => by
    simp only [chkIf] at h
    split at h
    · exact pts_one (soundE a ok h).2
    · cases h
theorem soundI {W : XW} {fs : String → Fn} {k : Nat} : ∀ (m : MI) {X : Cx} {c : Sc} {e tg : Expr}, Cok X fs k c → chkI c tg m e = true → PI X tg e (tSrc X.K W (evI fs m))
  | .seq a, X, c, e, tg, ok, h => by
    simp only [chkI] at h
    exact si_seq (soundE a ok h).1
  | .rng1 a, X, c, e, tg, ok, h => by
    simp only [chkI] at h
    split at h
    · simp only [Bool.and_eq_true, decide_eq_true_eq] at h
      obtain ⟨⟨⟨rfl, h1⟩, h2⟩, h3⟩ := h
      exact si_rng1 (ok.gl h1) (ok.blt "range" (by decide)) h2 (soundE a ok h3).1
    · cases h
  | .rng2 a b, X, c, e, tg, ok, h => by
    simp only [chkI] at h
    split at h
    · simp only [Bool.and_eq_true, decide_eq_true_eq] at h
      obtain ⟨⟨⟨⟨⟨rfl, h1⟩, h2⟩, h3⟩, h4⟩, h5⟩ := h
      exact si_rng2 (ok.gl h1) (ok.blt "range" (by decide)) h2 h3 (soundE a ok h4).1 (soundE b ok h5).1
    · cases h
  | .enm a, X, c, e, tg, ok, h => by
    simp only [chkI] at h
    split at h
    · simp only [Bool.and_eq_true, decide_eq_true_eq] at h
      obtain ⟨⟨⟨⟨rfl, h1⟩, h2⟩, h3⟩, h4⟩ := h
      cases tg <;> first | (simp [tupleTg] at h3; done) | skip
      exact si_enm (ok.gl h1) (ok.blt "enumerate" (by decide)) h2 (soundE a ok h4).1
    · cases h
  | .zip a b, X, c, e, tg, ok, h => by
    simp only [chkI] at h
    split at h
    · simp only [Bool.and_eq_true, decide_eq_true_eq] at h
      obtain ⟨⟨⟨⟨⟨⟨rfl, h1⟩, h2⟩, h3⟩, h4⟩, h5⟩, h6⟩ := h
      cases tg <;> first | (simp [tupleTg] at h4; done) | skip
      exact si_zp (ok.gl h1) (ok.blt "zip" (by decide)) h2 h3 (soundE a ok h5).1 (soundE b ok h6).1
    · cases h
end
end G

namespace G
open PySem PySem.Spec PyProof.Rows L2
structure Cos (X : Cx) (fs : String → Fn) (k : Nat) (c : Sc) : Prop where
  ok : Cok X fs k c
  own : PassesOwn (model X.prog X.w) X.A X.env X.xe
  fn : ∀ y, X.fn y = true
theorem noStar_assign {e : Expr} {es : List Expr} {env : PySem.Env} (h : noStar e = true) : assignEach (e :: es) env = (false, assign e env) :: assignEach es env := by
  cases e <;> first | rfl | exact absurd h (by simp [noStar])
mutual
theorem soundG {W : XW} {fs : String → Fn} {k : Nat} : ∀ (m : MT) {X : Cx} {c : Sc} {e : Expr} {strict : Bool}, Cos X fs k c → chkG c strict m e = true → PG X e (tGt X.K W (evG fs m)) ∧ noStar e = true
  | .name i, X, c, e, strict, ok, h => by
    simp only [chkG] at h
    split at h
    · simp only [Bool.and_eq_true, decide_eq_true_eq] at h
      exact ⟨sg_any ok.ok h.1 h.2 (.inr ok.fn), rfl⟩
    · cases h
  | .tup ts, X, c, e, strict, ok, h => by
    simp only [chkG] at h
    split at h
    · obtain ⟨q1, q2, q3⟩ := soundGs (W := W) ts ok h
      exact ⟨sg_tup ok.ok.calm q1 q2 q3, rfl⟩
    · cases h
  | .sub o i, X, c, e, strict, ok, h => by
    simp only [chkG] at h
    split at h
    · simp only [Bool.and_eq_true] at h
      exact ⟨sg_sub (soundE o ok.ok h.1.2).1 (soundE i ok.ok h.2).1 h.1.1, rfl⟩
    · cases h
  | .dsub o i, X, c, e, strict, ok, h => by
    simp only [chkG] at h
    split at h
    · simp only [Bool.and_eq_true] at h
      exact ⟨sg_dput (by have := ok.ok.units; omega) (soundE o ok.ok h.1.2).1 (soundE i ok.ok h.2).1 h.1.1, rfl⟩
    · cases h
theorem soundGs {W : XW} {fs : String → Fn} {k : Nat} : ∀ (m : MTs) {X : Cx} {c : Sc} {es : List Expr} {strict : Bool}, Cos X fs k c → chkGs c strict m es = true →
      PGs X es (tGs X.K W (evGs fs m)) ∧ (assignEach es X.env).length = m.len ∧ (assignEach es X.env).findIdx? (·.1) = none
  | .nil, X, c, es, strict, ok, h => by
    simp only [chkGs] at h
    split at h
    · exact ⟨sgs_nil, rfl, rfl⟩
    · cases h
  | .cons a r, X, c, es, strict, ok, h => by
    simp only [chkGs] at h
    split at h
    · simp only [Bool.and_eq_true] at h
      obtain ⟨⟨h1, h2⟩, h3⟩ := h
      obtain ⟨q1, q2, q3⟩ := soundGs (W := W) r ok h3
      refine ⟨sgs_cons (soundG a ok h2).1 q1 (by rw [noStar_assign h1]; rfl), ?_, ?_⟩
      · rw [noStar_assign h1]
        show (assignEach _ X.env).length + 1 = r.len + 1
        rw [q2]
      · rw [noStar_assign h1, List.findIdx?_cons, q3]
        rfl
    · cases h
end
theorem assign_one {tg : Expr} {env : PySem.Env} (h : noStar tg = true) : (assignEach [tg] env).map (·.2) = [assign tg env] := by
  rw [noStar_assign h]
  rfl
theorem locB_strict {sc : Scope} {x : Str} (h : locB true sc x = true) : sc.names.lookup x = some .local := by
  unfold locB at h
  split at h
  · assumption
  · cases h
  · cases h
set_option maxHeartbeats 16000000 in
mutual
theorem soundS {W : XW} {fs : String → Fn} {k : Nat} : ∀ (m : MS) {X : Cx} {c : Sc} {st : Stmt}, Cos X fs k c → chkS c m st = true → PS X st (tSt X.K W (evS fs m))
  | .asg t e, X, c, st, ok, h => by
    simp only [chkS] at h
    split at h
    · rename_i tg x pos
      simp only [Bool.and_eq_true, Bool.not_eq_true'] at h
      obtain ⟨⟨h1, h2⟩, h3⟩ := h
      obtain ⟨q1, q2⟩ := soundG (W := W) t ok h2
      have hk : X.env.scope.kind = .function := by rw [ok.ok.sc]; exact ok.ok.kd
      have e1 : swappedStores [tg] x X.env = pure none := swp2_none hk (by rw [ok.ok.sc]; exact h1)
      by_cases hs : swp1 X.env.scope tg x = true
      · cases tg <;> first | (simp [swp1] at hs; done) | skip
        cases x <;> first | (simp [swp1] at hs; done) | skip
        · rename_i y py elt gs scope lpos
          cases e <;> simp only [chkE] at h3 <;> try (cases h3; done)
          rename_i live tup is src ifs el own
          split at h3
          · rename_i elt t' it fs' asy scope pos' heq
            injection heq with z1 z2 z3 z4
            subst z1 z2 z3 z4
            simp only [Bool.and_eq_true, decide_eq_true_eq] at h3
            obtain ⟨⟨⟨⟨⟨⟨rfl, h31⟩, h32⟩, h33⟩, h34⟩, h35⟩, h36⟩ := h3
            cases t <;> simp only [chkG] at h2 <;> try (cases h2; done)
            rename_i i
            simp only [Bool.and_eq_true, decide_eq_true_eq] at h2
            simp only [swp1, Bool.and_eq_true, decide_eq_true_eq, Bool.not_eq_true'] at hs
            have hB := blkOk_by (by rw [← ok.ok.N, ← ok.ok.sc] at h33; exact h33)
            have hown : (own.map fun p => (Str.ofString p.1, p.2)).map (·.2) = own.map (·.2) := by simp [List.map_map]
            have hkd := hB.kind
            refine ss_set (ps_setLc (g := gC X.K tup is) (tt := tT X.K W (evIf fs ifs)) (te := tD X.K W (evE fs el)) ok.ok.calm ok.ok.nd (by rw [ok.ok.N]; exact h2.1) hs.1.1 (sw_true hk hs.1.1 hs.1.2 hs.2) (soundI (W := W) src ok.ok h32) hB
              (fun s H C cl fp => (pgC (ok.ok.blk s H scope C cl fp hkd) h34).1) (fun s H C cl fp => soundIf (W := W) ifs (ok.ok.blk s H scope C cl fp hkd) h35) (fun s H C cl fp => (soundE (W := W) el (ok.ok.blk s H scope C cl fp hkd) h36).1) (noSet_fold h31)) fun σ H Q q => ?_
            rw [hown]
            exact lc_imp (chkT_own h34) q
          · cases h3
        · cases e <;> simp only [chkE] at h3 <;> cases h3
        · cases e <;> simp only [chkE] at h3 <;> cases h3
      · exact ss_asg (soundE e ok.ok h3).1 q1 (swp1_none hk (by simpa using hs)) e1 (assign_one q2)
    · cases h
  | .par is es, X, c, st, ok, h => by
    have hk : X.env.scope.kind = .function := by rw [ok.ok.sc]; exact ok.ok.kd
    simp only [chkS] at h
    split at h
    · rename_i x px y py kt pt vs k2 pt2 pos
      split at h
      · rename_i i j
        simp only [Bool.and_eq_true, decide_eq_true_eq, Bool.not_eq_true'] at h
        obtain ⟨⟨⟨⟨⟨⟨⟨⟨⟨h1, h2⟩, h3⟩, h4⟩, h5⟩, h6⟩, h7⟩, h8⟩, h9⟩, h10⟩ := h
        obtain ⟨q1, q2, _⟩ := soundEs (W := W) es ok.ok h10
        obtain ⟨a, b, rfl⟩ : ∃ a b, vs = [a, b] := by
          match vs, h9 with
          | [a, b], _ => exact ⟨a, b, rfl⟩
        rw [← ok.ok.sc] at h6 h8 h4 h5
        rw [← ok.ok.N] at h1 h2
        refine ss_par2 (ps_par ok.ok.calm ok.ok.nd h1 h2 h3 (locB_strict h4) (locB_strict h5) q1 ?_ rfl)
        rw [swp2_some hk h6 h7, h8]
      · cases h
    · rename_i x px y py z pz kt pt vs k2 pt2 pos
      split at h
      · rename_i i j l
        simp only [Bool.and_eq_true, decide_eq_true_eq, Bool.not_eq_true'] at h
        obtain ⟨⟨⟨⟨⟨⟨⟨⟨⟨⟨⟨⟨⟨h1, h2⟩, h2'⟩, h3⟩, h3'⟩, h3''⟩, h4⟩, h5⟩, h5'⟩, h6⟩, h7⟩, h8⟩, h9⟩, h10⟩ := h
        obtain ⟨q1, q2, _⟩ := soundEs (W := W) es ok.ok h10
        obtain ⟨a, b, d, rfl⟩ : ∃ a b d, vs = [a, b, d] := by
          match vs, h9 with
          | [a, b, d], _ => exact ⟨a, b, d, rfl⟩
        rw [← ok.ok.sc] at h6 h8 h4 h5 h5'
        rw [← ok.ok.N] at h1 h2 h2'
        refine ss_par3 (ps_par3 ok.ok.calm ok.ok.nd h1 h2 h2' h3 h3' h3'' (locB_strict h4) (locB_strict h5) (locB_strict h5') q1 ?_ rfl)
        rw [swp2_some hk h6 h7, h8]
      · cases h
    · cases h
  | .expr e, X, c, st, ok, h => by
    simp only [chkS] at h
    split at h
    · simp only [Bool.and_eq_true] at h
      exact ss_expr (ps_expr (soundE e ok.ok h.2).1 (noComp_drop h.1))
    · cases h
  | .ret e, X, c, st, ok, h => by
    simp only [chkS] at h
    split at h
    · exact ss_ret (soundE e ok.ok h).1
    · cases h
  | .retN, X, c, st, ok, h => by
    simp only [chkS] at h
    split at h
    · refine (ps_retN).of fun E σ H q => ?_
      obtain ⟨F, ι, env, S, r, rel, re, h, p⟩ := q
      cases h
      exact p F ι H .non (Ext.refl _ _) rel (.d .non)
    · cases h
  | .ifs t a b, X, c, st, ok, h => by
    simp only [chkS] at h
    split at h
    · simp only [Bool.and_eq_true] at h
      exact ss_if (soundE t ok.ok h.1.1).2 (soundSs a ok h.1.2) (soundSs b ok h.2)
    · cases h
  | .for t src b, X, c, st, ok, h => by
    simp only [chkS] at h
    split at h
    · simp only [Bool.and_eq_true] at h
      obtain ⟨⟨⟨h1, h2⟩, h3⟩, h4⟩ := h
      exact ss_for ok.own ok.ok.calm (soundI src ok.ok h2) (soundG t ok h3).1 (soundSs b ok h4) (noSet_fold h1)
    · cases h
  | .while t b, X, c, st, ok, h => by
    simp only [chkS] at h
    split at h
    · simp only [Bool.and_eq_true] at h
      exact ss_while ok.own (soundE t ok.ok h.1).2 (soundSs b ok h.2)
    · cases h
  | .brk, X, c, st, ok, h => by
    simp only [chkS] at h
    split at h
    · exact ss_brk
    · cases h
  | .cnt, X, c, st, ok, h => by
    simp only [chkS] at h
    split at h
    · exact ss_cnt
    · cases h
  | .pass, X, c, st, ok, h => by
    simp only [chkS] at h
    split at h
    · exact ss_skip ps_pass
    · exact ss_skip ps_doc
    · cases h
  | .never, X, c, st, ok, h => ps_never.of fun E σ H q => by
    obtain ⟨F, ι, env, S, r, rel, re, h, p⟩ := q
    cases h
theorem soundSs {W : XW} {fs : String → Fn} {k : Nat} : ∀ (m : MSs) {X : Cx} {c : Sc} {sts : List Stmt}, Cos X fs k c → chkSs c m sts = true → PSs X sts (tSt X.K W (evSs fs m))
  | .nil, X, c, sts, ok, h => by
    simp only [chkSs] at h
    split at h
    · exact ss_nil
    · cases h
  | .cons a r, X, c, sts, ok, h => by
    simp only [chkSs] at h
    split at h
    · simp only [Bool.and_eq_true] at h
      exact ss_cons (soundS a ok h.1) (soundSs r ok h.2)
    · cases h
  | .frz i r, X, c, sts, ok, h => by
    simp only [chkSs] at h
    exact ss_frz (soundSs r ok h)
end
end G

namespace G
open PySem PySem.Spec PyProof.Rows L2
/-- a def of the program: its key, its name, its tree, its names by slot, its body -/
structure DefD where
  key : String
  qual : String
  st : Stmt
  N : List String
  np : Nat
  body : MSs
def DefD.N' (d : DefD) : List Str := d.N.map Str.ofString
def DefD.ps (d : DefD) : List Str := d.N'.take d.np
noncomputable def FS (defs : List DefD) : Nat → String → Fn
  | 0, _ => fun _ _ => none
  | k + 1, key => match defs.find? (fun d => d.key == key) with
    | some d => runFn d.np d.N.length (evSs (FS defs k) d.body)
    | none => fun _ _ => none
def chkScope (N ps : List Str) (sc : Scope) : Bool :=
  decide (sc.kind = .function) && !sc.isCoroutine && !sc.isGenerator && decide N.Nodup && decide (N.take ps.length = ps) && ps.all (fun x => decide (sc.names.lookup x = some .local) || decide (sc.names.lookup x = some .cell)) && sc.names.all fun y => decide (y.2 ≠ .free)
theorem chkScope_of {N ps : List Str} {sc : Scope} (h : chkScope N ps sc = true) : FnScope N ps sc := by
  simp only [chkScope, Bool.and_eq_true, decide_eq_true_eq, List.all_eq_true, Bool.or_eq_true, Bool.not_eq_true'] at h
  obtain ⟨⟨⟨⟨⟨⟨h1, h2⟩, h3⟩, h4⟩, h5⟩, h6⟩, h7⟩ := h
  exact ⟨h1, h2, h3, h4, h5, h6, h7⟩
def chkDef (T : Tab) (d : DefD) : Bool := chkScope d.N' d.ps (defScope d.st) && decide (d.np ≤ d.N.length) && chkSs ⟨T, d.N', defScope d.st⟩ d.body (defBody d.st)
/-- where a def stands behind the top -/
structure DefAt (K : PySem.W.Frag) (mg : Str → Option Value) (d : DefD) : Prop where
  ex : ∃ f fd, Fun K (Str.ofString d.key) (Str.ofString d.qual) d.st f fd ∧ mg (Str.ofString d.key) = some (.ref f) ∧ Binds K fd d.ps []
/-- a constant of the module -/
structure GlbAt (K : PySem.W.Frag) (mg : Str → Option Value) (p : String × D) : Prop where
  ex : ∃ v u, mg (Str.ofString p.1) = some u ∧ RelV v u ∧ (∀ F, Dp K F v p.2) ∧ (isTupD p.2 = true → KTup K v)
structure ProgOk (K : PySem.W.Frag) (mg : Str → Option Value) (T : Tab) (defs : List DefD) : Prop where
  chk : defs.all (chkDef T) = true
  at_ : ∀ d ∈ defs, DefAt K mg d
  calls : ∀ p ∈ T.calls, p.1 = p.2 ∧ ∃ d ∈ defs, d.key = p.1
  keys : (defs.map (·.key)).Nodup
  glbs : ∀ p ∈ T.glbs, GlbAt K mg p
  blt : ∀ id ∈ bltNames, mg (Str.ofString id) = none
theorem find_key {defs : List DefD} {d : DefD} (hd : d ∈ defs) (hn : (defs.map (·.key)).Nodup) : defs.find? (fun e => e.key == d.key) = some d := by
  induction defs with
  | nil => nomatch hd
  | cons e defs ih =>
    rw [List.map_cons, List.nodup_cons] at hn
    rw [List.find?_cons]
    rcases List.mem_cons.mp hd with rfl | hd
    · simp
    · have ne : (e.key == d.key) = false := beq_eq_false_iff_ne.mpr fun q => hn.1 (by rw [q]; exact List.mem_map_of_mem hd)
      rw [ne]
      exact ih hd hn.2
theorem FS_eq {defs : List DefD} {d : DefD} (hd : d ∈ defs) (hn : (defs.map (·.key)).Nodup) (k : Nat) : FS defs (k + 1) d.key = runFn d.np d.N.length (evSs (FS defs k) d.body) := by
  show (match defs.find? (fun e => e.key == d.key) with | some d => _ | none => _) = _
  rw [find_key hd hn]
theorem runFn_len {np nn : Nat} {b : DenS} {vs : List Val} {S : Store} {r : R Val} (h : runFn np nn b vs S = some r) : vs.length = np := by
  unfold runFn at h
  split at h
  · assumption
  · cases h
theorem prog_ok {P : Program} {w : World} {K : PySem.W.Frag} {mg : Str → Option Value} {base : Heap} {T : Tab} {defs : List DefD} (O : ProgOk K mg T defs) : ∀ (k : Nat) (d : DefD), d ∈ defs → ∀ f fd, Fun K (Str.ofString d.key) (Str.ofString d.qual) d.st f fd →
    FnOk P w K mg base CX0 k f fd d.ps (spG K d.np (FS defs k d.key))
  | 0, d, hd, f, fd, Fu => by
    have hc := List.all_eq_true.mp O.chk d hd
    simp only [chkDef, Bool.and_eq_true, decide_eq_true_eq] at hc
    have hpl : d.ps.length = d.np := by
      unfold DefD.ps DefD.N'
      rw [List.length_take, List.length_map]
      omega
    refine ⟨fun vs H Q E h => ?_, fun A outer s H args us vs Q E _ _ _ _ h => ?_⟩
    · obtain ⟨F, ι, S, args, v, S', rel, ra, hl, hf, _⟩ := h
      cases hf
    · obtain ⟨F, ι, S, args, v, S', rel, ra, hl, hf, _⟩ := h
      cases hf
  | k + 1, d, hd, f, fd, Fu => by
    have hc := List.all_eq_true.mp O.chk d hd
    simp only [chkDef, Bool.and_eq_true, decide_eq_true_eq] at hc
    obtain ⟨⟨h1, h2⟩, h3⟩ := hc
    have hpl : d.ps.length = d.np := by
      unfold DefD.ps DefD.N'
      rw [List.length_take, List.length_map]
      omega
    have hnl : d.N'.length = d.N.length := by unfold DefD.N'; rw [List.length_map]
    have Sc := chkScope_of h1
    rw [FS_eq hd O.keys, ← hpl, ← hnl]
    refine fn_ok Fu Sc fun cdv A outer s H E hr => ?_
    refine soundSs (X := (cxOf CX0 P w K mg base d.N' (Str.ofString d.qual) (defScope d.st) f cdv A outer s H E).nox) (c := ⟨T, d.N', defScope d.st⟩) d.body ⟨⟨rfl, rfl, Sc.kind, rfl, Sc.nd, hr, fun p hp => ?_, fun p hp => (O.glbs p hp).ex, O.blt⟩, PassesOwn.never, fun y => rfl⟩ h3
    obtain ⟨e, d', hd', e'⟩ := O.calls p hp
    obtain ⟨f', fd', Fu', hm, hb⟩ := (O.at_ d' hd').ex
    have hpl' : d'.ps.length = d'.np := by
      have hc' := List.all_eq_true.mp O.chk d' hd'
      simp only [chkDef, Bool.and_eq_true, decide_eq_true_eq] at hc'
      unfold DefD.ps DefD.N'
      rw [List.length_take, List.length_map]
      omega
    refine ⟨f', fd', d'.ps, [], [], [], FS defs k d'.key, ?_, Fu'.kp, hb, .nil, fun F => .nil, ?_, fun vs S r hr => ?_, fun vs S => ?_⟩
    · rw [← e']; exact hm
    · rw [hpl']; exact prog_ok O k d' hd' f' fd' Fu'
    · rw [hpl']
      cases k with
      | zero => cases hr
      | succ k =>
        rw [FS_eq hd' O.keys] at hr
        exact runFn_len hr
    · rw [← e, ← e']; simp
/-! ### the end -/
def spLaw (K : PySem.W.Frag) : Sp := fun vs H Q _ => ∃ (a : Addr) (ns : List Int), vs = [.ref a] ∧ SqL K H a (ns.map V.int) ∧ ns.length ≤ 63 ∧ ∀ H', Q (.bl true) H'
theorem law_imp {K : PySem.W.Frag} {f : Fn} (h : ∀ ns : List Int, ns.length ≤ 63 → ∃ S, f [.d (.list (ns.map .int))] [] = some (.ok (.d (.bool true)) S)) : ∀ vs H Q E, spLaw K vs H Q E → spG K 1 f vs H Q E := by
  rintro vs H Q E ⟨a, ns, rfl, hS, hl, q⟩
  obtain ⟨S, e⟩ := h ns hl
  refine ⟨H, [], [], [.d (.list (ns.map .int))], _, S, ⟨Same.refl _, List.nodup_nil, rfl, (fun _ h => nomatch h), fun n c a h _ => by simp at h⟩, .cons (.d (.lst hS (ints_dpAll ns))) .nil, rfl, e, fun F' ι' H' u x rel r => ?_⟩
  cases r with
  | d r =>
    cases r
    exact q H'
theorem def_at {K : PySem.W.Frag} {mg : Str → Option Value} {h : Heap} {d : DefD} {f : Addr} {oc : Value} {od an : Option Addr} {osl : Array (Option Value)} {kV doc pm cdv ct : Value} (X : K.In h) (G : h.Ns mainGlobals mg)
    (a : PySem.W.nsIn K mainGlobals (Str.ofString d.key) = some (some (.ref f))) (l : K.lookup f = some ⟨oc, od, .func (PySem.W.fnOf (Str.ofString d.key) (Str.ofString d.qual) (defArgs d.st) (defBody d.st) (defScope d.st) .none kV doc pm an cdv ct), osl⟩)
    (c : PySem.W.codeIn K cdv (Str.ofString d.qual) = true) (kp : PySem.W.keepIn K (.ref f) = true)
    (b : ∀ (kV doc pm : Value) (an : Option Addr) (cdv ct : Value) (us : List Value), us.length = d.ps.length → bindArgs (PySem.W.fnOf (Str.ofString d.key) (Str.ofString d.qual) (defArgs d.st) (defBody d.st) (defScope d.st) .none kV doc pm an cdv ct) ⟨us, []⟩ = pure (d.ps.zip us)) :
    DefAt K mg d := by
  have F := fun_mk (st := d.st) l c kp
  exact ⟨f, _, F, PySem.W.mg_of X G a, F.binds b⟩
theorem glb_at {K : PySem.W.Frag} {mg : Str → Option Value} {h : Heap} {x : String} {d : D} {v : V} {u : Value} (X : K.In h) (G : h.Ns mainGlobals mg) (a : PySem.W.nsIn K mainGlobals (Str.ofString x) = some (some u)) (r : RelV v u) (dp : ∀ F, Dp K F v d) (kt : isTupD d = true → KTup K v) : GlbAt K mg (x, d) :=
  ⟨v, u, PySem.W.mg_of X G a, r, dp, kt⟩
/-- a tuple of the written part -/
theorem dp_ktup {K : PySem.W.Frag} {a : Addr} {o : Obj} {its : Array Value} {n : Nat} {vs : List V} {ds : List D} (l : K.lookup a = some o) (c : o.cls = .type "tuple") (d : o.data = .seq its n) (z : its.size ≤ sizeLine) (r : Vals vs its.toList) (h : ∀ F, DpAll K F vs ds) : ∀ F, Dp K F (.ref a) (.tuple ds) :=
  fun F => .tup (.inr ⟨o, its, n, l, c, d, z, r⟩) (h F)
end G

/-! Running the evaluator by simp. -/
namespace G
open PySem L2
theorem char_toNat_inj : ∀ {as bs : List Char}, as.map Char.toNat = bs.map Char.toNat → as = bs
  | [], [], _ => rfl
  | [], _ :: _, h => by simp at h
  | _ :: _, [], h => by simp at h
  | a :: as, b :: bs, h => by
    rw [List.map_cons, List.map_cons, List.cons.injEq] at h
    rw [char_toNat_inj h.2]
    congr 1
    exact Char.toNat_inj.mp h.1
@[simp] theorem ofString_inj {a b : String} : Str.ofString a = Str.ofString b ↔ a = b := by
  constructor
  · intro h
    rw [Str.ofString_eq_toList, Str.ofString_eq_toList] at h
    have h2 := congrArg (fun s : Str => s.cps.toList) h
    exact String.toList_inj.mp (char_toNat_inj h2)
  · rintro rfl; rfl

/-- a def's end -/
def fin (S : Store) (r : Option (R Fl)) : Option (R Val) := match r with
  | some (.ok (.ret v) S1) => closeV S.length v S1
  | some (.ok (.nx _) S1) => some (.ok (.d .none) (S1.take S.length))
  | some (.er x S1) => some (.er x (S1.take S.length))
  | _ => none
theorem runFn_fin {np nn : Nat} {body : DenS} {vs : List Val} {S : Store} (h : vs.length = np) : runFn np nn body vs S = fin S (body (vs.map some ++ List.replicate (nn - vs.length) none) S) := by
  unfold runFn fin
  rw [if_pos h]
  try rfl
@[simp] theorem fin_d (S S1 : Store) (x : D) : fin S (some (.ok (.ret (.d x)) S1)) = some (.ok (.d x) (S1.take S.length)) := Eq.trans rfl rfl
@[simp] theorem fin_nx (S S1 : Store) (e : Env) : fin S (some (.ok (.nx e) S1)) = some (.ok (.d .none) (S1.take S.length)) := Eq.trans rfl rfl

/-- bind that does not reduce by itself in simp -/
def ob {α β : Type} (o : Option α) (f : α → Option β) : Option β := o.bind f
@[simp] theorem ob_some {α β : Type} (a : α) (f : α → Option β) : ob (some a) f = f a := Eq.trans rfl rfl
@[simp] theorem ob_none {α β : Type} (f : α → Option β) : ob none f = none := Eq.trans rfl rfl
@[simp] theorem e_cVar (i : Nat) (env : Env) (S : Store) : cVar i env S = (match env[i]? with
  | some (some v) => some (.ok v S)
  | _ => none) := Eq.trans rfl rfl
@[simp] theorem e_cCst (x : D) (z0 : Env) (S : Store) : cCst x z0 S = (some (.ok (.d x) S)) := Eq.trans rfl rfl
@[simp] theorem e_cOp1 (f : D → Option D) (a : Den) (env : Env) (S : Store) : cOp1 f a env S = (bnd (a env S) fun v S1 => givD (ob (view S1 v) f) S1) := Eq.trans rfl rfl
@[simp] theorem e_cOp2 (f : D → D → Option D) (a b : Den) (env : Env) (S : Store) : cOp2 f a b env S = (bnd (a env S) fun v S1 => bnd (b env S1) fun u S2 => givD (ob (view S2 v) fun x => ob (view S2 u) fun y => f x y) S2) := Eq.trans rfl rfl
@[simp] theorem e_cIte (t : DenT) (a b : Den) (env : Env) (S : Store) : cIte t a b env S = (bnd (t env S) fun k S1 => if k then a env S1 else b env S1) := Eq.trans rfl rfl
@[simp] theorem e_cTru (a : Den) (env : Env) (S : Store) : cTru a env S = (bnd (a env S) fun v S1 => givB (ob (view S1 v) tru) S1) := Eq.trans rfl rfl
@[simp] theorem e_cNotT (a : DenT) (env : Env) (S : Store) : cNotT a env S = (bnd (a env S) fun k S1 => some (.ok (!k) S1)) := Eq.trans rfl rfl
@[simp] theorem e_cAndT (a b : DenT) (env : Env) (S : Store) : cAndT a b env S = (bnd (a env S) fun k S1 => if k then b env S1 else some (.ok false S1)) := Eq.trans rfl rfl
@[simp] theorem e_cOrT (a b : DenT) (env : Env) (S : Store) : cOrT a b env S = (bnd (a env S) fun k S1 => if k then some (.ok true S1) else b env S1) := Eq.trans rfl rfl
@[simp] theorem e_cIteT (t a b : DenT) (env : Env) (S : Store) : cIteT t a b env S = (bnd (t env S) fun k S1 => if k then a env S1 else b env S1) := Eq.trans rfl rfl
@[simp] theorem e_cAnd (a b : Den) (env : Env) (S : Store) : cAnd a b env S = (bnd (a env S) fun v S1 => match ob (view S1 v) tru with
  | some k => if k then b env S1 else some (.ok v S1)
  | none => none) := Eq.trans rfl rfl
@[simp] theorem e_cOr (a b : Den) (env : Env) (S : Store) : cOr a b env S = (bnd (a env S) fun v S1 => match ob (view S1 v) tru with
  | some k => if k then some (.ok v S1) else b env S1
  | none => none) := Eq.trans rfl rfl
@[simp] theorem e_cNil (z0 : Env) (S : Store) : cNil  z0 S = (some (.ok [] S)) := Eq.trans rfl rfl
@[simp] theorem e_cCons (a : Den) (r : DenA) (env : Env) (S : Store) : cCons a r env S = (bnd (a env S) fun v S1 => bnd (r env S1) fun vs S2 => some (.ok (v :: vs) S2)) := Eq.trans rfl rfl
@[simp] theorem e_cTup (a : DenA) (env : Env) (S : Store) : cTup a env S = (bnd (a env S) fun vs S1 => givD (ob (dats vs) (fitD .tuple)) S1) := Eq.trans rfl rfl
@[simp] theorem e_cLst (a : DenA) (env : Env) (S : Store) : cLst a env S = (bnd (a env S) fun vs S1 => givD (ob (dats vs) (fitD .list)) S1) := Eq.trans rfl rfl
@[simp] theorem e_cSlc (a : Den) (lo hi : DenO) (env : Env) (S : Store) : cSlc a lo hi env S = (bnd (a env S) fun v S1 => bnd (lo env S1) fun l S2 => bnd (hi env S2) fun h S3 => givD (ob (view S3 v) (slcD l h)) S3) := Eq.trans rfl rfl
@[simp] theorem e_cNoPart (z0 : Env) (S : Store) : cNoPart  z0 S = (some (.ok none S)) := Eq.trans rfl rfl
@[simp] theorem e_cPart (a : Den) (env : Env) (S : Store) : cPart a env S = (bnd (a env S) fun v S1 => match v with
  | .d (.int i) => some (.ok (some i) S1)
  | _ => none) := Eq.trans rfl rfl
@[simp] theorem e_cSkip (env : Env) (S : Store) : cSkip  env S = (some (.ok (.nx env) S)) := Eq.trans rfl rfl
@[simp] theorem e_cBrk (env : Env) (S : Store) : cBrk  env S = (some (.ok (.brk env) S)) := Eq.trans rfl rfl
@[simp] theorem e_cCnt (env : Env) (S : Store) : cCnt  env S = (some (.ok (.cnt env) S)) := Eq.trans rfl rfl
@[simp] theorem e_cSeq (a b : DenS) (env : Env) (S : Store) : cSeq a b env S = (bnd (a env S) (thenS b)) := Eq.trans rfl rfl
@[simp] theorem e_cExpr (a : Den) (env : Env) (S : Store) : cExpr a env S = (bnd (a env S) fun _ S1 => some (.ok (.nx env) S1)) := Eq.trans rfl rfl
@[simp] theorem e_cRet (a : Den) (env : Env) (S : Store) : cRet a env S = (bnd (a env S) fun v S1 => some (.ok (.ret v) S1)) := Eq.trans rfl rfl
@[simp] theorem e_cIfS (t : DenT) (a b : DenS) (env : Env) (S : Store) : cIfS t a b env S = (bnd (t env S) fun k S1 => if k then a env S1 else b env S1) := Eq.trans rfl rfl
@[simp] theorem e_cAsg (a : Den) (g : DenG) (env : Env) (S : Store) : cAsg a g env S = (bnd (a env S) fun v S1 => bnd (g v env S1) fun e S2 => some (.ok (.nx e) S2)) := Eq.trans rfl rfl
@[simp] theorem e_gN (i : Nat) (v : Val) (env : Env) (S : Store) : gN i v env S = (if i < env.length then some (.ok (env.set i (some v)) S) else none) := Eq.trans rfl rfl
@[simp] theorem e_gT (n : Nat) (gs : DenGs) (v : Val) (env : Env) (S : Store) : gT n gs v env S = (match v with
  | .d (.tuple xs) => if xs.length = n then gs (xs.map .d) env S else none
  | .tup vs => if vs.length = n then gs vs env S else none
  | _ => none) := Eq.trans rfl rfl
@[simp] theorem e_cPar (is : List Nat) (a : DenA) (env : Env) (S : Store) : cPar is a env S = (bnd (a env S) fun vs S1 =>
  if is.all (fun i => decide (i < env.length)) ∧ vs.length = is.length then some (.ok (.nx ((is.zip vs).foldl (fun e p => e.set p.1 (some p.2)) env)) S1) else none) := Eq.trans rfl rfl
@[simp] theorem e_iSeq (a : Den) (env : Env) (S : Store) : iSeq a env S = (bnd (a env S) fun v S1 => givL (ob (datOf v) seqOf) S1) := Eq.trans rfl rfl
@[simp] theorem e_iRng1 (a : Den) (env : Env) (S : Store) : iRng1 a env S = (bnd (a env S) fun v S1 => givL (ob (datOf v) rng1) S1) := Eq.trans rfl rfl
@[simp] theorem e_iRng2 (a b : Den) (env : Env) (S : Store) : iRng2 a b env S = (bnd (a env S) fun v S1 => bnd (b env S1) fun u S2 => givL (ob (datOf v) fun x => ob (datOf u) fun y => rng2 x y) S2) := Eq.trans rfl rfl
@[simp] theorem e_iEnm (a : Den) (env : Env) (S : Store) : iEnm a env S = (bnd (a env S) fun v S1 => givL (ob (datOf v) enm) S1) := Eq.trans rfl rfl
@[simp] theorem e_iZp (a b : Den) (env : Env) (S : Store) : iZp a b env S = (bnd (a env S) fun v S1 => bnd (b env S1) fun u S2 => givL (ob (datOf v) fun x => ob (datOf u) fun y => zp x y) S2) := Eq.trans rfl rfl
@[simp] theorem e_cFor (src : DenI) (g : DenG) (body : DenS) (env : Env) (S : Store) : cFor src g body env S = (bnd (src env S) fun xs S1 => forL g body xs env S1) := Eq.trans rfl rfl
@[simp] theorem e_cCallO (f : Fn) (a : DenA) (env : Env) (S : Store) : cCallO f a env S = (bnd (a env S) fun vs S1 => okOnly (f vs S1)) := Eq.trans rfl rfl
@[simp] theorem e_cYes (z0 : Env) (S : Store) : cYes  z0 S = (some (.ok true S)) := Eq.trans rfl rfl
@[simp] theorem e_cChain (f g : D → D → Option D) (a b c : Den) (env : Env) (S : Store) : cChain f g a b c env S = (bnd (a env S) fun v S1 => bnd (b env S1) fun u S2 => match ob (view S2 v) fun x => ob (view S2 u) fun y => f x y with
  | some (.bool true) => bnd (c env S2) fun w S3 => givD (ob (view S3 u) fun y => ob (view S3 w) fun z => g y z) S3
  | some (.bool false) => some (.ok (.d (.bool false)) S2)
  | _ => none) := Eq.trans rfl rfl
@[simp] theorem e_evE_0 (fs : String → Fn) {i} : evE fs (.var i) = (cVar i) := by rw [evE]
@[simp] theorem e_evE_1 (fs : String → Fn) {d} : evE fs (.cst d) = (cCst d) := by rw [evE]
@[simp] theorem e_evE_2 (fs : String → Fn) {u1 d} : evE fs (.glb u1 d) = (cCst d) := by rw [evE]
@[simp] theorem e_evE_3 (fs : String → Fn) {op a b} : evE fs (.bin op a b) = (cOp2 (binD op) (evE fs a) (evE fs b)) := by rw [evE]
@[simp] theorem e_evE_4 (fs : String → Fn) {op a b} : evE fs (.cmp op a b) = (cOp2 (cmpD op) (evE fs a) (evE fs b)) := by rw [evE]
@[simp] theorem e_evE_5 (fs : String → Fn) {op op' a b c} : evE fs (.chain op op' a b c) = (cChain (cmpD op) (cmpD op') (evE fs a) (evE fs b) (evE fs c)) := by rw [evE]
@[simp] theorem e_evE_6 (fs : String → Fn) {n a} : evE fs (.isN n a) = (cOp1 (isNoneD n) (evE fs a)) := by rw [evE]
@[simp] theorem e_evE_7 (fs : String → Fn) {a} : evE fs (.neg a) = (cOp1 negD (evE fs a)) := by rw [evE]
@[simp] theorem e_evE_8 (fs : String → Fn) {a} : evE fs (.not a) = (cOp1 notD (evE fs a)) := by rw [evE]
@[simp] theorem e_evE_9 (fs : String → Fn) {isAnd es} : evE fs (.bool isAnd es) = (evB fs isAnd es) := by rw [evE]
@[simp] theorem e_evE_10 (fs : String → Fn) {c a b} : evE fs (.ite c a b) = (cIte (cTru (evE fs c)) (evE fs a) (evE fs b)) := by rw [evE]
@[simp] theorem e_evE_11 (fs : String → Fn) {es} : evE fs (.tup es) = (cTup (evEs fs es)) := by rw [evE]
@[simp] theorem e_evE_12 (fs : String → Fn) {es} : evE fs (.lst es) = (cLst (evEs fs es)) := by rw [evE]
@[simp] theorem e_evE_13 (fs : String → Fn) {es} : evE fs (.new es) = (cNew (evEs fs es)) := by rw [evE]
@[simp] theorem e_evE_14 (fs : String → Fn) {a b} : evE fs (.idx a b) = (cOp2 idxD (evE fs a) (evE fs b)) := by rw [evE]
@[simp] theorem e_evE_15 (fs : String → Fn) {a lo hi} : evE fs (.slc a lo hi) = (cSlc (evE fs a) (evO fs lo) (evO fs hi)) := by rw [evE]
@[simp] theorem e_evE_16 (fs : String → Fn) {id a} : evE fs (.blt1 id a) = (cOp1 (blt1 id) (evE fs a)) := by rw [evE]
@[simp] theorem e_evE_17 (fs : String → Fn) {id a b} : evE fs (.blt2 id a b) = (cOp2 (blt2 id) (evE fs a) (evE fs b)) := by rw [evE]
@[simp] theorem e_evE_18 (fs : String → Fn) {T a} : evE fs (.isa T a) = (cOp1 (isaD T) (evE fs a)) := by rw [evE]
@[simp] theorem e_evE_19 (fs : String → Fn) {o a} : evE fs (.app o a) = (cApp (evE fs o) (evE fs a)) := by rw [evE]
@[simp] theorem e_evE_20 (fs : String → Fn) {u1 key es} : evE fs (.call u1 key es) = (cCallO (fs key) (evEs fs es)) := by rw [evE]
@[simp] theorem e_evE_21 (fs : String → Fn) {live tup is src ifs el own} : evE fs (.comp live tup is src ifs el own) = (cLc live (evI fs src) (cT tup is) (evIf fs ifs) (evE fs el) (own.map (·.2))) := by rw [evE]
@[simp] theorem e_evB_0 (fs : String → Fn) (isAnd : Bool) : evB fs isAnd (.nil) = (fun _ _ => none) := by rw [evB]
@[simp] theorem e_evB_1 (fs : String → Fn) (isAnd : Bool) {a} : evB fs isAnd (.cons a .nil) = (evE fs a) := by rw [evB]
@[simp] theorem e_evB_2 (fs : String → Fn) (isAnd : Bool) {a b r} : evB fs isAnd (.cons a (.cons b r)) = (if isAnd then cAnd (evE fs a) (evB fs isAnd (.cons b r)) else cOr (evE fs a) (evB fs isAnd (.cons b r))) := by rw [evB]
@[simp] theorem e_evEs_0 (fs : String → Fn) : evEs fs (.nil) = (cNil) := by rw [evEs]
@[simp] theorem e_evEs_1 (fs : String → Fn) {a r} : evEs fs (.cons a r) = (cCons (evE fs a) (evEs fs r)) := by rw [evEs]
@[simp] theorem e_evO_0 (fs : String → Fn) : evO fs (.none) = (cNoPart) := by rw [evO]
@[simp] theorem e_evO_1 (fs : String → Fn) {a} : evO fs (.some a) = (cPart (evE fs a)) := by rw [evO]
@[simp] theorem e_evIf_0 (fs : String → Fn) : evIf fs (.none) = (cYes) := by rw [evIf]
@[simp] theorem e_evIf_1 (fs : String → Fn) {a} : evIf fs (.some a) = (cTru (evE fs a)) := by rw [evIf]
@[simp] theorem e_evI_0 (fs : String → Fn) {a} : evI fs (.seq a) = (iSeq (evE fs a)) := by rw [evI]
@[simp] theorem e_evI_1 (fs : String → Fn) {a} : evI fs (.rng1 a) = (iRng1 (evE fs a)) := by rw [evI]
@[simp] theorem e_evI_2 (fs : String → Fn) {a b} : evI fs (.rng2 a b) = (iRng2 (evE fs a) (evE fs b)) := by rw [evI]
@[simp] theorem e_evI_3 (fs : String → Fn) {a} : evI fs (.enm a) = (iEnm (evE fs a)) := by rw [evI]
@[simp] theorem e_evI_4 (fs : String → Fn) {a b} : evI fs (.zip a b) = (iZp (evE fs a) (evE fs b)) := by rw [evI]
@[simp] theorem e_evG_0 (fs : String → Fn) {i} : evG fs (.name i) = (gN i) := by rw [evG]
@[simp] theorem e_evG_1 (fs : String → Fn) {ts} : evG fs (.tup ts) = (gT ts.len (evGs fs ts)) := by rw [evG]
@[simp] theorem e_evG_2 (fs : String → Fn) {o i} : evG fs (.sub o i) = (gL (evE fs o) (evE fs i)) := by rw [evG]
@[simp] theorem e_evGs_0 (fs : String → Fn) : evGs fs (.nil) = (gsN) := by rw [evGs]
@[simp] theorem e_evGs_1 (fs : String → Fn) {a r} : evGs fs (.cons a r) = (gsC (evG fs a) (evGs fs r)) := by rw [evGs]
@[simp] theorem e_evS_0 (fs : String → Fn) {t e} : evS fs (.asg t e) = (cAsg (evE fs e) (evG fs t)) := by rw [evS]
@[simp] theorem e_evS_1 (fs : String → Fn) {is es} : evS fs (.par is es) = (cPar is (evEs fs es)) := by rw [evS]
@[simp] theorem e_evS_2 (fs : String → Fn) {e} : evS fs (.expr e) = (cExpr (evE fs e)) := by rw [evS]
@[simp] theorem e_evS_3 (fs : String → Fn) {e} : evS fs (.ret e) = (cRet (evE fs e)) := by rw [evS]
@[simp] theorem e_evS_4 (fs : String → Fn) : evS fs (.retN) = (cRet (cCst .none)) := by rw [evS]
@[simp] theorem e_evS_5 (fs : String → Fn) {c a b} : evS fs (.ifs c a b) = (cIfS (cTru (evE fs c)) (evSs fs a) (evSs fs b)) := by rw [evS]
@[simp] theorem e_evS_6 (fs : String → Fn) {t src b} : evS fs (.for t src b) = (cFor (evI fs src) (evG fs t) (evSs fs b)) := by rw [evS]
@[simp] theorem e_evS_7 (fs : String → Fn) {c b} : evS fs (.while c b) = (cWhile (cTru (evE fs c)) (evSs fs b)) := by rw [evS]
@[simp] theorem e_evS_8 (fs : String → Fn) : evS fs (.brk) = (cBrk) := by rw [evS]
@[simp] theorem e_evS_9 (fs : String → Fn) : evS fs (.cnt) = (cCnt) := by rw [evS]
@[simp] theorem e_evS_10 (fs : String → Fn) : evS fs (.pass) = (cSkip) := by rw [evS]
@[simp] theorem e_evS_11 (fs : String → Fn) : evS fs (.never) = (fun _ _ => none) := by rw [evS]
@[simp] theorem e_evSs_0 (fs : String → Fn) : evSs fs (.nil) = (cSkip) := by rw [evSs]
@[simp] theorem e_evSs_1 (fs : String → Fn) {a r} : evSs fs (.cons a r) = (cSeq (evS fs a) (evSs fs r)) := by rw [evSs]
@[simp] theorem e_evSs_2 (fs : String → Fn) {i r} : evSs fs (.frz i r) = (cSeq (cFrzV i) (evSs fs r)) := by rw [evSs]
@[simp] theorem e_evE_lidx (fs : String → Fn) {o a} : evE fs (.lidx o a) = cLidx (evE fs o) (evE fs a) := by rw [evE]
@[simp] theorem e_evE_gidx (fs : String → Fn) {x d a} : evE fs (.gidx x d a) = cOp1 (indexT d) (evE fs a) := by rw [evE]
@[simp] theorem e_evE_sset (fs : String → Fn) {a} : evE fs (.sset a) = cOp1 ssetD (evE fs a) := by rw [evE]
@[simp] theorem e_cLidx (o a : Den) (env : Env) (S : Store) : cLidx o a env S = bnd (o env S) fun v S1 => match v with
  | .d (.list ys) => bnd (a env S1) fun u S2 => givD (ob (view S2 u) (indexL (.list ys))) S2
  | _ => none := Eq.trans rfl rfl
@[simp] theorem e_gsN0 (env : Env) (S : Store) : gsN [] env S = some (.ok env S) := Eq.trans rfl rfl
@[simp] theorem e_gsN1 (x : Val) (xs : List Val) (env : Env) (S : Store) : gsN (x :: xs) env S = none := Eq.trans rfl rfl
@[simp] theorem e_gsC0 (g : DenG) (gs : DenGs) (env : Env) (S : Store) : gsC g gs [] env S = none := Eq.trans rfl rfl
@[simp] theorem e_gsC1 (g : DenG) (gs : DenGs) (x : Val) (xs : List Val) (env : Env) (S : Store) : gsC g gs (x :: xs) env S = bnd (g x env S) fun e S1 => gs xs e S1 := Eq.trans rfl rfl
@[simp] theorem e_thenS1 (b : DenS) (e : Env) (S : Store) : thenS b (.nx e) S = b e S := Eq.trans rfl rfl
@[simp] theorem e_thenS2 (b : DenS) (e : Env) (S : Store) : thenS b (.brk e) S = some (.ok (.brk e) S) := Eq.trans rfl rfl
@[simp] theorem e_thenS3 (b : DenS) (e : Env) (S : Store) : thenS b (.cnt e) S = some (.ok (.cnt e) S) := Eq.trans rfl rfl
@[simp] theorem e_thenS4 (b : DenS) (e : Val) (S : Store) : thenS b (.ret e) S = some (.ok (.ret e) S) := Eq.trans rfl rfl
@[simp] theorem e_turnS1 (b : Env → Store → Option (R Fl)) (e : Env) (S : Store) : turnS b (.nx e) S = b e S := Eq.trans rfl rfl
@[simp] theorem e_turnS2 (b : Env → Store → Option (R Fl)) (e : Env) (S : Store) : turnS b (.brk e) S = some (.ok (.nx e) S) := Eq.trans rfl rfl
@[simp] theorem e_turnS3 (b : Env → Store → Option (R Fl)) (e : Env) (S : Store) : turnS b (.cnt e) S = b e S := Eq.trans rfl rfl
@[simp] theorem e_turnS4 (b : Env → Store → Option (R Fl)) (e : Val) (S : Store) : turnS b (.ret e) S = some (.ok (.ret e) S) := Eq.trans rfl rfl
@[simp] theorem e_evE_ltup (fs : String → Fn) {es} : evE fs (.ltup es) = (cLtup (evEs fs es)) := by rw [evE]
@[simp] theorem e_cLtup (a : DenA) (env : Env) (S : Store) : cLtup a env S = (bnd (a env S) fun vs S1 => if vs.length ≤ sizeLine then some (.ok (.tup vs) S1) else none) := Eq.trans rfl rfl
@[simp] theorem fin_t (S S1 : Store) (vs : List Val) : fin S (some (.ok (.ret (.tup vs)) S1)) = some (.ok (.tup vs) S1) := Eq.trans rfl rfl
@[simp] theorem e_evE_dget (fs : String → Fn) {o a} : evE fs (.dget o a) = cDget (evE fs o) (evE fs a) := by rw [evE]
@[simp] theorem e_evE_din (fs : String → Fn) {n o a} : evE fs (.din n a o) = cDin n (evE fs a) (evE fs o) := by rw [evE]
@[simp] theorem e_evE_dnew (fs : String → Fn) : evE fs .dnew = cDnew := by rw [evE]
@[simp] theorem e_evE_ddsp (fs : String → Fn) {ks es} : evE fs (.ddsp ks es) = cDdsp ks (evEs fs es) := by rw [evE]
@[simp] theorem e_evG_dsub (fs : String → Fn) {o i} : evG fs (.dsub o i) = gD (evE fs o) (evE fs i) := by rw [evG]
@[simp] theorem e_cDnew (env : Env) (S : Store) : cDnew env S = some (.ok (.loc S.length) (S ++ [.dct []])) := Eq.trans rfl rfl
@[simp] theorem e_cDget (o a : Den) (env : Env) (S : Store) : cDget o a env S = bnd (o env S) fun ov S1 => bnd (a env S1) fun kv S2 => match ov with
  | .loc n => match S2[n]? with
    | some (.dct kvs) => givD (ob (ob (view S2 kv) keyOf) (getK kvs)) S2
    | _ => none
  | _ => none := Eq.trans rfl rfl
@[simp] theorem e_cDin (neg : Bool) (a o : Den) (env : Env) (S : Store) : cDin neg a o env S = bnd (a env S) fun kv S1 => bnd (o env S1) fun ov S2 => match ov with
  | .loc n => match S2[n]? with
    | some (.dct kvs) => givD (ob (ob (view S1 kv) keyOf) fun k => some (.bool (if neg then !(getK kvs k).isSome else (getK kvs k).isSome))) S2
    | _ => none
  | _ => none := by
  have e : ∀ (x : Option Key) (f : Key → D), x.map f = ob x fun k => some (f k) := fun x f => by cases x <;> rfl
  unfold cDin
  simp only [e]
  rfl
@[simp] theorem e_gD (o i : Den) (v : Val) (env : Env) (S : Store) : gD o i v env S = bnd (o env S) fun ov S1 => bnd (i env S1) fun iv S2 => match ov, v with
  | .loc n, .d x => match S2[n]? with
    | some (.dct kvs) => match ob (view S2 iv) keyOf with
      | some k => if kvs.length < sizeLine then some (.ok env (S2.set n (.dct (putD kvs k x)))) else none
      | none => none
    | _ => none
  | _, _ => none := Eq.trans rfl rfl
@[simp] theorem keyOf_int (i : Int) : keyOf (.int i) = some (.inl i) := Eq.trans rfl rfl
@[simp] theorem keyOf_str (i : Str) : keyOf (.str i) = some (.inr i) := Eq.trans rfl rfl
@[simp] theorem e_evE_addL (fs : String → Fn) {a b} : evE fs (.addL a b) = cAddL (evE fs a) (evE fs b) := by rw [evE]
@[simp] theorem e_cAddL (a b : Den) (env : Env) (S : Store) : cAddL a b env S = bnd (a env S) fun v S1 => bnd (b env S1) fun u S2 => match view S2 v, view S2 u with
  | some (.list xs), some (.list ys) => if xs.length + ys.length ≤ sizeLine then some (.ok (.loc S2.length) (S2 ++ [.lst (xs ++ ys)])) else none
  | _, _ => none := Eq.trans rfl rfl
@[simp] theorem e_evE_srtK (fs : String → Fn) {a} : evE fs (.srtK a) = cSrtK (evE fs a) := by rw [evE]
@[simp] theorem e_evE_srtI (fs : String → Fn) {a} : evE fs (.srtI a) = cOp1 srtD (evE fs a) := by rw [evE]
@[simp] theorem srtD_list (ns : List Int) : srtD (.list (ns.map .int)) = some (.list ((srtI ns).map .int)) := by simp [srtD, intsOf_map]
@[simp] theorem srtD_tuple (ns : List Int) : srtD (.tuple (ns.map .int)) = some (.list ((srtI ns).map .int)) := by simp [srtD, intsOf_map]
@[simp] theorem e_evE_rev (fs : String → Fn) {a} : evE fs (.rev a) = cOp1 revD (evE fs a) := by rw [evE]
@[simp] theorem revD_tuple (xs : List D) : revD (.tuple xs) = some (.tuple xs.reverse) := Eq.trans rfl rfl
@[simp] theorem e_cSrtK (o : Den) (env : Env) (S : Store) : cSrtK o env S = bnd (o env S) fun ov S1 => match ov with
  | .loc n => match S1[n]? with
    | some (.dct kvs) => match strKeys kvs with
      | some ks => if ks.length ≤ sizeLine then some (.ok (.d (.list ((srtS ks).map .str))) S1) else none
      | none => none
    | _ => none
  | _ => none := Eq.trans rfl rfl
@[simp] theorem e_evE_op1 (fs : String → Fn) {o a} : evE fs (.op1 o a) = cOp1 (op1D o) (evE fs a) := by rw [evE]
@[simp] theorem op1D_join (s : Str) : op1D (.join s) = joinD s := Eq.trans rfl rfl
@[simp] theorem op1D_split (s : Str) : op1D (.split s) = splitD s := Eq.trans rfl rfl
@[simp] theorem joinD_list (s : Str) (xs : List D) : joinD s (.list xs) = joinL' s xs := Eq.trans rfl rfl
@[simp] theorem joinD_tuple (s : Str) (xs : List D) : joinD s (.tuple xs) = joinL' s xs := Eq.trans rfl rfl
@[simp] theorem datOf_loc (n : Nat) : datOf (.loc n) = none := Eq.trans rfl rfl
@[simp] theorem tru_none : tru .none = some false := Eq.trans rfl rfl
@[simp] theorem tru_bool' (b : Bool) : tru (.bool b) = some b := Eq.trans rfl rfl
@[simp] theorem tru_int (b : Int) : tru (.int b) = some (b != 0) := Eq.trans rfl rfl
@[simp] theorem tru_list (b : List D) : tru (.list b) = some (!b.isEmpty) := Eq.trans rfl rfl
@[simp] theorem tru_tuple (b : List D) : tru (.tuple b) = some (!b.isEmpty) := Eq.trans rfl rfl
@[simp] theorem notD_bool (b : Bool) : notD (.bool b) = some (.bool !b) := Eq.trans rfl rfl
@[simp] theorem notD_list (b : List D) : notD (.list b) = some (.bool (!!b.isEmpty)) := Eq.trans rfl rfl
@[simp] theorem notD_tuple (b : List D) : notD (.tuple b) = some (.bool (!!b.isEmpty)) := Eq.trans rfl rfl
@[simp] theorem notD_int (b : Int) : notD (.int b) = some (.bool (!(b != 0))) := Eq.trans rfl rfl
@[simp] theorem binD_add : binD .Add = addD := Eq.trans rfl rfl
@[simp] theorem binD_sub : binD .Sub = subD := Eq.trans rfl rfl
@[simp] theorem binD_mul : binD .Mult = mulD := Eq.trans rfl rfl
@[simp] theorem binD_fd : binD .FloorDiv = fdivD := Eq.trans rfl rfl
@[simp] theorem binD_mod : binD .Mod = modD := Eq.trans rfl rfl
@[simp] theorem binD_pow : binD .Pow = powD := Eq.trans rfl rfl
@[simp] theorem cmpD_eq : cmpD .Eq = eqD := Eq.trans rfl rfl
@[simp] theorem cmpD_ne : cmpD .NotEq = neD := Eq.trans rfl rfl
@[simp] theorem cmpD_lt : cmpD .Lt = ltD := Eq.trans rfl rfl
@[simp] theorem cmpD_le : cmpD .LtE = leD := Eq.trans rfl rfl
@[simp] theorem cmpD_gt : cmpD .Gt = gtD := Eq.trans rfl rfl
@[simp] theorem cmpD_ge : cmpD .GtE = geD := Eq.trans rfl rfl
@[simp] theorem cmpD_in : cmpD .In = memD false := Eq.trans rfl rfl
@[simp] theorem cmpD_nin : cmpD .NotIn = memD true := Eq.trans rfl rfl
@[simp] theorem addD_int (i j : Int) : addD (.int i) (.int j) = some (.int (i + j)) := Eq.trans rfl rfl
@[simp] theorem addD_list (i j : List D) : addD (.list i) (.list j) = if i.length + j.length ≤ sizeLine then some (.list (i ++ j)) else none := Eq.trans rfl rfl
@[simp] theorem addD_tuple (i j : List D) : addD (.tuple i) (.tuple j) = if i.length + j.length ≤ sizeLine then some (.tuple (i ++ j)) else none := Eq.trans rfl rfl
@[simp] theorem subD_int (i j : Int) : subD (.int i) (.int j) = some (.int (i - j)) := Eq.trans rfl rfl
@[simp] theorem mulD_list (i : List D) (j : Int) : mulD (.list i) (.int j) = if okR j ∧ i.length * j.toNat ≤ sizeLine then some (.list (repL j i)) else none := Eq.trans rfl rfl
@[simp] theorem mulD_tuple (i : List D) (j : Int) : mulD (.tuple i) (.int j) = if 0 < i.length ∧ 2 ≤ j ∧ j ≤ 1000 ∧ i.length ≤ 1000 then some (.tuple (repL j i)) else none := Eq.trans rfl rfl
@[simp] theorem mulD_int (i j : Int) : mulD (.int i) (.int j) = if small i || small j then some (.int (i * j)) else none := Eq.trans rfl rfl
@[simp] theorem fdivD_int (i j : Int) : fdivD (.int i) (.int j) = if CDivOk j then some (.int (i / j)) else none := Eq.trans rfl rfl
@[simp] theorem modD_int (i j : Int) : modD (.int i) (.int j) = if 0 < j then some (.int (i % j)) else none := Eq.trans rfl rfl
@[simp] theorem powD_int (i j : Int) : powD (.int i) (.int j) = if 0 ≤ j ∧ j ≤ 1000000 ∧ i.natAbs < 2 ^ 64 then some (.int (i ^ j.toNat)) else none := Eq.trans rfl rfl
@[simp] theorem ltD_int (i j : Int) : ltD (.int i) (.int j) = some (.bool (decide (i < j))) := Eq.trans rfl rfl
@[simp] theorem leD_int (i j : Int) : leD (.int i) (.int j) = some (.bool (decide (i ≤ j))) := Eq.trans rfl rfl
@[simp] theorem gtD_int (i j : Int) : gtD (.int i) (.int j) = some (.bool (decide (j < i))) := Eq.trans rfl rfl
@[simp] theorem geD_int (i j : Int) : geD (.int i) (.int j) = some (.bool (decide (j ≤ i))) := Eq.trans rfl rfl
@[simp] theorem isNoneD_none (n : Bool) : isNoneD n .none = some (.bool (!n)) := Eq.trans rfl rfl
@[simp] theorem isNoneD_int (n : Bool) (i : Int) : isNoneD n (.int i) = some (.bool n) := Eq.trans rfl rfl
@[simp] theorem isNoneD_tuple (n : Bool) (i : List D) : isNoneD n (.tuple i) = some (.bool n) := Eq.trans rfl rfl
@[simp] theorem isNoneD_list (n : Bool) (i : List D) : isNoneD n (.list i) = some (.bool n) := Eq.trans rfl rfl
@[simp] theorem isNoneD_str (n : Bool) (i : Str) : isNoneD n (.str i) = some (.bool n) := Eq.trans rfl rfl
@[simp] theorem negD_int (i : Int) : negD (.int i) = some (.int (-i)) := Eq.trans rfl rfl
@[simp] theorem idxD_list (xs : List D) (i : Int) : idxD (.list xs) (.int i) = atI xs i := Eq.trans rfl rfl
@[simp] theorem idxD_tuple (xs : List D) (i : Int) : idxD (.tuple xs) (.int i) = atI xs i := Eq.trans rfl rfl
@[simp] theorem slcD_list (lo hi : Option Int) (xs : List D) : slcD lo hi (.list xs) = some (.list (cut xs lo hi)) := Eq.trans rfl rfl
@[simp] theorem slcD_tuple (lo hi : Option Int) (xs : List D) : slcD lo hi (.tuple xs) = some (.tuple (cut xs lo hi)) := Eq.trans rfl rfl
@[simp] theorem seqOf_list (xs : List D) : seqOf (.list xs) = some xs := Eq.trans rfl rfl
@[simp] theorem seqOf_tuple (xs : List D) : seqOf (.tuple xs) = some xs := Eq.trans rfl rfl
@[simp] theorem rng1_int (i : Int) : rng1 (.int i) = if okR i then some (rangeL 0 i.toNat) else none := Eq.trans rfl rfl
@[simp] theorem rng2_int (i j : Int) : rng2 (.int i) (.int j) = if okR i ∧ okR j then some (rangeL i (j - i).toNat) else none := Eq.trans rfl rfl
@[simp] theorem enm_list (xs : List D) : enm (.list xs) = some (enumL xs) := Eq.trans rfl rfl
@[simp] theorem enm_tuple (xs : List D) : enm (.tuple xs) = some (enumL xs) := Eq.trans rfl rfl
@[simp] theorem zp_list (xs ys : List D) : zp (.list xs) (.list ys) = some (zipL xs ys) := Eq.trans rfl rfl
@[simp] theorem zp_tuple (xs ys : List D) : zp (.tuple xs) (.tuple ys) = some (zipL xs ys) := Eq.trans rfl rfl
@[simp] theorem absD_int (i : Int) : absD (.int i) = some (.int (if i < 0 then -i else i)) := Eq.trans rfl rfl
@[simp] theorem intOfD_int (i : Int) : intOfD (.int i) = some (.int i) := Eq.trans rfl rfl
@[simp] theorem intOfD_bool (i : Bool) : intOfD (.bool i) = some (.int (if i then 1 else 0)) := Eq.trans rfl rfl
@[simp] theorem boolOfD_int (i : Int) : boolOfD (.int i) = some (.bool (i != 0)) := Eq.trans rfl rfl
@[simp] theorem boolOfD_bool (i : Bool) : boolOfD (.bool i) = some (.bool i) := Eq.trans rfl rfl
@[simp] theorem listD_list (xs : List D) : listD (.list xs) = some (.list xs) := Eq.trans rfl rfl
@[simp] theorem listD_tuple (xs : List D) : listD (.tuple xs) = some (.list xs) := Eq.trans rfl rfl
@[simp] theorem tupD_list (xs : List D) : tupD (.list xs) = some (.tuple xs) := Eq.trans rfl rfl
@[simp] theorem tupD_tuple (xs : List D) : tupD (.tuple xs) = some (.tuple xs) := Eq.trans rfl rfl
@[simp] theorem maxD2_int (i j : Int) : maxD2 (.int i) (.int j) = some (.int (if j > i then j else i)) := Eq.trans rfl rfl
@[simp] theorem minD2_int (i j : Int) : minD2 (.int i) (.int j) = some (.int (if j < i then j else i)) := Eq.trans rfl rfl
@[simp] theorem lenD_list (xs : List D) : lenD (.list xs) = some (.int xs.length) := Eq.trans rfl rfl
@[simp] theorem lenD_tuple (xs : List D) : lenD (.tuple xs) = some (.int xs.length) := Eq.trans rfl rfl
@[simp] theorem allD_list (xs : List D) : allD (.list xs) = (bools xs).map fun bs => .bool (bs.all id) := Eq.trans rfl rfl
@[simp] theorem isaD_eq (T : String) (x : D) : isaD T x = (kitB (clsOf x) T).map .bool := Eq.trans rfl rfl
@[simp] theorem clsOf_int (i : Int) : clsOf (.int i) = "int" := Eq.trans rfl rfl
@[simp] theorem clsOf_bool (i : Bool) : clsOf (.bool i) = "bool" := Eq.trans rfl rfl
@[simp] theorem clsOf_str (i : Str) : clsOf (.str i) = "str" := Eq.trans rfl rfl
@[simp] theorem clsOf_list (i : List D) : clsOf (.list i) = "list" := Eq.trans rfl rfl
@[simp] theorem clsOf_tuple (i : List D) : clsOf (.tuple i) = "tuple" := Eq.trans rfl rfl
@[simp] theorem clsOf_none : clsOf .none = "NoneType" := Eq.trans rfl rfl
@[simp] theorem len0 : MTs.len .nil = 0 := Eq.trans rfl rfl
@[simp] theorem len1 (a : MT) (r : MTs) : MTs.len (.cons a r) = r.len + 1 := Eq.trans rfl rfl
@[simp] theorem fitD_eq (mk : List D → D) (xs : List D) : fitD mk xs = if xs.length ≤ sizeLine then some (mk xs) else none := Eq.trans rfl rfl
@[simp] theorem sz_of {n : Nat} (h : n ≤ 16777216) : (n ≤ sizeLine) = True := eq_true h
@[simp] theorem depth_int (i : Int) : (PyData.int i).depth = 0 := Eq.trans rfl rfl
@[simp] theorem depth_bool (i : Bool) : (PyData.bool i).depth = 0 := Eq.trans rfl rfl
@[simp] theorem depth_str (i : Str) : (PyData.str i).depth = 0 := Eq.trans rfl rfl
@[simp] theorem depth_none : (PyData.none).depth = 0 := Eq.trans rfl rfl
@[simp] theorem eqv_int (i j : Int) : PyData.eqv (.int i) (.int j) = decide (i = j) := Eq.trans rfl rfl
@[simp] theorem eqv_str (i j : Str) : PyData.eqv (.str i) (.str j) = decide (i = j) := Eq.trans rfl rfl
@[simp] theorem eqv_bool (i j : Bool) : PyData.eqv (.bool i) (.bool j) = (i == j) := Eq.trans rfl rfl
@[simp] theorem eqv_tuple (i j : List D) : PyData.eqv (.tuple i) (.tuple j) = PyData.eqvAll i j := Eq.trans rfl rfl
@[simp] theorem eqv_list (i j : List D) : PyData.eqv (.list i) (.list j) = PyData.eqvAll i j := Eq.trans rfl rfl
@[simp] theorem eqvAll_nil : PyData.eqvAll [] [] = true := Eq.trans rfl rfl
@[simp] theorem eqvAll_cons (x y : D) (xs ys : List D) : PyData.eqvAll (x :: xs) (y :: ys) = (PyData.eqv x y && PyData.eqvAll xs ys) := Eq.trans rfl rfl
@[simp] theorem eqvAll_nc (y : D) (ys : List D) : PyData.eqvAll [] (y :: ys) = false := Eq.trans rfl rfl
@[simp] theorem eqvAll_cn (y : D) (ys : List D) : PyData.eqvAll (y :: ys) [] = false := Eq.trans rfl rfl
@[simp] theorem eqD_int (i j : Int) : eqD (.int i) (.int j) = some (.bool (decide (i = j))) := Eq.trans rfl rfl
@[simp] theorem neD_int (i j : Int) : neD (.int i) (.int j) = some (.bool (!decide (i = j))) := Eq.trans rfl rfl
@[simp] theorem eqD_str (i j : Str) : eqD (.str i) (.str j) = some (.bool (decide (i = j))) := Eq.trans rfl rfl
@[simp] theorem neD_str (i j : Str) : neD (.str i) (.str j) = some (.bool (!decide (i = j))) := Eq.trans rfl rfl
@[simp] theorem shalAll_int (i : Int) (ys : List D) : shalAll (.int i) ys = true := by simp [shalAll]
@[simp] theorem shalAll_str (i : Str) (ys : List D) : shalAll (.str i) ys = true := by simp [shalAll]
@[simp] theorem memD_list_int (n : Bool) (i : Int) (ys : List D) : memD n (.int i) (.list ys) = some (.bool (if n then !inD (.int i) ys else inD (.int i) ys)) := by simp [memD]
@[simp] theorem memD_tuple_int (n : Bool) (i : Int) (ys : List D) : memD n (.int i) (.tuple ys) = some (.bool (if n then !inD (.int i) ys else inD (.int i) ys)) := by simp [memD]
@[simp] theorem memD_list_str (n : Bool) (i : Str) (ys : List D) : memD n (.str i) (.list ys) = some (.bool (if n then !inD (.str i) ys else inD (.str i) ys)) := by simp [memD]
@[simp] theorem memD_tuple_str (n : Bool) (i : Str) (ys : List D) : memD n (.str i) (.tuple ys) = some (.bool (if n then !inD (.str i) ys else inD (.str i) ys)) := by simp [memD]
@[simp] theorem inD_nil (x : D) : inD x [] = false := Eq.trans rfl rfl
@[simp] theorem inD_cons (x y : D) (ys : List D) : inD x (y :: ys) = (PyData.eqv y x || inD x ys) := Eq.trans rfl rfl
@[simp] theorem kitB_int_int : kitB "int" "int" = some true := by decide
@[simp] theorem kitB_int_bool : kitB "int" "bool" = some false := by decide
@[simp] theorem kitB_tuple_tuple : kitB "tuple" "tuple" = some true := by decide
@[simp] theorem kitB_str_str : kitB "str" "str" = some true := by decide
@[simp] theorem kitB_list_list : kitB "list" "list" = some true := by decide
@[simp] theorem blt1_len : blt1 "len" = lenD := Eq.trans rfl rfl
@[simp] theorem blt1_all : blt1 "all" = allD := Eq.trans rfl rfl
@[simp] theorem blt1_abs : blt1 "abs" = absD := Eq.trans rfl rfl
@[simp] theorem blt1_int : blt1 "int" = intOfD := Eq.trans rfl rfl
@[simp] theorem blt1_bool : blt1 "bool" = boolOfD := Eq.trans rfl rfl
@[simp] theorem blt1_list : blt1 "list" = listD := Eq.trans rfl rfl
@[simp] theorem blt1_tuple : blt1 "tuple" = tupD := Eq.trans rfl rfl
@[simp] theorem blt1_max : blt1 "max" = bestD max := Eq.trans rfl rfl
@[simp] theorem blt1_min : blt1 "min" = bestD min := Eq.trans rfl rfl
@[simp] theorem blt2_max : blt2 "max" = maxD2 := Eq.trans rfl rfl
@[simp] theorem blt2_min : blt2 "min" = minD2 := Eq.trans rfl rfl
@[simp] theorem bools_mapd {α : Type} (f : α → Bool) (xs : List α) : bools (xs.map fun x => .bool (f x)) = some (xs.map f) := by
  have := bools_map (xs.map f)
  rw [List.map_map] at this
  exact this
@[simp] theorem intsOf_mapd {α : Type} (f : α → Int) (xs : List α) : intsOf (xs.map fun x => .int (f x)) = some (xs.map f) := by
  have := intsOf_map (xs.map f)
  rw [List.map_map] at this
  exact this
@[simp] theorem intsOf_map' (xs : List Int) : intsOf (xs.map .int) = some xs := intsOf_map xs
/-- places -/
theorem atI_nat {α : Type} (xs : List α) (p : Nat) : atI xs (p : Int) = xs[p]? := by
  unfold atI ixN
  rw [if_pos (Int.natCast_nonneg p)]
  by_cases h : p < xs.length
  · rw [if_pos (by exact_mod_cast h)]; rfl
  · rw [if_neg (by exact_mod_cast h), List.getElem?_eq_none (by omega)]; rfl
@[simp] theorem atI_zero {α : Type} (xs : List α) : atI xs 0 = xs[0]? := atI_nat xs 0
@[simp] theorem atI_one {α : Type} (xs : List α) : atI xs 1 = xs[1]? := atI_nat xs 1
@[simp] theorem atI_two {α : Type} (xs : List α) : atI xs 2 = xs[2]? := atI_nat xs 2
@[simp] theorem atI_three {α : Type} (xs : List α) : atI xs 3 = xs[3]? := atI_nat xs 3
@[simp] theorem atI_four {α : Type} (xs : List α) : atI xs 4 = xs[4]? := atI_nat xs 4
@[simp] theorem atI_five {α : Type} (xs : List α) : atI xs 5 = xs[5]? := atI_nat xs 5
@[simp] theorem atI_six {α : Type} (xs : List α) : atI xs 6 = xs[6]? := atI_nat xs 6
@[simp] theorem atI_seven {α : Type} (xs : List α) : atI xs 7 = xs[7]? := atI_nat xs 7
@[simp] theorem atI_eight {α : Type} (xs : List α) : atI xs 8 = xs[8]? := atI_nat xs 8
theorem atI_map {α β : Type} (f : α → β) (xs : List α) (i : Int) : atI (xs.map f) i = (atI xs i).map f := by
  unfold atI
  rw [List.length_map]
  cases ixN xs.length i <;> simp
theorem cut_nat {α : Type} (xs : List α) (a b : Nat) : cut xs (some (a : Int)) (some (b : Int)) = (xs.drop a).take (b - a) := by
  unfold cut
  rw [HT.sIx_nat, HT.sIx_nat]
  by_cases h : a ≤ xs.length
  · rw [Nat.min_eq_left h]
    by_cases h2 : b ≤ xs.length
    · rw [Nat.min_eq_left h2]
    · rw [Nat.min_eq_right (by omega), List.take_of_length_le (i := xs.length - a) (by simp), List.take_of_length_le (i := b - a) (by simp; omega)]
  · rw [Nat.min_eq_right (show xs.length ≤ a by omega), List.drop_of_length_le (i := xs.length) (by omega), List.drop_of_length_le (i := a) (by omega)]; simp
theorem cut_to {α : Type} (xs : List α) (b : Nat) : cut xs none (some (b : Int)) = xs.take b := by
  unfold cut
  rw [HT.sIx_nat, HT.sIx_none]
  simp
theorem cut_from {α : Type} (xs : List α) (a : Nat) : cut xs (some (a : Int)) none = xs.drop a := by
  unfold cut
  rw [HT.sIx_nat, HT.sIx_none]
  by_cases h : a ≤ xs.length
  · rw [Nat.min_eq_left h, List.take_of_length_le (by simp)]
  · rw [Nat.min_eq_right (show xs.length ≤ a by omega), List.drop_of_length_le (i := xs.length) (by omega), List.drop_of_length_le (i := a) (by omega)]; simp
theorem cut_map {α β : Type} (f : α → β) (xs : List α) (a b : Option Int) : cut (xs.map f) a b = (cut xs a b).map f := by
  unfold cut
  rw [List.length_map, ← List.map_drop, ← List.map_take]
theorem cut_last {α : Type} (xs : List α) : cut xs none (some (-1)) = xs.dropLast := by
  unfold cut
  rw [HT.sIx_none]
  show (xs.drop 0).take (HT.sIx xs.length xs.length (some (-1)) - 0) = _
  have : HT.sIx xs.length xs.length (some (-1)) = xs.length - 1 := by
    show (if (-1 : Int) < 0 then ((-1 : Int) + (xs.length : Int)).toNat else min (-1 : Int).toNat xs.length) = xs.length - 1
    rw [if_pos (by decide)]; omega
  rw [this, List.drop_zero, Nat.sub_zero, List.dropLast_eq_take]
/-- comprehensions that touch no cell -/
theorem lcL_pure {α : Type} {tg : D → Env → Option Env} {t : DenT} {el : Den} {env : Env} (S : Store) (g : α → D) (p : α → Bool) (f : α → D) : ∀ (xs : List α) (ys : List D), (∀ x ∈ xs, ∃ e, tg (g x) env = some e ∧ ∀ S', t e S' = some (.ok (p x) S') ∧ (p x = true → el e S' = some (.ok (.d (f x)) S'))) → ys.length + xs.length ≤ sizeLine →
    lcL tg t el S.length (xs.map g) env (S ++ [.lst ys]) = some (S ++ [.lst (ys ++ (xs.filter p).map f)])
  | [], ys, _, _ => by simp [lcL]
  | x :: xs, ys, h, hz => by
    obtain ⟨e, h1, h2⟩ := h x (by simp)
    obtain ⟨h3, h4⟩ := h2 (S ++ [.lst ys])
    rw [List.length_cons] at hz
    rw [List.map_cons, lcL, h1]
    simp only [h3]
    cases hp : p x with
    | true =>
      simp only [h4 hp]
      have ih := lcL_pure S g p f xs (ys ++ [f x]) (fun y hy => h y (by simp [hy])) (by simp; omega)
      simp only [List.getElem?_append_right (Nat.le_refl _), Nat.sub_self, List.getElem?_cons_zero]
      rw [if_pos (by omega)]
      rw [show (S ++ [Cell.lst ys]).set S.length (.lst (ys ++ [f x])) = S ++ [.lst (ys ++ [f x])] from by simp]
      rw [ih]
      simp [List.filter_cons, hp]
    | false =>
      have ih := lcL_pure S g p f xs ys (fun y hy => h y (by simp [hy])) (by omega)
      show lcL tg t el S.length (xs.map g) env (S ++ [.lst ys]) = _
      rw [ih]
      simp [List.filter_cons, hp]
theorem cLc_pure {α : Type} {src : DenI} {tg : D → Env → Option Env} {t : DenT} {el : Den} {wipes : List Nat} {env : Env} {S S1 : Store} {xs : List α} {g : α → D} (p : α → Bool) (f : α → D) (hs : src env S = some (.ok (xs.map g) S1)) (hz : xs.length ≤ sizeLine)
    (h : ∀ x ∈ xs, ∃ e, tg (g x) (wipeE env wipes) = some e ∧ ∀ S', t e S' = some (.ok (p x) S') ∧ (p x = true → el e S' = some (.ok (.d (f x)) S'))) : cLc false src tg t el wipes env S = some (.ok (.d (.list ((xs.filter p).map f))) S1) := by
  unfold cLc
  rw [hs, bnd_ok, lcL_pure S1 g p f xs [] h (by simpa using hz)]
  simp
theorem cLc_map {α : Type} {src : DenI} {tg : D → Env → Option Env} {el : Den} {wipes : List Nat} {env : Env} {S S1 : Store} {xs : List α} {g : α → D} (f : α → D) (hs : src env S = some (.ok (xs.map g) S1)) (hz : xs.length ≤ sizeLine)
    (h : ∀ x ∈ xs, ∃ e, tg (g x) (wipeE env wipes) = some e ∧ ∀ S', el e S' = some (.ok (.d (f x)) S')) : cLc false src tg cYes el wipes env S = some (.ok (.d (.list (xs.map f))) S1) := by
  have := cLc_pure (t := cYes) (fun _ => true) f hs hz fun x hx => by
    obtain ⟨e, h1, h2⟩ := h x hx
    exact ⟨e, h1, fun S' => ⟨rfl, fun _ => h2 S'⟩⟩
  rw [this, List.filter_eq_self.mpr (fun _ _ => rfl)]
theorem cLc_map0 {α : Type} {src : DenI} {tg : D → Env → Option Env} {el : Den} {wipes : List Nat} {env : Env} {S : Store} {xs : List α} {g : α → D} (f : α → D) (hs : src env S = some (.ok (xs.map g) S)) (hz : xs.length ≤ sizeLine)
    (h : ∀ x ∈ xs, ∃ e, tg (g x) (wipeE env wipes) = some e ∧ ∀ S', el e S' = some (.ok (.d (f x)) S')) : cLc false src tg cYes el wipes env S = some (.ok (.d (.list (xs.map f))) S) := cLc_map f hs hz h
theorem cLc_pure0 {α : Type} {src : DenI} {tg : D → Env → Option Env} {t : DenT} {el : Den} {wipes : List Nat} {env : Env} {S : Store} {xs : List α} {g : α → D} (p : α → Bool) (f : α → D) (hs : src env S = some (.ok (xs.map g) S)) (hz : xs.length ≤ sizeLine)
    (h : ∀ x ∈ xs, ∃ e, tg (g x) (wipeE env wipes) = some e ∧ ∀ S', t e S' = some (.ok (p x) S') ∧ (p x = true → el e S' = some (.ok (.d (f x)) S'))) : cLc false src tg t el wipes env S = some (.ok (.d (.list ((xs.filter p).map f))) S) := cLc_pure p f hs hz h
theorem beq_max1 (p : Nat) : (if (1 : Int) < p then (p : Int) - 1 else 0) = ((p - 1 : Nat) : Int) := by split <;> omega
theorem cast_succ' (p : Nat) : (p : Int) + 1 = ((p + 1 : Nat) : Int) := by omega
/-- comprehensions that write into the cells below -/
theorem lcL_eff {tg : D → Env → Option Env} {el : Den} {env : Env} (Inv : Store → Prop) (Q : D → Prop) (n0 : Nat) : ∀ (xs ys : List D) (S : Store), S.length = n0 → Inv S → (∀ y ∈ ys, Q y) →
    (∀ x ∈ xs, ∃ e, tg x env = some e ∧ ∀ S ys, S.length = n0 → Inv S → ∃ y S', el e (S ++ [.lst ys]) = some (.ok (.d y) (S' ++ [.lst ys])) ∧ S'.length = n0 ∧ Inv S' ∧ Q y) → ys.length + xs.length ≤ sizeLine →
    ∃ zs S', lcL tg cYes el n0 xs env (S ++ [.lst ys]) = some (S' ++ [.lst zs]) ∧ S'.length = n0 ∧ Inv S' ∧ (∀ y ∈ zs, Q y) ∧ zs.length = ys.length + xs.length
  | [], ys, S, hn, hi, hq, _, _ => ⟨ys, S, rfl, hn, hi, hq, rfl⟩
  | x :: xs, ys, S, hn, hi, hq, h, hz => by
    obtain ⟨e, h1, h2⟩ := h x (by simp)
    obtain ⟨y, S', h3, h4, h5, h6⟩ := h2 S ys hn hi
    rw [List.length_cons] at hz
    obtain ⟨zs, S2, g1, g2, g3, g4, g5⟩ := lcL_eff Inv Q n0 xs (ys ++ [y]) S' h4 h5 (fun z hz' => by
      rcases List.mem_append.mp hz' with a | a
      · exact hq z a
      · rw [List.mem_singleton.mp a]; exact h6) (fun z hz' => h z (by simp [hz'])) (by simp; omega)
    refine ⟨zs, S2, ?_, g2, g3, g4, by rw [g5]; simp; omega⟩
    rw [lcL, h1]
    simp only [cYes, h3]
    have q : (S' ++ [Cell.lst ys])[n0]? = some (.lst ys) := by rw [← h4]; simp
    simp only [q]
    rw [if_pos (by omega)]
    rw [show (S' ++ [Cell.lst ys]).set n0 (.lst (ys ++ [y])) = S' ++ [.lst (ys ++ [y])] from by rw [← h4]; simp]
    exact g1
theorem cLc_eff {src : DenI} {tg : D → Env → Option Env} {el : Den} {wipes : List Nat} {env : Env} {S S1 : Store} {xs : List D} (Inv : Store → Prop) (Q : D → Prop) (hs : src env S = some (.ok xs S1)) (hz : xs.length ≤ sizeLine) (hi : Inv S1)
    (h : ∀ x ∈ xs, ∃ e, tg x (wipeE env wipes) = some e ∧ ∀ S ys, S.length = S1.length → Inv S → ∃ y S', el e (S ++ [.lst ys]) = some (.ok (.d y) (S' ++ [.lst ys])) ∧ S'.length = S1.length ∧ Inv S' ∧ Q y) :
    ∃ zs S', cLc false src tg cYes el wipes env S = some (.ok (.d (.list zs)) S') ∧ S'.length = S1.length ∧ Inv S' ∧ (∀ y ∈ zs, Q y) ∧ zs.length = xs.length := by
  obtain ⟨zs, S', g1, g2, g3, g4, g5⟩ := lcL_eff (el := el) Inv Q S1.length xs [] S1 rfl hi (fun _ h => nomatch h) h (by simpa using hz)
  refine ⟨zs, S', ?_, g2, g3, g4, by rw [g5]; simp⟩
  unfold cLc
  rw [hs, bnd_ok, g1]
  simp only []
  have q : (S' ++ [Cell.lst zs])[S1.length]? = some (.lst zs) := by rw [← g2]; simp
  rw [q]
  simp only [Bool.false_eq_true, if_false]
  rw [← g2]
  simp
@[simp] theorem take_set_self {α : Type} (S : List α) (m : Nat) (c : α) : (S.set m c).take S.length = S.set m c := List.take_of_length_le (by simp)
@[simp] theorem take_set_self2 {α : Type} (S : List α) (m k : Nat) (c d : α) : ((S.set m c).set k d).take S.length = (S.set m c).set k d := List.take_of_length_le (by simp)
theorem cWhile_f {c : DenT} {b : DenS} {env : G.Env} {S S1 : Store} (h : c env S = some (.ok false S1)) : cWhile c b env S = some (.ok (.nx env) S1) :=
  cWhile_of (n := 1) (by rw [whileN, h]; rfl)
theorem cWhile_t {c : DenT} {b : DenS} {env e : G.Env} {S S1 S2 : Store} {r : R Fl} (h : c env S = some (.ok true S1)) (hb : b env S1 = some (.ok (.nx e) S2)) (k : cWhile c b e S2 = some r) : cWhile c b env S = some r := by
  obtain ⟨n, k⟩ := cWhile_some k
  exact cWhile_of (n := n + 1) (by rw [whileN, h, bnd_ok, if_pos rfl, hb, bnd_ok]; exact k)
/-- the best of a list of ints -/
def mxI : List Int → Int
  | [] => 0
  | n :: ns => ns.foldl max n
def mnI : List Int → Int
  | [] => 0
  | n :: ns => ns.foldl min n
theorem bestD_max {xs : List Int} (h : xs ≠ []) : bestD max (.tuple (xs.map .int)) = some (.int (mxI xs)) := by
  cases xs with
  | nil => exact absurd rfl h
  | cons x xs => simp only [bestD, intsOf_map']; rfl
theorem bestD_min {xs : List Int} (h : xs ≠ []) : bestD min (.tuple (xs.map .int)) = some (.int (mnI xs)) := by
  cases xs with
  | nil => exact absurd rfl h
  | cons x xs => simp only [bestD, intsOf_map']; rfl
theorem bestD_maxL {xs : List Int} (h : xs ≠ []) : bestD max (.list (xs.map .int)) = some (.int (mxI xs)) := by
  cases xs with
  | nil => exact absurd rfl h
  | cons x xs => simp only [bestD, intsOf_map']; rfl
theorem bestD_minL {xs : List Int} (h : xs ≠ []) : bestD min (.list (xs.map .int)) = some (.int (mnI xs)) := by
  cases xs with
  | nil => exact absurd rfl h
  | cons x xs => simp only [bestD, intsOf_map']; rfl
theorem foldl_max_le : ∀ (ns : List Int) (n v : Int), ns.foldl max n ≤ v ↔ n ≤ v ∧ ∀ x ∈ ns, x ≤ v
  | [], n, v => by simp
  | m :: ns, n, v => by
    rw [List.foldl_cons, foldl_max_le ns]
    simp only [List.mem_cons, forall_eq_or_imp]
    rw [Int.max_le]
    exact and_assoc
theorem foldl_min_le : ∀ (ns : List Int) (n v : Int), v ≤ ns.foldl min n ↔ v ≤ n ∧ ∀ x ∈ ns, v ≤ x
  | [], n, v => by simp
  | m :: ns, n, v => by
    rw [List.foldl_cons, foldl_min_le ns]
    simp only [List.mem_cons, forall_eq_or_imp]
    rw [Int.le_min]
    exact and_assoc
theorem mxI_le {xs : List Int} (h : xs ≠ []) (v : Int) : mxI xs ≤ v ↔ ∀ x ∈ xs, x ≤ v := by
  cases xs with
  | nil => exact absurd rfl h
  | cons x xs => simpa [mxI] using foldl_max_le xs x v
theorem mnI_le {xs : List Int} (h : xs ≠ []) (v : Int) : v ≤ mnI xs ↔ ∀ x ∈ xs, v ≤ x := by
  cases xs with
  | nil => exact absurd rfl h
  | cons x xs => simpa [mnI] using foldl_min_le xs x v
theorem mxI_lt {xs : List Int} (h : xs ≠ []) (v : Int) : mxI xs < v ↔ ∀ x ∈ xs, x < v := by
  have := mxI_le h (v - 1)
  constructor
  · intro q x hx
    have := this.mp (by omega) x hx
    omega
  · intro q
    have := this.mpr fun x hx => by have := q x hx; omega
    omega
theorem mnI_lt {xs : List Int} (h : xs ≠ []) (v : Int) : v < mnI xs ↔ ∀ x ∈ xs, v < x := by
  have := mnI_le h (v + 1)
  constructor
  · intro q x hx
    have := this.mp (by omega) x hx
    omega
  · intro q
    have := this.mpr fun x hx => by have := q x hx; omega
    omega
@[simp] theorem cT_one (i : Nat) (x : D) (env : Env) : cT false [i] x env = some (env.set i (some (.d x))) := Eq.trans rfl rfl
@[simp] theorem cT_tup (is : List Nat) (xs : List D) (env : Env) : cT true is (.tuple xs) env = if xs.length = is.length then some (setAll env is xs) else none := Eq.trans rfl rfl
@[simp] theorem setAll_cons (env : Env) (i : Nat) (is : List Nat) (x : D) (xs : List D) : setAll env (i :: is) (x :: xs) = setAll (env.set i (some (.d x))) is xs := Eq.trans rfl rfl
@[simp] theorem setAll_nil (env : Env) (xs : List D) : setAll env [] xs = env := Eq.trans rfl rfl
@[simp] theorem wipeE_nil (env : Env) : wipeE env [] = env := Eq.trans rfl rfl
@[simp] theorem wipeE_cons (env : Env) (v : Nat) (vs : List Nat) : wipeE env (v :: vs) = (wipeE env vs).set v none := Eq.trans rfl rfl
theorem rangeL_zero (n : Nat) : rangeL 0 n = (List.range n).map fun (i : Nat) => .int (i : Int) := by
  unfold rangeL
  simp
theorem enumL_map {α : Type} (f : α → D) (d : α) (xs : List α) : enumL (xs.map f) = (List.range xs.length).map fun (i : Nat) => .tuple [.int (i : Int), f (xs.getD i d)] := by
  unfold enumL
  apply List.ext_getElem
  · simp
  · intro i h1 h2
    have : i < xs.length := by simpa using h1
    simp [this]
def enF (k : Nat) : List Int → List D
  | [] => []
  | x :: xs => .tuple [.int (k : Int), .int x] :: enF (k + 1) xs
theorem mapIdx_enF : ∀ (xs : List Int) (k : Nat), (xs.map PyData.int).mapIdx (fun i x => PyData.tuple [.int ((k + i : Nat) : Int), x]) = enF k xs
  | [], _ => rfl
  | x :: xs, k => by
    rw [List.map_cons, List.mapIdx_cons, enF, ← mapIdx_enF xs (k + 1)]
    congr 1
    congr 1
    funext i y
    rw [show k + (i + 1) = k + 1 + i from by omega]
theorem enumL_enF (xs : List Int) : enumL (xs.map .int) = enF 0 xs := by
  rw [← mapIdx_enF xs 0]
  unfold enumL
  congr 1
  funext i y
  rw [Nat.zero_add]
theorem cut_dropLast {α : Type} (xs : List α) (a : α) : cut (xs ++ [a]) none (some (-1)) = xs := by
  rw [cut_last]; simp
/-- loops -/
@[simp] theorem forL_nil (g : DenG) (body : DenS) (env : Env) (S : Store) : forL g body [] env S = some (.ok (.nx env) S) := Eq.trans rfl rfl
theorem forL_cons (g : DenG) (body : DenS) (x : D) (xs : List D) (env : Env) (S : Store) : forL g body (x :: xs) env S = bnd (g (.d x) env S) fun e S1 => bnd (body e S1) (turnS (forL g body xs)) := rfl
/-- a loop that goes through, by an invariant of what is left -/
theorem forL_inv {g : DenG} {body : DenS} (I : List D → Env → Store → Prop) : ∀ (xs : List D) (env : Env) (S : Store), I xs env S → (∀ x xs env S, I (x :: xs) env S → ∃ e S', (bnd (g (.d x) env S) fun e S1 => body e S1) = some (.ok (.nx e) S') ∧ I xs e S') →
    ∃ e S', forL g body xs env S = some (.ok (.nx e) S') ∧ I [] e S'
  | [], env, S, h, _ => ⟨env, S, rfl, h⟩
  | x :: xs, env, S, h, H => by
    obtain ⟨e, S', h1, h2⟩ := H x xs env S h
    obtain ⟨e2, S2, h3, h4⟩ := forL_inv I xs e S' h2 H
    refine ⟨e2, S2, ?_, h4⟩
    rw [forL_cons]
    cases hg : g (.d x) env S with
    | none => rw [hg] at h1; cases h1
    | some r =>
      cases r with
      | er y S1 => rw [hg] at h1; cases h1
      | ok e1 S1 =>
        rw [hg, bnd_ok] at h1
        rw [bnd_ok, h1, bnd_ok]
        exact h3
end G

/-! The program's defs as trees of the evaluator. Printed by gen.py. -/
namespace Law
open PySem L2 G
def top (i : Nat) : Stmt := PySem.Challenge.pw_peakprints_k01_loops_rows_and_askings_re.main.body.getD i (.Pass ⟨0, 0, 0, 0⟩)
def g_HOLDERS : D := (.tuple [(.str (Str.ofString "x")), (.str (Str.ofString "y")), (.str (Str.ofString "z"))])
def g_FLAGS : D := (.tuple [(.str (Str.ofString "p")), (.str (Str.ofString "q"))])
def g_ITEM : D := (.str (Str.ofString "item"))
def g_PRINT : D := (.str (Str.ofString "print"))
def g_UP : D := (.str (Str.ofString "up"))
def g_DOWN : D := (.str (Str.ofString "down"))
def g_TAKE : D := (.str (Str.ofString "take"))
def g_DROP : D := (.str (Str.ofString "drop"))
def g_COPY : D := (.str (Str.ofString "copy"))
def g_EMPTY : D := (.str (Str.ofString "empty"))
def g_FLAG : D := (.str (Str.ofString "flag"))
def g_OVER : D := (.str (Str.ofString "over"))
def g_SAME : D := (.str (Str.ofString "same"))
def g_FIRST : D := (.str (Str.ofString "first"))
def g_LAST : D := (.str (Str.ofString "last"))
def g_IF : D := (.str (Str.ofString "if"))
def g_MOST_STATEMENTS : D := (.int 20)
def g_MOST_DEEP : D := (.int 4)
def g_MOST_ITEMS : D := (.int 40)
def g_ASKINGS : D := (.tuple [(.str (Str.ofString "equals")), (.str (Str.ofString "falls")), (.str (Str.ofString "lows")), (.str (Str.ofString "peaks")), (.str (Str.ofString "peaks ends")), (.str (Str.ofString "plateaus")), (.str (Str.ofString "plateaus last")), (.str (Str.ofString "records")), (.str (Str.ofString "records weak")), (.str (Str.ofString "rises")), (.str (Str.ofString "run ends")), (.str (Str.ofString "turns")), (.str (Str.ofString "valleys")), (.str (Str.ofString "valleys ends"))])
def g_ANY : D := (.str (Str.ofString "any"))
def g_UNLIKE : D := (.str (Str.ofString "unlike"))
def b_is_number : MSs :=
   (.cons (.ret (.bool true (.cons (.isa "int" (.var 0)) (.cons (.not (.isa "bool" (.var 0))) .nil))))
   .nil)
def b_are_texts : MSs :=
   (.cons (.ret (.bool true (.cons (.isa "tuple" (.var 0)) (.cons (.cmp .NotEq (.var 0) (.tup .nil)) (.cons (.blt1 "all" (.comp false false [1] (.seq (.var 0)) .none (.isa "str" (.var 1)) [("one", 1)])) .nil)))))
   .nil)
def b_is_holder : MSs :=
   (.cons (.ret (.bool true (.cons (.isa "str" (.var 0)) (.cons (.cmp .In (.var 0) (.glb "HOLDERS" g_HOLDERS)) .nil))))
   .nil)
def b_is_flag : MSs :=
   (.cons (.ret (.bool true (.cons (.isa "str" (.var 0)) (.cons (.cmp .In (.var 0) (.glb "FLAGS" g_FLAGS)) .nil))))
   .nil)
def b_is_thing : MSs :=
   (.cons (.ret (.bool false (.cons (.call "is_holder" "is_holder" (.cons (.var 0) .nil)) (.cons (.bool true (.cons (.isa "str" (.var 0)) (.cons (.cmp .Eq (.var 0) (.glb "ITEM" g_ITEM)) .nil))) .nil))))
   .nil)
def b_is_plain : MSs :=
   (.cons (.ifs (.not (.call "are_texts" "are_texts" (.cons (.var 0) .nil))) (.cons (.ret (.cst (.bool false)))
   .nil) .nil)
   (.cons (.par [1, 2] (.cons (.idx (.var 0) (.cst (.int 0))) (.cons (.slc (.var 0) (.some (.cst (.int 1))) .none) .nil)))
   (.cons (.ifs (.cmp .Eq (.var 1) (.glb "COPY" g_COPY)) (.cons (.ret (.bool true (.cons (.cmp .Eq (.blt1 "len" (.var 2)) (.cst (.int 2))) (.cons (.call "is_holder" "is_holder" (.cons (.idx (.var 2) (.cst (.int 0))) .nil)) (.cons (.call "is_holder" "is_holder" (.cons (.idx (.var 2) (.cst (.int 1))) .nil)) (.cons (.cmp .NotEq (.idx (.var 2) (.cst (.int 0))) (.idx (.var 2) (.cst (.int 1)))) .nil))))))
   .nil) .nil)
   (.cons (.ifs (.cmp .NotEq (.blt1 "len" (.var 2)) (.cst (.int 1))) (.cons (.ret (.cst (.bool false)))
   .nil) .nil)
   (.cons (.ifs (.cmp .In (.var 1) (.tup (.cons (.glb "TAKE" g_TAKE) (.cons (.glb "DROP" g_DROP) .nil)))) (.cons (.ret (.call "is_holder" "is_holder" (.cons (.idx (.var 2) (.cst (.int 0))) .nil)))
   .nil) .nil)
   (.cons (.ifs (.cmp .In (.var 1) (.tup (.cons (.glb "UP" g_UP) (.cons (.glb "DOWN" g_DOWN) .nil)))) (.cons (.ret (.call "is_flag" "is_flag" (.cons (.idx (.var 2) (.cst (.int 0))) .nil)))
   .nil) .nil)
   (.cons (.ret (.bool true (.cons (.cmp .Eq (.var 1) (.glb "PRINT" g_PRINT)) (.cons (.call "is_thing" "is_thing" (.cons (.idx (.var 2) (.cst (.int 0))) .nil)) .nil))))
   .nil)))))))
def b_is_test : MSs :=
   (.cons (.ifs (.not (.call "are_texts" "are_texts" (.cons (.var 0) .nil))) (.cons (.ret (.cst (.bool false)))
   .nil) .nil)
   (.cons (.par [1, 2] (.cons (.idx (.var 0) (.cst (.int 0))) (.cons (.slc (.var 0) (.some (.cst (.int 1))) .none) .nil)))
   (.cons (.ifs (.cmp .In (.var 1) (.tup (.cons (.glb "FIRST" g_FIRST) (.cons (.glb "LAST" g_LAST) .nil)))) (.cons (.ret (.cmp .Eq (.var 2) (.tup .nil)))
   .nil) .nil)
   (.cons (.ifs (.cmp .In (.var 1) (.tup (.cons (.glb "OVER" g_OVER) (.cons (.glb "SAME" g_SAME) .nil)))) (.cons (.ret (.bool true (.cons (.cmp .Eq (.blt1 "len" (.var 2)) (.cst (.int 2))) (.cons (.call "is_thing" "is_thing" (.cons (.idx (.var 2) (.cst (.int 0))) .nil)) (.cons (.call "is_thing" "is_thing" (.cons (.idx (.var 2) (.cst (.int 1))) .nil)) (.cons (.cmp .NotEq (.idx (.var 2) (.cst (.int 0))) (.idx (.var 2) (.cst (.int 1)))) .nil))))))
   .nil) .nil)
   (.cons (.ifs (.cmp .NotEq (.blt1 "len" (.var 2)) (.cst (.int 1))) (.cons (.ret (.cst (.bool false)))
   .nil) .nil)
   (.cons (.ret (.bool false (.cons (.bool true (.cons (.cmp .Eq (.var 1) (.glb "EMPTY" g_EMPTY)) (.cons (.call "is_holder" "is_holder" (.cons (.idx (.var 2) (.cst (.int 0))) .nil)) .nil))) (.cons (.bool true (.cons (.cmp .Eq (.var 1) (.glb "FLAG" g_FLAG)) (.cons (.call "is_flag" "is_flag" (.cons (.idx (.var 2) (.cst (.int 0))) .nil)) .nil))) .nil))))
   .nil))))))
def b_looks_like_if : MSs :=
   (.cons (.ifs (.bool false (.cons (.not (.isa "tuple" (.var 0))) (.cons (.cmp .NotEq (.blt1 "len" (.var 0)) (.cst (.int 4))) (.cons (.not (.isa "str" (.idx (.var 0) (.cst (.int 0))))) .nil)))) (.cons (.ret (.cst (.bool false)))
   .nil) .nil)
   (.cons (.ret (.bool true (.cons (.cmp .Eq (.idx (.var 0) (.cst (.int 0))) (.glb "IF" g_IF)) (.cons (.call "is_test" "is_test" (.cons (.idx (.var 0) (.cst (.int 1))) .nil)) .nil))))
   .nil))
def b_needs_item : MSs :=
   (.cons (.asg (.name 1) (.ite (.cmp .Eq (.idx (.var 0) (.cst (.int 0))) (.glb "IF" g_IF)) (.idx (.var 0) (.cst (.int 1))) (.var 0)))
   (.cons (.ret (.bool false (.cons (.cmp .In (.idx (.var 1) (.cst (.int 0))) (.tup (.cons (.glb "TAKE" g_TAKE) (.cons (.glb "FIRST" g_FIRST) (.cons (.glb "LAST" g_LAST) .nil))))) (.cons (.cmp .In (.glb "ITEM" g_ITEM) (.var 1)) .nil))))
   .nil))
def b_is_body : MSs :=
   (.cons (.ifs (.bool false (.cons (.not (.isa "tuple" (.var 0))) (.cons (.cmp .Gt (.blt1 "len" (.var 0)) (.cst (.int 8))) (.cons (.bool true (.cons (.cmp .Eq (.var 2) (.cst (.int 0))) (.cons (.cmp .NotEq (.var 0) (.tup .nil)) .nil))) .nil)))) (.cons (.ret (.cst (.bool false)))
   .nil) .nil)
   (.cons (.for (.name 3) (.seq (.var 0)) (.cons (.ifs (.call "looks_like_if" "looks_like_if" (.cons (.var 3) .nil)) (.cons (.ifs (.bool false (.cons (.not (.call "is_body" "is_body" (.cons (.idx (.var 3) (.cst (.int 2))) (.cons (.var 1) (.cons (.bin .Sub (.var 2) (.cst (.int 1))) .nil))))) (.cons (.not (.call "is_body" "is_body" (.cons (.idx (.var 3) (.cst (.int 3))) (.cons (.var 1) (.cons (.bin .Sub (.var 2) (.cst (.int 1))) .nil))))) .nil))) (.cons (.ret (.cst (.bool false)))
   .nil) .nil)
   .nil) (.cons (.ifs (.not (.call "is_plain" "is_plain" (.cons (.var 3) .nil))) (.cons (.ret (.cst (.bool false)))
   .nil) .nil)
   .nil))
   (.cons (.ifs (.bool true (.cons (.call "needs_item" "needs_item" (.cons (.var 3) .nil)) (.cons (.not (.var 1)) .nil))) (.cons (.ret (.cst (.bool false)))
   .nil) .nil)
   .nil)))
   (.cons (.ret (.cst (.bool true)))
   .nil)))
def b_all_in : MSs :=
   (.cons (.asg (.name 1) (.lst .nil))
   (.cons (.for (.name 2) (.seq (.var 0)) (.cons (.asg (.name 1) (.bin .Add (.var 1) (.lst (.cons (.var 2) .nil))))
   (.cons (.ifs (.cmp .Eq (.idx (.var 2) (.cst (.int 0))) (.glb "IF" g_IF)) (.cons (.asg (.name 1) (.bin .Add (.bin .Add (.var 1) (.call "all_in" "all_in" (.cons (.idx (.var 2) (.cst (.int 2))) .nil))) (.call "all_in" "all_in" (.cons (.idx (.var 2) (.cst (.int 3))) .nil))))
   .nil) .nil)
   .nil)))
   (.cons (.ret (.var 1))
   .nil)))
def b_all_of : MSs :=
   (.cons (.ret (.bin .Add (.call "all_in" "all_in" (.cons (.idx (.var 0) (.cst (.int 0))) .nil)) (.call "all_in" "all_in" (.cons (.idx (.var 0) (.cst (.int 1))) .nil))))
   .nil)
def b_is_loop : MSs :=
   (.cons (.ifs (.bool false (.cons (.not (.isa "tuple" (.var 0))) (.cons (.cmp .NotEq (.blt1 "len" (.var 0)) (.cst (.int 2))) .nil))) (.cons (.ret (.cst (.bool false)))
   .nil) .nil)
   (.cons (.ifs (.bool false (.cons (.not (.call "is_body" "is_body" (.cons (.idx (.var 0) (.cst (.int 0))) (.cons (.cst (.bool true)) (.cons (.glb "MOST_DEEP" g_MOST_DEEP) .nil))))) (.cons (.not (.call "is_body" "is_body" (.cons (.idx (.var 0) (.cst (.int 1))) (.cons (.cst (.bool false)) (.cons (.glb "MOST_DEEP" g_MOST_DEEP) .nil))))) .nil))) (.cons (.ret (.cst (.bool false)))
   .nil) .nil)
   (.cons (.ret (.cmp .LtE (.blt1 "len" (.call "all_of" "all_of" (.cons (.var 0) .nil))) (.glb "MOST_STATEMENTS" g_MOST_STATEMENTS)))
   .nil)))
def b_is_row : MSs :=
   (.cons (.ret (.bool true (.cons (.isa "tuple" (.var 0)) (.cons (.cmp .LtE (.blt1 "len" (.var 0)) (.glb "MOST_ITEMS" g_MOST_ITEMS)) (.cons (.blt1 "all" (.comp false false [1] (.seq (.var 0)) .none (.call "is_number" "is_number" (.cons (.var 1) .nil)) [("item", 1)])) .nil)))))
   .nil)
def b_is_asking : MSs :=
   (.cons (.ret (.bool true (.cons (.isa "str" (.var 0)) (.cons (.cmp .In (.var 0) (.glb "ASKINGS" g_ASKINGS)) .nil))))
   .nil)
def b_need_loop : MSs :=
   (.cons (.ifs (.not (.call "is_loop" "is_loop" (.cons (.var 0) .nil))) (.cons .never
   .nil) .nil)
   .nil)
def b_need_row : MSs :=
   (.cons (.ifs (.not (.call "is_row" "is_row" (.cons (.var 0) .nil))) (.cons .never
   .nil) .nil)
   .nil)
def b_need_kind : MSs :=
   (.cons (.ifs (.bool false (.cons (.not (.isa "str" (.var 0))) (.cons (.cmp .NotIn (.var 0) (.tup (.cons (.glb "ANY" g_ANY) (.cons (.glb "UNLIKE" g_UNLIKE) .nil)))) .nil))) (.cons .never
   .nil) .nil)
   .nil)
def b_need_statement : MSs :=
   (.cons (.ifs (.bool false (.cons (.not (.call "is_number" "is_number" (.cons (.var 1) .nil))) (.cons (.not (.chain .LtE .Lt (.cst (.int 0)) (.var 1) (.blt1 "len" (.call "all_of" "all_of" (.cons (.var 0) .nil))))) .nil))) (.cons .never
   .nil) .nil)
   .nil)
def b_body_less : MSs :=
   (.cons (.par [4, 5] (.cons (.tup .nil) (.cons (.var 2) .nil)))
   (.cons (.for (.name 3) (.seq (.var 0)) (.cons (.ifs (.bool true (.cons (.cmp .NotEq (.var 5) (.var 1)) (.cons (.cmp .Eq (.idx (.var 3) (.cst (.int 0))) (.glb "IF" g_IF)) .nil))) (.cons (.asg (.name 6) (.call "body_less" "body_less" (.cons (.idx (.var 3) (.cst (.int 2))) (.cons (.var 1) (.cons (.bin .Add (.var 5) (.cst (.int 1))) .nil)))))
   (.cons (.asg (.name 7) (.call "body_less" "body_less" (.cons (.idx (.var 3) (.cst (.int 3))) (.cons (.var 1) (.cons (.bin .Add (.bin .Add (.var 5) (.cst (.int 1))) (.blt1 "len" (.call "all_in" "all_in" (.cons (.idx (.var 3) (.cst (.int 2))) .nil)))) .nil)))))
   (.cons (.asg (.name 4) (.bin .Add (.var 4) (.tup (.cons (.bin .Add (.slc (.var 3) .none (.some (.cst (.int 2)))) (.tup (.cons (.var 6) (.cons (.var 7) .nil)))) .nil))))
   .nil))) (.cons (.ifs (.cmp .NotEq (.var 5) (.var 1)) (.cons (.asg (.name 4) (.bin .Add (.var 4) (.tup (.cons (.var 3) .nil))))
   .nil) .nil)
   .nil))
   (.cons (.asg (.name 5) (.bin .Add (.var 5) (.blt1 "len" (.call "all_in" "all_in" (.cons (.tup (.cons (.var 3) .nil)) .nil)))))
   .nil)))
   (.cons (.ret (.var 4))
   .nil)))
def b_loop_less : MSs :=
   (.cons (.ret (.tup (.cons (.call "body_less" "body_less" (.cons (.idx (.var 0) (.cst (.int 0))) (.cons (.var 1) (.cons (.cst (.int 0)) .nil)))) (.cons (.call "body_less" "body_less" (.cons (.idx (.var 0) (.cst (.int 1))) (.cons (.var 1) (.cons (.blt1 "len" (.call "all_in" "all_in" (.cons (.idx (.var 0) (.cst (.int 0))) .nil))) .nil)))) .nil))))
   .nil)
def b_body_turned : MSs :=
   (.cons (.asg (.name 1) (.tup .nil))
   (.cons (.for (.name 2) (.seq (.var 0)) (.cons (.ifs (.cmp .Eq (.idx (.var 2) (.cst (.int 0))) (.glb "IF" g_IF)) (.cons (.asg (.name 3) (.idx (.var 2) (.cst (.int 1))))
   (.cons (.ifs (.cmp .Eq (.idx (.var 3) (.cst (.int 0))) (.glb "OVER" g_OVER)) (.cons (.asg (.name 3) (.tup (.cons (.glb "OVER" g_OVER) (.cons (.idx (.var 3) (.cst (.int 2))) (.cons (.idx (.var 3) (.cst (.int 1))) .nil)))))
   .nil) .nil)
   (.cons (.asg (.name 2) (.tup (.cons (.glb "IF" g_IF) (.cons (.var 3) (.cons (.call "body_turned" "body_turned" (.cons (.idx (.var 2) (.cst (.int 2))) .nil)) (.cons (.call "body_turned" "body_turned" (.cons (.idx (.var 2) (.cst (.int 3))) .nil)) .nil))))))
   .nil))) .nil)
   (.cons (.asg (.name 1) (.bin .Add (.var 1) (.tup (.cons (.var 2) .nil))))
   .nil)))
   (.cons (.ret (.var 1))
   .nil)))
def b_loop_turned : MSs :=
   (.cons (.ret (.tup (.cons (.call "body_turned" "body_turned" (.cons (.idx (.var 0) (.cst (.int 0))) .nil)) (.cons (.call "body_turned" "body_turned" (.cons (.idx (.var 0) (.cst (.int 1))) .nil)) .nil))))
   .nil)
def b_is_of_kind : MSs :=
   (.cons (.expr (.call "need_row" "need_row" (.cons (.var 0) .nil)))
   (.cons (.expr (.call "need_kind" "need_kind" (.cons (.var 1) .nil)))
   (.cons (.ret (.bool false (.cons (.cmp .Eq (.var 1) (.glb "ANY" g_ANY)) (.cons (.blt1 "all" (.comp false true [2, 3] (.zip (.var 0) (.slc (.var 0) (.some (.cst (.int 1))) .none)) .none (.cmp .NotEq (.var 2) (.var 3)) [("one", 2), ("other", 3)])) .nil))))
   .nil)))
def b_words : MSs :=
   (.cons (.expr (.call "need_loop" "need_loop" (.cons (.var 0) .nil)))
   (.cons (.ret (.comp false false [1] (.seq (.call "all_of" "all_of" (.cons (.var 0) .nil))) .none (.idx (.var 1) (.cst (.int 0))) [("statement", 1)]))
   .nil))
def b_without : MSs :=
   (.cons (.expr (.call "need_loop" "need_loop" (.cons (.var 0) .nil)))
   (.cons (.expr (.call "need_statement" "need_statement" (.cons (.var 0) (.cons (.var 1) .nil))))
   (.cons (.ret (.call "loop_less" "loop_less" (.cons (.var 0) (.cons (.var 1) .nil))))
   .nil)))
def b_upside_down : MSs :=
   (.cons (.expr (.call "need_loop" "need_loop" (.cons (.var 0) .nil)))
   (.cons (.ret (.call "loop_turned" "loop_turned" (.cons (.var 0) .nil)))
   .nil))
def b__law_bag : MSs :=
   (.cons (.asg (.name 2) (.ite (.cmp .Lt (.var 1) (.blt1 "len" (.var 0))) (.blt1 "abs" (.blt1 "int" (.idx (.var 0) (.var 1)))) (.bin .Mult (.cst (.int 11)) (.var 1))))
   (.cons (.ret (.new (.cons (.ite (.cmp .GtE (.var 2) (.bin .Pow (.cst (.int 10)) (.cst (.int 18)))) (.var 2) (.cst (.int 0))) (.cons (.bin .Mod (.blt1 "int" (.bin .Add (.bin .Add (.bin .Mod (.blt1 "int" (.var 2)) (.cst (.int 2147483563))) (.bin .Mult (.cst (.int 9176)) (.var 1))) (.cst (.int 41)))) (.cst (.int 2147483563))) .nil))))
   .nil))
def b__law_take : MSs :=
   (.cons (.ifs (.cmp .Gt (.idx (.var 0) (.cst (.int 0))) (.cst (.int 0))) (.cons (.asg (.name 3) (.bin .Mod (.blt1 "int" (.idx (.var 0) (.cst (.int 0)))) (.var 1)))
   (.cons (.asg (.sub (.var 0) (.cst (.int 0))) (.bin .FloorDiv (.blt1 "int" (.idx (.var 0) (.cst (.int 0)))) (.var 1)))
   (.cons (.ret (.var 3))
   .nil))) .nil)
   (.cons (.asg (.sub (.var 0) (.cst (.int 1))) (.bin .Mod (.blt1 "int" (.bin .Add (.bin .Mult (.idx (.var 0) (.cst (.int 1))) (.cst (.int 40014))) (.cst (.int 53)))) (.cst (.int 2147483563))))
   (.cons (.asg (.name 2) (.bin .Mod (.bin .Pow (.blt1 "int" (.bin .Add (.idx (.var 0) (.cst (.int 1))) (.cst (.int 7)))) (.cst (.int 2))) (.cst (.int 2147483399))))
   (.cons (.ret (.bin .Mod (.blt1 "int" (.bin .FloorDiv (.blt1 "int" (.var 2)) (.cst (.int 19)))) (.var 1)))
   .nil))))
def b__law_of : MSs :=
   (.cons (.ret (.idx (.var 1) (.call "_law_take" "_law_take" (.cons (.var 0) (.cons (.blt1 "len" (.var 1)) .nil)))))
   .nil)
def b__law_thing_of : MSs :=
   (.cons (.ret (.call "_law_of" "_law_of" (.cons (.var 0) (.cons (.bin .Add (.lst (.cons (.cst (.str (Str.ofString "x"))) (.cons (.cst (.str (Str.ofString "x"))) (.cons (.cst (.str (Str.ofString "y"))) (.cons (.cst (.str (Str.ofString "z"))) .nil))))) (.bin .Mult (.lst (.cons (.cst (.str (Str.ofString "item"))) (.cons (.cst (.str (Str.ofString "item"))) .nil))) (.blt1 "int" (.var 1)))) .nil))))
   .nil)
def b__law_test : MSs :=
   (.cons (.asg (.name 2) (.call "_law_take" "_law_take" (.cons (.var 0) (.cons (.cst (.int 10)) .nil))))
   (.cons (.ifs (.bool true (.cons (.cmp .Eq (.var 2) (.cst (.int 0))) (.cons (.var 1) .nil))) (.cons (.ret (.tup (.cons (.call "_law_of" "_law_of" (.cons (.var 0) (.cons (.lst (.cons (.cst (.str (Str.ofString "first"))) (.cons (.cst (.str (Str.ofString "last"))) .nil))) .nil))) .nil)))
   .nil) .nil)
   (.cons (.ifs (.cmp .Eq (.var 2) (.cst (.int 1))) (.cons (.ret (.tup (.cons (.cst (.str (Str.ofString "empty"))) (.cons (.call "_law_of" "_law_of" (.cons (.var 0) (.cons (.lst (.cons (.cst (.str (Str.ofString "x"))) (.cons (.cst (.str (Str.ofString "x"))) (.cons (.cst (.str (Str.ofString "y"))) .nil)))) .nil))) .nil))))
   .nil) .nil)
   (.cons (.ifs (.cmp .Lt (.var 2) (.cst (.int 4))) (.cons (.ret (.tup (.cons (.cst (.str (Str.ofString "flag"))) (.cons (.call "_law_of" "_law_of" (.cons (.var 0) (.cons (.lst (.cons (.cst (.str (Str.ofString "p"))) (.cons (.cst (.str (Str.ofString "p"))) (.cons (.cst (.str (Str.ofString "q"))) .nil)))) .nil))) .nil))))
   .nil) .nil)
   (.cons (.par [3, 4] (.cons (.call "_law_thing_of" "_law_thing_of" (.cons (.var 0) (.cons (.var 1) .nil))) (.cons (.call "_law_thing_of" "_law_thing_of" (.cons (.var 0) (.cons (.var 1) .nil))) .nil)))
   (.cons (.ifs (.cmp .Eq (.var 3) (.var 4)) (.cons (.asg (.tup (.cons (.name 3) (.cons (.name 4) .nil))) (.ite (.var 1) (.tup (.cons (.cst (.str (Str.ofString "x"))) (.cons (.cst (.str (Str.ofString "item"))) .nil))) (.tup (.cons (.cst (.str (Str.ofString "x"))) (.cons (.cst (.str (Str.ofString "y"))) .nil)))))
   (.cons (.ifs (.cmp .Eq (.call "_law_take" "_law_take" (.cons (.var 0) (.cons (.cst (.int 2)) .nil))) (.cst (.int 0))) (.cons (.par [3, 4] (.cons (.var 4) (.cons (.var 3) .nil)))
   .nil) .nil)
   .nil)) .nil)
   (.cons (.ret (.tup (.cons (.call "_law_of" "_law_of" (.cons (.var 0) (.cons (.lst (.cons (.cst (.str (Str.ofString "over"))) (.cons (.cst (.str (Str.ofString "over"))) (.cons (.cst (.str (Str.ofString "same"))) .nil)))) .nil))) (.cons (.var 3) (.cons (.var 4) .nil)))))
   .nil)))))))
def b__law_plain : MSs :=
   (.cons (.asg (.name 2) (.call "_law_take" "_law_take" (.cons (.var 0) (.cons (.cst (.int 9)) .nil))))
   (.cons (.ifs (.bool true (.cons (.cmp .Lt (.var 2) (.cst (.int 3))) (.cons (.var 1) .nil))) (.cons (.ret (.tup (.cons (.cst (.str (Str.ofString "take"))) (.cons (.call "_law_of" "_law_of" (.cons (.var 0) (.cons (.lst (.cons (.cst (.str (Str.ofString "x"))) (.cons (.cst (.str (Str.ofString "x"))) (.cons (.cst (.str (Str.ofString "y"))) (.cons (.cst (.str (Str.ofString "z"))) .nil))))) .nil))) .nil))))
   .nil) .nil)
   (.cons (.ifs (.cmp .Lt (.var 2) (.cst (.int 6))) (.cons (.ret (.tup (.cons (.cst (.str (Str.ofString "print"))) (.cons (.call "_law_thing_of" "_law_thing_of" (.cons (.var 0) (.cons (.var 1) .nil))) .nil))))
   .nil) .nil)
   (.cons (.ifs (.cmp .Eq (.var 2) (.cst (.int 6))) (.cons (.ret (.bin .Add (.tup (.cons (.cst (.str (Str.ofString "copy"))) .nil)) (.call "_law_of" "_law_of" (.cons (.var 0) (.cons (.lst (.cons (.tup (.cons (.cst (.str (Str.ofString "y"))) (.cons (.cst (.str (Str.ofString "x"))) .nil))) (.cons (.tup (.cons (.cst (.str (Str.ofString "z"))) (.cons (.cst (.str (Str.ofString "y"))) .nil))) (.cons (.tup (.cons (.cst (.str (Str.ofString "x"))) (.cons (.cst (.str (Str.ofString "y"))) .nil))) .nil)))) .nil)))))
   .nil) .nil)
   (.cons (.ifs (.cmp .Eq (.var 2) (.cst (.int 7))) (.cons (.ret (.tup (.cons (.cst (.str (Str.ofString "drop"))) (.cons (.call "_law_of" "_law_of" (.cons (.var 0) (.cons (.lst (.cons (.cst (.str (Str.ofString "x"))) (.cons (.cst (.str (Str.ofString "y"))) .nil))) .nil))) .nil))))
   .nil) .nil)
   (.cons (.ret (.tup (.cons (.call "_law_of" "_law_of" (.cons (.var 0) (.cons (.lst (.cons (.cst (.str (Str.ofString "up"))) (.cons (.cst (.str (Str.ofString "down"))) .nil))) .nil))) (.cons (.call "_law_of" "_law_of" (.cons (.var 0) (.cons (.lst (.cons (.cst (.str (Str.ofString "p"))) (.cons (.cst (.str (Str.ofString "p"))) (.cons (.cst (.str (Str.ofString "q"))) .nil)))) .nil))) .nil))))
   .nil))))))
def b__law_body : MSs :=
   (.cons (.asg (.name 4) (.tup .nil))
   (.cons (.for (.name 5) (.rng1 (.call "_law_take" "_law_take" (.cons (.var 0) (.cons (.bin .Add (.var 2) (.cst (.int 1))) .nil)))) (.cons (.ifs (.bool true (.cons (.cmp .Gt (.var 1) (.cst (.int 1))) (.cons (.cmp .Eq (.call "_law_take" "_law_take" (.cons (.var 0) (.cons (.cst (.int 2)) .nil))) (.cst (.int 0))) .nil))) (.cons (.asg (.name 6) (.call "_law_test" "_law_test" (.cons (.var 0) (.cons (.var 3) .nil))))
   (.cons (.asg (.name 7) (.call "_law_body" "_law_body" (.cons (.var 0) (.cons (.bin .Sub (.var 1) (.cst (.int 1))) (.cons (.cst (.int 2)) (.cons (.var 3) .nil))))))
   (.cons (.asg (.name 4) (.bin .Add (.var 4) (.tup (.cons (.tup (.cons (.cst (.str (Str.ofString "if"))) (.cons (.var 6) (.cons (.var 7) (.cons (.call "_law_body" "_law_body" (.cons (.var 0) (.cons (.bin .Sub (.var 1) (.cst (.int 1))) (.cons (.cst (.int 1)) (.cons (.var 3) .nil))))) .nil))))) .nil))))
   .nil))) (.cons (.asg (.name 4) (.bin .Add (.var 4) (.tup (.cons (.call "_law_plain" "_law_plain" (.cons (.var 0) (.cons (.var 3) .nil))) .nil))))
   .nil))
   .nil))
   (.cons (.ret (.var 4))
   .nil)))
def b__law_count : MSs :=
   (.cons (.asg (.name 1) (.cst (.int 0)))
   (.cons (.for (.name 2) (.seq (.var 0)) (.cons (.asg (.name 1) (.bin .Add (.var 1) (.cst (.int 1))))
   (.cons (.ifs (.cmp .Eq (.idx (.var 2) (.cst (.int 0))) (.cst (.str (Str.ofString "if")))) (.cons (.asg (.name 1) (.bin .Add (.bin .Add (.var 1) (.call "_law_count" "_law_count" (.cons (.idx (.var 2) (.cst (.int 2))) .nil))) (.call "_law_count" "_law_count" (.cons (.idx (.var 2) (.cst (.int 3))) .nil))))
   .nil) .nil)
   .nil)))
   (.cons (.ret (.var 1))
   .nil)))
def b__law_known : MSs :=
   (.cons (.asg (.name 1) (.call "_law_of" "_law_of" (.cons (.var 0) (.cons (.lst (.cons (.tup (.cons (.cst (.str (Str.ofString "over"))) (.cons (.cst (.str (Str.ofString "x"))) (.cons (.cst (.str (Str.ofString "item"))) .nil)))) (.cons (.tup (.cons (.cst (.str (Str.ofString "over"))) (.cons (.cst (.str (Str.ofString "item"))) (.cons (.cst (.str (Str.ofString "x"))) .nil)))) .nil))) .nil))))
   (.cons (.asg (.name 2) (.tup (.cons (.idx (.var 1) (.cst (.int 0))) (.cons (.idx (.var 1) (.cst (.int 2))) (.cons (.idx (.var 1) (.cst (.int 1))) .nil)))))
   (.cons (.asg (.name 3) (.tup (.cons (.cst (.str (Str.ofString "print"))) (.cons (.call "_law_of" "_law_of" (.cons (.var 0) (.cons (.lst (.cons (.cst (.str (Str.ofString "x"))) (.cons (.cst (.str (Str.ofString "x"))) (.cons (.cst (.str (Str.ofString "x"))) (.cons (.cst (.str (Str.ofString "item"))) .nil))))) .nil))) .nil))))
   (.cons (.asg (.name 4) (.tup (.cons (.tup (.cons (.cst (.str (Str.ofString "if"))) (.cons (.var 2) (.cons (.tup (.cons (.tup (.cons (.cst (.str (Str.ofString "up"))) (.cons (.cst (.str (Str.ofString "p"))) .nil))) .nil)) (.cons (.tup (.cons (.tup (.cons (.cst (.str (Str.ofString "down"))) (.cons (.cst (.str (Str.ofString "p"))) .nil))) .nil)) .nil))))) (.cons (.tup (.cons (.cst (.str (Str.ofString "take"))) (.cons (.cst (.str (Str.ofString "x"))) .nil))) .nil))))
   (.cons (.asg (.name 5) (.tup (.cons (.tup (.cons (.cst (.str (Str.ofString "if"))) (.cons (.var 1) (.cons (.tup (.cons (.tup (.cons (.cst (.str (Str.ofString "if"))) (.cons (.tup (.cons (.cst (.str (Str.ofString "flag"))) (.cons (.cst (.str (Str.ofString "p"))) .nil))) (.cons (.tup (.cons (.var 3) .nil)) (.cons (.tup .nil) .nil))))) .nil)) (.cons (.tup .nil) .nil))))) .nil)))
   (.cons (.asg (.name 6) (.tup (.cons (.tup (.cons (.cst (.str (Str.ofString "if"))) (.cons (.var 1) (.cons (.tup (.cons (.tup (.cons (.cst (.str (Str.ofString "print"))) (.cons (.cst (.str (Str.ofString "item"))) .nil))) .nil)) (.cons (.tup .nil) .nil))))) (.cons (.tup (.cons (.cst (.str (Str.ofString "take"))) (.cons (.cst (.str (Str.ofString "x"))) .nil))) .nil))))
   (.cons (.asg (.name 7) (.tup (.cons (.tup (.cons (.cst (.str (Str.ofString "print"))) (.cons (.cst (.str (Str.ofString "item"))) .nil))) (.cons (.tup (.cons (.cst (.str (Str.ofString "take"))) (.cons (.cst (.str (Str.ofString "x"))) .nil))) .nil))))
   (.cons (.asg (.name 8) (.tup (.cons (.tup (.cons (.cst (.str (Str.ofString "if"))) (.cons (.tup (.cons (.cst (.str (Str.ofString "empty"))) (.cons (.cst (.str (Str.ofString "x"))) .nil))) (.cons (.var 7) (.cons (.tup (.cons (.tup (.cons (.cst (.str (Str.ofString "if"))) (.cons (.var 1) (.cons (.tup (.cons (.var 3) (.cons (.tup (.cons (.cst (.str (Str.ofString "take"))) (.cons (.cst (.str (Str.ofString "x"))) .nil))) .nil))) (.cons (.tup .nil) .nil))))) .nil)) .nil))))) .nil)))
   (.cons (.asg (.name 9) (.call "_law_of" "_law_of" (.cons (.var 0) (.cons (.lst (.cons (.tup .nil) (.cons (.tup .nil) (.cons (.tup (.cons (.tup (.cons (.cst (.str (Str.ofString "print"))) (.cons (.cst (.str (Str.ofString "x"))) .nil))) .nil)) (.cons (.tup (.cons (.tup (.cons (.cst (.str (Str.ofString "if"))) (.cons (.tup (.cons (.cst (.str (Str.ofString "flag"))) (.cons (.cst (.str (Str.ofString "p"))) .nil))) (.cons (.tup (.cons (.tup (.cons (.cst (.str (Str.ofString "print"))) (.cons (.cst (.str (Str.ofString "x"))) .nil))) .nil)) (.cons (.tup .nil) .nil))))) .nil)) .nil))))) .nil))))
   (.cons (.asg (.name 10) (.bin .Add (.var 5) (.tup (.cons (.tup (.cons (.cst (.str (Str.ofString "if"))) (.cons (.tup (.cons (.cst (.str (Str.ofString "same"))) (.cons (.cst (.str (Str.ofString "item"))) (.cons (.cst (.str (Str.ofString "x"))) .nil)))) (.cons (.tup .nil) (.cons (.var 4) .nil))))) .nil))))
   (.cons (.asg (.name 11) (.tup (.cons (.tup (.cons (.cst (.str (Str.ofString "if"))) (.cons (.var 1) (.cons (.tup .nil) (.cons (.tup (.cons (.var 3) .nil)) .nil))))) (.cons (.tup (.cons (.cst (.str (Str.ofString "take"))) (.cons (.cst (.str (Str.ofString "x"))) .nil))) .nil))))
   (.cons (.ret (.tup (.cons (.call "_law_of" "_law_of" (.cons (.var 0) (.cons (.lst (.cons (.bin .Add (.var 5) (.var 4)) (.cons (.bin .Add (.var 5) (.var 4)) (.cons (.var 6) (.cons (.var 8) (.cons (.var 10) (.cons (.var 11) .nil))))))) .nil))) (.cons (.var 9) .nil))))
   .nil))))))))))))
def b__law_loop : MSs :=
   (.cons (.asg (.tup (.cons (.name 2) (.cons (.name 3) .nil))) (.call "_law_known" "_law_known" (.cons (.var 0) .nil)))
   (.cons (.ifs (.cmp .Eq (.call "_law_take" "_law_take" (.cons (.var 0) (.cons (.cst (.int 3)) .nil))) (.cst (.int 0))) (.cons (.par [2, 3] (.cons (.call "_law_body" "_law_body" (.cons (.var 0) (.cons (.cst (.int 3)) (.cons (.cst (.int 4)) (.cons (.cst (.bool true)) .nil))))) (.cons (.call "_law_body" "_law_body" (.cons (.var 0) (.cons (.cst (.int 2)) (.cons (.cst (.int 2)) (.cons (.cst (.bool false)) .nil))))) .nil)))
   .nil) .nil)
   (.cons (.while (.cmp .Gt (.bin .Add (.call "_law_count" "_law_count" (.cons (.var 2) .nil)) (.call "_law_count" "_law_count" (.cons (.var 3) .nil))) (.var 1)) (.cons (.asg (.tup (.cons (.name 2) (.cons (.name 3) .nil))) (.ite (.cmp .NotEq (.var 3) (.tup .nil)) (.tup (.cons (.var 2) (.cons (.slc (.var 3) (.some (.cst (.int 1))) .none) .nil))) (.tup (.cons (.slc (.var 2) (.some (.cst (.int 1))) .none) (.cons (.var 3) .nil)))))
   .nil))
   (.cons (.ret (.tup (.cons (.var 2) (.cons (.var 3) .nil))))
   .nil))))
def b__law_row : MSs :=
   (.cons (.asg (.name 2) (.call "_law_take" "_law_take" (.cons (.var 0) (.cons (.bin .Add (.var 1) (.cst (.int 1))) .nil))))
   (.cons (.asg (.name 3) (.call "_law_of" "_law_of" (.cons (.var 0) (.cons (.lst (.cons (.cst (.int 2)) (.cons (.cst (.int 3)) (.cons (.cst (.int 4)) (.cons (.bin .Add (.var 2) (.cst (.int 1))) (.cons (.bin .Pow (.cst (.int 10)) (.cst (.int 12))) .nil)))))) .nil))))
   (.cons (.ret (.blt1 "tuple" (.comp false false [4] (.rng1 (.var 2)) .none (.bin .Sub (.call "_law_take" "_law_take" (.cons (.var 0) (.cons (.var 3) .nil))) (.call "_law_of" "_law_of" (.cons (.var 0) (.cons (.lst (.cons (.cst (.int 0)) (.cons (.cst (.int 0)) (.cons (.cst (.int 1)) .nil)))) .nil)))) [("place", 4)])))
   .nil)))
def b__law_any_value : MSs :=
   (.cons (.asg (.name 2) (.call "_law_take" "_law_take" (.cons (.var 0) (.cons (.cst (.int 8)) .nil))))
   (.cons (.ifs (.bool false (.cons (.cmp .Lt (.var 2) (.cst (.int 5))) (.cons (.cmp .Eq (.var 1) (.cst (.int 0))) .nil))) (.cons (.asg (.name 4) (.lst (.cons (.cst (.int 0)) (.cons (.neg (.cst (.int 1))) (.cons (.cst (.int 1)) (.cons (.cst (.int 2)) (.cons (.cst (.int 20)) (.cons (.cst (.bool true)) (.cons (.cst (.bool false)) (.cons (.cst .none) (.cons (.cst (.str (Str.ofString ""))) (.cons (.cst (.str (Str.ofString "x"))) (.cons (.cst (.str (Str.ofString "p"))) (.cons (.cst (.str (Str.ofString "item"))) (.cons (.cst (.str (Str.ofString "peaks"))) (.cons (.cst (.str (Str.ofString "print"))) (.cons (.cst (.str (Str.ofString "last"))) (.cons (.bin .Pow (.cst (.int 10)) (.cst (.int 30))) .nil))))))))))))))))))
   (.cons (.ret (.call "_law_of" "_law_of" (.cons (.var 0) (.cons (.bin .Add (.var 4) (.lst (.cons (.tup .nil) (.cons (.lst .nil) (.cons (.tup (.cons (.cst (.str (Str.ofString "take"))) (.cons (.cst (.str (Str.ofString "x"))) .nil))) (.cons (.tup (.cons (.cst (.str (Str.ofString "last"))) .nil)) (.cons (.tup (.cons (.cst (.str (Str.ofString "over"))) (.cons (.cst (.str (Str.ofString "x"))) (.cons (.cst (.str (Str.ofString "y"))) .nil)))) (.cons (.tup (.cons (.cst (.str (Str.ofString "print"))) (.cons (.cst (.str (Str.ofString "item"))) .nil))) .nil)))))))) .nil))))
   .nil)) .nil)
   (.cons (.asg (.name 3) (.comp false false [5] (.rng1 (.call "_law_take" "_law_take" (.cons (.var 0) (.cons (.cst (.int 5)) .nil)))) .none (.call "_law_any_value" "_law_any_value" (.cons (.var 0) (.cons (.bin .Sub (.var 1) (.cst (.int 1))) .nil))) [("k", 5)]))
   (.cons (.ret (.idx (.lst (.cons (.var 3) (.cons (.blt1 "tuple" (.var 3)) (.cons (.blt1 "tuple" (.var 3)) .nil)))) (.bin .Sub (.var 2) (.cst (.int 5)))))
   .nil))))
def b__law_spoiled : MSs :=
   (.cons (.ifs (.bool false (.cons (.not (.isa "tuple" (.var 1))) (.cons (.cmp .Eq (.var 1) (.tup .nil)) (.cons (.cmp .Eq (.call "_law_take" "_law_take" (.cons (.var 0) (.cons (.cst (.int 6)) .nil))) (.cst (.int 0))) .nil)))) (.cons (.asg (.name 2) (.lst (.cons (.call "_law_any_value" "_law_any_value" (.cons (.var 0) (.cons (.cst (.int 1)) .nil))) (.cons (.lst (.cons (.var 1) .nil)) .nil))))
   (.cons (.ifs (.isa "str" (.var 1)) (.cons (.asg (.name 2) (.bin .Add (.var 2) (.lst (.cons (.bin .Add (.var 1) (.cst (.str (Str.ofString "s")))) (.cons (.cst (.str (Str.ofString "y"))) (.cons (.cst (.str (Str.ofString "q"))) (.cons (.cst (.str (Str.ofString "item"))) (.cons (.cst (.str (Str.ofString "copy"))) (.cons (.cst (.str (Str.ofString "take"))) (.cons (.cst (.str (Str.ofString "same"))) (.cons (.cst (.str (Str.ofString "flag"))) (.cons (.cst (.str (Str.ofString "up"))) (.cons (.cst (.str (Str.ofString "last"))) .nil)))))))))))))
   .nil) .nil)
   (.cons (.ret (.call "_law_of" "_law_of" (.cons (.var 0) (.cons (.var 2) .nil))))
   .nil))) .nil)
   (.cons (.par [3, 4] (.cons (.call "_law_take" "_law_take" (.cons (.var 0) (.cons (.blt1 "len" (.var 1)) .nil))) (.cons (.call "_law_take" "_law_take" (.cons (.var 0) (.cons (.cst (.int 8)) .nil))) .nil)))
   (.cons (.ifs (.cmp .Eq (.var 4) (.cst (.int 0))) (.cons (.ret (.bin .Add (.slc (.var 1) .none (.some (.var 3))) (.slc (.var 1) (.some (.bin .Add (.var 3) (.cst (.int 1)))) .none)))
   .nil) .nil)
   (.cons (.ifs (.cmp .Eq (.var 4) (.cst (.int 1))) (.cons (.ret (.bin .Add (.bin .Add (.slc (.var 1) .none (.some (.var 3))) (.bin .Mult (.slc (.var 1) (.some (.var 3)) (.some (.bin .Add (.var 3) (.cst (.int 1))))) (.cst (.int 2)))) (.slc (.var 1) (.some (.bin .Add (.var 3) (.cst (.int 1)))) .none)))
   .nil) .nil)
   (.cons (.ifs (.cmp .Eq (.var 4) (.cst (.int 2))) (.cons (.ret (.rev (.var 1)))
   .nil) .nil)
   (.cons (.ifs (.cmp .Eq (.var 4) (.cst (.int 3))) (.cons (.ret (.blt1 "list" (.var 1)))
   .nil) .nil)
   (.cons (.ret (.bin .Add (.bin .Add (.slc (.var 1) .none (.some (.var 3))) (.tup (.cons (.call "_law_spoiled" "_law_spoiled" (.cons (.var 0) (.cons (.idx (.var 1) (.var 3)) .nil))) .nil))) (.slc (.var 1) (.some (.bin .Add (.var 3) (.cst (.int 1)))) .none)))
   .nil)))))))
def b__law_is_thing : MSs :=
   (.cons (.asg (.name 2) (.bin .Add (.lst (.cons (.cst (.str (Str.ofString "x"))) (.cons (.cst (.str (Str.ofString "y"))) (.cons (.cst (.str (Str.ofString "z"))) .nil)))) (.bin .Mult (.lst (.cons (.cst (.str (Str.ofString "item"))) .nil)) (.blt1 "int" (.var 1)))))
   (.cons (.ret (.bool true (.cons (.isa "str" (.var 0)) (.cons (.cmp .In (.var 0) (.var 2)) .nil))))
   .nil))
def b__law_is_plain : MSs :=
   (.cons (.ifs (.bool false (.cons (.not (.isa "tuple" (.var 0))) (.cons (.cmp .Lt (.blt1 "len" (.var 0)) (.cst (.int 2))) (.cons (.not (.isa "str" (.idx (.var 0) (.cst (.int 0))))) .nil)))) (.cons (.ret (.cst (.bool false)))
   .nil) .nil)
   (.cons (.ifs (.cmp .Eq (.idx (.var 0) (.cst (.int 0))) (.cst (.str (Str.ofString "copy")))) (.cons (.ifs (.bool false (.cons (.cmp .NotEq (.blt1 "len" (.var 0)) (.cst (.int 3))) (.cons (.cmp .Eq (.idx (.var 0) (.cst (.int 1))) (.idx (.var 0) (.cst (.int 2)))) .nil))) (.cons (.ret (.cst (.bool false)))
   .nil) .nil)
   (.cons (.ret (.bool true (.cons (.call "_law_is_thing" "_law_is_thing" (.cons (.idx (.var 0) (.cst (.int 1))) (.cons (.cst (.bool false)) .nil))) (.cons (.call "_law_is_thing" "_law_is_thing" (.cons (.idx (.var 0) (.cst (.int 2))) (.cons (.cst (.bool false)) .nil))) .nil))))
   .nil)) .nil)
   (.cons (.ifs (.cmp .NotEq (.blt1 "len" (.var 0)) (.cst (.int 2))) (.cons (.ret (.cst (.bool false)))
   .nil) .nil)
   (.cons (.ifs (.cmp .In (.idx (.var 0) (.cst (.int 0))) (.lst (.cons (.cst (.str (Str.ofString "up"))) (.cons (.cst (.str (Str.ofString "down"))) .nil)))) (.cons (.ret (.bool true (.cons (.isa "str" (.idx (.var 0) (.cst (.int 1)))) (.cons (.cmp .In (.idx (.var 0) (.cst (.int 1))) (.lst (.cons (.cst (.str (Str.ofString "p"))) (.cons (.cst (.str (Str.ofString "q"))) .nil)))) .nil))))
   .nil) .nil)
   (.cons (.ifs (.cmp .Eq (.idx (.var 0) (.cst (.int 0))) (.cst (.str (Str.ofString "take")))) (.cons (.ret (.bool true (.cons (.var 1) (.cons (.call "_law_is_thing" "_law_is_thing" (.cons (.idx (.var 0) (.cst (.int 1))) (.cons (.cst (.bool false)) .nil))) .nil))))
   .nil) .nil)
   (.cons (.ret (.bool true (.cons (.cmp .In (.idx (.var 0) (.cst (.int 0))) (.lst (.cons (.cst (.str (Str.ofString "drop"))) (.cons (.cst (.str (Str.ofString "print"))) .nil)))) (.cons (.call "_law_is_thing" "_law_is_thing" (.cons (.idx (.var 0) (.cst (.int 1))) (.cons (.bool true (.cons (.var 1) (.cons (.cmp .Eq (.idx (.var 0) (.cst (.int 0))) (.cst (.str (Str.ofString "print")))) .nil))) .nil))) .nil))))
   .nil))))))
def b__law_is_test : MSs :=
   (.cons (.ifs (.bool false (.cons (.not (.isa "tuple" (.var 0))) (.cons (.cmp .Eq (.var 0) (.tup .nil)) (.cons (.not (.isa "str" (.idx (.var 0) (.cst (.int 0))))) .nil)))) (.cons (.ret (.cst (.bool false)))
   .nil) .nil)
   (.cons (.ifs (.cmp .In (.idx (.var 0) (.cst (.int 0))) (.lst (.cons (.cst (.str (Str.ofString "first"))) (.cons (.cst (.str (Str.ofString "last"))) .nil)))) (.cons (.ret (.bool true (.cons (.var 1) (.cons (.cmp .Eq (.blt1 "len" (.var 0)) (.cst (.int 1))) .nil))))
   .nil) .nil)
   (.cons (.ifs (.cmp .In (.idx (.var 0) (.cst (.int 0))) (.lst (.cons (.cst (.str (Str.ofString "over"))) (.cons (.cst (.str (Str.ofString "same"))) .nil)))) (.cons (.ifs (.bool false (.cons (.cmp .NotEq (.blt1 "len" (.var 0)) (.cst (.int 3))) (.cons (.cmp .Eq (.idx (.var 0) (.cst (.int 1))) (.idx (.var 0) (.cst (.int 2)))) .nil))) (.cons (.ret (.cst (.bool false)))
   .nil) .nil)
   (.cons (.ret (.bool true (.cons (.call "_law_is_thing" "_law_is_thing" (.cons (.idx (.var 0) (.cst (.int 1))) (.cons (.var 1) .nil))) (.cons (.call "_law_is_thing" "_law_is_thing" (.cons (.idx (.var 0) (.cst (.int 2))) (.cons (.var 1) .nil))) .nil))))
   .nil)) .nil)
   (.cons (.ifs (.bool false (.cons (.cmp .NotEq (.blt1 "len" (.var 0)) (.cst (.int 2))) (.cons (.not (.isa "str" (.idx (.var 0) (.cst (.int 1))))) .nil))) (.cons (.ret (.cst (.bool false)))
   .nil) .nil)
   (.cons (.ifs (.cmp .Eq (.idx (.var 0) (.cst (.int 0))) (.cst (.str (Str.ofString "empty")))) (.cons (.ret (.cmp .In (.idx (.var 0) (.cst (.int 1))) (.lst (.cons (.cst (.str (Str.ofString "x"))) (.cons (.cst (.str (Str.ofString "y"))) (.cons (.cst (.str (Str.ofString "z"))) .nil))))))
   .nil) .nil)
   (.cons (.ret (.bool true (.cons (.cmp .Eq (.idx (.var 0) (.cst (.int 0))) (.cst (.str (Str.ofString "flag")))) (.cons (.cmp .In (.idx (.var 0) (.cst (.int 1))) (.lst (.cons (.cst (.str (Str.ofString "p"))) (.cons (.cst (.str (Str.ofString "q"))) .nil)))) .nil))))
   .nil))))))
def b__law_is_body : MSs :=
   (.cons (.ifs (.bool false (.cons (.not (.isa "tuple" (.var 0))) (.cons (.cmp .Gt (.blt1 "len" (.var 0)) (.cst (.int 8))) .nil))) (.cons (.ret (.cst (.bool false)))
   .nil) .nil)
   (.cons (.for (.name 3) (.seq (.var 0)) (.cons (.ifs (.cmp .Eq (.var 1) (.cst (.int 0))) (.cons (.ret (.cst (.bool false)))
   .nil) .nil)
   (.cons (.ifs (.bool true (.cons (.isa "tuple" (.var 3)) (.cons (.cmp .Eq (.blt1 "len" (.var 3)) (.cst (.int 4))) (.cons (.isa "str" (.idx (.var 3) (.cst (.int 0)))) (.cons (.cmp .Eq (.idx (.var 3) (.cst (.int 0))) (.cst (.str (Str.ofString "if")))) .nil))))) (.cons (.ifs (.not (.call "_law_is_test" "_law_is_test" (.cons (.idx (.var 3) (.cst (.int 1))) (.cons (.var 2) .nil)))) (.cons (.ret (.cst (.bool false)))
   .nil) .nil)
   (.cons (.ifs (.bool false (.cons (.not (.call "_law_is_body" "_law_is_body" (.cons (.idx (.var 3) (.cst (.int 2))) (.cons (.bin .Sub (.var 1) (.cst (.int 1))) (.cons (.var 2) .nil))))) (.cons (.not (.call "_law_is_body" "_law_is_body" (.cons (.idx (.var 3) (.cst (.int 3))) (.cons (.bin .Sub (.var 1) (.cst (.int 1))) (.cons (.var 2) .nil))))) .nil))) (.cons (.ret (.cst (.bool false)))
   .nil) .nil)
   .nil)) (.cons (.ifs (.not (.call "_law_is_plain" "_law_is_plain" (.cons (.var 3) (.cons (.var 2) .nil)))) (.cons (.ret (.cst (.bool false)))
   .nil) .nil)
   .nil))
   .nil)))
   (.cons (.ret (.cst (.bool true)))
   .nil)))
def b__law_is_loop : MSs :=
   (.cons (.ifs (.bool false (.cons (.not (.isa "tuple" (.var 0))) (.cons (.cmp .NotEq (.blt1 "len" (.var 0)) (.cst (.int 2))) .nil))) (.cons (.ret (.cst (.bool false)))
   .nil) .nil)
   (.cons (.ifs (.bool false (.cons (.not (.call "_law_is_body" "_law_is_body" (.cons (.idx (.var 0) (.cst (.int 0))) (.cons (.cst (.int 4)) (.cons (.cst (.bool true)) .nil))))) (.cons (.not (.call "_law_is_body" "_law_is_body" (.cons (.idx (.var 0) (.cst (.int 1))) (.cons (.cst (.int 4)) (.cons (.cst (.bool false)) .nil))))) .nil))) (.cons (.ret (.cst (.bool false)))
   .nil) .nil)
   (.cons (.ret (.cmp .LtE (.bin .Add (.call "_law_count" "_law_count" (.cons (.idx (.var 0) (.cst (.int 0))) .nil)) (.call "_law_count" "_law_count" (.cons (.idx (.var 0) (.cst (.int 1))) .nil))) (.cst (.int 20))))
   .nil)))
def b__law_of_kind : MSs :=
   (.cons (.asg (.name 2) (.comp false false [3] (.rng2 (.cst (.int 1)) (.blt1 "len" (.var 0))) (.some (.cmp .Eq (.idx (.var 0) (.var 3)) (.idx (.var 0) (.bin .Sub (.var 3) (.cst (.int 1)))))) (.var 3) [("at", 3)]))
   (.cons (.ret (.bool false (.cons (.cmp .Eq (.var 1) (.cst (.str (Str.ofString "any")))) (.cons (.cmp .Eq (.var 2) (.lst .nil)) .nil))))
   .nil))
def b__law_is_row : MSs :=
   (.cons (.ifs (.bool false (.cons (.not (.isa "tuple" (.var 0))) (.cons (.cmp .Gt (.blt1 "len" (.var 0)) (.var 1)) .nil))) (.cons (.ret (.cst (.bool false)))
   .nil) .nil)
   (.cons (.ret (.cmp .Eq (.comp false false [2] (.seq (.var 0)) (.some (.bool false (.cons (.not (.isa "int" (.var 2))) (.cons (.isa "bool" (.var 2)) .nil)))) (.var 2) [("item", 2)]) (.lst .nil)))
   .nil))
def b__law_words : MSs :=
   (.cons (.asg (.name 0) (.lst (.cons (.cst (.str (Str.ofString "equals"))) (.cons (.cst (.str (Str.ofString "falls"))) (.cons (.cst (.str (Str.ofString "lows"))) (.cons (.cst (.str (Str.ofString "peaks"))) (.cons (.cst (.str (Str.ofString "peaks ends"))) (.cons (.cst (.str (Str.ofString "plateaus"))) (.cons (.cst (.str (Str.ofString "plateaus last"))) (.cons (.cst (.str (Str.ofString "records"))) (.cons (.cst (.str (Str.ofString "records weak"))) .nil)))))))))))
   (.cons (.ret (.bin .Add (.var 0) (.lst (.cons (.cst (.str (Str.ofString "rises"))) (.cons (.cst (.str (Str.ofString "run ends"))) (.cons (.cst (.str (Str.ofString "turns"))) (.cons (.cst (.str (Str.ofString "valleys"))) (.cons (.cst (.str (Str.ofString "valleys ends"))) .nil))))))))
   .nil))
def b__law_turned : MSs :=
   (.cons (.asg (.name 1) (.tup .nil))
   (.cons (.for (.name 2) (.seq (.var 0)) (.cons (.ifs (.cmp .Eq (.idx (.var 2) (.cst (.int 0))) (.cst (.str (Str.ofString "if")))) (.cons (.asg (.name 3) (.ite (.cmp .Eq (.idx (.idx (.var 2) (.cst (.int 1))) (.cst (.int 0))) (.cst (.str (Str.ofString "over")))) (.tup (.cons (.cst (.str (Str.ofString "over"))) (.cons (.idx (.idx (.var 2) (.cst (.int 1))) (.cst (.int 2))) (.cons (.idx (.idx (.var 2) (.cst (.int 1))) (.cst (.int 1))) .nil)))) (.idx (.var 2) (.cst (.int 1)))))
   (.cons (.asg (.name 2) (.tup (.cons (.cst (.str (Str.ofString "if"))) (.cons (.var 3) (.cons (.call "_law_turned" "_law_turned" (.cons (.idx (.var 2) (.cst (.int 2))) .nil)) (.cons (.call "_law_turned" "_law_turned" (.cons (.idx (.var 2) (.cst (.int 3))) .nil)) .nil))))))
   .nil)) .nil)
   (.cons (.asg (.name 1) (.bin .Add (.var 1) (.tup (.cons (.var 2) .nil))))
   .nil)))
   (.cons (.ret (.var 1))
   .nil)))
def b__law_less : MSs :=
   (.cons (.par [4, 5] (.cons (.tup .nil) (.cons (.var 2) .nil)))
   (.cons (.for (.name 3) (.seq (.var 0)) (.cons (.ifs (.bool true (.cons (.cmp .NotEq (.var 5) (.var 1)) (.cons (.cmp .Eq (.idx (.var 3) (.cst (.int 0))) (.cst (.str (Str.ofString "if")))) .nil))) (.cons (.asg (.name 6) (.call "_law_less" "_law_less" (.cons (.idx (.var 3) (.cst (.int 2))) (.cons (.var 1) (.cons (.bin .Add (.var 5) (.cst (.int 1))) .nil)))))
   (.cons (.asg (.name 7) (.call "_law_less" "_law_less" (.cons (.idx (.var 3) (.cst (.int 3))) (.cons (.var 1) (.cons (.bin .Add (.bin .Add (.var 5) (.cst (.int 1))) (.call "_law_count" "_law_count" (.cons (.idx (.var 3) (.cst (.int 2))) .nil))) .nil)))))
   (.cons (.asg (.name 4) (.bin .Add (.var 4) (.tup (.cons (.tup (.cons (.cst (.str (Str.ofString "if"))) (.cons (.idx (.var 3) (.cst (.int 1))) (.cons (.var 6) (.cons (.var 7) .nil))))) .nil))))
   .nil))) (.cons (.ifs (.cmp .NotEq (.var 5) (.var 1)) (.cons (.asg (.name 4) (.bin .Add (.var 4) (.tup (.cons (.var 3) .nil))))
   .nil) .nil)
   .nil))
   (.cons (.asg (.name 5) (.bin .Add (.var 5) (.call "_law_count" "_law_count" (.cons (.tup (.cons (.var 3) .nil)) .nil))))
   .nil)))
   (.cons (.ret (.var 4))
   .nil)))
def b__law_firsts : MSs :=
   (.cons (.asg (.name 1) (.new .nil))
   (.cons (.for (.name 2) (.seq (.var 0)) (.cons (.expr (.app (.var 1) (.idx (.var 2) (.cst (.int 0)))))
   (.cons (.ifs (.cmp .Eq (.idx (.var 2) (.cst (.int 0))) (.cst (.str (Str.ofString "if")))) (.cons (.asg (.name 1) (.addL (.bin .Add (.var 1) (.call "_law_firsts" "_law_firsts" (.cons (.idx (.var 2) (.cst (.int 2))) .nil))) (.call "_law_firsts" "_law_firsts" (.cons (.idx (.var 2) (.cst (.int 3))) .nil))))
   .nil) .nil)
   .nil)))
   (.frz 1 (.cons (.ret (.var 1))
   .nil))))
def b__law_told_right : MSs :=
   (.cons (.asg (.name 1) (.lst (.cons (.call "is_loop" "is_loop" (.cons (.var 0) .nil)) (.cons (.call "is_row" "is_row" (.cons (.var 0) .nil)) (.cons (.call "is_asking" "is_asking" (.cons (.var 0) .nil)) .nil)))))
   (.cons (.ifs (.cmp .NotEq (.comp false false [3] (.seq (.var 1)) (.some (.not (.isa "bool" (.var 3)))) (.var 3) [("one", 3)]) (.lst .nil)) (.cons (.ret (.cst (.bool false)))
   .nil) .nil)
   (.cons (.asg (.name 2) (.bool true (.cons (.isa "str" (.var 0)) (.cons (.cmp .In (.var 0) (.call "_law_words" "_law_words" .nil)) .nil))))
   (.cons (.ret (.cmp .Eq (.var 1) (.lst (.cons (.call "_law_is_loop" "_law_is_loop" (.cons (.var 0) .nil)) (.cons (.call "_law_is_row" "_law_is_row" (.cons (.var 0) (.cons (.cst (.int 40)) .nil))) (.cons (.var 2) .nil))))))
   .nil))))
def b_law : MSs :=
   (.cons (.for (.name 1) (.rng1 (.blt2 "max" (.cst (.int 4)) (.blt2 "min" (.cst (.int 9)) (.bin .Add (.blt1 "len" (.var 0)) (.cst (.int 3)))))) (.cons (.asg (.name 5) (.call "_law_bag" "_law_bag" (.cons (.var 0) (.cons (.var 1) .nil))))
   (.cons (.par [10, 11] (.cons (.call "_law_loop" "_law_loop" (.cons (.var 5) (.cons (.cst (.int 20)) .nil))) (.cons (.call "_law_row" "_law_row" (.cons (.var 5) (.cons (.cst (.int 9)) .nil))) .nil)))
   (.cons (.for (.name 2) (.rng1 (.cst (.int 10))) (.cons (.asg (.name 12) (.call "_law_of" "_law_of" (.cons (.var 5) (.cons (.lst (.cons (.var 10) (.cons (.var 10) (.cons (.var 11) (.cons (.call "_law_of" "_law_of" (.cons (.var 5) (.cons (.call "_law_words" "_law_words" .nil) .nil))) .nil))))) .nil))))
   (.cons (.asg (.name 13) (.new (.cons (.var 12) (.cons (.call "_law_spoiled" "_law_spoiled" (.cons (.var 5) (.cons (.var 12) .nil))) (.cons (.call "_law_spoiled" "_law_spoiled" (.cons (.var 5) (.cons (.var 12) .nil))) .nil)))))
   (.cons (.expr (.app (.var 13) (.call "_law_any_value" "_law_any_value" (.cons (.var 5) (.cons (.cst (.int 2)) .nil)))))
   (.cons (.ifs (.not (.call "_law_told_right" "_law_told_right" (.cons (.call "_law_of" "_law_of" (.cons (.var 5) (.cons (.var 13) .nil))) .nil))) (.cons (.ret (.cst (.bool false)))
   .nil) .nil)
   .nil)))))
   (.cons (.for (.name 6) (.seq (.lst (.cons (.cst (.str (Str.ofString "any"))) (.cons (.cst (.str (Str.ofString "unlike"))) .nil)))) (.cons (.for (.name 14) (.seq (.lst (.cons (.var 11) (.cons (.blt1 "tuple" (.srtI (.var 11))) (.cons (.blt1 "tuple" (.sset (.var 11))) .nil))))) (.cons (.ifs (.cmp .NotEq (.call "is_of_kind" "is_of_kind" (.cons (.var 14) (.cons (.var 6) .nil))) (.call "_law_of_kind" "_law_of_kind" (.cons (.var 14) (.cons (.var 6) .nil)))) (.cons (.ret (.cst (.bool false)))
   .nil) .nil)
   .nil))
   .nil))
   (.cons (.asg (.tup (.cons (.name 14) (.cons (.name 15) .nil))) (.var 10))
   (.cons (.ifs (.cmp .NotEq (.call "words" "words" (.cons (.var 10) .nil)) (.bin .Add (.call "_law_firsts" "_law_firsts" (.cons (.var 14) .nil)) (.call "_law_firsts" "_law_firsts" (.cons (.var 15) .nil)))) (.cons (.ret (.cst (.bool false)))
   .nil) .nil)
   (.cons (.ifs (.cmp .NotEq (.call "upside_down" "upside_down" (.cons (.var 10) .nil)) (.tup (.cons (.call "_law_turned" "_law_turned" (.cons (.var 14) .nil)) (.cons (.call "_law_turned" "_law_turned" (.cons (.var 15) .nil)) .nil)))) (.cons (.ret (.cst (.bool false)))
   .nil) .nil)
   (.cons (.for (.name 7) (.rng1 (.bin .Add (.call "_law_count" "_law_count" (.cons (.var 14) .nil)) (.call "_law_count" "_law_count" (.cons (.var 15) .nil)))) (.cons (.asg (.name 16) (.call "_law_less" "_law_less" (.cons (.var 14) (.cons (.var 7) (.cons (.cst (.int 0)) .nil)))))
   (.cons (.asg (.name 17) (.tup (.cons (.var 16) (.cons (.call "_law_less" "_law_less" (.cons (.var 15) (.cons (.var 7) (.cons (.call "_law_count" "_law_count" (.cons (.var 14) .nil)) .nil)))) .nil))))
   (.cons (.ifs (.cmp .NotEq (.call "without" "without" (.cons (.var 10) (.cons (.var 7) .nil))) (.var 17)) (.cons (.ret (.cst (.bool false)))
   .nil) .nil)
   .nil))))
   .nil)))))))))
   (.cons (.asg (.tup (.cons (.name 8) (.cons (.name 9) .nil))) (.tup (.cons (.tup .nil) (.cons (.tup .nil) .nil))))
   (.cons (.for (.name 2) (.rng1 (.cst (.int 4))) (.cons (.asg (.name 8) (.tup (.cons (.tup (.cons (.cst (.str (Str.ofString "if"))) (.cons (.tup (.cons (.cst (.str (Str.ofString "flag"))) (.cons (.cst (.str (Str.ofString "p"))) .nil))) (.cons (.var 8) (.cons (.tup .nil) .nil))))) .nil)))
   .nil))
   (.cons (.asg (.name 3) (.bin .Mult (.tup (.cons (.tup (.cons (.cst (.str (Str.ofString "drop"))) (.cons (.cst (.str (Str.ofString "z"))) .nil))) .nil)) (.cst (.int 8))))
   (.cons (.asg (.name 4) (.new (.cons (.tup (.cons (.var 8) (.cons (.var 8) .nil))) (.cons (.tup (.cons (.tup (.cons (.tup (.cons (.cst (.str (Str.ofString "if"))) (.cons (.tup (.cons (.cst (.str (Str.ofString "last"))) .nil)) (.cons (.var 8) (.cons (.tup .nil) .nil))))) .nil)) (.cons (.var 9) .nil))) (.cons (.tup (.cons (.var 3) (.cons (.var 3) .nil))) (.cons (.tup (.cons (.bin .Add (.var 3) (.slc (.var 3) .none (.some (.cst (.int 1))))) (.cons (.var 9) .nil))) .nil))))))
   (.cons (.asg (.name 4) (.addL (.var 4) (.lst (.cons (.tup (.cons (.var 9) (.cons (.tup (.cons (.tup (.cons (.cst (.str (Str.ofString "take"))) (.cons (.cst (.str (Str.ofString "x"))) .nil))) .nil)) .nil))) (.cons (.tup (.cons (.var 9) (.cons (.tup (.cons (.tup (.cons (.cst (.str (Str.ofString "print"))) (.cons (.cst (.str (Str.ofString "item"))) .nil))) .nil)) .nil))) (.cons (.tup (.cons (.var 9) (.cons (.tup (.cons (.tup (.cons (.cst (.str (Str.ofString "if"))) (.cons (.tup (.cons (.cst (.str (Str.ofString "last"))) .nil)) (.cons (.var 9) (.cons (.var 9) .nil))))) .nil)) .nil))) .nil))))))
   (.cons (.asg (.name 4) (.addL (.var 4) (.lst (.cons (.tup (.cons (.var 9) (.cons (.tup (.cons (.tup (.cons (.cst (.str (Str.ofString "if"))) (.cons (.tup (.cons (.cst (.str (Str.ofString "over"))) (.cons (.cst (.str (Str.ofString "x"))) (.cons (.cst (.str (Str.ofString "item"))) .nil)))) (.cons (.var 9) (.cons (.var 9) .nil))))) .nil)) .nil))) (.cons (.tup (.cons (.tup (.cons (.tup (.cons (.cst (.str (Str.ofString "copy"))) (.cons (.cst (.str (Str.ofString "x"))) (.cons (.cst (.str (Str.ofString "x"))) .nil)))) .nil)) (.cons (.var 9) .nil))) (.cons (.tup (.cons (.var 9) (.cons (.var 9) .nil))) .nil))))))
   (.cons (.asg (.name 4) (.addL (.var 4) (.lst (.cons (.tup (.cons (.bin .Add (.var 3) (.tup .nil)) (.cons (.slc (.var 3) .none (.some (.cst (.int 4)))) .nil))) (.cons (.tup (.cons (.tup (.cons (.tup (.cons (.cst (.str (Str.ofString "if"))) (.cons (.tup (.cons (.cst (.str (Str.ofString "first"))) .nil)) (.cons (.var 3) (.cons (.slc (.var 3) .none (.some (.cst (.int 3)))) .nil))))) .nil)) (.cons (.var 3) .nil))) (.cons (.bin .Mult (.tup (.cons (.cst (.int 1)) .nil)) (.cst (.int 40))) (.cons (.bin .Mult (.tup (.cons (.cst (.int 1)) .nil)) (.cst (.int 41))) .nil)))))))
   (.cons (.expr (.app (.var 4) (.tup (.cons (.tup (.cons (.tup (.cons (.cst (.str (Str.ofString "if"))) (.cons (.tup (.cons (.cst (.str (Str.ofString "first"))) .nil)) (.cons (.var 3) (.cons (.slc (.var 3) .none (.some (.cst (.int 4)))) .nil))))) .nil)) (.cons (.slc (.var 3) .none (.some (.cst (.int 7)))) .nil)))))
   (.frz 4 (.cons (.ret (.cmp .Eq (.comp false false [12] (.seq (.var 4)) (.some (.not (.call "_law_told_right" "_law_told_right" (.cons (.var 12) .nil)))) (.var 12) [("value", 12)]) (.lst .nil)))
   .nil)))))))))))
def d_is_number : DefD := ⟨"is_number", "is_number", top 29, ["value"], 1, b_is_number⟩
def d_are_texts : DefD := ⟨"are_texts", "are_texts", top 30, ["value", "one"], 1, b_are_texts⟩
def d_is_holder : DefD := ⟨"is_holder", "is_holder", top 31, ["value"], 1, b_is_holder⟩
def d_is_flag : DefD := ⟨"is_flag", "is_flag", top 32, ["value"], 1, b_is_flag⟩
def d_is_thing : DefD := ⟨"is_thing", "is_thing", top 33, ["value"], 1, b_is_thing⟩
def d_is_plain : DefD := ⟨"is_plain", "is_plain", top 34, ["value", "word", "parts"], 1, b_is_plain⟩
def d_is_test : DefD := ⟨"is_test", "is_test", top 35, ["value", "word", "parts"], 1, b_is_test⟩
def d_looks_like_if : DefD := ⟨"looks_like_if", "looks_like_if", top 36, ["value"], 1, b_looks_like_if⟩
def d_needs_item : DefD := ⟨"needs_item", "needs_item", top 37, ["statement", "words"], 1, b_needs_item⟩
def d_is_body : DefD := ⟨"is_body", "is_body", top 38, ["value", "in_each", "deep", "statement"], 3, b_is_body⟩
def d_all_in : DefD := ⟨"all_in", "all_in", top 39, ["body", "found", "statement"], 1, b_all_in⟩
def d_all_of : DefD := ⟨"all_of", "all_of", top 40, ["loop"], 1, b_all_of⟩
def d_is_loop : DefD := ⟨"is_loop", "is_loop", top 41, ["value"], 1, b_is_loop⟩
def d_is_row : DefD := ⟨"is_row", "is_row", top 42, ["value", "item"], 1, b_is_row⟩
def d_is_asking : DefD := ⟨"is_asking", "is_asking", top 43, ["value"], 1, b_is_asking⟩
def d_need_loop : DefD := ⟨"need_loop", "need_loop", top 44, ["value"], 1, b_need_loop⟩
def d_need_row : DefD := ⟨"need_row", "need_row", top 45, ["value"], 1, b_need_row⟩
def d_need_kind : DefD := ⟨"need_kind", "need_kind", top 46, ["value"], 1, b_need_kind⟩
def d_need_statement : DefD := ⟨"need_statement", "need_statement", top 47, ["loop", "value"], 2, b_need_statement⟩
def d_body_less : DefD := ⟨"body_less", "body_less", top 48, ["body", "gone", "begin", "statement", "found", "number", "first", "second"], 3, b_body_less⟩
def d_loop_less : DefD := ⟨"loop_less", "loop_less", top 49, ["loop", "gone"], 2, b_loop_less⟩
def d_body_turned : DefD := ⟨"body_turned", "body_turned", top 50, ["body", "found", "statement", "test"], 1, b_body_turned⟩
def d_loop_turned : DefD := ⟨"loop_turned", "loop_turned", top 51, ["loop"], 1, b_loop_turned⟩
def d_is_of_kind : DefD := ⟨"is_of_kind", "is_of_kind", top 52, ["row", "kind", "one", "other"], 2, b_is_of_kind⟩
def d_words : DefD := ⟨"words", "words", top 53, ["loop", "statement"], 1, b_words⟩
def d_without : DefD := ⟨"without", "without", top 54, ["loop", "number"], 2, b_without⟩
def d_upside_down : DefD := ⟨"upside_down", "upside_down", top 55, ["loop"], 1, b_upside_down⟩
def d__law_bag : DefD := ⟨"_law_bag", "_law_bag", top 57, ["script", "k", "cell"], 2, b__law_bag⟩
def d__law_take : DefD := ⟨"_law_take", "_law_take", top 58, ["bag", "many", "stirred", "found"], 2, b__law_take⟩
def d__law_of : DefD := ⟨"_law_of", "_law_of", top 59, ["bag", "some"], 2, b__law_of⟩
def d__law_thing_of : DefD := ⟨"_law_thing_of", "_law_thing_of", top 60, ["bag", "in_each"], 2, b__law_thing_of⟩
def d__law_test : DefD := ⟨"_law_test", "_law_test", top 61, ["bag", "in_each", "way", "one", "other"], 2, b__law_test⟩
def d__law_plain : DefD := ⟨"_law_plain", "_law_plain", top 62, ["bag", "in_each", "way"], 2, b__law_plain⟩
def d__law_body : DefD := ⟨"_law_body", "_law_body", top 63, ["bag", "deep", "most", "in_each", "found", "turn", "test", "first"], 4, b__law_body⟩
def d__law_count : DefD := ⟨"_law_count", "_law_count", top 64, ["body", "many", "statement"], 1, b__law_count⟩
def d__law_known : DefD := ⟨"_law_known", "_law_known", top 65, ["bag", "over", "back", "show", "keep", "turn", "step", "taken", "best", "after", "same", "ends"], 1, b__law_known⟩
def d__law_loop : DefD := ⟨"_law_loop", "_law_loop", top 66, ["bag", "most", "each", "after"], 2, b__law_loop⟩
def d__law_row : DefD := ⟨"_law_row", "_law_row", top 67, ["bag", "most", "size", "many", "place"], 2, b__law_row⟩
def d__law_any_value : DefD := ⟨"_law_any_value", "_law_any_value", top 68, ["bag", "depth", "kind", "items", "some", "k"], 2, b__law_any_value⟩
def d__law_spoiled : DefD := ⟨"_law_spoiled", "_law_spoiled", top 69, ["bag", "value", "some", "at", "way"], 2, b__law_spoiled⟩
def d__law_is_thing : DefD := ⟨"_law_is_thing", "_law_is_thing", top 70, ["value", "in_each", "some"], 2, b__law_is_thing⟩
def d__law_is_plain : DefD := ⟨"_law_is_plain", "_law_is_plain", top 71, ["value", "in_each"], 2, b__law_is_plain⟩
def d__law_is_test : DefD := ⟨"_law_is_test", "_law_is_test", top 72, ["value", "in_each"], 2, b__law_is_test⟩
def d__law_is_body : DefD := ⟨"_law_is_body", "_law_is_body", top 73, ["value", "deep", "in_each", "one"], 3, b__law_is_body⟩
def d__law_is_loop : DefD := ⟨"_law_is_loop", "_law_is_loop", top 74, ["value"], 1, b__law_is_loop⟩
def d__law_of_kind : DefD := ⟨"_law_of_kind", "_law_of_kind", top 75, ["row", "kind", "same", "at"], 2, b__law_of_kind⟩
def d__law_is_row : DefD := ⟨"_law_is_row", "_law_is_row", top 76, ["value", "most", "item"], 2, b__law_is_row⟩
def d__law_words : DefD := ⟨"_law_words", "_law_words", top 77, ["found"], 0, b__law_words⟩
def d__law_turned : DefD := ⟨"_law_turned", "_law_turned", top 78, ["body", "found", "one", "test"], 1, b__law_turned⟩
def d__law_less : DefD := ⟨"_law_less", "_law_less", top 79, ["body", "gone", "begin", "one", "found", "number", "first", "second"], 3, b__law_less⟩
def d__law_firsts : DefD := ⟨"_law_firsts", "_law_firsts", top 80, ["body", "found", "one"], 1, b__law_firsts⟩
def d__law_told_right : DefD := ⟨"_law_told_right", "_law_told_right", top 81, ["value", "told", "asks", "one"], 1, b__law_told_right⟩
def d_law : DefD := ⟨"law", "law", top 82, ["script", "k", "turn", "eight", "rows", "bag", "kind", "number", "deep", "none", "loop", "row", "value", "more", "one", "two", "first", "due"], 1, b_law⟩
def tab : Tab := ⟨[("is_number", "is_number"), ("are_texts", "are_texts"), ("is_holder", "is_holder"), ("is_flag", "is_flag"), ("is_thing", "is_thing"), ("is_plain", "is_plain"), ("is_test", "is_test"), ("looks_like_if", "looks_like_if"), ("needs_item", "needs_item"), ("is_body", "is_body"), ("all_in", "all_in"), ("all_of", "all_of"), ("is_loop", "is_loop"), ("is_row", "is_row"), ("is_asking", "is_asking"), ("need_loop", "need_loop"), ("need_row", "need_row"), ("need_kind", "need_kind"), ("need_statement", "need_statement"), ("body_less", "body_less"), ("loop_less", "loop_less"), ("body_turned", "body_turned"), ("loop_turned", "loop_turned"), ("is_of_kind", "is_of_kind"), ("words", "words"), ("without", "without"), ("upside_down", "upside_down"), ("_law_bag", "_law_bag"), ("_law_take", "_law_take"), ("_law_of", "_law_of"), ("_law_thing_of", "_law_thing_of"), ("_law_test", "_law_test"), ("_law_plain", "_law_plain"), ("_law_body", "_law_body"), ("_law_count", "_law_count"), ("_law_known", "_law_known"), ("_law_loop", "_law_loop"), ("_law_row", "_law_row"), ("_law_any_value", "_law_any_value"), ("_law_spoiled", "_law_spoiled"), ("_law_is_thing", "_law_is_thing"), ("_law_is_plain", "_law_is_plain"), ("_law_is_test", "_law_is_test"), ("_law_is_body", "_law_is_body"), ("_law_is_loop", "_law_is_loop"), ("_law_of_kind", "_law_of_kind"), ("_law_is_row", "_law_is_row"), ("_law_words", "_law_words"), ("_law_turned", "_law_turned"), ("_law_less", "_law_less"), ("_law_firsts", "_law_firsts"), ("_law_told_right", "_law_told_right"), ("law", "law")], [("HOLDERS", g_HOLDERS), ("FLAGS", g_FLAGS), ("ITEM", g_ITEM), ("PRINT", g_PRINT), ("UP", g_UP), ("DOWN", g_DOWN), ("TAKE", g_TAKE), ("DROP", g_DROP), ("COPY", g_COPY), ("EMPTY", g_EMPTY), ("FLAG", g_FLAG), ("OVER", g_OVER), ("SAME", g_SAME), ("FIRST", g_FIRST), ("LAST", g_LAST), ("IF", g_IF), ("MOST_STATEMENTS", g_MOST_STATEMENTS), ("MOST_DEEP", g_MOST_DEEP), ("MOST_ITEMS", g_MOST_ITEMS), ("ASKINGS", g_ASKINGS), ("ANY", g_ANY), ("UNLIKE", g_UNLIKE)]⟩
def defs : List DefD := [d_is_number, d_are_texts, d_is_holder, d_is_flag, d_is_thing, d_is_plain, d_is_test, d_looks_like_if, d_needs_item, d_is_body, d_all_in, d_all_of, d_is_loop, d_is_row, d_is_asking, d_need_loop, d_need_row, d_need_kind, d_need_statement, d_body_less, d_loop_less, d_body_turned, d_loop_turned, d_is_of_kind, d_words, d_without, d_upside_down, d__law_bag, d__law_take, d__law_of, d__law_thing_of, d__law_test, d__law_plain, d__law_body, d__law_count, d__law_known, d__law_loop, d__law_row, d__law_any_value, d__law_spoiled, d__law_is_thing, d__law_is_plain, d__law_is_test, d__law_is_body, d__law_is_loop, d__law_of_kind, d__law_is_row, d__law_words, d__law_turned, d__law_less, d__law_firsts, d__law_told_right, d_law]
theorem chk : defs.all (chkDef tab) = true := by decide +kernel
theorem keys : (defs.map (·.key)).Nodup := by decide +kernel
theorem calls : ∀ p ∈ tab.calls, p.1 = p.2 ∧ ∃ d ∈ defs, d.key = p.1 := by decide +kernel
theorem run_is_number (n : Nat) (v0 : Val) (S : Store) : FS defs (n + 1) "is_number" [v0] S = fin S (evSs (FS defs n) b_is_number [some v0] S) :=
  (congrFun (congrFun (FS_eq (d := d_is_number) (by simp [defs]) keys n) _) _).trans (runFn_fin rfl)
theorem run_are_texts (n : Nat) (v0 : Val) (S : Store) : FS defs (n + 1) "are_texts" [v0] S = fin S (evSs (FS defs n) b_are_texts [some v0, none] S) :=
  (congrFun (congrFun (FS_eq (d := d_are_texts) (by simp [defs]) keys n) _) _).trans (runFn_fin rfl)
theorem run_is_holder (n : Nat) (v0 : Val) (S : Store) : FS defs (n + 1) "is_holder" [v0] S = fin S (evSs (FS defs n) b_is_holder [some v0] S) :=
  (congrFun (congrFun (FS_eq (d := d_is_holder) (by simp [defs]) keys n) _) _).trans (runFn_fin rfl)
theorem run_is_flag (n : Nat) (v0 : Val) (S : Store) : FS defs (n + 1) "is_flag" [v0] S = fin S (evSs (FS defs n) b_is_flag [some v0] S) :=
  (congrFun (congrFun (FS_eq (d := d_is_flag) (by simp [defs]) keys n) _) _).trans (runFn_fin rfl)
theorem run_is_thing (n : Nat) (v0 : Val) (S : Store) : FS defs (n + 1) "is_thing" [v0] S = fin S (evSs (FS defs n) b_is_thing [some v0] S) :=
  (congrFun (congrFun (FS_eq (d := d_is_thing) (by simp [defs]) keys n) _) _).trans (runFn_fin rfl)
theorem run_is_plain (n : Nat) (v0 : Val) (S : Store) : FS defs (n + 1) "is_plain" [v0] S = fin S (evSs (FS defs n) b_is_plain [some v0, none, none] S) :=
  (congrFun (congrFun (FS_eq (d := d_is_plain) (by simp [defs]) keys n) _) _).trans (runFn_fin rfl)
theorem run_is_test (n : Nat) (v0 : Val) (S : Store) : FS defs (n + 1) "is_test" [v0] S = fin S (evSs (FS defs n) b_is_test [some v0, none, none] S) :=
  (congrFun (congrFun (FS_eq (d := d_is_test) (by simp [defs]) keys n) _) _).trans (runFn_fin rfl)
theorem run_looks_like_if (n : Nat) (v0 : Val) (S : Store) : FS defs (n + 1) "looks_like_if" [v0] S = fin S (evSs (FS defs n) b_looks_like_if [some v0] S) :=
  (congrFun (congrFun (FS_eq (d := d_looks_like_if) (by simp [defs]) keys n) _) _).trans (runFn_fin rfl)
theorem run_needs_item (n : Nat) (v0 : Val) (S : Store) : FS defs (n + 1) "needs_item" [v0] S = fin S (evSs (FS defs n) b_needs_item [some v0, none] S) :=
  (congrFun (congrFun (FS_eq (d := d_needs_item) (by simp [defs]) keys n) _) _).trans (runFn_fin rfl)
theorem run_is_body (n : Nat) (v0 v1 v2 : Val) (S : Store) : FS defs (n + 1) "is_body" [v0, v1, v2] S = fin S (evSs (FS defs n) b_is_body [some v0, some v1, some v2, none] S) :=
  (congrFun (congrFun (FS_eq (d := d_is_body) (by simp [defs]) keys n) _) _).trans (runFn_fin rfl)
theorem run_all_in (n : Nat) (v0 : Val) (S : Store) : FS defs (n + 1) "all_in" [v0] S = fin S (evSs (FS defs n) b_all_in [some v0, none, none] S) :=
  (congrFun (congrFun (FS_eq (d := d_all_in) (by simp [defs]) keys n) _) _).trans (runFn_fin rfl)
theorem run_all_of (n : Nat) (v0 : Val) (S : Store) : FS defs (n + 1) "all_of" [v0] S = fin S (evSs (FS defs n) b_all_of [some v0] S) :=
  (congrFun (congrFun (FS_eq (d := d_all_of) (by simp [defs]) keys n) _) _).trans (runFn_fin rfl)
theorem run_is_loop (n : Nat) (v0 : Val) (S : Store) : FS defs (n + 1) "is_loop" [v0] S = fin S (evSs (FS defs n) b_is_loop [some v0] S) :=
  (congrFun (congrFun (FS_eq (d := d_is_loop) (by simp [defs]) keys n) _) _).trans (runFn_fin rfl)
theorem run_is_row (n : Nat) (v0 : Val) (S : Store) : FS defs (n + 1) "is_row" [v0] S = fin S (evSs (FS defs n) b_is_row [some v0, none] S) :=
  (congrFun (congrFun (FS_eq (d := d_is_row) (by simp [defs]) keys n) _) _).trans (runFn_fin rfl)
theorem run_is_asking (n : Nat) (v0 : Val) (S : Store) : FS defs (n + 1) "is_asking" [v0] S = fin S (evSs (FS defs n) b_is_asking [some v0] S) :=
  (congrFun (congrFun (FS_eq (d := d_is_asking) (by simp [defs]) keys n) _) _).trans (runFn_fin rfl)
theorem run_need_loop (n : Nat) (v0 : Val) (S : Store) : FS defs (n + 1) "need_loop" [v0] S = fin S (evSs (FS defs n) b_need_loop [some v0] S) :=
  (congrFun (congrFun (FS_eq (d := d_need_loop) (by simp [defs]) keys n) _) _).trans (runFn_fin rfl)
theorem run_need_row (n : Nat) (v0 : Val) (S : Store) : FS defs (n + 1) "need_row" [v0] S = fin S (evSs (FS defs n) b_need_row [some v0] S) :=
  (congrFun (congrFun (FS_eq (d := d_need_row) (by simp [defs]) keys n) _) _).trans (runFn_fin rfl)
theorem run_need_kind (n : Nat) (v0 : Val) (S : Store) : FS defs (n + 1) "need_kind" [v0] S = fin S (evSs (FS defs n) b_need_kind [some v0] S) :=
  (congrFun (congrFun (FS_eq (d := d_need_kind) (by simp [defs]) keys n) _) _).trans (runFn_fin rfl)
theorem run_need_statement (n : Nat) (v0 v1 : Val) (S : Store) : FS defs (n + 1) "need_statement" [v0, v1] S = fin S (evSs (FS defs n) b_need_statement [some v0, some v1] S) :=
  (congrFun (congrFun (FS_eq (d := d_need_statement) (by simp [defs]) keys n) _) _).trans (runFn_fin rfl)
theorem run_body_less (n : Nat) (v0 v1 v2 : Val) (S : Store) : FS defs (n + 1) "body_less" [v0, v1, v2] S = fin S (evSs (FS defs n) b_body_less [some v0, some v1, some v2, none, none, none, none, none] S) :=
  (congrFun (congrFun (FS_eq (d := d_body_less) (by simp [defs]) keys n) _) _).trans (runFn_fin rfl)
theorem run_loop_less (n : Nat) (v0 v1 : Val) (S : Store) : FS defs (n + 1) "loop_less" [v0, v1] S = fin S (evSs (FS defs n) b_loop_less [some v0, some v1] S) :=
  (congrFun (congrFun (FS_eq (d := d_loop_less) (by simp [defs]) keys n) _) _).trans (runFn_fin rfl)
theorem run_body_turned (n : Nat) (v0 : Val) (S : Store) : FS defs (n + 1) "body_turned" [v0] S = fin S (evSs (FS defs n) b_body_turned [some v0, none, none, none] S) :=
  (congrFun (congrFun (FS_eq (d := d_body_turned) (by simp [defs]) keys n) _) _).trans (runFn_fin rfl)
theorem run_loop_turned (n : Nat) (v0 : Val) (S : Store) : FS defs (n + 1) "loop_turned" [v0] S = fin S (evSs (FS defs n) b_loop_turned [some v0] S) :=
  (congrFun (congrFun (FS_eq (d := d_loop_turned) (by simp [defs]) keys n) _) _).trans (runFn_fin rfl)
theorem run_is_of_kind (n : Nat) (v0 v1 : Val) (S : Store) : FS defs (n + 1) "is_of_kind" [v0, v1] S = fin S (evSs (FS defs n) b_is_of_kind [some v0, some v1, none, none] S) :=
  (congrFun (congrFun (FS_eq (d := d_is_of_kind) (by simp [defs]) keys n) _) _).trans (runFn_fin rfl)
theorem run_words (n : Nat) (v0 : Val) (S : Store) : FS defs (n + 1) "words" [v0] S = fin S (evSs (FS defs n) b_words [some v0, none] S) :=
  (congrFun (congrFun (FS_eq (d := d_words) (by simp [defs]) keys n) _) _).trans (runFn_fin rfl)
theorem run_without (n : Nat) (v0 v1 : Val) (S : Store) : FS defs (n + 1) "without" [v0, v1] S = fin S (evSs (FS defs n) b_without [some v0, some v1] S) :=
  (congrFun (congrFun (FS_eq (d := d_without) (by simp [defs]) keys n) _) _).trans (runFn_fin rfl)
theorem run_upside_down (n : Nat) (v0 : Val) (S : Store) : FS defs (n + 1) "upside_down" [v0] S = fin S (evSs (FS defs n) b_upside_down [some v0] S) :=
  (congrFun (congrFun (FS_eq (d := d_upside_down) (by simp [defs]) keys n) _) _).trans (runFn_fin rfl)
theorem run__law_bag (n : Nat) (v0 v1 : Val) (S : Store) : FS defs (n + 1) "_law_bag" [v0, v1] S = fin S (evSs (FS defs n) b__law_bag [some v0, some v1, none] S) :=
  (congrFun (congrFun (FS_eq (d := d__law_bag) (by simp [defs]) keys n) _) _).trans (runFn_fin rfl)
theorem run__law_take (n : Nat) (v0 v1 : Val) (S : Store) : FS defs (n + 1) "_law_take" [v0, v1] S = fin S (evSs (FS defs n) b__law_take [some v0, some v1, none, none] S) :=
  (congrFun (congrFun (FS_eq (d := d__law_take) (by simp [defs]) keys n) _) _).trans (runFn_fin rfl)
theorem run__law_of (n : Nat) (v0 v1 : Val) (S : Store) : FS defs (n + 1) "_law_of" [v0, v1] S = fin S (evSs (FS defs n) b__law_of [some v0, some v1] S) :=
  (congrFun (congrFun (FS_eq (d := d__law_of) (by simp [defs]) keys n) _) _).trans (runFn_fin rfl)
theorem run__law_thing_of (n : Nat) (v0 v1 : Val) (S : Store) : FS defs (n + 1) "_law_thing_of" [v0, v1] S = fin S (evSs (FS defs n) b__law_thing_of [some v0, some v1] S) :=
  (congrFun (congrFun (FS_eq (d := d__law_thing_of) (by simp [defs]) keys n) _) _).trans (runFn_fin rfl)
theorem run__law_test (n : Nat) (v0 v1 : Val) (S : Store) : FS defs (n + 1) "_law_test" [v0, v1] S = fin S (evSs (FS defs n) b__law_test [some v0, some v1, none, none, none] S) :=
  (congrFun (congrFun (FS_eq (d := d__law_test) (by simp [defs]) keys n) _) _).trans (runFn_fin rfl)
theorem run__law_plain (n : Nat) (v0 v1 : Val) (S : Store) : FS defs (n + 1) "_law_plain" [v0, v1] S = fin S (evSs (FS defs n) b__law_plain [some v0, some v1, none] S) :=
  (congrFun (congrFun (FS_eq (d := d__law_plain) (by simp [defs]) keys n) _) _).trans (runFn_fin rfl)
theorem run__law_body (n : Nat) (v0 v1 v2 v3 : Val) (S : Store) : FS defs (n + 1) "_law_body" [v0, v1, v2, v3] S = fin S (evSs (FS defs n) b__law_body [some v0, some v1, some v2, some v3, none, none, none, none] S) :=
  (congrFun (congrFun (FS_eq (d := d__law_body) (by simp [defs]) keys n) _) _).trans (runFn_fin rfl)
theorem run__law_count (n : Nat) (v0 : Val) (S : Store) : FS defs (n + 1) "_law_count" [v0] S = fin S (evSs (FS defs n) b__law_count [some v0, none, none] S) :=
  (congrFun (congrFun (FS_eq (d := d__law_count) (by simp [defs]) keys n) _) _).trans (runFn_fin rfl)
theorem run__law_known (n : Nat) (v0 : Val) (S : Store) : FS defs (n + 1) "_law_known" [v0] S = fin S (evSs (FS defs n) b__law_known [some v0, none, none, none, none, none, none, none, none, none, none, none] S) :=
  (congrFun (congrFun (FS_eq (d := d__law_known) (by simp [defs]) keys n) _) _).trans (runFn_fin rfl)
theorem run__law_loop (n : Nat) (v0 v1 : Val) (S : Store) : FS defs (n + 1) "_law_loop" [v0, v1] S = fin S (evSs (FS defs n) b__law_loop [some v0, some v1, none, none] S) :=
  (congrFun (congrFun (FS_eq (d := d__law_loop) (by simp [defs]) keys n) _) _).trans (runFn_fin rfl)
theorem run__law_row (n : Nat) (v0 v1 : Val) (S : Store) : FS defs (n + 1) "_law_row" [v0, v1] S = fin S (evSs (FS defs n) b__law_row [some v0, some v1, none, none, none] S) :=
  (congrFun (congrFun (FS_eq (d := d__law_row) (by simp [defs]) keys n) _) _).trans (runFn_fin rfl)
theorem run__law_any_value (n : Nat) (v0 v1 : Val) (S : Store) : FS defs (n + 1) "_law_any_value" [v0, v1] S = fin S (evSs (FS defs n) b__law_any_value [some v0, some v1, none, none, none, none] S) :=
  (congrFun (congrFun (FS_eq (d := d__law_any_value) (by simp [defs]) keys n) _) _).trans (runFn_fin rfl)
theorem run__law_spoiled (n : Nat) (v0 v1 : Val) (S : Store) : FS defs (n + 1) "_law_spoiled" [v0, v1] S = fin S (evSs (FS defs n) b__law_spoiled [some v0, some v1, none, none, none] S) :=
  (congrFun (congrFun (FS_eq (d := d__law_spoiled) (by simp [defs]) keys n) _) _).trans (runFn_fin rfl)
theorem run__law_is_thing (n : Nat) (v0 v1 : Val) (S : Store) : FS defs (n + 1) "_law_is_thing" [v0, v1] S = fin S (evSs (FS defs n) b__law_is_thing [some v0, some v1, none] S) :=
  (congrFun (congrFun (FS_eq (d := d__law_is_thing) (by simp [defs]) keys n) _) _).trans (runFn_fin rfl)
theorem run__law_is_plain (n : Nat) (v0 v1 : Val) (S : Store) : FS defs (n + 1) "_law_is_plain" [v0, v1] S = fin S (evSs (FS defs n) b__law_is_plain [some v0, some v1] S) :=
  (congrFun (congrFun (FS_eq (d := d__law_is_plain) (by simp [defs]) keys n) _) _).trans (runFn_fin rfl)
theorem run__law_is_test (n : Nat) (v0 v1 : Val) (S : Store) : FS defs (n + 1) "_law_is_test" [v0, v1] S = fin S (evSs (FS defs n) b__law_is_test [some v0, some v1] S) :=
  (congrFun (congrFun (FS_eq (d := d__law_is_test) (by simp [defs]) keys n) _) _).trans (runFn_fin rfl)
theorem run__law_is_body (n : Nat) (v0 v1 v2 : Val) (S : Store) : FS defs (n + 1) "_law_is_body" [v0, v1, v2] S = fin S (evSs (FS defs n) b__law_is_body [some v0, some v1, some v2, none] S) :=
  (congrFun (congrFun (FS_eq (d := d__law_is_body) (by simp [defs]) keys n) _) _).trans (runFn_fin rfl)
theorem run__law_is_loop (n : Nat) (v0 : Val) (S : Store) : FS defs (n + 1) "_law_is_loop" [v0] S = fin S (evSs (FS defs n) b__law_is_loop [some v0] S) :=
  (congrFun (congrFun (FS_eq (d := d__law_is_loop) (by simp [defs]) keys n) _) _).trans (runFn_fin rfl)
theorem run__law_of_kind (n : Nat) (v0 v1 : Val) (S : Store) : FS defs (n + 1) "_law_of_kind" [v0, v1] S = fin S (evSs (FS defs n) b__law_of_kind [some v0, some v1, none, none] S) :=
  (congrFun (congrFun (FS_eq (d := d__law_of_kind) (by simp [defs]) keys n) _) _).trans (runFn_fin rfl)
theorem run__law_is_row (n : Nat) (v0 v1 : Val) (S : Store) : FS defs (n + 1) "_law_is_row" [v0, v1] S = fin S (evSs (FS defs n) b__law_is_row [some v0, some v1, none] S) :=
  (congrFun (congrFun (FS_eq (d := d__law_is_row) (by simp [defs]) keys n) _) _).trans (runFn_fin rfl)
theorem run__law_words (n : Nat) (S : Store) : FS defs (n + 1) "_law_words" [] S = fin S (evSs (FS defs n) b__law_words [none] S) :=
  (congrFun (congrFun (FS_eq (d := d__law_words) (by simp [defs]) keys n) _) _).trans (runFn_fin rfl)
theorem run__law_turned (n : Nat) (v0 : Val) (S : Store) : FS defs (n + 1) "_law_turned" [v0] S = fin S (evSs (FS defs n) b__law_turned [some v0, none, none, none] S) :=
  (congrFun (congrFun (FS_eq (d := d__law_turned) (by simp [defs]) keys n) _) _).trans (runFn_fin rfl)
theorem run__law_less (n : Nat) (v0 v1 v2 : Val) (S : Store) : FS defs (n + 1) "_law_less" [v0, v1, v2] S = fin S (evSs (FS defs n) b__law_less [some v0, some v1, some v2, none, none, none, none, none] S) :=
  (congrFun (congrFun (FS_eq (d := d__law_less) (by simp [defs]) keys n) _) _).trans (runFn_fin rfl)
theorem run__law_firsts (n : Nat) (v0 : Val) (S : Store) : FS defs (n + 1) "_law_firsts" [v0] S = fin S (evSs (FS defs n) b__law_firsts [some v0, none, none] S) :=
  (congrFun (congrFun (FS_eq (d := d__law_firsts) (by simp [defs]) keys n) _) _).trans (runFn_fin rfl)
theorem run__law_told_right (n : Nat) (v0 : Val) (S : Store) : FS defs (n + 1) "_law_told_right" [v0] S = fin S (evSs (FS defs n) b__law_told_right [some v0, none, none, none] S) :=
  (congrFun (congrFun (FS_eq (d := d__law_told_right) (by simp [defs]) keys n) _) _).trans (runFn_fin rfl)
theorem run_law (n : Nat) (v0 : Val) (S : Store) : FS defs (n + 1) "law" [v0] S = fin S (evSs (FS defs n) b_law [some v0, none, none, none, none, none, none, none, none, none, none, none, none, none, none, none, none, none] S) :=
  (congrFun (congrFun (FS_eq (d := d_law) (by simp [defs]) keys n) _) _).trans (runFn_fin rfl)
end Law

namespace Law
open PySem L2 G
/-! the bag -/
/-- the cell m holds a bag -/
def Bag (m : Nat) (S : Store) : Prop := ∃ a b : Int, S[m]? = some (.lst [.int a, .int b])
theorem Bag.app {m : Nat} {S : Store} (h : Bag m S) (T : Store) : Bag m (S ++ T) := by
  obtain ⟨a, b, h⟩ := h
  refine ⟨a, b, ?_⟩
  rw [List.getElem?_append_left (List.getElem?_eq_some_iff.mp h).1, h]
theorem Bag.lt {m : Nat} {S : Store} (h : Bag m S) : m < S.length := by
  obtain ⟨a, b, h⟩ := h
  exact (List.getElem?_eq_some_iff.mp h).1
def Many (k : Int) : Prop := 0 < k ∧ k.natAbs.log2 < 9000
theorem many_of (k : Int) (h : 0 < k) (h2 : k ≤ 1000000000000) : Many k := by
  refine ⟨h, ?_⟩
  have : k.natAbs.log2 < 40 := (Nat.log2_lt (by omega)).mpr (by omega)
  omega
theorem take_t (n : Nat) (m : Nat) (k : Int) (hk : Many k) (S : Store) (h : Bag m S) : ∃ (x a b : Int), FS defs (n + 1) "_law_take" [.loc m, .d (.int k)] S = some (.ok (.d (.int x)) (S.set m (.lst [.int a, .int b]))) ∧ 0 ≤ x ∧ x < k := by
  obtain ⟨a, b, h⟩ := h
  obtain ⟨k1, k2⟩ := hk
  have hm := (List.getElem?_eq_some_iff.mp h).1
  have hm2 := (List.getElem?_eq_some_iff.mp h).2
  have kd : CDivOk k := ⟨k1, k2⟩
  by_cases ha : 0 < a
  · refine ⟨a % k, a / k, b, ?_, Int.emod_nonneg _ (by omega), Int.emod_lt_of_pos _ k1⟩
    rw [run__law_take]
    simp [b__law_take, gL, view, h, ha, k1, kd, ixN]
  · let b' := (b * 40014 + 53) % 2147483563
    have e1 : 0 ≤ b' := Int.emod_nonneg _ (by decide)
    have e2 : b' < 2147483563 := Int.emod_lt_of_pos _ (by decide)
    refine ⟨((b' + 7) ^ 2 % 2147483399 / 19) % k, a, b', ?_, Int.emod_nonneg _ (by omega), Int.emod_lt_of_pos _ k1⟩
    rw [run__law_take]
    have e3 : (b' + 7).natAbs < 18446744073709551616 := by omega
    have sm : small 40014 = true := by decide
    have c1 : CDivOk 19 := by decide
    have e4 : (S.set m (.lst [.int a, .int b']))[m]? = some (.lst [.int a, .int b']) := by simp [hm]
    simp only [b'] at e3 e4 ⊢
    simp [b__law_take, gL, view, h, ha, k1, kd, ixN, sm, c1, e3, hm, hm2]
theorem of_t (n : Nat) (m : Nat) (xs : List D) (hx : xs ≠ []) (hz : xs.length ≤ 1000000000000) (S : Store) (h : Bag m S) : ∃ (i : Nat) (y : D) (a b : Int), FS defs (n + 2) "_law_of" [.loc m, .d (.list xs)] S = some (.ok (.d y) (S.set m (.lst [.int a, .int b]))) ∧ xs[i]? = some y := by
  have h0 : 0 < xs.length := List.length_pos_iff.mpr hx
  obtain ⟨x, a, b, e, x0, x1⟩ := take_t n m (xs.length : Int) (many_of _ (by omega) (by omega)) S h
  have hi : x.toNat < xs.length := by omega
  refine ⟨x.toNat, xs[x.toNat], a, b, ?_, by simp [hi]⟩
  rw [run__law_of]
  have e2 : atI xs x = some xs[x.toNat] := by
    have := G.atI_nat xs x.toNat
    rw [Int.toNat_of_nonneg x0] at this
    rw [this]
    simp [hi]
  simp [b__law_of, e, e2]
theorem Bag.set {m : Nat} {S : Store} (h : Bag m S) (a b : Int) : Bag m (S.set m (.lst [.int a, .int b])) := ⟨a, b, by simp [h.lt]⟩
theorem bag_t (n : Nat) (ns : List Int) (k : Nat) (S : Store) : ∃ a b : Int, FS defs (n + 1) "_law_bag" [.d (.list (ns.map .int)), .d (.int k)] S = some (.ok (.loc S.length) (S ++ [.lst [.int a, .int b]])) := by
  have sm : small 9176 = true := by decide
  have sm2 : small 11 = true := by decide
  by_cases q : k < ns.length
  · have q' : (k : Int) < (ns.length : Int) := by omega
    have e : atI (ns.map PyData.int) (k : Int) = some (.int ns[k]) := by rw [G.atI_nat]; simp [q]
    generalize hw : (if ns[k] < 0 then -ns[k] else ns[k]) = w
    by_cases c : 1000000000000000000 ≤ w
    · refine ⟨w, (w % 2147483563 + 9176 * (k : Int) + 41) % 2147483563, ?_⟩
      rw [run__law_bag]
      simp [b__law_bag, cNew, e, q', sm, hw, c, fin, closeV]
    · refine ⟨0, (w % 2147483563 + 9176 * (k : Int) + 41) % 2147483563, ?_⟩
      rw [run__law_bag]
      simp [b__law_bag, cNew, e, q', sm, hw, c, fin, closeV]
  · have q' : ¬ (k : Int) < (ns.length : Int) := by omega
    by_cases c : 1000000000000000000 ≤ 11 * (k : Int)
    · refine ⟨11 * (k : Int), ((11 * (k : Int)) % 2147483563 + 9176 * (k : Int) + 41) % 2147483563, ?_⟩
      rw [run__law_bag]
      simp [b__law_bag, cNew, q', sm, sm2, c, fin, closeV]
    · refine ⟨0, ((11 * (k : Int)) % 2147483563 + 9176 * (k : Int) + 41) % 2147483563, ?_⟩
      rw [run__law_bag]
      simp [b__law_bag, cNew, q', sm, sm2, c, fin, closeV]
end Law

namespace Law
open PySem L2 G
/-! loops as data of our own -/
abbrev wS (w : String) : D := .str (Str.ofString w)
inductive Hd where | x | y | z
  deriving DecidableEq
inductive Th where | h (a : Hd) | item
  deriving DecidableEq
inductive Fg where | p | q
  deriving DecidableEq
inductive Tst where | first | last | empty (a : Hd) | flag (f : Fg) | over (a b : Th) | same (a b : Th)
  deriving DecidableEq
inductive Pl where | take (a : Hd) | copy (a b : Hd) | drop (a : Hd) | up (f : Fg) | down (f : Fg) | print (t : Th)
  deriving DecidableEq
mutual
inductive Stm where | pl (p : Pl) | ifs (t : Tst) (a b : Body)
inductive Body where | nil | cons (s : Stm) (r : Body)
end
def Hd.s : Hd → String
  | .x => "x" | .y => "y" | .z => "z"
def Th.s : Th → String
  | .h a => a.s | .item => "item"
def Fg.s : Fg → String
  | .p => "p" | .q => "q"
theorem Hd_x : Hd.x.s = "x" := rfl
theorem Hd_y : Hd.y.s = "y" := rfl
theorem Hd_z : Hd.z.s = "z" := rfl
theorem Th_i : Th.item.s = "item" := rfl
theorem Th_h (a : Hd) : (Th.h a).s = a.s := rfl
theorem Fg_p : Fg.p.s = "p" := rfl
theorem Fg_q : Fg.q.s = "q" := rfl
def Tst.enc : Tst → D
  | .first => .tuple [wS "first"]
  | .last => .tuple [wS "last"]
  | .empty a => .tuple [wS "empty", wS a.s]
  | .flag f => .tuple [wS "flag", wS f.s]
  | .over a b => .tuple [wS "over", wS a.s, wS b.s]
  | .same a b => .tuple [wS "same", wS a.s, wS b.s]
def Pl.enc : Pl → D
  | .take a => .tuple [wS "take", wS a.s]
  | .copy a b => .tuple [wS "copy", wS a.s, wS b.s]
  | .drop a => .tuple [wS "drop", wS a.s]
  | .up f => .tuple [wS "up", wS f.s]
  | .down f => .tuple [wS "down", wS f.s]
  | .print t => .tuple [wS "print", wS t.s]
mutual
def Stm.enc : Stm → D
  | .pl p => p.enc
  | .ifs t a b => .tuple [wS "if", t.enc, .tuple a.encs, .tuple b.encs]
def Body.encs : Body → List D
  | .nil => []
  | .cons s r => s.enc :: r.encs
end
abbrev Body.enc (b : Body) : D := .tuple b.encs
def Body.len : Body → Nat
  | .nil => 0
  | .cons _ r => r.len + 1
theorem Body.encs_len : ∀ b : Body, b.encs.length = b.len
  | .nil => rfl
  | .cons s r => by simp [Body.encs, Body.len, Body.encs_len r]
def Body.app : Body → Body → Body
  | .nil, c => c
  | .cons s r, c => .cons s (r.app c)
theorem Body.encs_app : ∀ b c : Body, (b.app c).encs = b.encs ++ c.encs
  | .nil, c => rfl
  | .cons s r, c => by simp [Body.encs, Body.app, Body.encs_app r c]
theorem Body.len_app : ∀ b c : Body, (b.app c).len = b.len + c.len
  | .nil, c => by simp [Body.app, Body.len]
  | .cons s r, c => by simp [Body.app, Body.len, Body.len_app r c]; omega
/-- what only a statement done for an item may say -/
def Th.inE : Th → Bool
  | .h _ => false
  | .item => true
def Tst.needs : Tst → Bool
  | .first => true
  | .last => true
  | .over a b => a.inE || b.inE
  | .same a b => a.inE || b.inE
  | _ => false
def Pl.needs : Pl → Bool
  | .take _ => true
  | .print t => t.inE
  | _ => false
def Tst.ok : Tst → Bool
  | .over a b => decide (a ≠ b)
  | .same a b => decide (a ≠ b)
  | _ => true
def Pl.ok : Pl → Bool
  | .copy a b => decide (a ≠ b)
  | _ => true
mutual
/-- a statement's form: e: for each item; d: how deep its bodies may go -/
def Stm.ok (e : Bool) : Stm → Nat → Bool
  | .pl p, _ => p.ok && (e || !p.needs)
  | .ifs t a b, d => t.ok && (e || !t.needs) && a.oks e d && b.oks e d && decide (a.len ≤ 8) && decide (b.len ≤ 8)
def Body.oks (e : Bool) : Body → Nat → Bool
  | .nil, _ => true
  | .cons _ _, 0 => false
  | .cons s r, d + 1 => s.ok e d && r.oks e (d + 1)
end
mutual
def Stm.cnt : Stm → Nat
  | .pl _ => 1
  | .ifs _ a b => 1 + a.cnt + b.cnt
def Body.cnt : Body → Nat
  | .nil => 0
  | .cons s r => s.cnt + r.cnt
end
theorem Body.cnt_app : ∀ b c : Body, (b.app c).cnt = b.cnt + c.cnt
  | .nil, c => by simp [Body.app, Body.cnt]
  | .cons s r, c => by simp [Body.app, Body.cnt, Body.cnt_app r c]; omega
theorem Body.oks_app (e : Bool) : ∀ (b c : Body) (d : Nat), b.oks e d = true → c.oks e d = true → (b.app c).oks e d = true
  | .nil, c, d, _, h => h
  | .cons s r, c, 0, h, _ => by simp [Body.oks] at h
  | .cons s r, c, d + 1, h, h2 => by
    simp only [Body.oks, Bool.and_eq_true] at h
    simp only [Body.app, Body.oks, Bool.and_eq_true]
    exact ⟨h.1, Body.oks_app e r c (d + 1) h.2 h2⟩
structure Loop where
  each : Body
  after : Body
abbrev Loop.enc (l : Loop) : D := .tuple [l.each.enc, l.after.enc]
def Loop.ok (l : Loop) (most : Nat) : Prop := l.each.oks true 4 = true ∧ l.after.oks false 4 = true ∧ l.each.len ≤ 8 ∧ l.after.len ≤ 8 ∧ l.each.cnt + l.after.cnt ≤ most
end Law

namespace Law
open PySem L2 G
/-! what the law draws -/
/-- a draw changes the bag alone -/
def Drw (m : Nat) (f : Store → Option (R Val)) (P : D → Prop) : Prop := ∀ S, Bag m S → ∃ (y : D) (a b : Int), f S = some (.ok (.d y) (S.set m (.lst [.int a, .int b]))) ∧ P y
theorem Drw.on {m : Nat} {f : Store → Option (R Val)} {P : D → Prop} (d : Drw m f P) {S : Store} (h : Bag m S) (a b : Int) : ∃ (y : D) (a' b' : Int), f (S.set m (.lst [.int a, .int b])) = some (.ok (.d y) (S.set m (.lst [.int a', .int b']))) ∧ P y := by
  obtain ⟨y, a', b', e, p⟩ := d _ (h.set a b)
  rw [List.set_set] at e
  exact ⟨y, a', b', e, p⟩
theorem take_drw (n m : Nat) (k : Int) (h1 : 0 < k) (h2 : k ≤ 1000000000000) : Drw m (FS defs (n + 1) "_law_take" [.loc m, .d (.int k)]) (fun y => ∃ x : Int, y = .int x ∧ 0 ≤ x ∧ x < k) := fun S h => by
  obtain ⟨x, a, b, e, x0, x1⟩ := take_t n m k (many_of k h1 h2) S h
  exact ⟨_, a, b, e, x, rfl, x0, x1⟩
theorem of_drw (n m : Nat) (xs : List D) (hx : xs ≠ []) (hz : xs.length ≤ 1000000000000) : Drw m (FS defs (n + 2) "_law_of" [.loc m, .d (.list xs)]) (fun y => y ∈ xs) := fun S h => by
  obtain ⟨i, y, a, b, e, hy⟩ := of_t n m xs hx hz S h
  exact ⟨y, a, b, e, List.mem_of_getElem? hy⟩
theorem thing_of_drw (n m : Nat) (e : Bool) : Drw m (FS defs (n + 3) "_law_thing_of" [.loc m, .d (.bool e)]) (fun y => ∃ t : Th, y = wS t.s ∧ (e || !t.inE) = true) := fun S h => by
  cases e
  · obtain ⟨y, a, b, q, hy⟩ := of_drw n m [wS "x", wS "x", wS "y", wS "z"] (by simp) (by simp) S h
    refine ⟨y, a, b, ?_, ?_⟩
    · rw [run__law_thing_of]
      simp [b__law_thing_of, repL, okR, q]
    · simp only [List.mem_cons, List.not_mem_nil, or_false] at hy
      rcases hy with rfl | rfl | rfl | rfl
      · exact ⟨.h .x, rfl, rfl⟩
      · exact ⟨.h .x, rfl, rfl⟩
      · exact ⟨.h .y, rfl, rfl⟩
      · exact ⟨.h .z, rfl, rfl⟩
  · obtain ⟨y, a, b, q, hy⟩ := of_drw n m [wS "x", wS "x", wS "y", wS "z", wS "item", wS "item"] (by simp) (by simp) S h
    refine ⟨y, a, b, ?_, ?_⟩
    · rw [run__law_thing_of]
      simp [b__law_thing_of, repL, okR, q]
    · simp only [List.mem_cons, List.not_mem_nil, or_false] at hy
      rcases hy with rfl | rfl | rfl | rfl | rfl | rfl
      · exact ⟨.h .x, rfl, rfl⟩
      · exact ⟨.h .x, rfl, rfl⟩
      · exact ⟨.h .y, rfl, rfl⟩
      · exact ⟨.h .z, rfl, rfl⟩
      · exact ⟨.item, rfl, rfl⟩
      · exact ⟨.item, rfl, rfl⟩
theorem Th.s_inj {a b : Th} (h : a.s = b.s) : a = b := by
  cases a with
  | item => cases b with
    | item => rfl
    | h c => cases c <;> simp [Th.s, Hd.s] at h
  | h c => cases b with
    | item => cases c <;> simp [Th.s, Hd.s] at h
    | h d => cases c <;> cases d <;> first | rfl | simp [Th.s, Hd.s] at h
abbrev TstP (e : Bool) (y : D) : Prop := ∃ t : Tst, y = t.enc ∧ t.ok = true ∧ (e || !t.needs) = true
theorem over_same (e : Bool) (w : D) (a b : Th) (hw : w ∈ [wS "over", wS "over", wS "same"]) (hn : a ≠ b) (ha : (e || !a.inE) = true) (hb : (e || !b.inE) = true) : TstP e (.tuple [w, wS a.s, wS b.s]) := by
  simp only [List.mem_cons, List.not_mem_nil, or_false] at hw
  have hh : (e || !(a.inE || b.inE)) = true := by
    revert ha hb
    cases e <;> cases a.inE <;> cases b.inE <;> simp
  rcases hw with rfl | rfl | rfl
  · exact ⟨.over a b, rfl, decide_eq_true hn, hh⟩
  · exact ⟨.over a b, rfl, decide_eq_true hn, hh⟩
  · exact ⟨.same a b, rfl, decide_eq_true hn, hh⟩
theorem test_drw (n m : Nat) (e : Bool) : Drw m (FS defs (n + 4) "_law_test" [.loc m, .d (.bool e)]) (TstP e) := fun S h => by
  obtain ⟨y0, a0, b0, q0, x, rfl, x0, x1⟩ := take_drw (n + 2) m 10 (by decide) (by decide) S h
  by_cases c0 : x = 0 ∧ e = true
  · obtain ⟨rfl, rfl⟩ := c0
    obtain ⟨y, a, b, q, hy⟩ := (of_drw (n + 1) m [wS "first", wS "last"] (by simp) (by simp)).on h a0 b0
    refine ⟨.tuple [y], a, b, ?_, ?_⟩
    · rw [run__law_test]
      simp [b__law_test, q0, q]
    · simp only [List.mem_cons, List.not_mem_nil, or_false] at hy
      rcases hy with rfl | rfl
      · exact ⟨.first, rfl, rfl, rfl⟩
      · exact ⟨.last, rfl, rfl, rfl⟩
  · have c0' : (decide (x = 0) && e) = false := by
      cases e <;> simp at c0 ⊢
      exact c0
    by_cases c1 : x = 1
    · subst c1
      obtain ⟨y, a, b, q, hy⟩ := (of_drw (n + 1) m [wS "x", wS "x", wS "y"] (by simp) (by simp)).on h a0 b0
      refine ⟨.tuple [wS "empty", y], a, b, ?_, ?_⟩
      · rw [run__law_test]
        simp [b__law_test, q0, q]
      · simp only [List.mem_cons, List.not_mem_nil, or_false] at hy
        rcases hy with rfl | rfl | rfl
        · exact ⟨.empty .x, rfl, rfl, by cases e <;> rfl⟩
        · exact ⟨.empty .x, rfl, rfl, by cases e <;> rfl⟩
        · exact ⟨.empty .y, rfl, rfl, by cases e <;> rfl⟩
    · by_cases c2 : x < 4
      · obtain ⟨y, a, b, q, hy⟩ := (of_drw (n + 1) m [wS "p", wS "p", wS "q"] (by simp) (by simp)).on h a0 b0
        refine ⟨.tuple [wS "flag", y], a, b, ?_, ?_⟩
        · rw [run__law_test]
          by_cases z : x = 0 <;> cases e <;> simp [b__law_test, q0, q, c1, c2, z] at c0 ⊢
        · simp only [List.mem_cons, List.not_mem_nil, or_false] at hy
          rcases hy with rfl | rfl | rfl
          · exact ⟨.flag .p, rfl, rfl, by cases e <;> rfl⟩
          · exact ⟨.flag .p, rfl, rfl, by cases e <;> rfl⟩
          · exact ⟨.flag .q, rfl, rfl, by cases e <;> rfl⟩
      · have z : ¬ x = 0 := by omega
        obtain ⟨y1, a1, b1, q1, t1, rfl, h1⟩ := (thing_of_drw n m e).on h a0 b0
        obtain ⟨y2, a2, b2, q2, t2, rfl, h2⟩ := (thing_of_drw n m e).on h a1 b1
        by_cases eq : t1 = t2
        · subst eq
          obtain ⟨y3, a3, b3, q3, k, rfl, k0, k1⟩ := (take_drw (n + 2) m 2 (by decide) (by decide)).on h a2 b2
          obtain ⟨y, a, b, q, hy⟩ := (of_drw (n + 1) m [wS "over", wS "over", wS "same"] (by simp) (by simp)).on h a3 b3
          by_cases kz : k = 0
          · cases e
            · refine ⟨.tuple [y, wS "y", wS "x"], a, b, ?_, over_same false y (.h .y) (.h .x) hy (by decide) rfl rfl⟩
              rw [run__law_test]
              simp [b__law_test, q0, q1, q2, q3, q, c1, c2, z, kz]
            · refine ⟨.tuple [y, wS "item", wS "x"], a, b, ?_, over_same true y .item (.h .x) hy (by decide) rfl rfl⟩
              rw [run__law_test]
              simp [b__law_test, q0, q1, q2, q3, q, c1, c2, z, kz]
          · cases e
            · refine ⟨.tuple [y, wS "x", wS "y"], a, b, ?_, over_same false y (.h .x) (.h .y) hy (by decide) rfl rfl⟩
              rw [run__law_test]
              simp [b__law_test, q0, q1, q2, q3, q, c1, c2, z, kz]
            · refine ⟨.tuple [y, wS "x", wS "item"], a, b, ?_, over_same true y (.h .x) .item hy (by decide) rfl rfl⟩
              rw [run__law_test]
              simp [b__law_test, q0, q1, q2, q3, q, c1, c2, z, kz]
        · obtain ⟨y, a, b, q, hy⟩ := (of_drw (n + 1) m [wS "over", wS "over", wS "same"] (by simp) (by simp)).on h a2 b2
          have ns : ¬ t1.s = t2.s := fun z => eq (Th.s_inj z)
          refine ⟨.tuple [y, wS t1.s, wS t2.s], a, b, ?_, over_same e y t1 t2 hy eq h1 h2⟩
          rw [run__law_test]
          cases e <;> simp [b__law_test, q0, q1, q2, q, c1, c2, z, ns]
abbrev PlP (e : Bool) (y : D) : Prop := ∃ p : Pl, y = p.enc ∧ p.ok = true ∧ (e || !p.needs) = true
theorem plain_drw (n m : Nat) (e : Bool) : Drw m (FS defs (n + 4) "_law_plain" [.loc m, .d (.bool e)]) (PlP e) := fun S h => by
  obtain ⟨y0, a0, b0, q0, x, rfl, x0, x1⟩ := take_drw (n + 2) m 9 (by decide) (by decide) S h
  by_cases c0 : x < 3 ∧ e = true
  · obtain ⟨c0, rfl⟩ := c0
    obtain ⟨y, a, b, q, hy⟩ := (of_drw (n + 1) m [wS "x", wS "x", wS "y", wS "z"] (by simp) (by simp)).on h a0 b0
    refine ⟨.tuple [wS "take", y], a, b, ?_, ?_⟩
    · rw [run__law_plain]
      simp [b__law_plain, q0, q, c0]
    · simp only [List.mem_cons, List.not_mem_nil, or_false] at hy
      rcases hy with rfl | rfl | rfl | rfl
      · exact ⟨.take .x, rfl, rfl, rfl⟩
      · exact ⟨.take .x, rfl, rfl, rfl⟩
      · exact ⟨.take .y, rfl, rfl, rfl⟩
      · exact ⟨.take .z, rfl, rfl, rfl⟩
  · by_cases c1 : x < 6
    · obtain ⟨y, a, b, q, t, rfl, ht⟩ := (thing_of_drw n m e).on h a0 b0
      refine ⟨.tuple [wS "print", wS t.s], a, b, ?_, ⟨.print t, rfl, rfl, ht⟩⟩
      rw [run__law_plain]
      by_cases z : x < 3 <;> cases e <;> simp [b__law_plain, q0, q, c1, z] at c0 ⊢
    · have z3 : ¬ x < 3 := by omega
      by_cases c2 : x = 6
      · obtain ⟨y, a, b, q, hy⟩ := (of_drw (n + 1) m [.tuple [wS "y", wS "x"], .tuple [wS "z", wS "y"], .tuple [wS "x", wS "y"]] (by simp) (by simp)).on h a0 b0
        simp only [List.mem_cons, List.not_mem_nil, or_false] at hy
        rcases hy with rfl | rfl | rfl
        · refine ⟨_, a, b, ?_, ⟨.copy .y .x, rfl, rfl, by cases e <;> rfl⟩⟩
          rw [run__law_plain]
          simp [b__law_plain, q0, q, c1, c2, z3, Pl.enc, Hd.s]
        · refine ⟨_, a, b, ?_, ⟨.copy .z .y, rfl, rfl, by cases e <;> rfl⟩⟩
          rw [run__law_plain]
          simp [b__law_plain, q0, q, c1, c2, z3, Pl.enc, Hd.s]
        · refine ⟨_, a, b, ?_, ⟨.copy .x .y, rfl, rfl, by cases e <;> rfl⟩⟩
          rw [run__law_plain]
          simp [b__law_plain, q0, q, c1, c2, z3, Pl.enc, Hd.s]
      · by_cases c3 : x = 7
        · obtain ⟨y, a, b, q, hy⟩ := (of_drw (n + 1) m [wS "x", wS "y"] (by simp) (by simp)).on h a0 b0
          refine ⟨.tuple [wS "drop", y], a, b, ?_, ?_⟩
          · rw [run__law_plain]
            simp [b__law_plain, q0, q, c1, c2, c3, z3]
          · simp only [List.mem_cons, List.not_mem_nil, or_false] at hy
            rcases hy with rfl | rfl
            · exact ⟨.drop .x, rfl, rfl, by cases e <;> rfl⟩
            · exact ⟨.drop .y, rfl, rfl, by cases e <;> rfl⟩
        · obtain ⟨y1, a1, b1, q1, hy1⟩ := (of_drw (n + 1) m [wS "up", wS "down"] (by simp) (by simp)).on h a0 b0
          obtain ⟨y, a, b, q, hy⟩ := (of_drw (n + 1) m [wS "p", wS "p", wS "q"] (by simp) (by simp)).on h a1 b1
          refine ⟨.tuple [y1, y], a, b, ?_, ?_⟩
          · rw [run__law_plain]
            simp [b__law_plain, q0, q1, q, c1, c2, c3, z3]
          · simp only [List.mem_cons, List.not_mem_nil, or_false] at hy hy1
            rcases hy1 with rfl | rfl <;> rcases hy with rfl | rfl | rfl
            · exact ⟨.up .p, rfl, rfl, by cases e <;> rfl⟩
            · exact ⟨.up .p, rfl, rfl, by cases e <;> rfl⟩
            · exact ⟨.up .q, rfl, rfl, by cases e <;> rfl⟩
            · exact ⟨.down .p, rfl, rfl, by cases e <;> rfl⟩
            · exact ⟨.down .p, rfl, rfl, by cases e <;> rfl⟩
            · exact ⟨.down .q, rfl, rfl, by cases e <;> rfl⟩
end Law

namespace Law
open PySem L2 G
theorem Bag.self {m : Nat} {S : Store} (h : Bag m S) : ∃ a b : Int, S = S.set m (.lst [.int a, .int b]) := by
  obtain ⟨a, b, h⟩ := h
  refine ⟨a, b, ?_⟩
  apply List.ext_getElem?
  intro i
  by_cases q : m = i
  · subst q
    rw [List.getElem?_set_self (List.getElem?_eq_some_iff.mp h).1, h]
  · rw [List.getElem?_set_ne q]
def lbBody : MSs := match b__law_body with
  | .cons _ (.cons (.for _ _ b) _) => b
  | _ => .nil
abbrev BodyP (e : Bool) (d most : Nat) (y : D) : Prop := ∃ b : Body, y = b.enc ∧ b.oks e d = true ∧ b.len ≤ most
theorem snoc_enc (b : Body) (s : Stm) : (b.app (.cons s .nil)).encs = b.encs ++ [s.enc] := by rw [Body.encs_app]; rfl
theorem snoc_oks {e : Bool} {d : Nat} {b : Body} {s : Stm} (h : b.oks e (d + 1) = true) (hs : s.ok e d = true) : (b.app (.cons s .nil)).oks e (d + 1) = true :=
  Body.oks_app e b _ _ h (by simp [Body.oks, hs])
theorem lb_loop (n m d : Nat) (e : Bool) (most : Option Val)
    (rec_ : ∀ d', d = d' + 1 → ∀ k : Nat, k ≤ 8 → Drw m (FS defs (n + 4) "_law_body" [.loc m, .d (.int (d : Int)), .d (.int (k : Int)), .d (.bool e)]) (BodyP e d k)) :
    ∀ (ks : List Nat) (S : Store) (b : Body) (v5 v6 v7 : Option Val), Bag m S → b.oks e (d + 1) = true → b.len + ks.length ≤ 8 →
    ∃ (b' : Body) (v5' v6' v7' : Option Val) (x y : Int), forL (gN 5) (evSs (FS defs (n + 4)) lbBody) (ks.map fun (k : Nat) => PyData.int (k : Int)) [some (.loc m), some (.d (.int ((d + 1 : Nat) : Int))), most, some (.d (.bool e)), some (.d b.enc), v5, v6, v7] S =
      some (.ok (.nx [some (.loc m), some (.d (.int ((d + 1 : Nat) : Int))), most, some (.d (.bool e)), some (.d b'.enc), v5', v6', v7']) (S.set m (.lst [.int x, .int y]))) ∧ b'.oks e (d + 1) = true ∧ b'.len = b.len + ks.length
  | [], S, b, v5, v6, v7, hB, hb, hl => by
    obtain ⟨x, y, h⟩ := hB.self
    exact ⟨b, v5, v6, v7, x, y, by rw [← h]; rfl, hb, rfl⟩
  | k :: ks, S, b, v5, v6, v7, hB, hb, hl => by
    rw [List.length_cons] at hl
    have hz : b.encs.length + 1 ≤ 16777216 := by rw [Body.encs_len]; omega
    rw [List.map_cons, forL_cons]
    by_cases c : d = 0
    · obtain ⟨y1, a1, b1, q1, p, rfl, p1, p2⟩ := plain_drw n m e S hB
      have hs : (Stm.pl p).ok e d = true := by simp [Stm.ok, p1, p2]
      obtain ⟨b', v5', v6', v7', x, y, h1, h2, h3⟩ := lb_loop n m d e most rec_ ks (S.set m (.lst [.int a1, .int b1])) (b.app (.cons (.pl p) .nil)) (some (.d (.int (k : Int)))) v6 v7 (hB.set a1 b1) (snoc_oks hb hs) (by rw [Body.len_app]; simp [Body.len]; omega)
      rw [List.set_set] at h1
      refine ⟨b', v5', v6', v7', x, y, ?_, h2, by rw [h3, Body.len_app, List.length_cons]; simp [Body.len]; omega⟩
      subst c
      simp [lbBody, b__law_body, Body.enc, snoc_enc, Stm.enc] at h1
      simp [lbBody, b__law_body, q1, hz, h1, Body.enc]
    · obtain ⟨d', rfl⟩ : ∃ d', d = d' + 1 := ⟨d - 1, by omega⟩
      obtain ⟨y0, a0, b0, q0, t0, rfl, t1, t2⟩ := take_drw (n + 3) m 2 (by decide) (by decide) S hB
      have cd : (1 : Int) < (d' : Int) + 1 + 1 := by omega
      by_cases c2 : t0 = 0
      · obtain ⟨y1, a1, b1, q1, t, rfl, p1, p2⟩ := (test_drw n m e).on hB a0 b0
        obtain ⟨y2, a2, b2, q2, bd1, rfl, r1, r2⟩ := (rec_ d' rfl 2 (by decide)).on hB a1 b1
        obtain ⟨y3, a3, b3, q3, bd2, rfl, r3, r4⟩ := (rec_ d' rfl 1 (by decide)).on hB a2 b2
        have hs : (Stm.ifs t bd1 bd2).ok e (d' + 1) = true := by
          have z1 : bd1.len ≤ 8 := by omega
          have z2 : bd2.len ≤ 8 := by omega
          simp [Stm.ok, p1, p2, r1, r3, z1, z2]
        obtain ⟨b', v5', v6', v7', x, y, h1, h2, h3⟩ := lb_loop n m (d' + 1) e most rec_ ks (S.set m (.lst [.int a3, .int b3])) (b.app (.cons (.ifs t bd1 bd2) .nil)) (some (.d (.int (k : Int)))) (some (.d t.enc)) (some (.d bd1.enc)) (hB.set a3 b3) (snoc_oks hb hs) (by rw [Body.len_app]; simp [Body.len]; omega)
        rw [List.set_set] at h1
        refine ⟨b', v5', v6', v7', x, y, ?_, h2, by rw [h3, Body.len_app, List.length_cons]; simp [Body.len]; omega⟩
        simp [Body.enc] at q2 q3
        simp [lbBody, b__law_body, Body.enc, snoc_enc, Stm.enc] at h1
        simp [lbBody, b__law_body, q0, q1, q2, q3, hz, h1, Body.enc, cd, c2]
      · obtain ⟨y1, a1, b1, q1, p, rfl, p1, p2⟩ := (plain_drw n m e).on hB a0 b0
        have hs : (Stm.pl p).ok e (d' + 1) = true := by simp [Stm.ok, p1, p2]
        obtain ⟨b', v5', v6', v7', x, y, h1, h2, h3⟩ := lb_loop n m (d' + 1) e most rec_ ks (S.set m (.lst [.int a1, .int b1])) (b.app (.cons (.pl p) .nil)) (some (.d (.int (k : Int)))) v6 v7 (hB.set a1 b1) (snoc_oks hb hs) (by rw [Body.len_app]; simp [Body.len]; omega)
        rw [List.set_set] at h1
        refine ⟨b', v5', v6', v7', x, y, ?_, h2, by rw [h3, Body.len_app, List.length_cons]; simp [Body.len]; omega⟩
        simp [lbBody, b__law_body, Body.enc, snoc_enc, Stm.enc] at h1
        simp [lbBody, b__law_body, q0, q1, hz, h1, Body.enc, cd, c2]
theorem body_drw : ∀ (d n m : Nat) (e : Bool) (most : Nat), most ≤ 8 → Drw m (FS defs (n + d + 5) "_law_body" [.loc m, .d (.int ((d + 1 : Nat) : Int)), .d (.int (most : Int)), .d (.bool e)]) (BodyP e (d + 1) most)
  | d, n, m, e, most, hm => fun S h => by
    obtain ⟨y0, a0, b0, q0, x, rfl, x0, x1⟩ := take_drw (n + d + 3) m ((most : Int) + 1) (by omega) (by omega) S h
    obtain ⟨k, rfl⟩ : ∃ k : Nat, x = (k : Int) := ⟨x.toNat, by omega⟩
    obtain ⟨b', v5', v6', v7', x, y, h1, h2, h3⟩ := lb_loop (n + d) m d e (some (.d (.int (most : Int)))) (fun d' hd k hk => by
      subst hd
      have := body_drw d' (n + 0) m e k hk
      rw [show n + 0 + d' + 5 = n + (d' + 1) + 4 from by omega] at this
      exact this) (List.range k) (S.set m (.lst [.int a0, .int b0])) .nil none none none (h.set a0 b0) rfl (by simp [Body.len]; omega)
    rw [List.set_set] at h1
    refine ⟨b'.enc, x, y, ?_, b', rfl, h2, by rw [h3]; simp [Body.len]; omega⟩
    rw [run__law_body]
    have ok : okR (k : Int) := by unfold okR; omega
    simp [lbBody, b__law_body, Body.encs, Body.enc] at h1
    simp [b__law_body, q0, ok, rangeL_zero, h1]
end Law

namespace Law
open PySem L2 G
mutual
def Stm.dep : Stm → Nat
  | .pl _ => 0
  | .ifs _ a b => max a.dep b.dep
def Body.dep : Body → Nat
  | .nil => 0
  | .cons s r => max (s.dep + 1) r.dep
end
mutual
theorem Stm.dep_of (e : Bool) : ∀ (s : Stm) (d : Nat), s.ok e d = true → s.dep ≤ d
  | .pl _, d, _ => Nat.zero_le _
  | .ifs t a b, d, h => by
    simp only [Stm.ok, Bool.and_eq_true] at h
    have h1 := Body.dep_of e a d h.1.1.1.2
    have h2 := Body.dep_of e b d h.1.1.2
    simp only [Stm.dep]
    omega
theorem Body.dep_of (e : Bool) : ∀ (b : Body) (d : Nat), b.oks e d = true → b.dep ≤ d
  | .nil, d, _ => Nat.zero_le _
  | .cons s r, 0, h => by simp [Body.oks] at h
  | .cons s r, d + 1, h => by
    simp only [Body.oks, Bool.and_eq_true] at h
    have h1 := Stm.dep_of e s d h.1
    have h2 := Body.dep_of e r (d + 1) h.2
    simp only [Body.dep]
    omega
end
theorem Pl.enc_eq (p : Pl) : ∃ (w : String) (r : List D), p.enc = .tuple (wS w :: r) ∧ w ≠ "if" := by
  cases p <;> exact ⟨_, _, rfl, by decide⟩
mutual
theorem Stm.ok_up (e : Bool) : ∀ (s : Stm) (c d : Nat), c ≤ d → s.ok e c = true → s.ok e d = true
  | .pl _, c, d, _, h => by simpa [Stm.ok] using h
  | .ifs t a b, c, d, hl, h => by
    simp only [Stm.ok, Bool.and_eq_true] at h ⊢
    exact ⟨⟨⟨⟨h.1.1.1.1, Body.oks_up e a c d hl h.1.1.1.2⟩, Body.oks_up e b c d hl h.1.1.2⟩, h.1.2⟩, h.2⟩
theorem Body.oks_up (e : Bool) : ∀ (b : Body) (c d : Nat), c ≤ d → b.oks e c = true → b.oks e d = true
  | .nil, c, d, _, _ => by cases d <;> rfl
  | .cons s r, 0, d, _, h => by simp [Body.oks] at h
  | .cons s r, c + 1, 0, hl, _ => absurd hl (by omega)
  | .cons s r, c + 1, d + 1, hl, h => by
    simp only [Body.oks, Bool.and_eq_true] at h ⊢
    exact ⟨Stm.ok_up e s c d (by omega) h.1, Body.oks_up e r (c + 1) (d + 1) hl h.2⟩
end
def ctBody : MSs := match b__law_count with
  | .cons _ (.cons (.for _ _ b) _) => b
  | _ => .nil
theorem ct_loop (n d : Nat) (rec_ : ∀ (b : Body) (S : Store), b.dep < d → FS defs (n + d) "_law_count" [.d b.enc] S = some (.ok (.d (.int (b.cnt : Int))) S)) (v0 : Option Val) (S : Store) :
    ∀ (b : Body) (k : Nat) (v2 : Option Val), b.dep ≤ d → ∃ v2', forL (gN 2) (evSs (FS defs (n + d)) ctBody) b.encs [v0, some (.d (.int (k : Int))), v2] S = some (.ok (.nx [v0, some (.d (.int ((k + b.cnt : Nat) : Int))), v2']) S)
  | .nil, k, v2, _ => ⟨v2, rfl⟩
  | .cons s r, k, v2, h => by
    simp only [Body.dep] at h
    rw [Body.encs, forL_cons]
    cases s with
    | pl p =>
      obtain ⟨w, l, e, hw⟩ := Pl.enc_eq p
      obtain ⟨v2', h1⟩ := ct_loop n d rec_ v0 S r (k + 1) (some (.d p.enc)) (by omega)
      refine ⟨v2', ?_⟩
      simp [ctBody, b__law_count, e] at h1
      simp [ctBody, b__law_count, Stm.enc, e, hw, h1, Body.cnt, Stm.cnt]
      omega
    | ifs t a b =>
      simp only [Stm.dep] at h
      have e1 := rec_ a S (by omega)
      have e2 := rec_ b S (by omega)
      obtain ⟨v2', h1⟩ := ct_loop n d rec_ v0 S r (k + 1 + a.cnt + b.cnt) (some (.d (Stm.ifs t a b).enc)) (by omega)
      refine ⟨v2', ?_⟩
      simp [ctBody, b__law_count, Stm.enc] at h1
      simp only [Body.enc] at e1 e2
      simp [ctBody, b__law_count, Stm.enc, e1, e2, h1, Body.cnt, Stm.cnt]
      omega
theorem count_b : ∀ (d n : Nat) (b : Body) (S : Store), b.dep ≤ d → FS defs (n + d + 1) "_law_count" [.d b.enc] S = some (.ok (.d (.int (b.cnt : Int))) S)
  | d, n, b, S, h => by
    obtain ⟨v2', e⟩ := ct_loop n d (fun b S hb => by
      match d, hb with
      | d + 1, hb => exact count_b d n b S (by omega)) (some (.d b.enc)) S b 0 none h
    rw [run__law_count]
    simp [ctBody, b__law_count, Body.enc] at e
    simp [b__law_count, Body.enc, e]
/-! the known loops -/
theorem known_drw (n m : Nat) : Drw m (FS defs (n + 3) "_law_known" [.loc m]) (fun y => ∃ l : Loop, y = l.enc ∧ l.each.oks true 4 = true ∧ l.after.oks false 4 = true ∧ l.each.len ≤ 8 ∧ l.after.len ≤ 8) := fun S h => by
  obtain ⟨y1, a1, b1, q1, hy1⟩ := of_drw n m [.tuple [wS "over", wS "x", wS "item"], .tuple [wS "over", wS "item", wS "x"]] (by simp) (by simp) S h
  have e1 : ∃ a b : Th, y1 = .tuple [wS "over", wS a.s, wS b.s] ∧ a ≠ b := by
    simp only [List.mem_cons, List.not_mem_nil, or_false] at hy1
    rcases hy1 with rfl | rfl
    · exact ⟨.h .x, .item, rfl, by decide⟩
    · exact ⟨.item, .h .x, rfl, by decide⟩
  obtain ⟨a, b, rfl, hab⟩ := e1
  obtain ⟨y2, a2, b2, q2, hy2⟩ := (of_drw n m [wS "x", wS "x", wS "x", wS "item"] (by simp) (by simp)).on h a1 b1
  have e2 : ∃ t : Th, y2 = wS t.s := by
    simp only [List.mem_cons, List.not_mem_nil, or_false] at hy2
    rcases hy2 with rfl | rfl | rfl | rfl
    · exact ⟨.h .x, rfl⟩
    · exact ⟨.h .x, rfl⟩
    · exact ⟨.h .x, rfl⟩
    · exact ⟨.item, rfl⟩
  obtain ⟨t, rfl⟩ := e2
  obtain ⟨y3, a3, b3, q3, hy3⟩ := (of_drw n m [.tuple [], .tuple [], .tuple [.tuple [wS "print", wS "x"]], .tuple [.tuple [wS "if", .tuple [wS "flag", wS "p"], .tuple [.tuple [wS "print", wS "x"]], .tuple []]]] (by simp) (by simp)).on h a2 b2
  have e3 : ∃ A : Body, y3 = .tuple A.encs ∧ A.oks false 4 = true ∧ A.len ≤ 8 := by
    simp only [List.mem_cons, List.not_mem_nil, or_false] at hy3
    rcases hy3 with rfl | rfl | rfl | rfl
    · exact ⟨.nil, rfl, rfl, by decide⟩
    · exact ⟨.nil, rfl, rfl, by decide⟩
    · exact ⟨.cons (.pl (.print (.h .x))) .nil, rfl, by decide, by decide⟩
    · exact ⟨.cons (.ifs (.flag .p) (.cons (.pl (.print (.h .x))) .nil) .nil) .nil, rfl, by decide, by decide⟩
  obtain ⟨A, rfl, hA1, hA2⟩ := e3
  let over : Tst := .over a b
  let back : Tst := .over b a
  let show_ : Stm := .pl (.print t)
  let keep : Body := .cons (.ifs back (.cons (.pl (.up .p)) .nil) (.cons (.pl (.down .p)) .nil)) (.cons (.pl (.take .x)) .nil)
  let turn : Body := .cons (.ifs over (.cons (.ifs (.flag .p) (.cons show_ .nil) .nil) .nil) .nil) .nil
  let step : Body := .cons (.ifs over (.cons (.pl (.print .item)) .nil) .nil) (.cons (.pl (.take .x)) .nil)
  let best : Body := .cons (.ifs (.empty .x) (.cons (.pl (.print .item)) (.cons (.pl (.take .x)) .nil)) (.cons (.ifs over (.cons show_ (.cons (.pl (.take .x)) .nil)) .nil) .nil)) .nil
  let same : Body := turn.app (.cons (.ifs (.same .item (.h .x)) .nil keep) .nil)
  let ends : Body := .cons (.ifs over .nil (.cons show_ .nil)) (.cons (.pl (.take .x)) .nil)
  obtain ⟨y, a4, b4, q4, hy⟩ := (of_drw n m [(turn.app keep).enc, (turn.app keep).enc, step.enc, best.enc, same.enc, ends.enc] (by simp) (by simp)).on h a3 b3
  have e4 : ∃ E : Body, y = .tuple E.encs ∧ E.oks true 4 = true ∧ E.len ≤ 8 := by
    have hba : b ≠ a := fun z => hab z.symm
    simp only [List.mem_cons, List.not_mem_nil, or_false] at hy
    rcases hy with rfl | rfl | rfl | rfl | rfl | rfl
    · exact ⟨_, rfl, by simp [turn, keep, over, back, show_, Body.app, Body.oks, Stm.ok, Tst.ok, Pl.ok, Body.len, hab, hba], by simp [turn, keep, Body.app, Body.len]⟩
    · exact ⟨_, rfl, by simp [turn, keep, over, back, show_, Body.app, Body.oks, Stm.ok, Tst.ok, Pl.ok, Body.len, hab, hba], by simp [turn, keep, Body.app, Body.len]⟩
    · exact ⟨_, rfl, by simp [step, over, show_, Body.app, Body.oks, Stm.ok, Tst.ok, Pl.ok, Body.len, hab, hba], by simp [step, Body.len]⟩
    · exact ⟨_, rfl, by simp [best, over, show_, Body.app, Body.oks, Stm.ok, Tst.ok, Pl.ok, Body.len, hab, hba], by simp [best, Body.len]⟩
    · exact ⟨_, rfl, by simp [same, turn, keep, over, back, show_, Body.app, Body.oks, Stm.ok, Tst.ok, Pl.ok, Body.len, hab, hba], by simp [same, turn, Body.app, Body.len]⟩
    · exact ⟨_, rfl, by simp [ends, over, show_, Body.app, Body.oks, Stm.ok, Tst.ok, Pl.ok, Body.len, hab, hba], by simp [ends, Body.len]⟩
  obtain ⟨E, rfl, hE1, hE2⟩ := e4
  refine ⟨(⟨E, A⟩ : Loop).enc, a4, b4, ?_, ⟨E, A⟩, rfl, hE1, hA1, hE2, hA2⟩
  simp [turn, keep, step, best, same, ends, over, back, show_, Body.enc, Body.app, Body.encs, Stm.enc, Tst.enc, Pl.enc, Hd_x, Hd_y, Hd_z, Th_i, Th_h, Fg_p, Fg_q] at q4
  rw [run__law_known]
  simp [b__law_known, q1, q2, q3, q4]
theorem neD_tnil (xs : List D) : neD (.tuple xs) (.tuple []) = some (.bool (!xs.isEmpty)) := by
  have d0 : (PyData.tuple []).depth ≤ 60 := by decide
  have : shal (.tuple xs) (.tuple []) = true := by
    unfold shal
    exact decide_eq_true (Nat.le_trans (Nat.min_le_right _ _) d0)
  unfold neD
  rw [if_pos this]
  cases xs <;> simp
theorem cut_from1 {α : Type} (xs : List α) : cut xs (some 1) none = xs.drop 1 := cut_from xs 1
def llC : ME := match b__law_loop with
  | .cons _ (.cons _ (.cons (.while c _) _)) => c
  | _ => .cst .none
def llB : MSs := match b__law_loop with
  | .cons _ (.cons _ (.cons (.while _ b) _)) => b
  | _ => .nil
theorem ll_while (n : Nat) (most : Nat) (v0 : Option Val) (S : Store) : ∀ (N : Nat) (E A : Body), E.len + A.len ≤ N → E.oks true 4 = true → A.oks false 4 = true → E.len ≤ 8 → A.len ≤ 8 →
    ∃ E' A' : Body, cWhile (cTru (evE (FS defs (n + 5)) llC)) (evSs (FS defs (n + 5)) llB) [v0, some (.d (.int (most : Int))), some (.d (.tuple E.encs)), some (.d (.tuple A.encs))] S = some (.ok (.nx [v0, some (.d (.int (most : Int))), some (.d (.tuple E'.encs)), some (.d (.tuple A'.encs))]) S) ∧
      E'.oks true 4 = true ∧ A'.oks false 4 = true ∧ E'.len ≤ 8 ∧ A'.len ≤ 8 ∧ E'.cnt + A'.cnt ≤ most
  | N, E, A, hN, h1, h2, h3, h4 => by
    have c1 := count_b 4 n E S (Body.dep_of _ _ _ h1)
    have c2 := count_b 4 n A S (Body.dep_of _ _ _ h2)
    simp only [Body.enc] at c1 c2
    by_cases c : E.cnt + A.cnt ≤ most
    · have c' : ¬ (most : Int) < (E.cnt : Int) + (A.cnt : Int) := by omega
      exact ⟨E, A, cWhile_f (by simp [llC, b__law_loop, c1, c2, c']), h1, h2, h3, h4, c⟩
    · have c' : (most : Int) < (E.cnt : Int) + (A.cnt : Int) := by omega
      cases A with
      | cons s r =>
        simp only [Body.len] at hN h4
        simp only [Body.oks, Bool.and_eq_true] at h2
        obtain ⟨M, rfl⟩ : ∃ M, N = M + 1 := ⟨N - 1, by omega⟩
        obtain ⟨E', A', w, k1⟩ := ll_while n most v0 S M E r (by omega) h1 h2.2 h3 (by omega)
        refine ⟨E', A', cWhile_t (S1 := S) (S2 := S) ?_ ?_ w, k1⟩
        · simp [llC, b__law_loop, c1, c2, c']
        · simp [llB, b__law_loop, neD_tnil, Body.encs, cut_from1]
      | nil =>
        cases E with
        | nil => exact absurd (Nat.zero_le most) c
        | cons s r =>
          simp only [Body.len] at hN h3
          simp only [Body.oks, Bool.and_eq_true] at h1
          obtain ⟨M, rfl⟩ : ∃ M, N = M + 1 := ⟨N - 1, by omega⟩
          obtain ⟨E', A', w, k1⟩ := ll_while n most v0 S M r .nil (by simp [Body.len]; omega) h1.2 h2 (by omega) h4
          refine ⟨E', A', cWhile_t (S1 := S) (S2 := S) ?_ ?_ w, k1⟩
          · simp [llC, b__law_loop, c1, c2, c']
          · simp [llB, b__law_loop, neD_tnil, Body.encs, cut_from1]
theorem loop_drw (n m most : Nat) : Drw m (FS defs (n + 8) "_law_loop" [.loc m, .d (.int (most : Int))]) (fun y => ∃ l : Loop, y = l.enc ∧ l.ok most) := fun S h => by
  obtain ⟨y1, a1, b1, q1, l, rfl, k1, k2, k3, k4⟩ := known_drw (n + 4) m S h
  obtain ⟨y2, a2, b2, q2, x, rfl, x0, x1⟩ := (take_drw (n + 6) m 3 (by decide) (by decide)).on h a1 b1
  by_cases c : x = 0
  · obtain ⟨y3, a3, b3, q3, E, rfl, e1, e2⟩ := (body_drw 2 n m true 4 (by decide)).on h a2 b2
    obtain ⟨y4, a4, b4, q4, A, rfl, f1, f2⟩ := (body_drw 1 (n + 1) m false 2 (by decide)).on h a3 b3
    rw [show n + 2 + 5 = n + 7 from rfl] at q3
    rw [show n + 1 + 1 + 5 = n + 7 from by omega] at q4
    obtain ⟨E', A', w, g1, g2, g3, g4, g5⟩ := ll_while (n + 2) most (some (.loc m)) (S.set m (.lst [.int a4, .int b4])) 16 E A (by omega) (by
      cases E with
      | nil => rfl
      | cons s r => exact Body.oks_up true (.cons s r) 3 4 (by decide) e1) (Body.oks_up false A 2 4 (by decide) f1) (by omega) (by omega)
    refine ⟨(⟨E', A'⟩ : Loop).enc, a4, b4, ?_, ⟨E', A'⟩, rfl, g1, g2, g3, g4, g5⟩
    rw [run__law_loop]
    simp [llC, llB, b__law_loop] at w
    simp [Body.enc] at q3 q4
    simp [b__law_loop, q1, q2, q3, q4, c, w]
  · obtain ⟨E', A', w, g1, g2, g3, g4, g5⟩ := ll_while (n + 2) most (some (.loc m)) (S.set m (.lst [.int a2, .int b2])) 16 l.each l.after (by omega) k1 k2 k3 k4
    refine ⟨(⟨E', A'⟩ : Loop).enc, a2, b2, ?_, ⟨E', A'⟩, rfl, g1, g2, g3, g4, g5⟩
    rw [run__law_loop]
    simp [llC, llB, b__law_loop] at w
    simp [b__law_loop, q1, q2, c, w]
end Law

namespace Law
open PySem L2 G
/-! a well-formed loop is one -/
theorem are_texts_w (n : Nat) (ws : List String) (h : ws ≠ []) (hl : ws.length ≤ 100) (S : Store) : FS defs (n + 1) "are_texts" [.d (.tuple (ws.map wS))] S = some (.ok (.d (.bool true)) S) := by
  have hz : ws.length ≤ 16777216 := by omega
  have he : (ws.map wS).isEmpty = false := by cases ws <;> simp at h ⊢
  rw [run_are_texts]
  simp [b_are_texts, neD_tnil, h]
  rw [cLc_map0 (xs := ws) (g := wS) (fun _ => .bool true)]
  · simp
  · simp
  · simp [hz]
  · intro x hx
    simp
theorem are_texts_1 (n : Nat) (a : String) (S : Store) : FS defs (n + 1) "are_texts" [.d (.tuple [wS a])] S = some (.ok (.d (.bool true)) S) := are_texts_w n [a] (by simp) (by simp) S
theorem are_texts_2 (n : Nat) (a b : String) (S : Store) : FS defs (n + 1) "are_texts" [.d (.tuple [wS a, wS b])] S = some (.ok (.d (.bool true)) S) := are_texts_w n [a, b] (by simp) (by simp) S
theorem are_texts_3 (n : Nat) (a b c : String) (S : Store) : FS defs (n + 1) "are_texts" [.d (.tuple [wS a, wS b, wS c])] S = some (.ok (.d (.bool true)) S) := are_texts_w n [a, b, c] (by simp) (by simp) S
theorem is_holder_w (n : Nat) (a : Hd) (S : Store) : FS defs (n + 1) "is_holder" [.d (wS a.s)] S = some (.ok (.d (.bool true)) S) := by
  rw [run_is_holder]
  cases a <;> simp [b_is_holder, g_HOLDERS, Hd.s]
theorem is_holder_i (n : Nat) (S : Store) : FS defs (n + 1) "is_holder" [.d (wS "item")] S = some (.ok (.d (.bool false)) S) := by
  rw [run_is_holder]
  simp [b_is_holder, g_HOLDERS]
theorem is_flag_w (n : Nat) (a : Fg) (S : Store) : FS defs (n + 1) "is_flag" [.d (wS a.s)] S = some (.ok (.d (.bool true)) S) := by
  rw [run_is_flag]
  cases a <;> simp [b_is_flag, g_FLAGS, Fg.s]
theorem is_thing_w (n : Nat) (a : Th) (S : Store) : FS defs (n + 2) "is_thing" [.d (wS a.s)] S = some (.ok (.d (.bool true)) S) := by
  rw [run_is_thing]
  cases a with
  | h a => simp [b_is_thing, Th_h, is_holder_w]
  | item => simp [b_is_thing, Th_i, is_holder_i, g_ITEM]
theorem Hd.s_inj {a b : Hd} (h : a.s = b.s) : a = b := by
  cases a <;> cases b <;> first | rfl | simp [Hd.s] at h
theorem is_plain_p (n : Nat) (p : Pl) (S : Store) : FS defs (n + 3) "is_plain" [.d p.enc] S = some (.ok (.d (.bool p.ok)) S) := by
  rw [run_is_plain]
  cases p with
  | take a => simp [b_is_plain, Pl.enc, are_texts_2, cut_from1, g_COPY, g_TAKE, g_DROP, g_UP, g_DOWN, g_PRINT, is_holder_w, Pl.ok]
  | copy a b =>
    by_cases q : a = b
    · subst q
      simp [b_is_plain, Pl.enc, are_texts_3, cut_from1, g_COPY, g_TAKE, g_DROP, g_UP, g_DOWN, g_PRINT, is_holder_w, Pl.ok]
    · have q' : ¬ a.s = b.s := fun z => q (Hd.s_inj z)
      simp [b_is_plain, Pl.enc, are_texts_3, cut_from1, g_COPY, g_TAKE, g_DROP, g_UP, g_DOWN, g_PRINT, is_holder_w, Pl.ok, q, q']
  | drop a => simp [b_is_plain, Pl.enc, are_texts_2, cut_from1, g_COPY, g_TAKE, g_DROP, g_UP, g_DOWN, g_PRINT, is_holder_w, Pl.ok]
  | up f => simp [b_is_plain, Pl.enc, are_texts_2, cut_from1, g_COPY, g_TAKE, g_DROP, g_UP, g_DOWN, g_PRINT, is_flag_w, Pl.ok]
  | down f => simp [b_is_plain, Pl.enc, are_texts_2, cut_from1, g_COPY, g_TAKE, g_DROP, g_UP, g_DOWN, g_PRINT, is_flag_w, Pl.ok]
  | print t => simp [b_is_plain, Pl.enc, are_texts_2, cut_from1, g_COPY, g_TAKE, g_DROP, g_UP, g_DOWN, g_PRINT, is_thing_w, Pl.ok]
theorem eqD_tnil (xs : List D) : eqD (.tuple xs) (.tuple []) = some (.bool xs.isEmpty) := by
  have d0 : (PyData.tuple []).depth ≤ 60 := by decide
  have : shal (.tuple xs) (.tuple []) = true := by
    unfold shal
    exact decide_eq_true (Nat.le_trans (Nat.min_le_right _ _) d0)
  unfold eqD
  rw [if_pos this]
  cases xs <;> simp
theorem is_test_t (n : Nat) (t : Tst) (S : Store) : FS defs (n + 3) "is_test" [.d t.enc] S = some (.ok (.d (.bool t.ok)) S) := by
  rw [run_is_test]
  cases t with
  | first => simp [b_is_test, Tst.enc, are_texts_1, cut_from1, g_FIRST, g_LAST, eqD_tnil, Tst.ok]
  | last => simp [b_is_test, Tst.enc, are_texts_1, cut_from1, g_FIRST, g_LAST, eqD_tnil, Tst.ok]
  | empty a => simp [b_is_test, Tst.enc, are_texts_2, cut_from1, g_FIRST, g_LAST, g_OVER, g_SAME, g_EMPTY, g_FLAG, is_holder_w, Tst.ok]
  | flag f => simp [b_is_test, Tst.enc, are_texts_2, cut_from1, g_FIRST, g_LAST, g_OVER, g_SAME, g_EMPTY, g_FLAG, is_flag_w, Tst.ok]
  | over a b =>
    by_cases q : a = b
    · subst q
      simp [b_is_test, Tst.enc, are_texts_3, cut_from1, g_FIRST, g_LAST, g_OVER, g_SAME, is_thing_w, Tst.ok]
    · have q' : ¬ a.s = b.s := fun z => q (Th.s_inj z)
      simp [b_is_test, Tst.enc, are_texts_3, cut_from1, g_FIRST, g_LAST, g_OVER, g_SAME, is_thing_w, Tst.ok, q, q']
  | same a b =>
    by_cases q : a = b
    · subst q
      simp [b_is_test, Tst.enc, are_texts_3, cut_from1, g_FIRST, g_LAST, g_OVER, g_SAME, is_thing_w, Tst.ok]
    · have q' : ¬ a.s = b.s := fun z => q (Th.s_inj z)
      simp [b_is_test, Tst.enc, are_texts_3, cut_from1, g_FIRST, g_LAST, g_OVER, g_SAME, is_thing_w, Tst.ok, q, q']
theorem looks_pl (n : Nat) (p : Pl) (S : Store) : FS defs (n + 4) "looks_like_if" [.d p.enc] S = some (.ok (.d (.bool false)) S) := by
  rw [run_looks_like_if]
  cases p <;> simp [b_looks_like_if, Pl.enc]
theorem looks_if (n : Nat) (t : Tst) (a b : Body) (S : Store) : FS defs (n + 4) "looks_like_if" [.d (Stm.ifs t a b).enc] S = some (.ok (.d (.bool t.ok)) S) := by
  rw [run_looks_like_if]
  simp [b_looks_like_if, Stm.enc, g_IF, is_test_t]
theorem Hd.ni (a : Hd) : (a.s = "item") = False := by cases a <;> simp [Hd.s]
theorem Fg.ni (a : Fg) : (a.s = "item") = False := by cases a <;> simp [Fg.s]
theorem Th.ni (a : Th) : (decide (a.s = "item")) = a.inE := by
  cases a with
  | item => rfl
  | h a => simp [Th_h, Hd.ni, Th.inE]
theorem needs_pl (n : Nat) (p : Pl) (S : Store) : FS defs (n + 1) "needs_item" [.d p.enc] S = some (.ok (.d (.bool p.needs)) S) := by
  rw [run_needs_item]
  cases p with
  | print t =>
    cases t with
    | item => simp [b_needs_item, Pl.enc, g_IF, g_TAKE, g_FIRST, g_LAST, g_ITEM, Pl.needs, Th_i, Th.inE]
    | h a => simp [b_needs_item, Pl.enc, g_IF, g_TAKE, g_FIRST, g_LAST, g_ITEM, Pl.needs, Th_h, Th.inE, Hd.ni]
  | _ => simp [b_needs_item, Pl.enc, g_IF, g_TAKE, g_FIRST, g_LAST, g_ITEM, Pl.needs, Hd.ni, Fg.ni]
theorem needs_if (n : Nat) (t : Tst) (a b : Body) (S : Store) : FS defs (n + 1) "needs_item" [.d (Stm.ifs t a b).enc] S = some (.ok (.d (.bool t.needs)) S) := by
  rw [run_needs_item]
  cases t with
  | over a b => simp [b_needs_item, Stm.enc, Tst.enc, g_IF, g_TAKE, g_FIRST, g_LAST, g_ITEM, Tst.needs, Th.ni]
  | same a b => simp [b_needs_item, Stm.enc, Tst.enc, g_IF, g_TAKE, g_FIRST, g_LAST, g_ITEM, Tst.needs, Th.ni]
  | _ => simp [b_needs_item, Stm.enc, Tst.enc, g_IF, g_TAKE, g_FIRST, g_LAST, g_ITEM, Tst.needs, Hd.ni, Fg.ni]
end Law

namespace Law
open PySem L2 G
def ibBody : MSs := match b_is_body with
  | .cons _ (.cons (.for _ _ b) _) => b
  | _ => .nil
theorem ib_loop (n d : Nat) (e : Bool) (v0 : Option Val) (S : Store) (rec_ : ∀ (d' : Nat) (b : Body), d = d' + 1 → b.oks e d' = true → b.len ≤ 8 → ∀ S, FS defs (n + d + 4) "is_body" [.d b.enc, .d (.bool e), .d (.int (d' : Int))] S = some (.ok (.d (.bool true)) S)) :
    ∀ (b : Body) (v3 : Option Val), b.oks e d = true → ∃ v3', forL (gN 3) (evSs (FS defs (n + d + 4)) ibBody) b.encs [v0, some (.d (.bool e)), some (.d (.int (d : Int))), v3] S = some (.ok (.nx [v0, some (.d (.bool e)), some (.d (.int (d : Int))), v3']) S)
  | .nil, v3, _ => ⟨v3, rfl⟩
  | .cons s r, v3, h => by
    obtain ⟨d', rfl⟩ : ∃ d', d = d' + 1 := by
      cases d with
      | zero => simp [Body.oks] at h
      | succ d => exact ⟨d, rfl⟩
    simp only [Body.oks, Bool.and_eq_true] at h
    obtain ⟨hs, hr⟩ := h
    rw [Body.encs, forL_cons]
    cases s with
    | pl p =>
      simp only [Stm.ok, Bool.and_eq_true] at hs
      obtain ⟨v3', h1⟩ := ib_loop n (d' + 1) e v0 S rec_ r (some (.d p.enc)) hr
      refine ⟨v3', ?_⟩
      have q1 := looks_pl (n + d' + 1) p S
      have q2 := is_plain_p (n + d' + 2) p S
      have q3 := needs_pl (n + d' + 4) p S
      have hb : (p.needs && !e) = false := by
        have := hs.2
        revert this
        cases e <;> cases p.needs <;> simp
      rw [hs.1] at q2
      rw [show n + (d' + 1) + 4 = n + d' + 5 from by omega] at h1 ⊢
      simp [ibBody, b_is_body] at h1
      cases hn : p.needs <;> cases e <;> simp [hn] at hb q3 <;> simp [ibBody, b_is_body, Stm.enc, q1, q2, q3, h1]
    | ifs t a b =>
      simp only [Stm.ok, Bool.and_eq_true, decide_eq_true_eq] at hs
      obtain ⟨⟨⟨⟨⟨t1, t2⟩, a1⟩, b1⟩, a2⟩, b2⟩ := hs
      obtain ⟨v3', h1⟩ := ib_loop n (d' + 1) e v0 S rec_ r (some (.d (Stm.ifs t a b).enc)) hr
      refine ⟨v3', ?_⟩
      have q1 := looks_if (n + d' + 1) t a b S
      have q3 := needs_if (n + d' + 4) t a b S
      have q4 := rec_ d' a rfl a1 a2 S
      have q5 := rec_ d' b rfl b1 b2 S
      have hb : (t.needs && !e) = false := by
        revert t2
        cases e <;> cases t.needs <;> simp
      rw [t1] at q1
      rw [show n + (d' + 1) + 4 = n + d' + 5 from by omega] at h1 q4 q5 ⊢
      simp [ibBody, b_is_body, Stm.enc] at h1
      simp only [Body.enc] at q4 q5
      simp only [Stm.enc] at q1 q3
      cases hn : t.needs <;> cases e <;> simp [hn] at hb q3 <;> simp [ibBody, b_is_body, Stm.enc, q1, q3, q4, q5, h1]
theorem is_body_b : ∀ (d n : Nat) (e : Bool) (b : Body) (S : Store), b.oks e d = true → b.len ≤ 8 → FS defs (n + d + 5) "is_body" [.d b.enc, .d (.bool e), .d (.int (d : Int))] S = some (.ok (.d (.bool true)) S)
  | d, n, e, b, S, h, hl => by
    obtain ⟨v3', w⟩ := ib_loop n d e (some (.d b.enc)) S (fun d' b' hd hb hl' S' => by
      subst hd
      have := is_body_b d' n e b' S' hb hl'
      rw [show n + (d' + 1) + 4 = n + d' + 5 from by omega]
      exact this) b none h
    rw [run_is_body]
    have hl' : ¬ (8 : Int) < (b.encs.length : Int) := by rw [Body.encs_len]; omega
    simp [ibBody, b_is_body, Body.enc] at w
    cases d with
    | zero =>
      cases b with
      | nil => simp [b_is_body, Body.encs, Body.enc, neD_tnil]
      | cons s r => simp [Body.oks] at h
    | succ d =>
      have dz : ¬ (d : Int) + 1 = 0 := by omega
      simp at w
      simp [b_is_body, Body.enc, hl', dz, w]
mutual
def Stm.all : Stm → List D
  | .pl p => [p.enc]
  | .ifs t a b => (Stm.ifs t a b).enc :: (a.all ++ b.all)
def Body.all : Body → List D
  | .nil => []
  | .cons s r => s.all ++ r.all
end
mutual
theorem Stm.all_len : ∀ s : Stm, s.all.length = s.cnt
  | .pl p => rfl
  | .ifs t a b => by
    simp only [Stm.all, Stm.cnt, List.length_cons, List.length_append, Body.all_len a, Body.all_len b]
    omega
theorem Body.all_len : ∀ b : Body, b.all.length = b.cnt
  | .nil => rfl
  | .cons s r => by simp only [Body.all, Body.cnt, List.length_append, Stm.all_len s, Body.all_len r]
end
def aiBody : MSs := match b_all_in with
  | .cons _ (.cons (.for _ _ b) _) => b
  | _ => .nil
theorem ai_loop (n d : Nat) (rec_ : ∀ (b : Body) (S : Store), b.dep < d → b.cnt ≤ 1000000 → FS defs (n + d) "all_in" [.d b.enc] S = some (.ok (.d (.list b.all)) S)) (v0 : Option Val) (S : Store) :
    ∀ (b : Body) (xs : List D) (v2 : Option Val), b.dep ≤ d → xs.length + b.cnt ≤ 1000000 → ∃ v2', forL (gN 2) (evSs (FS defs (n + d)) aiBody) b.encs [v0, some (.d (.list xs)), v2] S = some (.ok (.nx [v0, some (.d (.list (xs ++ b.all))), v2']) S)
  | .nil, xs, v2, _, _ => ⟨v2, by simp [Body.all, Body.encs]⟩
  | .cons s r, xs, v2, h, hc => by
    simp only [Body.dep] at h
    simp only [Body.cnt] at hc
    rw [Body.encs, forL_cons]
    cases s with
    | pl p =>
      simp only [Stm.cnt] at hc
      obtain ⟨w, l, e, hw⟩ := Pl.enc_eq p
      obtain ⟨v2', h1⟩ := ai_loop n d rec_ v0 S r (xs ++ [p.enc]) (some (.d p.enc)) (by omega) (by simp; omega)
      refine ⟨v2', ?_⟩
      have z : xs.length + 1 ≤ 16777216 := by omega
      simp [aiBody, b_all_in, e, Stm.all, g_IF] at h1
      simp [aiBody, b_all_in, Stm.enc, e, hw, h1, Body.all, Stm.all, g_IF, z]
    | ifs t a b =>
      simp only [Stm.dep] at h
      simp only [Stm.cnt] at hc
      have e1 := rec_ a S (by omega) (by omega)
      have e2 := rec_ b S (by omega) (by omega)
      obtain ⟨v2', h1⟩ := ai_loop n d rec_ v0 S r (xs ++ (Stm.ifs t a b).all) (some (.d (Stm.ifs t a b).enc)) (by omega) (by rw [List.length_append, Stm.all_len]; simp only [Stm.cnt]; omega)
      refine ⟨v2', ?_⟩
      have z1 : xs.length + 1 ≤ 16777216 := by omega
      have z2 : xs.length + 1 + a.all.length ≤ 16777216 := by rw [Body.all_len]; omega
      have z3 : xs.length + 1 + a.all.length + b.all.length ≤ 16777216 := by rw [Body.all_len, Body.all_len]; omega
      have z4 : xs.length + (a.all.length + 1) ≤ 16777216 := by rw [Body.all_len]; omega
      have z5 : xs.length + (a.all.length + 1) + b.all.length ≤ 16777216 := by rw [Body.all_len, Body.all_len]; omega
      have z6 : xs.length + (a.all.length + (b.all.length + 1)) ≤ 16777216 := by rw [Body.all_len, Body.all_len]; omega
      simp [aiBody, b_all_in, Stm.enc, Stm.all, g_IF] at h1
      simp only [Body.enc] at e1 e2
      simp [aiBody, b_all_in, Stm.enc, e1, e2, h1, Body.all, Stm.all, g_IF, z1, z2, z3, z4, z5, z6]
theorem all_in_b : ∀ (d n : Nat) (b : Body) (S : Store), b.dep ≤ d → b.cnt ≤ 1000000 → FS defs (n + d + 1) "all_in" [.d b.enc] S = some (.ok (.d (.list b.all)) S)
  | d, n, b, S, h, hc => by
    obtain ⟨v2', e⟩ := ai_loop n d (fun b S hb hc' => by
      match d, hb with
      | d + 1, hb => exact all_in_b d n b S (by omega) hc') (some (.d b.enc)) S b [] none h (by simpa using hc)
    rw [run_all_in]
    simp [aiBody, b_all_in, Body.enc, g_IF] at e
    simp [b_all_in, Body.enc, g_IF, e]
theorem is_loop_l (n : Nat) (l : Loop) (S : Store) (h : l.ok 20) : FS defs (n + 10) "is_loop" [.d l.enc] S = some (.ok (.d (.bool true)) S) := by
  obtain ⟨h1, h2, h3, h4, h5⟩ := h
  have q1 := is_body_b 4 n true l.each S h1 h3
  have q2 := is_body_b 4 n false l.after S h2 h4
  have d1 := Body.dep_of _ _ _ h1
  have d2 := Body.dep_of _ _ _ h2
  have a1 := all_in_b 4 (n + 3) l.each S d1 (by omega)
  have a2 := all_in_b 4 (n + 3) l.after S d2 (by omega)
  have q3 : FS defs (n + 9) "all_of" [.d l.enc] S = some (.ok (.d (.list (l.each.all ++ l.after.all))) S) := by
    rw [run_all_of]
    have z : l.each.all.length + l.after.all.length ≤ 16777216 := by rw [Body.all_len, Body.all_len]; omega
    simp only [Body.enc] at a1 a2
    simp [b_all_of, a1, a2, z]
  rw [run_is_loop]
  have z : (l.each.all.length : Int) + (l.after.all.length : Int) ≤ 20 := by rw [Body.all_len, Body.all_len]; omega
  simp only [Body.enc] at q1 q2 q3
  simp at q1 q2
  simp [b_is_loop, q1, q2, q3, g_MOST_DEEP, g_MOST_STATEMENTS, z]
theorem need_loop_l (n : Nat) (l : Loop) (S : Store) (h : l.ok 20) : FS defs (n + 11) "need_loop" [.d l.enc] S = some (.ok (.d .none) S) := by
  have q4 := is_loop_l n l S h
  rw [run_need_loop]
  simp [b_need_loop, q4]
end Law

namespace Law
open PySem L2 G
/-! values of any kind -/
def Gd : Nat → D → Prop
  | _, .none => True
  | _, .bool _ => True
  | _, .int _ => True
  | _, .str _ => True
  | n + 1, .tuple xs => xs.length ≤ 1000 ∧ ∀ x ∈ xs, Gd n x
  | n + 1, .list xs => xs.length ≤ 1000 ∧ ∀ x ∈ xs, Gd n x
  | _, _ => False
theorem Gd.up : ∀ {n m : Nat} {x : D}, n ≤ m → Gd n x → Gd m x
  | n, m, .none, _, _ => by simp [Gd]
  | n, m, .bool _, _, _ => by simp [Gd]
  | n, m, .int _, _, _ => by simp [Gd]
  | n, m, .str _, _, _ => by simp [Gd]
  | 0, m, .tuple xs, _, g => by simp [Gd] at g
  | 0, m, .list xs, _, g => by simp [Gd] at g
  | n + 1, 0, .tuple xs, h, g => absurd h (by omega)
  | n + 1, 0, .list xs, h, g => absurd h (by omega)
  | n + 1, m + 1, .tuple xs, h, g => by
    simp only [Gd] at g ⊢
    exact ⟨g.1, fun x hx => Gd.up (by omega) (g.2 x hx)⟩
  | n + 1, m + 1, .list xs, h, g => by
    simp only [Gd] at g ⊢
    exact ⟨g.1, fun x hx => Gd.up (by omega) (g.2 x hx)⟩
  | 0, m, .dict kvs, _, g => by simp [Gd] at g
  | n + 1, m, .dict kvs, _, g => by simp [Gd] at g
theorem dep_all {m : Nat} : ∀ {xs : List D}, (∀ x ∈ xs, x.depth ≤ m) → PyData.depthAll xs ≤ m
  | [], _ => Nat.zero_le _
  | x :: xs, h => by
    have h1 := h x (by simp)
    have h2 := dep_all (xs := xs) fun y hy => h y (by simp [hy])
    simp only [PyData.depthAll]
    omega
theorem Gd.dep : ∀ {n : Nat} {x : D}, Gd n x → x.depth ≤ n
  | n, .none, _ => by simp [PyData.depth]
  | n, .bool _, _ => by simp [PyData.depth]
  | n, .int _, _ => by simp [PyData.depth]
  | n, .str _, _ => by simp [PyData.depth]
  | 0, .tuple xs, g => by simp [Gd] at g
  | 0, .list xs, g => by simp [Gd] at g
  | n + 1, .tuple xs, g => by
    simp only [Gd] at g
    have := dep_all (m := n) fun x hx => Gd.dep (g.2 x hx)
    simp only [PyData.depth]
    omega
  | n + 1, .list xs, g => by
    simp only [Gd] at g
    have := dep_all (m := n) fun x hx => Gd.dep (g.2 x hx)
    simp only [PyData.depth]
    omega
  | 0, .dict kvs, g => by simp [Gd] at g
  | n + 1, .dict kvs, g => by simp [Gd] at g
def isS : D → Bool
  | .str _ => true
  | _ => false
theorem isa_str {n : Nat} {x : D} (g : Gd n x) : isaD "str" x = some (.bool (isS x)) := by
  cases x with
  | dict kvs => cases n <;> simp [Gd] at g
  | _ => rfl
def isT : D → Bool
  | .tuple _ => true
  | _ => false
theorem isa_tuple {n : Nat} {x : D} (g : Gd n x) : isaD "tuple" x = some (.bool (isT x)) := by
  cases x with
  | dict kvs => cases n <;> simp [Gd] at g
  | _ => rfl
theorem isT_iff {x : D} : isT x = true ↔ ∃ xs, x = .tuple xs := by cases x <;> simp [isT]
theorem isS_iff {x : D} : isS x = true ↔ ∃ s, x = .str s := by cases x <;> simp [isS]
theorem allS_iff : ∀ {xs : List D}, xs.all isS = true ↔ ∃ ss : List Str, xs = ss.map .str
  | [] => by simp
  | x :: xs => by
    rw [List.all_cons, Bool.and_eq_true, isS_iff, allS_iff]
    constructor
    · rintro ⟨⟨s, rfl⟩, ss, rfl⟩
      exact ⟨s :: ss, rfl⟩
    · rintro ⟨ss, e⟩
      cases ss with
      | nil => simp at e
      | cons s ss =>
        simp only [List.map_cons, List.cons.injEq] at e
        exact ⟨⟨s, e.1⟩, ss, e.2⟩
theorem bools_map {α : Type} (f : α → Bool) : ∀ xs : List α, bools (xs.map fun x => PyData.bool (f x)) = some (xs.map f)
  | [] => rfl
  | x :: xs => by simp [bools, bools_map f xs]
theorem are_texts_any (n : Nat) {k : Nat} (x : D) (g : Gd k x) (S : Store) : ∃ r, FS defs (n + 1) "are_texts" [.d x] S = some (.ok (.d (.bool r)) S) ∧ (r = true ↔ ∃ (s : Str) (ss : List Str), x = .tuple (.str s :: ss.map .str)) := by
  have h1 := isa_tuple g
  rw [run_are_texts]
  cases x with
  | tuple xs =>
    obtain ⟨j, rfl⟩ : ∃ j, k = j + 1 := by
      cases k with
      | zero => simp [Gd] at g
      | succ j => exact ⟨j, rfl⟩
    simp only [Gd] at g
    simp only [isT] at h1
    cases xs with
    | nil => exact ⟨false, by simp [b_are_texts, neD_tnil], by simp⟩
    | cons y ys =>
      have c : cLc false (iSeq (cVar 0)) (cT false [1]) cYes (cOp1 (isaD "str") (cVar 1)) [1] [some (.d (.tuple (y :: ys))), none] S = some (.ok (.d (.list ((y :: ys).map fun z => PyData.bool (isS z)))) S) := by
        apply cLc_map0 (xs := y :: ys) (g := fun z => z)
        · simp
        · exact Nat.le_trans g.1 (by decide)
        · intro z hz
          have := isa_str (g.2 z hz)
          simp only [isaD_eq] at this
          refine ⟨_, rfl, fun S' => ?_⟩
          simp [this]
      refine ⟨(y :: ys).all isS, ?_, ?_⟩
      · have bm := bools_map isS (y :: ys)
        have ba : ((y :: ys).map isS).all id = (y :: ys).all isS := by rw [List.all_map]; rfl
        rw [List.map_cons] at c bm ba
        simp [b_are_texts, neD_tnil, c, bm]
      · rw [allS_iff]
        constructor
        · rintro ⟨ss, e⟩
          cases ss with
          | nil => simp at e
          | cons s ss => exact ⟨s, ss, by rw [e]; rfl⟩
        · rintro ⟨s, ss, e⟩
          simp only [PyData.tuple.injEq] at e
          exact ⟨s :: ss, e⟩
  | dict kvs => cases k <;> simp [Gd] at g
  | _ => exact ⟨false, by simp [isT] at h1; simp [b_are_texts, h1], by simp⟩
def hdS (s : Str) : Prop := ∃ a : Hd, s = Str.ofString a.s
def fgS (s : Str) : Prop := ∃ a : Fg, s = Str.ofString a.s
def thS (s : Str) : Prop := ∃ a : Th, s = Str.ofString a.s
theorem hdS_no {s : Str} (h : ¬ hdS s) : ¬ Str.ofString "x" = s ∧ ¬ Str.ofString "y" = s ∧ ¬ Str.ofString "z" = s :=
  ⟨fun e => h ⟨.x, e.symm⟩, fun e => h ⟨.y, e.symm⟩, fun e => h ⟨.z, e.symm⟩⟩
theorem fgS_no {s : Str} (h : ¬ fgS s) : ¬ Str.ofString "p" = s ∧ ¬ Str.ofString "q" = s :=
  ⟨fun e => h ⟨.p, e.symm⟩, fun e => h ⟨.q, e.symm⟩⟩
theorem thS_no {s : Str} (h : ¬ thS s) : ¬ hdS s ∧ ¬ s = Str.ofString "item" :=
  ⟨fun ⟨a, e⟩ => h ⟨.h a, e⟩, fun e => h ⟨.item, e⟩⟩
theorem is_holder_n (n : Nat) (s : Str) (h : ¬ hdS s) (S : Store) : FS defs (n + 1) "is_holder" [.d (.str s)] S = some (.ok (.d (.bool false)) S) := by
  obtain ⟨h1, h2, h3⟩ := hdS_no h
  rw [run_is_holder]
  simp [b_is_holder, g_HOLDERS, inD, h1, h2, h3]
theorem is_flag_n (n : Nat) (s : Str) (h : ¬ fgS s) (S : Store) : FS defs (n + 1) "is_flag" [.d (.str s)] S = some (.ok (.d (.bool false)) S) := by
  obtain ⟨h1, h2⟩ := fgS_no h
  rw [run_is_flag]
  simp [b_is_flag, g_FLAGS, inD, h1, h2]
theorem is_thing_n (n : Nat) (s : Str) (h : ¬ thS s) (S : Store) : FS defs (n + 2) "is_thing" [.d (.str s)] S = some (.ok (.d (.bool false)) S) := by
  obtain ⟨h1, h2⟩ := thS_no h
  rw [run_is_thing]
  simp [b_is_thing, is_holder_n _ _ h1, g_ITEM, h2]
theorem strs2 {a b : Str} : [PyData.str a, .str b] = .str a :: [b].map PyData.str := rfl
theorem is_plain_any (n : Nat) {k : Nat} (x : D) (g : Gd k x) (S : Store) : ∃ r, FS defs (n + 3) "is_plain" [.d x] S = some (.ok (.d (.bool r)) S) ∧ (r = true ↔ ∃ p : Pl, p.ok = true ∧ x = p.enc) := by
  have key : ∃ r, FS defs (n + 3) "is_plain" [.d x] S = some (.ok (.d (.bool r)) S) ∧ (r = true → ∃ p : Pl, p.ok = true ∧ x = p.enc) := by
    obtain ⟨r, e, hr⟩ := are_texts_any (n + 1) x g S
    cases r with
    | false => exact ⟨false, by rw [run_is_plain]; simp [b_is_plain, e], by simp⟩
    | true =>
      obtain ⟨s, ss, rfl⟩ := hr.mp rfl
      match ss, e with
      | [], e =>
        refine ⟨false, ?_, by simp⟩
        rw [run_is_plain]
        by_cases c : s = Str.ofString "copy"
        · subst c; simp at e; simp [b_is_plain, e, cut_from1, g_COPY]
        · simp at e; simp [b_is_plain, e, cut_from1, g_COPY, c]
      | [a], e =>
        rw [run_is_plain]
        simp at e
        by_cases c1 : s = Str.ofString "copy"
        · subst c1
          exact ⟨false, by simp [b_is_plain, e, cut_from1, g_COPY], by simp⟩
        by_cases c2 : s = Str.ofString "take"
        · subst c2
          by_cases h : hdS a
          · obtain ⟨a, rfl⟩ := h
            exact ⟨true, by simp [b_is_plain, e, cut_from1, g_COPY, g_TAKE, g_DROP, is_holder_w], fun _ => ⟨.take a, rfl, rfl⟩⟩
          · exact ⟨false, by simp [b_is_plain, e, cut_from1, g_COPY, g_TAKE, g_DROP, is_holder_n _ _ h], by simp⟩
        by_cases c3 : s = Str.ofString "drop"
        · subst c3
          by_cases h : hdS a
          · obtain ⟨a, rfl⟩ := h
            exact ⟨true, by simp [b_is_plain, e, cut_from1, g_COPY, g_TAKE, g_DROP, is_holder_w], fun _ => ⟨.drop a, rfl, rfl⟩⟩
          · exact ⟨false, by simp [b_is_plain, e, cut_from1, g_COPY, g_TAKE, g_DROP, is_holder_n _ _ h], by simp⟩
        by_cases c4 : s = Str.ofString "up"
        · subst c4
          by_cases h : fgS a
          · obtain ⟨a, rfl⟩ := h
            exact ⟨true, by simp [b_is_plain, e, cut_from1, g_COPY, g_TAKE, g_DROP, g_UP, g_DOWN, is_flag_w], fun _ => ⟨.up a, rfl, rfl⟩⟩
          · exact ⟨false, by simp [b_is_plain, e, cut_from1, g_COPY, g_TAKE, g_DROP, g_UP, g_DOWN, is_flag_n _ _ h], by simp⟩
        by_cases c5 : s = Str.ofString "down"
        · subst c5
          by_cases h : fgS a
          · obtain ⟨a, rfl⟩ := h
            exact ⟨true, by simp [b_is_plain, e, cut_from1, g_COPY, g_TAKE, g_DROP, g_UP, g_DOWN, is_flag_w], fun _ => ⟨.down a, rfl, rfl⟩⟩
          · exact ⟨false, by simp [b_is_plain, e, cut_from1, g_COPY, g_TAKE, g_DROP, g_UP, g_DOWN, is_flag_n _ _ h], by simp⟩
        have d2 : ¬ Str.ofString "take" = s := fun z => c2 z.symm
        have d3 : ¬ Str.ofString "drop" = s := fun z => c3 z.symm
        have d4 : ¬ Str.ofString "up" = s := fun z => c4 z.symm
        have d5 : ¬ Str.ofString "down" = s := fun z => c5 z.symm
        by_cases c6 : s = Str.ofString "print"
        · subst c6
          by_cases h : thS a
          · obtain ⟨a, rfl⟩ := h
            exact ⟨true, by simp [b_is_plain, e, cut_from1, g_COPY, g_TAKE, g_DROP, g_UP, g_DOWN, g_PRINT, is_thing_w], fun _ => ⟨.print a, rfl, rfl⟩⟩
          · exact ⟨false, by simp [b_is_plain, e, cut_from1, g_COPY, g_TAKE, g_DROP, g_UP, g_DOWN, g_PRINT, is_thing_n _ _ h], by simp⟩
        exact ⟨false, by simp [b_is_plain, e, cut_from1, g_COPY, g_TAKE, g_DROP, g_UP, g_DOWN, g_PRINT, inD, c1, d2, d3, d4, d5, c6], by simp⟩
      | [a, b], e =>
        rw [run_is_plain]
        simp at e
        by_cases c1 : s = Str.ofString "copy"
        · subst c1
          by_cases h : hdS a
          · obtain ⟨a, rfl⟩ := h
            by_cases h : hdS b
            · obtain ⟨b, rfl⟩ := h
              by_cases q : a = b
              · subst q
                exact ⟨false, by simp [b_is_plain, e, cut_from1, g_COPY, is_holder_w], by simp⟩
              · have q' : ¬ a.s = b.s := fun z => q (Hd.s_inj z)
                exact ⟨true, by simp [b_is_plain, e, cut_from1, g_COPY, is_holder_w, q'], fun _ => ⟨.copy a b, by simp [Pl.ok, q], rfl⟩⟩
            · exact ⟨false, by simp [b_is_plain, e, cut_from1, g_COPY, is_holder_w, is_holder_n _ _ h], by simp⟩
          · exact ⟨false, by simp [b_is_plain, e, cut_from1, g_COPY, is_holder_n _ _ h], by simp⟩
        · exact ⟨false, by simp [b_is_plain, e, cut_from1, g_COPY, c1], by simp⟩
      | a :: b :: c :: t, e =>
        refine ⟨false, ?_, by simp⟩
        have z1 : ¬ (t.length : Int) + 1 + 1 + 1 = 2 := by omega
        have z2 : ¬ (t.length : Int) + 1 + 1 + 1 = 1 := by omega
        rw [run_is_plain]
        simp at e
        by_cases c : s = Str.ofString "copy"
        · subst c; simp [b_is_plain, e, cut_from1, g_COPY, z1]
        · simp [b_is_plain, e, cut_from1, g_COPY, c, z2]
  obtain ⟨r, e, hr⟩ := key
  refine ⟨r, e, hr, ?_⟩
  rintro ⟨p, h, rfl⟩
  have := is_plain_p n p S
  rw [e, h] at this
  simpa using this
theorem is_test_any (n : Nat) {k : Nat} (x : D) (g : Gd k x) (S : Store) : ∃ r, FS defs (n + 3) "is_test" [.d x] S = some (.ok (.d (.bool r)) S) ∧ (r = true ↔ ∃ p : Tst, p.ok = true ∧ x = p.enc) := by
  have key : ∃ r, FS defs (n + 3) "is_test" [.d x] S = some (.ok (.d (.bool r)) S) ∧ (r = true → ∃ p : Tst, p.ok = true ∧ x = p.enc) := by
    obtain ⟨r, e, hr⟩ := are_texts_any (n + 1) x g S
    cases r with
    | false => exact ⟨false, by rw [run_is_test]; simp [b_is_test, e], by simp⟩
    | true =>
      obtain ⟨s, ss, rfl⟩ := hr.mp rfl
      rw [run_is_test]
      by_cases c1 : s = Str.ofString "first"
      · subst c1
        cases ss with
        | nil => simp at e; exact ⟨true, by simp [b_is_test, e, cut_from1, g_FIRST, g_LAST, eqD_tnil], fun _ => ⟨.first, rfl, rfl⟩⟩
        | cons a ss => simp at e; exact ⟨false, by simp [b_is_test, e, cut_from1, g_FIRST, g_LAST, eqD_tnil], by simp⟩
      by_cases c2 : s = Str.ofString "last"
      · subst c2
        cases ss with
        | nil => simp at e; exact ⟨true, by simp [b_is_test, e, cut_from1, g_FIRST, g_LAST, eqD_tnil], fun _ => ⟨.last, rfl, rfl⟩⟩
        | cons a ss => simp at e; exact ⟨false, by simp [b_is_test, e, cut_from1, g_FIRST, g_LAST, eqD_tnil], by simp⟩
      have d1 : ¬ Str.ofString "first" = s := fun z => c1 z.symm
      have d2 : ¬ Str.ofString "last" = s := fun z => c2 z.symm
      by_cases c3 : s = Str.ofString "over" ∨ s = Str.ofString "same"
      · match ss, e with
        | [], e =>
          simp at e
          rcases c3 with rfl | rfl <;> exact ⟨false, by simp [b_is_test, e, cut_from1, g_FIRST, g_LAST, g_OVER, g_SAME], by simp⟩
        | [a], e =>
          simp at e
          rcases c3 with rfl | rfl <;> exact ⟨false, by simp [b_is_test, e, cut_from1, g_FIRST, g_LAST, g_OVER, g_SAME], by simp⟩
        | [a, b], e =>
          simp at e
          by_cases h : thS a
          · obtain ⟨a, rfl⟩ := h
            by_cases h : thS b
            · obtain ⟨b, rfl⟩ := h
              by_cases q : a = b
              · subst q
                rcases c3 with rfl | rfl <;> exact ⟨false, by simp [b_is_test, e, cut_from1, g_FIRST, g_LAST, g_OVER, g_SAME, is_thing_w], by simp⟩
              · have q' : ¬ a.s = b.s := fun z => q (Th.s_inj z)
                rcases c3 with rfl | rfl
                · exact ⟨true, by simp [b_is_test, e, cut_from1, g_FIRST, g_LAST, g_OVER, g_SAME, is_thing_w, q'], fun _ => ⟨.over a b, by simp [Tst.ok, q], rfl⟩⟩
                · exact ⟨true, by simp [b_is_test, e, cut_from1, g_FIRST, g_LAST, g_OVER, g_SAME, is_thing_w, q'], fun _ => ⟨.same a b, by simp [Tst.ok, q], rfl⟩⟩
            · rcases c3 with rfl | rfl <;> exact ⟨false, by simp [b_is_test, e, cut_from1, g_FIRST, g_LAST, g_OVER, g_SAME, is_thing_w, is_thing_n _ _ h], by simp⟩
          · rcases c3 with rfl | rfl <;> exact ⟨false, by simp [b_is_test, e, cut_from1, g_FIRST, g_LAST, g_OVER, g_SAME, is_thing_n _ _ h], by simp⟩
        | a :: b :: c :: t, e =>
          have z1 : ¬ (t.length : Int) + 1 + 1 + 1 = 2 := by omega
          simp at e
          rcases c3 with rfl | rfl <;> exact ⟨false, by simp [b_is_test, e, cut_from1, g_FIRST, g_LAST, g_OVER, g_SAME, z1], by simp⟩
      · have c4 : ¬ Str.ofString "over" = s := fun z => c3 (.inl z.symm)
        have c5 : ¬ Str.ofString "same" = s := fun z => c3 (.inr z.symm)
        match ss, e with
        | [], e =>
          simp at e
          exact ⟨false, by simp [b_is_test, e, cut_from1, g_FIRST, g_LAST, g_OVER, g_SAME, inD, d1, d2, c4, c5], by simp⟩
        | [a], e =>
          simp at e
          by_cases c6 : s = Str.ofString "empty"
          · subst c6
            by_cases h : hdS a
            · obtain ⟨a, rfl⟩ := h
              exact ⟨true, by simp [b_is_test, e, cut_from1, g_FIRST, g_LAST, g_OVER, g_SAME, g_EMPTY, g_FLAG, is_holder_w], fun _ => ⟨.empty a, rfl, rfl⟩⟩
            · exact ⟨false, by simp [b_is_test, e, cut_from1, g_FIRST, g_LAST, g_OVER, g_SAME, g_EMPTY, g_FLAG, is_holder_n _ _ h], by simp⟩
          by_cases c7 : s = Str.ofString "flag"
          · subst c7
            by_cases h : fgS a
            · obtain ⟨a, rfl⟩ := h
              exact ⟨true, by simp [b_is_test, e, cut_from1, g_FIRST, g_LAST, g_OVER, g_SAME, g_EMPTY, g_FLAG, is_flag_w], fun _ => ⟨.flag a, rfl, rfl⟩⟩
            · exact ⟨false, by simp [b_is_test, e, cut_from1, g_FIRST, g_LAST, g_OVER, g_SAME, g_EMPTY, g_FLAG, is_flag_n _ _ h], by simp⟩
          exact ⟨false, by simp [b_is_test, e, cut_from1, g_FIRST, g_LAST, g_OVER, g_SAME, g_EMPTY, g_FLAG, inD, d1, d2, c4, c5, c6, c7], by simp⟩
        | a :: b :: t, e =>
          have z1 : ¬ (t.length : Int) + 1 + 1 = 1 := by omega
          simp at e
          exact ⟨false, by simp [b_is_test, e, cut_from1, g_FIRST, g_LAST, g_OVER, g_SAME, inD, d1, d2, c4, c5, z1], by simp⟩
  obtain ⟨r, e, hr⟩ := key
  refine ⟨r, e, hr, ?_⟩
  rintro ⟨p, h, rfl⟩
  have := is_test_t n p S
  rw [e, h] at this
  simpa using this
end Law

namespace Law
open PySem L2 G
theorem Gd.tup {k : Nat} {xs : List D} (g : Gd k (.tuple xs)) : ∃ j, k = j + 1 ∧ xs.length ≤ 1000 ∧ ∀ x ∈ xs, Gd j x := by
  cases k with
  | zero => simp [Gd] at g
  | succ j =>
    simp only [Gd] at g
    exact ⟨j, rfl, g⟩
def IfD (t : Tst) (a b : D) : D := .tuple [wS "if", t.enc, a, b]
theorem looks_any (n : Nat) {k : Nat} (x : D) (g : Gd k x) (S : Store) : ∃ r, FS defs (n + 4) "looks_like_if" [.d x] S = some (.ok (.d (.bool r)) S) ∧ (r = true ↔ ∃ (t : Tst) (a b : D), t.ok = true ∧ x = .tuple [wS "if", t.enc, a, b]) := by
  have h1 := isa_tuple g
  rw [run_looks_like_if]
  cases x with
  | tuple xs =>
    obtain ⟨j, rfl, _, g2⟩ := g.tup
    match xs, g2 with
    | [], _ => exact ⟨false, by simp [b_looks_like_if], by simp⟩
    | [a], _ => exact ⟨false, by simp [b_looks_like_if], by simp⟩
    | [a, b], _ => exact ⟨false, by simp [b_looks_like_if], by simp⟩
    | [a, b, c], _ => exact ⟨false, by simp [b_looks_like_if], by simp⟩
    | a :: b :: c :: d :: e :: t, _ =>
      have z : ¬ (t.length : Int) + 1 + 1 + 1 + 1 + 1 = 4 := by omega
      exact ⟨false, by simp [b_looks_like_if, z], by simp⟩
    | [w, y, a, b], g2 =>
      have h2 := isa_str (g2 w (by simp))
      simp at h2
      cases w with
      | str s =>
        by_cases c : s = Str.ofString "if"
        · subst c
          obtain ⟨r, e, hr⟩ := is_test_any n y (g2 y (by simp)) S
          refine ⟨r, by simp [b_looks_like_if, g_IF, e], ?_⟩
          rw [hr]
          constructor
          · rintro ⟨p, h, rfl⟩
            exact ⟨p, a, b, h, rfl⟩
          · rintro ⟨t, a', b', h, e⟩
            simp only [PyData.tuple.injEq, List.cons.injEq] at e
            exact ⟨t, h, e.2.1⟩
        · refine ⟨false, by simp [b_looks_like_if, g_IF, c], ?_⟩
          constructor
          · simp
          · rintro ⟨t, a', b', h, e⟩
            simp only [PyData.tuple.injEq, List.cons.injEq, PyData.str.injEq] at e
            exact absurd e.1 c
      | dict kvs => have := g2 (.dict kvs) (by simp); cases j <;> simp [Gd] at this
      | _ => exact ⟨false, by simp [isS] at h2; simp [b_looks_like_if, h2], by simp⟩
  | dict kvs => cases k <;> simp [Gd] at g
  | _ => exact ⟨false, by simp [isT] at h1; simp [b_looks_like_if, h1], by simp⟩
theorem needs_ifD (n : Nat) (t : Tst) (a b : D) (S : Store) : FS defs (n + 1) "needs_item" [.d (.tuple [wS "if", t.enc, a, b])] S = some (.ok (.d (.bool t.needs)) S) := by
  rw [run_needs_item]
  cases t with
  | over a b => simp [b_needs_item, Tst.enc, g_IF, g_TAKE, g_FIRST, g_LAST, g_ITEM, Tst.needs, Th.ni]
  | same a b => simp [b_needs_item, Tst.enc, g_IF, g_TAKE, g_FIRST, g_LAST, g_ITEM, Tst.needs, Th.ni]
  | _ => simp [b_needs_item, Tst.enc, g_IF, g_TAKE, g_FIRST, g_LAST, g_ITEM, Tst.needs, Hd.ni, Fg.ni]
theorem Tst.needs_of {t u : Tst} (h : t.enc = u.enc) : t.needs = u.needs := by
  have h1 := needs_ifD 0 t .none .none []
  rw [h, needs_ifD 0 u .none .none []] at h1
  simpa using h1.symm
theorem Pl.needs_of {t u : Pl} (h : t.enc = u.enc) : t.needs = u.needs := by
  have h1 := needs_pl 0 t []
  rw [h, needs_pl 0 u []] at h1
  simpa using h1.symm
def StmD (e : Bool) (d : Nat) (x : D) : Prop := ∃ s : Stm, x = s.enc ∧ s.ok e d = true
def BodyD (e : Bool) (d : Nat) (x : D) : Prop := ∃ b : Body, x = b.enc ∧ b.oks e d = true ∧ b.len ≤ 8
theorem stmD_if {e : Bool} {d : Nat} {y a b : D} : StmD e d (.tuple [wS "if", y, a, b]) ↔ (∃ t : Tst, y = t.enc ∧ t.ok = true ∧ (e || !t.needs) = true) ∧ BodyD e d a ∧ BodyD e d b := by
  constructor
  · rintro ⟨s, e1, h⟩
    cases s with
    | pl p =>
      obtain ⟨w, r, e2, hw⟩ := Pl.enc_eq p
      rw [Stm.enc, e2] at e1
      simp only [PyData.tuple.injEq, List.cons.injEq, PyData.str.injEq, ofString_inj] at e1
      exact absurd e1.1.symm hw
    | ifs t a' b' =>
      simp only [Stm.enc, PyData.tuple.injEq, List.cons.injEq] at e1
      simp only [Stm.ok, Bool.and_eq_true, decide_eq_true_eq] at h
      obtain ⟨⟨⟨⟨⟨t1, t2⟩, a1⟩, b1⟩, a2⟩, b2⟩ := h
      exact ⟨⟨t, e1.2.1, t1, t2⟩, ⟨a', e1.2.2.1, a1, a2⟩, ⟨b', e1.2.2.2.1, b1, b2⟩⟩
  · rintro ⟨⟨t, rfl, t1, t2⟩, ⟨a', rfl, a1, a2⟩, ⟨b', rfl, b1, b2⟩⟩
    refine ⟨.ifs t a' b', rfl, ?_⟩
    simp only [Stm.ok, Bool.and_eq_true, decide_eq_true_eq]
    exact ⟨⟨⟨⟨⟨t1, t2⟩, a1⟩, b1⟩, a2⟩, b2⟩
theorem Pl.not_if (p : Pl) (y a b : D) : p.enc ≠ .tuple [wS "if", y, a, b] := by
  obtain ⟨w, r, e2, hw⟩ := Pl.enc_eq p
  rw [e2]
  intro e1
  simp only [PyData.tuple.injEq, List.cons.injEq, PyData.str.injEq, ofString_inj] at e1
  exact hw e1.1
theorem stmD_pl {e : Bool} {d : Nat} {p : Pl} (h : p.ok = true) : StmD e d p.enc ↔ (e || !p.needs) = true := by
  constructor
  · rintro ⟨s, e1, hs⟩
    cases s with
    | pl q =>
      simp only [Stm.ok, Bool.and_eq_true] at hs
      rw [Pl.needs_of e1]
      exact hs.2
    | ifs t a b => exact absurd e1 (p.not_if _ _ _)
  · intro hn
    exact ⟨.pl p, rfl, by simp only [Stm.ok, h, hn, Bool.and_self]⟩
theorem bodyD_tup {e : Bool} {d : Nat} : ∀ {xs : List D}, (∃ b : Body, xs = b.encs ∧ b.oks e (d + 1) = true) ↔ ∀ x ∈ xs, StmD e d x
  | [] => ⟨fun _ => by simp, fun _ => ⟨.nil, rfl, rfl⟩⟩
  | x :: xs => by
    have ih := bodyD_tup (e := e) (d := d) (xs := xs)
    constructor
    · rintro ⟨b, e1, h⟩
      cases b with
      | nil => simp [Body.encs] at e1
      | cons s r =>
        simp only [Body.encs, List.cons.injEq] at e1
        simp only [Body.oks, Bool.and_eq_true] at h
        intro y hy
        rcases List.mem_cons.mp hy with rfl | hy
        · exact ⟨s, e1.1, h.1⟩
        · exact ih.mp ⟨r, e1.2, h.2⟩ y hy
    · intro h
      obtain ⟨s, e1, h1⟩ := h x (by simp)
      obtain ⟨r, e2, h2⟩ := ih.mpr fun y hy => h y (by simp [hy])
      exact ⟨.cons s r, by rw [Body.encs, e1, e2], by simp only [Body.oks, h1, h2, Bool.and_self]⟩
theorem bodyD_iff {e : Bool} {d : Nat} {xs : List D} : BodyD e (d + 1) (.tuple xs) ↔ xs.length ≤ 8 ∧ ∀ x ∈ xs, StmD e d x := by
  rw [← bodyD_tup]
  constructor
  · rintro ⟨b, e1, h, hl⟩
    simp only [PyData.tuple.injEq] at e1
    subst e1
    exact ⟨by rw [Body.encs_len]; exact hl, b, rfl, h⟩
  · rintro ⟨hl, b, rfl, h⟩
    exact ⟨b, rfl, h, by rw [← Body.encs_len]; exact hl⟩
theorem bodyD_zero {e : Bool} {xs : List D} : BodyD e 0 (.tuple xs) ↔ xs = [] := by
  constructor
  · rintro ⟨b, e1, h, hl⟩
    simp only [PyData.tuple.injEq] at e1
    subst e1
    cases b with
    | nil => rfl
    | cons s r => simp [Body.oks] at h
  · rintro rfl
    exact ⟨.nil, rfl, rfl, by decide⟩
theorem iba_loop (n d : Nat) (e : Bool) (v0 : Option Val) (S : Store) {k : Nat} (rec_ : ∀ x, Gd k x → ∃ r, FS defs (n + d + 5) "is_body" [.d x, .d (.bool e), .d (.int (d : Int))] S = some (.ok (.d (.bool r)) S) ∧ (r = true ↔ BodyD e d x)) :
    ∀ (xs : List D) (v3 : Option Val), (∀ x ∈ xs, Gd k x) → ∃ out, forL (gN 3) (evSs (FS defs (n + d + 5)) ibBody) xs [v0, some (.d (.bool e)), some (.d (.int ((d : Int) + 1))), v3] S = some (.ok out S) ∧
      (((∀ x ∈ xs, StmD e d x) ∧ ∃ v3', out = .nx [v0, some (.d (.bool e)), some (.d (.int ((d : Int) + 1))), v3']) ∨ ((¬ ∀ x ∈ xs, StmD e d x) ∧ out = .ret (.d (.bool false))))
  | [], v3, _ => ⟨_, rfl, .inl ⟨by simp, v3, rfl⟩⟩
  | x :: xs, v3, g => by
    obtain ⟨out, h1, h2⟩ := iba_loop n d e v0 S rec_ xs (some (.d x)) fun y hy => g y (by simp [hy])
    simp [ibBody, b_is_body] at h1
    have gx := g x (by simp)
    have good : StmD e d x → forL (gN 3) (evSs (FS defs (n + d + 5)) ibBody) (x :: xs) [v0, some (.d (.bool e)), some (.d (.int ((d : Int) + 1))), v3] S = some (.ok out S) → ∃ out, forL (gN 3) (evSs (FS defs (n + d + 5)) ibBody) (x :: xs) [v0, some (.d (.bool e)), some (.d (.int ((d : Int) + 1))), v3] S = some (.ok out S) ∧
        (((∀ z ∈ x :: xs, StmD e d z) ∧ ∃ v3', out = .nx [v0, some (.d (.bool e)), some (.d (.int ((d : Int) + 1))), v3']) ∨ ((¬ ∀ z ∈ x :: xs, StmD e d z) ∧ out = .ret (.d (.bool false)))) := fun hx hw => by
      refine ⟨out, hw, ?_⟩
      rcases h2 with ⟨a, b⟩ | ⟨a, b⟩
      · exact .inl ⟨fun y hy => by
          rcases List.mem_cons.mp hy with rfl | hy
          · exact hx
          · exact a y hy, b⟩
      · exact .inr ⟨fun z => a fun y hy => z y (by simp [hy]), b⟩
    have bad : ¬ StmD e d x → forL (gN 3) (evSs (FS defs (n + d + 5)) ibBody) (x :: xs) [v0, some (.d (.bool e)), some (.d (.int ((d : Int) + 1))), v3] S = some (.ok (.ret (.d (.bool false))) S) → ∃ out, forL (gN 3) (evSs (FS defs (n + d + 5)) ibBody) (x :: xs) [v0, some (.d (.bool e)), some (.d (.int ((d : Int) + 1))), v3] S = some (.ok out S) ∧
        (((∀ z ∈ x :: xs, StmD e d z) ∧ ∃ v3', out = .nx [v0, some (.d (.bool e)), some (.d (.int ((d : Int) + 1))), v3']) ∨ ((¬ ∀ z ∈ x :: xs, StmD e d z) ∧ out = .ret (.d (.bool false)))) := fun hx hw =>
      ⟨_, hw, .inr ⟨fun z => hx (z x (by simp)), rfl⟩⟩
    obtain ⟨r, q1, hr⟩ := looks_any (n + d + 1) x gx S
    rw [forL_cons] at good bad ⊢
    cases r with
    | true =>
      obtain ⟨t, a, b, ht, rfl⟩ := hr.mp rfl
      obtain ⟨j, rfl, _, g2⟩ := gx.tup
      obtain ⟨ra, qa, ha⟩ := rec_ a (Gd.up (by omega) (g2 a (by simp)))
      obtain ⟨rb, qb, hb⟩ := rec_ b (Gd.up (by omega) (g2 b (by simp)))
      have q3 := needs_ifD (n + d + 4) t a b S
      have eS : StmD e d (.tuple [wS "if", t.enc, a, b]) ↔ (e || !t.needs) = true ∧ ra = true ∧ rb = true := by
        rw [stmD_if, ha, hb]
        constructor
        · rintro ⟨⟨u, e1, e2, e3⟩, h⟩
          rw [Tst.needs_of e1]
          exact ⟨e3, h⟩
        · rintro ⟨h, k⟩
          exact ⟨⟨t, rfl, ht, h⟩, k⟩
      by_cases c : (e || !t.needs) = true ∧ ra = true ∧ rb = true
      · refine good (eS.mpr c) ?_
        obtain ⟨c1, rfl, rfl⟩ := c
        revert c1 q3
        cases t.needs <;> cases e <;> intro q3 c1 <;> simp at c1 <;> simp [ibBody, b_is_body, q1, q3, qa, qb, h1]
      · refine bad (fun z => c (eS.mp z)) ?_
        revert c q3 qa qb
        cases t.needs <;> cases e <;> cases ra <;> cases rb <;> intro q3 qa qb c <;> simp at c <;> simp [ibBody, b_is_body, q1, q3, qa, qb]
    | false =>
      obtain ⟨rp, q2, hp⟩ := is_plain_any (n + d + 2) x gx S
      cases rp with
      | true =>
        obtain ⟨p, hok, rfl⟩ := hp.mp rfl
        have q3 := needs_pl (n + d + 4) p S
        have eS := stmD_pl (e := e) (d := d) hok
        by_cases c : (e || !p.needs) = true
        · refine good (eS.mpr c) ?_
          revert c q3
          cases p.needs <;> cases e <;> intro q3 c <;> simp at c <;> simp [ibBody, b_is_body, q1, q2, q3, h1]
        · refine bad (fun z => c (eS.mp z)) ?_
          revert c q3
          cases p.needs <;> cases e <;> intro q3 c <;> simp at c <;> simp [ibBody, b_is_body, q1, q2, q3]
      | false =>
        refine bad ?_ ?_
        · rintro ⟨s, e1, h⟩
          cases s with
          | pl p =>
            simp only [Stm.ok, Bool.and_eq_true] at h
            have := hp.mpr ⟨p, h.1, e1⟩
            cases this
          | ifs t a b =>
            simp only [Stm.ok, Bool.and_eq_true, decide_eq_true_eq] at h
            have := hr.mpr ⟨t, _, _, h.1.1.1.1.1, e1⟩
            cases this
        · simp [ibBody, b_is_body, q1, q2]
theorem is_body_any : ∀ (d n : Nat) (e : Bool) {k : Nat} (x : D) (S : Store), Gd k x → ∃ r, FS defs (n + d + 5) "is_body" [.d x, .d (.bool e), .d (.int (d : Int))] S = some (.ok (.d (.bool r)) S) ∧ (r = true ↔ BodyD e d x)
  | d, n, e, k, x, S, g => by
    have h1 := isa_tuple g
    rw [run_is_body]
    cases x with
    | tuple xs =>
      obtain ⟨j, rfl, _, g2⟩ := g.tup
      cases d with
      | zero =>
        cases xs with
        | nil => exact ⟨true, by simp [b_is_body, neD_tnil], by simp [bodyD_zero]⟩
        | cons y ys =>
          refine ⟨false, ?_, by simp [bodyD_zero]⟩
          by_cases c : (8 : Int) < ((y :: ys).length : Int)
          · simp at c; simp [b_is_body, neD_tnil, c]
          · simp at c; have c' : ¬ (8 : Int) < (ys.length : Int) + 1 := by omega
            simp [b_is_body, neD_tnil, c']
      | succ d =>
        have dz : ¬ (d : Int) + 1 = 0 := by omega
        by_cases c : xs.length ≤ 8
        · obtain ⟨out, w, ho⟩ := iba_loop n d e (some (.d (.tuple xs))) S (k := j) (fun x gx => is_body_any d n e x S gx) xs none g2
          have hl' : ¬ (8 : Int) < (xs.length : Int) := by omega
          rw [show n + (d + 1) + 4 = n + d + 5 from by omega]
          simp [ibBody, b_is_body] at w
          rcases ho with ⟨h2, v3', rfl⟩ | ⟨h2, rfl⟩
          · exact ⟨true, by simp [b_is_body, hl', dz, w], by simp only [bodyD_iff, true_iff]; exact ⟨c, h2⟩⟩
          · exact ⟨false, by simp [b_is_body, hl', dz, w], by
              rw [bodyD_iff]
              constructor
              · simp
              · exact fun z => absurd z.2 h2⟩
        · have hl' : (8 : Int) < (xs.length : Int) := by omega
          exact ⟨false, by simp [b_is_body, hl'], by
            rw [bodyD_iff]
            constructor
            · simp
            · exact fun z => absurd z.1 c⟩
    | dict kvs => cases k <;> simp [Gd] at g
    | _ => exact ⟨false, by simp [isT] at h1; simp [b_is_body, h1], by simp [BodyD, Body.enc]⟩
end Law

namespace Law
open PySem L2 G
/-! the law's own checks, of what has the form -/
theorem law_thing_t (n : Nat) (t : Th) (e : Bool) (S : Store) : FS defs (n + 1) "_law_is_thing" [.d (wS t.s), .d (.bool e)] S = some (.ok (.d (.bool (e || !t.inE))) S) := by
  rw [run__law_is_thing]
  cases t with
  | item => cases e <;> simp [b__law_is_thing, repL, okR, Th_i, Th.inE]
  | h a => cases a <;> cases e <;> simp [b__law_is_thing, repL, okR, Th_h, Hd_x, Hd_y, Hd_z, Th.inE]
theorem law_plain_p (n : Nat) (p : Pl) (e : Bool) (h : p.ok = true) (S : Store) : FS defs (n + 2) "_law_is_plain" [.d p.enc, .d (.bool e)] S = some (.ok (.d (.bool (e || !p.needs))) S) := by
  rw [run__law_is_plain]
  cases p with
  | take a =>
    have q := law_thing_t n (.h a) false S
    rw [Th_h] at q
    cases e <;> simp [b__law_is_plain, Pl.enc, q, Pl.needs, Th.inE]
  | copy a b =>
    have q1 := law_thing_t n (.h a) false S
    have q2 := law_thing_t n (.h b) false S
    rw [Th_h] at q1 q2
    simp only [Pl.ok, decide_eq_true_eq] at h
    have h' : ¬ a.s = b.s := fun z => h (Hd.s_inj z)
    simp [b__law_is_plain, Pl.enc, q1, q2, h', Pl.needs, Th.inE]
  | drop a =>
    have q := law_thing_t n (.h a) false S
    rw [Th_h] at q
    cases e <;> simp [b__law_is_plain, Pl.enc, q, Pl.needs, Th.inE]
  | up f => cases f <;> simp [b__law_is_plain, Pl.enc, Fg_p, Fg_q, Pl.needs]
  | down f => cases f <;> simp [b__law_is_plain, Pl.enc, Fg_p, Fg_q, Pl.needs]
  | print t =>
    have q := law_thing_t n t e S
    cases e <;> simp [b__law_is_plain, Pl.enc, q, Pl.needs]
theorem law_test_t (n : Nat) (t : Tst) (e : Bool) (h : t.ok = true) (S : Store) : FS defs (n + 2) "_law_is_test" [.d t.enc, .d (.bool e)] S = some (.ok (.d (.bool (e || !t.needs))) S) := by
  rw [run__law_is_test]
  cases t with
  | first => cases e <;> simp [b__law_is_test, Tst.enc, eqD_tnil, Tst.needs]
  | last => cases e <;> simp [b__law_is_test, Tst.enc, eqD_tnil, Tst.needs]
  | empty a => cases a <;> simp [b__law_is_test, Tst.enc, eqD_tnil, Hd_x, Hd_y, Hd_z, Tst.needs]
  | flag f => cases f <;> simp [b__law_is_test, Tst.enc, eqD_tnil, Fg_p, Fg_q, Tst.needs]
  | over a b =>
    have q1 := law_thing_t n a e S
    have q2 := law_thing_t n b e S
    simp only [Tst.ok, decide_eq_true_eq] at h
    have h' : ¬ a.s = b.s := fun z => h (Th.s_inj z)
    simp [b__law_is_test, Tst.enc, eqD_tnil, h', q1, q2, Tst.needs]
    cases e <;> cases a.inE <;> simp [q2]
  | same a b =>
    have q1 := law_thing_t n a e S
    have q2 := law_thing_t n b e S
    simp only [Tst.ok, decide_eq_true_eq] at h
    have h' : ¬ a.s = b.s := fun z => h (Th.s_inj z)
    simp [b__law_is_test, Tst.enc, eqD_tnil, h', q1, q2, Tst.needs]
    cases e <;> cases a.inE <;> simp [q2]
def lbdBody : MSs := match b__law_is_body with
  | .cons _ (.cons (.for _ _ b) _) => b
  | _ => .nil
theorem eqD_gd {k : Nat} {x y : D} (g : Gd k x) (h : k ≤ 60) : eqD x y = some (.bool (PyData.eqv x y)) := by
  have := g.dep
  unfold eqD shal
  rw [if_pos (decide_eq_true (Nat.le_trans (Nat.min_le_left _ _) (by omega)))]
theorem law_thing_any (n : Nat) {k : Nat} (x : D) (e : Bool) (g : Gd k x) (S : Store) : ∃ r, FS defs (n + 1) "_law_is_thing" [.d x, .d (.bool e)] S = some (.ok (.d (.bool r)) S) ∧ (r = true ↔ ∃ t : Th, x = wS t.s ∧ (e || !t.inE) = true) := by
  have key : ∃ r, FS defs (n + 1) "_law_is_thing" [.d x, .d (.bool e)] S = some (.ok (.d (.bool r)) S) ∧ (r = true → ∃ t : Th, x = wS t.s ∧ (e || !t.inE) = true) := by
    have h1 := isa_str g
    cases x with
    | str s =>
      by_cases h : thS s
      · obtain ⟨t, rfl⟩ := h
        exact ⟨_, law_thing_t n t e S, fun z => ⟨t, rfl, z⟩⟩
      · obtain ⟨h2, h3⟩ := thS_no h
        obtain ⟨z1, z2, z3⟩ := hdS_no h2
        have z4 : ¬ Str.ofString "item" = s := fun z => h3 z.symm
        refine ⟨false, ?_, by simp⟩
        rw [run__law_is_thing]
        cases e <;> simp [b__law_is_thing, repL, okR, inD, z1, z2, z3, z4]
    | dict kvs => cases k <;> simp [Gd] at g
    | _ =>
      refine ⟨false, ?_, by simp⟩
      rw [run__law_is_thing]
      simp [isS] at h1
      cases e <;> simp [b__law_is_thing, repL, okR, h1]
  obtain ⟨r, q, hr⟩ := key
  refine ⟨r, q, hr, ?_⟩
  rintro ⟨t, rfl, h⟩
  have := law_thing_t n t e S
  rw [q, h] at this
  simpa using this
theorem law_holder_any (n : Nat) {k : Nat} (x : D) (g : Gd k x) (S : Store) : ∃ r, FS defs (n + 1) "_law_is_thing" [.d x, .d (.bool false)] S = some (.ok (.d (.bool r)) S) ∧ (r = true ↔ ∃ t : Hd, x = wS t.s) := by
  obtain ⟨r, q, hr⟩ := law_thing_any n x false g S
  refine ⟨r, q, hr.trans ?_⟩
  constructor
  · rintro ⟨t, rfl, h⟩
    cases t with
    | h a => exact ⟨a, rfl⟩
    | item => simp [Th.inE] at h
  · rintro ⟨a, rfl⟩
    exact ⟨.h a, rfl, rfl⟩
theorem law_plain_any (n : Nat) {k : Nat} (x : D) (e : Bool) (g : Gd k x) (hk : k ≤ 60) (S : Store) : ∃ r, FS defs (n + 2) "_law_is_plain" [.d x, .d (.bool e)] S = some (.ok (.d (.bool r)) S) ∧ (r = true ↔ ∃ p : Pl, p.ok = true ∧ (e || !p.needs) = true ∧ x = p.enc) := by
  have key : ∃ r, FS defs (n + 2) "_law_is_plain" [.d x, .d (.bool e)] S = some (.ok (.d (.bool r)) S) ∧ (r = true → ∃ p : Pl, p.ok = true ∧ (e || !p.needs) = true ∧ x = p.enc) := by
    have h1 := isa_tuple g
    rw [run__law_is_plain]
    cases x with
    | tuple xs =>
      obtain ⟨j, rfl, _, g2⟩ := g.tup
      match xs, g2 with
      | [], _ => exact ⟨false, by simp [b__law_is_plain], by simp⟩
      | [a], _ => exact ⟨false, by simp [b__law_is_plain], by simp⟩
      | a :: b :: t, g2 =>
        have z0 : ¬ (t.length : Int) + 1 + 1 < 2 := by omega
        have ga := g2 a (by simp)
        have gb := g2 b (by simp)
        have h2 := isa_str ga
        cases a with
        | str s =>
          by_cases c1 : s = Str.ofString "copy"
          · subst c1
            match t, g2 with
            | [], _ => exact ⟨false, by simp [b__law_is_plain], by simp⟩
            | c :: d :: t, _ =>
              have z1 : ¬ (t.length : Int) + 1 + 1 + 1 + 1 = 3 := by omega
              have z2 : ¬ (t.length : Int) + 1 + 1 + 1 + 1 < 2 := by omega
              exact ⟨false, by simp [b__law_is_plain, z1, z2], by simp⟩
            | [c], g2 =>
              have gc := g2 c (by simp)
              have q1 := eqD_gd (y := c) gb (by omega)
              obtain ⟨rb, qb, hb⟩ := law_holder_any n b gb S
              obtain ⟨rc, qc, hc⟩ := law_holder_any n c gc S
              cases hq : PyData.eqv b c with
              | true => rw [hq] at q1; exact ⟨false, by simp [b__law_is_plain, q1], by simp⟩
              | false =>
                rw [hq] at q1
                cases rb with
                | false => exact ⟨false, by simp [b__law_is_plain, q1, qb], by simp⟩
                | true =>
                  refine ⟨rc, by simp [b__law_is_plain, q1, qb, qc], fun hrc => ?_⟩
                  obtain ⟨hb', rfl⟩ := hb.mp rfl
                  obtain ⟨hc', rfl⟩ := hc.mp hrc
                  refine ⟨.copy hb' hc', ?_, by simp [Pl.needs], rfl⟩
                  simp only [Pl.ok, decide_eq_true_eq]
                  rintro rfl
                  rw [SeqAt.eqv_refl_plain _ (by simp [PyData.plain])] at hq
                  cases hq
          · match t, g2 with
            | c :: t, _ =>
              have z1 : ¬ (t.length : Int) + 1 + 1 + 1 = 2 := by omega
              have z2 : ¬ (t.length : Int) + 1 + 1 + 1 < 2 := by omega
              exact ⟨false, by simp [b__law_is_plain, c1, z1, z2], by simp⟩
            | [], _ =>
              by_cases c2 : s = Str.ofString "up" ∨ s = Str.ofString "down"
              · have hb := isa_str gb
                cases b with
                | str a =>
                  by_cases h : fgS a
                  · obtain ⟨a, rfl⟩ := h
                    rcases c2 with rfl | rfl
                    · exact ⟨true, by cases a <;> simp [b__law_is_plain, Fg_p, Fg_q], fun _ => ⟨.up a, rfl, by simp [Pl.needs], rfl⟩⟩
                    · exact ⟨true, by cases a <;> simp [b__law_is_plain, Fg_p, Fg_q], fun _ => ⟨.down a, rfl, by simp [Pl.needs], rfl⟩⟩
                  · obtain ⟨y1, y2⟩ := fgS_no h
                    rcases c2 with rfl | rfl <;> exact ⟨false, by simp [b__law_is_plain, inD, y1, y2], by simp⟩
                | dict kvs => cases j <;> simp [Gd] at gb
                | _ => simp [isS] at hb; rcases c2 with rfl | rfl <;> exact ⟨false, by simp [b__law_is_plain, hb], by simp⟩
              · have d1 : ¬ Str.ofString "up" = s := fun z => c2 (.inl z.symm)
                have d2 : ¬ Str.ofString "down" = s := fun z => c2 (.inr z.symm)
                by_cases c3 : s = Str.ofString "take"
                · subst c3
                  obtain ⟨rb, qb, hb⟩ := law_holder_any n b gb S
                  cases e with
                  | false => exact ⟨false, by simp [b__law_is_plain], by simp⟩
                  | true =>
                    refine ⟨rb, by simp [b__law_is_plain, qb], fun hrb => ?_⟩
                    obtain ⟨a, rfl⟩ := hb.mp hrb
                    exact ⟨.take a, rfl, rfl, rfl⟩
                · by_cases c4 : s = Str.ofString "drop"
                  · subst c4
                    obtain ⟨rb, qb, hb⟩ := law_holder_any n b gb S
                    refine ⟨rb, by cases e <;> simp [b__law_is_plain, qb], fun hrb => ?_⟩
                    obtain ⟨a, rfl⟩ := hb.mp hrb
                    exact ⟨.drop a, rfl, by simp [Pl.needs], rfl⟩
                  · by_cases c5 : s = Str.ofString "print"
                    · subst c5
                      obtain ⟨rb, qb, hb⟩ := law_thing_any n b e gb S
                      refine ⟨rb, by cases e <;> simp [b__law_is_plain, qb], fun hrb => ?_⟩
                      obtain ⟨a, rfl, h⟩ := hb.mp hrb
                      exact ⟨.print a, rfl, h, rfl⟩
                    · have d4 : ¬ Str.ofString "drop" = s := fun z => c4 z.symm
                      have d5 : ¬ Str.ofString "print" = s := fun z => c5 z.symm
                      exact ⟨false, by simp [b__law_is_plain, inD, c1, d1, d2, c3, d4, d5], by simp⟩
        | dict kvs => cases j <;> simp [Gd] at ga
        | _ => exact ⟨false, by simp [isS] at h2; simp [b__law_is_plain, z0, h2], by simp⟩
    | dict kvs => cases k <;> simp [Gd] at g
    | _ => exact ⟨false, by simp [isT] at h1; simp [b__law_is_plain, h1], by simp⟩
  obtain ⟨r, q, hr⟩ := key
  refine ⟨r, q, hr, ?_⟩
  rintro ⟨p, h, h2, rfl⟩
  have := law_plain_p n p e h S
  rw [q, h2] at this
  simpa using this
theorem law_test_any (n : Nat) {k : Nat} (x : D) (e : Bool) (g : Gd k x) (hk : k ≤ 60) (S : Store) : ∃ r, FS defs (n + 2) "_law_is_test" [.d x, .d (.bool e)] S = some (.ok (.d (.bool r)) S) ∧ (r = true ↔ ∃ t : Tst, t.ok = true ∧ (e || !t.needs) = true ∧ x = t.enc) := by
  have key : ∃ r, FS defs (n + 2) "_law_is_test" [.d x, .d (.bool e)] S = some (.ok (.d (.bool r)) S) ∧ (r = true → ∃ t : Tst, t.ok = true ∧ (e || !t.needs) = true ∧ x = t.enc) := by
    have h1 := isa_tuple g
    rw [run__law_is_test]
    cases x with
    | tuple xs =>
      obtain ⟨j, rfl, _, g2⟩ := g.tup
      match xs, g2 with
      | [], _ => exact ⟨false, by simp [b__law_is_test, eqD_tnil], by simp⟩
      | a :: t, g2 =>
        have ga := g2 a (by simp)
        have h2 := isa_str ga
        cases a with
        | str s =>
          by_cases c1 : s = Str.ofString "first" ∨ s = Str.ofString "last"
          · cases e with
            | false => rcases c1 with rfl | rfl <;> exact ⟨false, by simp [b__law_is_test, eqD_tnil], by simp⟩
            | true =>
              cases t with
              | nil =>
                rcases c1 with rfl | rfl
                · exact ⟨true, by simp [b__law_is_test, eqD_tnil], fun _ => ⟨.first, rfl, rfl, rfl⟩⟩
                · exact ⟨true, by simp [b__law_is_test, eqD_tnil], fun _ => ⟨.last, rfl, rfl, rfl⟩⟩
              | cons b t =>
                have z1 : ¬ (t.length : Int) + 1 + 1 = 1 := by omega
                rcases c1 with rfl | rfl <;> exact ⟨false, by simp [b__law_is_test, eqD_tnil, z1], by simp⟩
          have d1 : ¬ Str.ofString "first" = s := fun z => c1 (.inl z.symm)
          have d2 : ¬ Str.ofString "last" = s := fun z => c1 (.inr z.symm)
          by_cases c3 : s = Str.ofString "over" ∨ s = Str.ofString "same"
          · match t, g2 with
            | [], _ => rcases c3 with rfl | rfl <;> exact ⟨false, by simp [b__law_is_test, eqD_tnil], by simp⟩
            | [b], _ => rcases c3 with rfl | rfl <;> exact ⟨false, by simp [b__law_is_test, eqD_tnil], by simp⟩
            | b :: c :: d :: t, _ =>
              have z1 : ¬ (t.length : Int) + 1 + 1 + 1 + 1 = 3 := by omega
              rcases c3 with rfl | rfl <;> exact ⟨false, by simp [b__law_is_test, eqD_tnil, z1], by simp⟩
            | [b, c], g2 =>
              have gb := g2 b (by simp)
              have gc := g2 c (by simp)
              have q1 := eqD_gd (y := c) gb (by omega)
              obtain ⟨rb, qb, hb⟩ := law_thing_any n b e gb S
              obtain ⟨rc, qc, hc⟩ := law_thing_any n c e gc S
              cases hq : PyData.eqv b c with
              | true => rw [hq] at q1; rcases c3 with rfl | rfl <;> exact ⟨false, by simp [b__law_is_test, eqD_tnil, q1], by simp⟩
              | false =>
                rw [hq] at q1
                cases rb with
                | false => rcases c3 with rfl | rfl <;> exact ⟨false, by simp [b__law_is_test, eqD_tnil, q1, qb], by simp⟩
                | true =>
                  have fin : rc = true → ∃ u v : Th, b = wS u.s ∧ c = wS v.s ∧ u ≠ v ∧ (e || !(u.inE || v.inE)) = true := fun hrc => by
                    obtain ⟨u, rfl, hu⟩ := hb.mp rfl
                    obtain ⟨v, rfl, hv⟩ := hc.mp hrc
                    refine ⟨u, v, rfl, rfl, ?_, ?_⟩
                    · rintro rfl
                      rw [SeqAt.eqv_refl_plain _ (by simp [PyData.plain])] at hq
                      cases hq
                    · revert hu hv
                      cases e <;> cases u.inE <;> cases v.inE <;> simp
                  rcases c3 with rfl | rfl
                  · refine ⟨rc, by simp [b__law_is_test, eqD_tnil, q1, qb, qc], fun hrc => ?_⟩
                    obtain ⟨u, v, rfl, rfl, huv, hn⟩ := fin hrc
                    exact ⟨.over u v, by simp [Tst.ok, huv], hn, rfl⟩
                  · refine ⟨rc, by simp [b__law_is_test, eqD_tnil, q1, qb, qc], fun hrc => ?_⟩
                    obtain ⟨u, v, rfl, rfl, huv, hn⟩ := fin hrc
                    exact ⟨.same u v, by simp [Tst.ok, huv], hn, rfl⟩
          have d3 : ¬ Str.ofString "over" = s := fun z => c3 (.inl z.symm)
          have d4 : ¬ Str.ofString "same" = s := fun z => c3 (.inr z.symm)
          match t, g2 with
          | [], _ => exact ⟨false, by simp [b__law_is_test, eqD_tnil, inD, d1, d2, d3, d4], by simp⟩
          | b :: c :: t, _ =>
            have z1 : ¬ (t.length : Int) + 1 + 1 + 1 = 2 := by omega
            exact ⟨false, by simp [b__law_is_test, eqD_tnil, inD, d1, d2, d3, d4, z1], by simp⟩
          | [b], g2 =>
            have gb := g2 b (by simp)
            have hb := isa_str gb
            cases b with
            | str a =>
              by_cases c4 : s = Str.ofString "empty"
              · subst c4
                by_cases h : hdS a
                · obtain ⟨a, rfl⟩ := h
                  exact ⟨true, by cases a <;> simp [b__law_is_test, eqD_tnil, Hd_x, Hd_y, Hd_z], fun _ => ⟨.empty a, rfl, by simp [Tst.needs], rfl⟩⟩
                · obtain ⟨y1, y2, y3⟩ := hdS_no h
                  exact ⟨false, by simp [b__law_is_test, eqD_tnil, inD, y1, y2, y3], by simp⟩
              by_cases c5 : s = Str.ofString "flag"
              · subst c5
                by_cases h : fgS a
                · obtain ⟨a, rfl⟩ := h
                  exact ⟨true, by cases a <;> simp [b__law_is_test, eqD_tnil, Fg_p, Fg_q], fun _ => ⟨.flag a, rfl, by simp [Tst.needs], rfl⟩⟩
                · obtain ⟨y1, y2⟩ := fgS_no h
                  exact ⟨false, by simp [b__law_is_test, eqD_tnil, inD, y1, y2], by simp⟩
              exact ⟨false, by simp [b__law_is_test, eqD_tnil, inD, d1, d2, d3, d4, c4, c5], by simp⟩
            | dict kvs => cases j <;> simp [Gd] at gb
            | _ => exact ⟨false, by simp [isS] at hb; simp [b__law_is_test, eqD_tnil, inD, d1, d2, d3, d4, hb], by simp⟩
        | dict kvs => cases j <;> simp [Gd] at ga
        | _ => exact ⟨false, by simp [isS] at h2; simp [b__law_is_test, eqD_tnil, h2], by simp⟩
    | dict kvs => cases k <;> simp [Gd] at g
    | _ => exact ⟨false, by simp [isT] at h1; simp [b__law_is_test, h1], by simp⟩
  obtain ⟨r, q, hr⟩ := key
  refine ⟨r, q, hr, ?_⟩
  rintro ⟨p, h, h2, rfl⟩
  have := law_test_t n p e h S
  rw [q, h2] at this
  simpa using this
end Law

namespace Law
open PySem L2 G
def K14 : Nat → Nat
  | 0 => 0
  | d + 1 => 1 + 16 * K14 d
mutual
theorem Stm.cnt_le (e : Bool) : ∀ (s : Stm) (d : Nat), s.ok e d = true → s.cnt ≤ K14 (d + 1)
  | .pl p, d, h => by simp only [Stm.cnt, K14]; omega
  | .ifs t a b, d, h => by
    simp only [Stm.ok, Bool.and_eq_true, decide_eq_true_eq] at h
    have h1 := Body.cnt_le e a d h.1.1.1.2
    have h2 := Body.cnt_le e b d h.1.1.2
    have h3 : a.len * K14 d ≤ 8 * K14 d := Nat.mul_le_mul_right _ h.1.2
    have h4 : b.len * K14 d ≤ 8 * K14 d := Nat.mul_le_mul_right _ h.2
    simp only [Stm.cnt, K14]
    omega
theorem Body.cnt_le (e : Bool) : ∀ (b : Body) (d : Nat), b.oks e d = true → b.cnt ≤ b.len * K14 d
  | .nil, d, h => by simp [Body.cnt]
  | .cons s r, 0, h => by simp [Body.oks] at h
  | .cons s r, d + 1, h => by
    simp only [Body.oks, Bool.and_eq_true] at h
    have h1 := Stm.cnt_le e s d h.1
    have h2 := Body.cnt_le e r (d + 1) h.2
    simp only [Body.cnt, Body.len, Nat.succ_mul]
    omega
end
theorem Gd.strH {k : Nat} {xs : List D} (g : Gd k (.tuple xs)) : xs.length = 4 → ∃ w y a b, xs = [w, y, a, b] := by
  intro h
  match xs, h with
  | [w, y, a, b], _ => exact ⟨w, y, a, b, rfl⟩
theorem lba_loop (n d : Nat) (e : Bool) (v0 : Option Val) (S : Store) {k : Nat} (hk : k ≤ 60) (rec_ : ∀ x, Gd k x → ∃ r, FS defs (n + d + 5) "_law_is_body" [.d x, .d (.int (d : Int)), .d (.bool e)] S = some (.ok (.d (.bool r)) S) ∧ (r = true ↔ BodyD e d x)) :
    ∀ (xs : List D) (v3 : Option Val), (∀ x ∈ xs, Gd k x) → ∃ out, forL (gN 3) (evSs (FS defs (n + d + 5)) lbdBody) xs [v0, some (.d (.int ((d : Int) + 1))), some (.d (.bool e)), v3] S = some (.ok out S) ∧
      (((∀ x ∈ xs, StmD e d x) ∧ ∃ v3', out = .nx [v0, some (.d (.int ((d : Int) + 1))), some (.d (.bool e)), v3']) ∨ ((¬ ∀ x ∈ xs, StmD e d x) ∧ out = .ret (.d (.bool false))))
  | [], v3, _ => ⟨_, rfl, .inl ⟨by simp, v3, rfl⟩⟩
  | x :: xs, v3, g => by
    obtain ⟨out, h1, h2⟩ := lba_loop n d e v0 S hk rec_ xs (some (.d x)) fun y hy => g y (by simp [hy])
    simp [lbdBody, b__law_is_body] at h1
    have gx := g x (by simp)
    have dz : ¬ (d : Int) + 1 = 0 := by omega
    have dm : (d : Int) + 1 - 1 = (d : Int) := by omega
    have good : StmD e d x → forL (gN 3) (evSs (FS defs (n + d + 5)) lbdBody) (x :: xs) [v0, some (.d (.int ((d : Int) + 1))), some (.d (.bool e)), v3] S = some (.ok out S) → ∃ out, forL (gN 3) (evSs (FS defs (n + d + 5)) lbdBody) (x :: xs) [v0, some (.d (.int ((d : Int) + 1))), some (.d (.bool e)), v3] S = some (.ok out S) ∧
        (((∀ z ∈ x :: xs, StmD e d z) ∧ ∃ v3', out = .nx [v0, some (.d (.int ((d : Int) + 1))), some (.d (.bool e)), v3']) ∨ ((¬ ∀ z ∈ x :: xs, StmD e d z) ∧ out = .ret (.d (.bool false)))) := fun hx hw => by
      refine ⟨out, hw, ?_⟩
      rcases h2 with ⟨a, b⟩ | ⟨a, b⟩
      · exact .inl ⟨fun y hy => by
          rcases List.mem_cons.mp hy with rfl | hy
          · exact hx
          · exact a y hy, b⟩
      · exact .inr ⟨fun z => a fun y hy => z y (by simp [hy]), b⟩
    have bad : ¬ StmD e d x → forL (gN 3) (evSs (FS defs (n + d + 5)) lbdBody) (x :: xs) [v0, some (.d (.int ((d : Int) + 1))), some (.d (.bool e)), v3] S = some (.ok (.ret (.d (.bool false))) S) → ∃ out, forL (gN 3) (evSs (FS defs (n + d + 5)) lbdBody) (x :: xs) [v0, some (.d (.int ((d : Int) + 1))), some (.d (.bool e)), v3] S = some (.ok out S) ∧
        (((∀ z ∈ x :: xs, StmD e d z) ∧ ∃ v3', out = .nx [v0, some (.d (.int ((d : Int) + 1))), some (.d (.bool e)), v3']) ∨ ((¬ ∀ z ∈ x :: xs, StmD e d z) ∧ out = .ret (.d (.bool false)))) := fun hx hw =>
      ⟨_, hw, .inr ⟨fun z => hx (z x (by simp)), rfl⟩⟩
    rw [forL_cons] at good bad ⊢
    -- not looked at as an "if"
    have els : (¬ ∃ y a b, x = .tuple [wS "if", y, a, b]) → (∀ rp, FS defs (n + d + 5) "_law_is_plain" [.d x, .d (.bool e)] S = some (.ok (.d (.bool rp)) S) → bnd (gN 3 (.d x) [v0, some (.d (.int ((d : Int) + 1))), some (.d (.bool e)), v3] S) (fun E S1 => bnd (evSs (FS defs (n + d + 5)) lbdBody E S1) (turnS (forL (gN 3) (evSs (FS defs (n + d + 5)) lbdBody) xs))) = if rp then some (.ok out S) else some (.ok (.ret (.d (.bool false))) S)) → ∃ out, bnd (gN 3 (.d x) [v0, some (.d (.int ((d : Int) + 1))), some (.d (.bool e)), v3] S) (fun E S1 => bnd (evSs (FS defs (n + d + 5)) lbdBody E S1) (turnS (forL (gN 3) (evSs (FS defs (n + d + 5)) lbdBody) xs))) = some (.ok out S) ∧
        (((∀ z ∈ x :: xs, StmD e d z) ∧ ∃ v3', out = .nx [v0, some (.d (.int ((d : Int) + 1))), some (.d (.bool e)), v3']) ∨ ((¬ ∀ z ∈ x :: xs, StmD e d z) ∧ out = .ret (.d (.bool false)))) := fun no w => by
      obtain ⟨rp, q2, hp⟩ := law_plain_any (n + d + 3) x e gx hk S
      have w2 := w rp q2
      cases rp with
      | true =>
        obtain ⟨p, hok, hn, rfl⟩ := hp.mp rfl
        exact good ((stmD_pl hok).mpr hn) w2
      | false =>
        refine bad ?_ w2
        rintro ⟨s, e1, h⟩
        cases s with
        | pl p =>
          simp only [Stm.ok, Bool.and_eq_true] at h
          have := hp.mpr ⟨p, h.1, h.2, e1⟩
          cases this
        | ifs t a b => exact no ⟨_, _, _, e1⟩
    have hT := isa_tuple gx
    cases x with
    | tuple ys =>
      by_cases l4 : ys.length = 4
      · obtain ⟨w, y, a, b, rfl⟩ := gx.strH l4
        obtain ⟨j, rfl, _, g2⟩ := gx.tup
        have hS := isa_str (g2 w (by simp))
        cases w with
        | str s =>
          by_cases c : s = Str.ofString "if"
          · subst c
            obtain ⟨rt, qt, ht⟩ := law_test_any (n + d + 3) y e (g2 y (by simp)) (by omega) S
            obtain ⟨ra, qa, ha⟩ := rec_ a (Gd.up (by omega) (g2 a (by simp)))
            obtain ⟨rb, qb, hb⟩ := rec_ b (Gd.up (by omega) (g2 b (by simp)))
            have eS : StmD e d (.tuple [wS "if", y, a, b]) ↔ rt = true ∧ ra = true ∧ rb = true := by
              rw [stmD_if, ha, hb, ht]
              constructor
              · rintro ⟨⟨u, e1, e2, e3⟩, h⟩
                exact ⟨⟨u, e2, e3, e1⟩, h⟩
              · rintro ⟨⟨u, e2, e3, e1⟩, h⟩
                exact ⟨⟨u, e1, e2, e3⟩, h⟩
            by_cases c : rt = true ∧ ra = true ∧ rb = true
            · refine good (eS.mpr c) ?_
              obtain ⟨rfl, rfl, rfl⟩ := c
              simp [lbdBody, b__law_is_body, dz, dm, qt, qa, qb, h1]
            · refine bad (fun z => c (eS.mp z)) ?_
              revert c qt qa qb
              cases rt <;> cases ra <;> cases rb <;> intro qt qa qb c <;> simp at c <;> simp [lbdBody, b__law_is_body, dz, dm, qt, qa, qb]
          · refine els ?_ fun rp q2 => ?_
            · rintro ⟨_, _, _, e1⟩
              simp only [PyData.tuple.injEq, List.cons.injEq, PyData.str.injEq] at e1
              exact c e1.1
            · cases rp <;> simp [lbdBody, b__law_is_body, dz, dm, c, q2, h1]
        | dict kvs => have := g2 (.dict kvs) (by simp); cases j <;> simp [Gd] at this
        | _ =>
          refine els (by simp) fun rp q2 => ?_
          simp [isS] at hS
          cases rp <;> simp [lbdBody, b__law_is_body, dz, dm, hS, q2, h1]
      · refine els ?_ fun rp q2 => ?_
        · rintro ⟨_, _, _, e1⟩
          simp only [PyData.tuple.injEq] at e1
          rw [e1] at l4
          exact l4 rfl
        · have l4' : ¬ (ys.length : Int) = 4 := by omega
          cases rp <;> simp [lbdBody, b__law_is_body, dz, dm, l4', q2, h1]
    | dict kvs => cases k <;> simp [Gd] at gx
    | _ =>
      refine els (by simp) fun rp q2 => ?_
      simp [isT] at hT
      cases rp <;> simp [lbdBody, b__law_is_body, dz, dm, hT, q2, h1]
theorem law_is_body_any : ∀ (d n : Nat) (e : Bool) {k : Nat} (x : D) (S : Store), Gd k x → k ≤ 60 → ∃ r, FS defs (n + d + 5) "_law_is_body" [.d x, .d (.int (d : Int)), .d (.bool e)] S = some (.ok (.d (.bool r)) S) ∧ (r = true ↔ BodyD e d x)
  | d, n, e, k, x, S, g, hk => by
    have h1 := isa_tuple g
    rw [run__law_is_body]
    cases x with
    | tuple xs =>
      obtain ⟨j, rfl, _, g2⟩ := g.tup
      cases d with
      | zero =>
        cases xs with
        | nil => exact ⟨true, by simp [b__law_is_body, forL], by simp [bodyD_zero]⟩
        | cons y ys =>
          refine ⟨false, ?_, by simp [bodyD_zero]⟩
          by_cases c : (8 : Int) < ((y :: ys).length : Int)
          · simp at c; simp [b__law_is_body, c]
          · simp at c; have c' : ¬ (8 : Int) < (ys.length : Int) + 1 := by omega
            simp [b__law_is_body, c', forL_cons]
      | succ d =>
        by_cases c : xs.length ≤ 8
        · obtain ⟨out, w, ho⟩ := lba_loop n d e (some (.d (.tuple xs))) S (k := j) (by omega) (fun x gx => law_is_body_any d n e x S gx (by omega)) xs none g2
          have hl' : ¬ (8 : Int) < (xs.length : Int) := by omega
          rw [show n + (d + 1) + 4 = n + d + 5 from by omega]
          simp [lbdBody, b__law_is_body] at w
          rcases ho with ⟨h2, v3', rfl⟩ | ⟨h2, rfl⟩
          · exact ⟨true, by simp [b__law_is_body, hl', w], by simp only [bodyD_iff, true_iff]; exact ⟨c, h2⟩⟩
          · exact ⟨false, by simp [b__law_is_body, hl', w], by
              rw [bodyD_iff]
              constructor
              · simp
              · exact fun z => absurd z.2 h2⟩
        · have hl' : (8 : Int) < (xs.length : Int) := by omega
          exact ⟨false, by simp [b__law_is_body, hl'], by
            rw [bodyD_iff]
            constructor
            · simp
            · exact fun z => absurd z.1 c⟩
    | dict kvs => cases k <;> simp [Gd] at g
    | _ => exact ⟨false, by simp [isT] at h1; simp [b__law_is_body, h1], by simp [BodyD, Body.enc]⟩
def LoopD (x : D) : Prop := ∃ l : Loop, x = l.enc ∧ l.ok 20
theorem bodyD_cnt {e : Bool} {b : Body} (h : b.oks e 4 = true) (hl : b.len ≤ 8) : b.cnt ≤ 40000 := by
  have h1 := Body.cnt_le e b 4 h
  have h2 : b.len * K14 4 ≤ 8 * K14 4 := Nat.mul_le_mul_right _ hl
  have : K14 4 = 4369 := by decide
  omega
theorem Body.cnt_of {b c : Body} (h1 : b.dep ≤ 4) (h2 : c.dep ≤ 4) (e : b.encs = c.encs) : b.cnt = c.cnt := by
  have q1 := count_b 4 0 b [] h1
  have q2 := count_b 4 0 c [] h2
  rw [Body.enc, e] at q1
  rw [Body.enc, q1] at q2
  simp at q2
  omega
theorem loopD_bodies {a b : D} {l : Loop} (e : PyData.tuple [a, b] = l.enc) : a = l.each.enc ∧ b = l.after.enc := by
  simp only [Loop.enc, PyData.tuple.injEq, List.cons.injEq] at e
  exact ⟨e.1, e.2.1⟩
theorem is_loop_any (n : Nat) {k : Nat} (x : D) (g : Gd k x) (S : Store) : ∃ r, FS defs (n + 10) "is_loop" [.d x] S = some (.ok (.d (.bool r)) S) ∧ (r = true ↔ LoopD x) := by
  have h1 := isa_tuple g
  have no : (¬ ∃ a b, x = .tuple [a, b]) → ¬ LoopD x := fun h ⟨l, e, _⟩ => h ⟨_, _, e⟩
  rw [run_is_loop]
  cases x with
  | tuple xs =>
    obtain ⟨j, rfl, _, g2⟩ := g.tup
    by_cases l2 : xs.length = 2
    · match xs, l2, g2 with
      | [a, b], _, g2 =>
        obtain ⟨ra, qa, ha⟩ := is_body_any 4 n true a S (g2 a (by simp))
        obtain ⟨rb, qb, hb⟩ := is_body_any 4 n false b S (g2 b (by simp))
        simp at qa qb
        have sub : LoopD (.tuple [a, b]) → ra = true ∧ rb = true := by
          rintro ⟨l, e, h⟩
          obtain ⟨e1, e2⟩ := loopD_bodies e
          exact ⟨ha.mpr ⟨_, e1, h.1, h.2.2.1⟩, hb.mpr ⟨_, e2, h.2.1, h.2.2.2.1⟩⟩
        cases ra with
        | false => exact ⟨false, by simp [b_is_loop, g_MOST_DEEP, qa], by simp; exact fun z => by simpa using (sub z).1⟩
        | true =>
          cases rb with
          | false => exact ⟨false, by simp [b_is_loop, g_MOST_DEEP, qa, qb], by simp; exact fun z => by simpa using (sub z).2⟩
          | true =>
            obtain ⟨b1, rfl, o1, l1⟩ := ha.mp rfl
            obtain ⟨b2, rfl, o2, l2⟩ := hb.mp rfl
            have d1 := Body.dep_of _ _ _ o1
            have d2 := Body.dep_of _ _ _ o2
            have m1 := bodyD_cnt o1 l1
            have m2 := bodyD_cnt o2 l2
            have a1 := all_in_b 4 (n + 3) b1 S d1 (by omega)
            have a2 := all_in_b 4 (n + 3) b2 S d2 (by omega)
            have q3 : FS defs (n + 9) "all_of" [.d (.tuple [.tuple b1.encs, .tuple b2.encs])] S = some (.ok (.d (.list (b1.all ++ b2.all))) S) := by
              rw [run_all_of]
              have z : b1.all.length + b2.all.length ≤ 16777216 := by rw [Body.all_len, Body.all_len]; omega
              simp only [Body.enc] at a1 a2
              simp [b_all_of, a1, a2, z]
            refine ⟨decide (b1.cnt + b2.cnt ≤ 20), ?_, ?_⟩
            · simp only [Body.enc] at qa qb ⊢
              have e1 := Body.all_len b1
              have e2 := Body.all_len b2
              have z : ((b1.all.length : Int) + (b2.all.length : Int) ≤ 20) ↔ b1.cnt + b2.cnt ≤ 20 := by omega
              simp [b_is_loop, g_MOST_DEEP, g_MOST_STATEMENTS, qa, qb, q3, z]
            · rw [decide_eq_true_eq]
              constructor
              · exact fun z => ⟨⟨b1, b2⟩, rfl, o1, o2, l1, l2, z⟩
              · rintro ⟨l, e, h⟩
                obtain ⟨e1, e2⟩ := loopD_bodies e
                simp only [Body.enc, PyData.tuple.injEq] at e1 e2
                rw [Body.cnt_of d1 (Body.dep_of _ _ _ h.1) e1, Body.cnt_of d2 (Body.dep_of _ _ _ h.2.1) e2]
                exact h.2.2.2.2
    · have l2' : ¬ (xs.length : Int) = 2 := by omega
      exact ⟨false, by simp [b_is_loop, l2'], by
        constructor
        · simp
        · exact fun z => absurd z (no (by rintro ⟨a, b, e⟩; simp only [PyData.tuple.injEq] at e; rw [e] at l2; exact l2 rfl))⟩
  | dict kvs => cases k <;> simp [Gd] at g
  | _ => exact ⟨false, by simp [isT] at h1; simp [b_is_loop, h1], by simp [LoopD, Loop.enc]⟩
theorem law_is_loop_any (n : Nat) {k : Nat} (x : D) (g : Gd k x) (hk : k ≤ 60) (S : Store) : ∃ r, FS defs (n + 10) "_law_is_loop" [.d x] S = some (.ok (.d (.bool r)) S) ∧ (r = true ↔ LoopD x) := by
  have h1 := isa_tuple g
  have no : (¬ ∃ a b, x = .tuple [a, b]) → ¬ LoopD x := fun h ⟨l, e, _⟩ => h ⟨_, _, e⟩
  rw [run__law_is_loop]
  cases x with
  | tuple xs =>
    obtain ⟨j, rfl, _, g2⟩ := g.tup
    by_cases l2 : xs.length = 2
    · match xs, l2, g2 with
      | [a, b], _, g2 =>
        obtain ⟨ra, qa, ha⟩ := law_is_body_any 4 n true a S (g2 a (by simp)) (by omega)
        obtain ⟨rb, qb, hb⟩ := law_is_body_any 4 n false b S (g2 b (by simp)) (by omega)
        simp at qa qb
        have sub : LoopD (.tuple [a, b]) → ra = true ∧ rb = true := by
          rintro ⟨l, e, h⟩
          obtain ⟨e1, e2⟩ := loopD_bodies e
          exact ⟨ha.mpr ⟨_, e1, h.1, h.2.2.1⟩, hb.mpr ⟨_, e2, h.2.1, h.2.2.2.1⟩⟩
        cases ra with
        | false => exact ⟨false, by simp [b__law_is_loop, qa], by simp; exact fun z => by simpa using (sub z).1⟩
        | true =>
          cases rb with
          | false => exact ⟨false, by simp [b__law_is_loop, qa, qb], by simp; exact fun z => by simpa using (sub z).2⟩
          | true =>
            obtain ⟨b1, rfl, o1, l1⟩ := ha.mp rfl
            obtain ⟨b2, rfl, o2, l2⟩ := hb.mp rfl
            have d1 := Body.dep_of _ _ _ o1
            have d2 := Body.dep_of _ _ _ o2
            have a1 := count_b 4 (n + 4) b1 S d1
            have a2 := count_b 4 (n + 4) b2 S d2
            refine ⟨decide (b1.cnt + b2.cnt ≤ 20), ?_, ?_⟩
            · simp only [Body.enc] at qa qb a1 a2 ⊢
              have z : ((b1.cnt : Int) + (b2.cnt : Int) ≤ 20) ↔ b1.cnt + b2.cnt ≤ 20 := by omega
              simp [b__law_is_loop, qa, qb, a1, a2, z]
            · rw [decide_eq_true_eq]
              constructor
              · exact fun z => ⟨⟨b1, b2⟩, rfl, o1, o2, l1, l2, z⟩
              · rintro ⟨l, e, h⟩
                obtain ⟨e1, e2⟩ := loopD_bodies e
                simp only [Body.enc, PyData.tuple.injEq] at e1 e2
                rw [Body.cnt_of d1 (Body.dep_of _ _ _ h.1) e1, Body.cnt_of d2 (Body.dep_of _ _ _ h.2.1) e2]
                exact h.2.2.2.2
    · have l2' : ¬ (xs.length : Int) = 2 := by omega
      exact ⟨false, by simp [b__law_is_loop, l2'], by
        constructor
        · simp
        · exact fun z => absurd z (no (by rintro ⟨a, b, e⟩; simp only [PyData.tuple.injEq] at e; rw [e] at l2; exact l2 rfl))⟩
  | dict kvs => cases k <;> simp [Gd] at g
  | _ => exact ⟨false, by simp [isT] at h1; simp [b__law_is_loop, h1], by simp [LoopD, Loop.enc]⟩
end Law

namespace Law
open PySem L2 G
@[simp] theorem kit_NoneType_int : kitB "NoneType" "int" = some false := by rfl
@[simp] theorem kit_NoneType_bool : kitB "NoneType" "bool" = some false := by rfl
@[simp] theorem kit_bool_int : kitB "bool" "int" = some true := by rfl
@[simp] theorem kit_bool_bool : kitB "bool" "bool" = some true := by rfl
@[simp] theorem kit_int_int : kitB "int" "int" = some true := by rfl
@[simp] theorem kit_int_bool : kitB "int" "bool" = some false := by rfl
@[simp] theorem kit_str_int : kitB "str" "int" = some false := by rfl
@[simp] theorem kit_str_bool : kitB "str" "bool" = some false := by rfl
@[simp] theorem kit_list_int : kitB "list" "int" = some false := by rfl
@[simp] theorem kit_list_bool : kitB "list" "bool" = some false := by rfl
@[simp] theorem kit_tuple_int : kitB "tuple" "int" = some false := by rfl
@[simp] theorem kit_tuple_bool : kitB "tuple" "bool" = some false := by rfl
@[simp] theorem clsOf_none' : clsOf .none = "NoneType" := rfl
def isI : D → Bool
  | .int _ => true
  | _ => false
theorem isa_int {n : Nat} {x : D} (g : Gd n x) : isaD "int" x = some (.bool (isI x || (match x with | .bool _ => true | _ => false))) := by
  cases x with
  | dict kvs => cases n <;> simp [Gd] at g
  | _ => rfl
theorem isa_bool {n : Nat} {x : D} (g : Gd n x) : isaD "bool" x = some (.bool (match x with | .bool _ => true | _ => false)) := by
  cases x with
  | dict kvs => cases n <;> simp [Gd] at g
  | _ => rfl
theorem isI_iff {x : D} : isI x = true ↔ ∃ i, x = .int i := by cases x <;> simp [isI]
theorem allI_iff : ∀ {xs : List D}, xs.all isI = true ↔ ∃ ns : List Int, xs = ns.map .int
  | [] => by simp
  | x :: xs => by
    rw [List.all_cons, Bool.and_eq_true, isI_iff, allI_iff]
    constructor
    · rintro ⟨⟨s, rfl⟩, ss, rfl⟩
      exact ⟨s :: ss, rfl⟩
    · rintro ⟨ss, e⟩
      cases ss with
      | nil => simp at e
      | cons s ss =>
        simp only [List.map_cons, List.cons.injEq] at e
        exact ⟨⟨s, e.1⟩, ss, e.2⟩
def RowD (x : D) : Prop := ∃ ns : List Int, x = .tuple (ns.map .int) ∧ ns.length ≤ 40
theorem is_number_any (n : Nat) {k : Nat} (x : D) (g : Gd k x) (S : Store) : FS defs (n + 1) "is_number" [.d x] S = some (.ok (.d (.bool (isI x))) S) := by
  rw [run_is_number]
  cases x with
  | dict kvs => cases k <;> simp [Gd] at g
  | none => simp [b_is_number, isI]
  | _ => simp [b_is_number, isI]
theorem rowD_iff {xs : List D} : RowD (.tuple xs) ↔ xs.length ≤ 40 ∧ xs.all isI = true := by
  rw [allI_iff]
  constructor
  · rintro ⟨ns, e, h⟩
    simp only [PyData.tuple.injEq] at e
    subst e
    exact ⟨by simpa using h, ns, rfl⟩
  · rintro ⟨h, ns, rfl⟩
    exact ⟨ns, rfl, by simpa using h⟩
theorem is_row_any (n : Nat) {k : Nat} (x : D) (g : Gd k x) (S : Store) : ∃ r, FS defs (n + 2) "is_row" [.d x] S = some (.ok (.d (.bool r)) S) ∧ (r = true ↔ RowD x) := by
  have h1 := isa_tuple g
  rw [run_is_row]
  cases x with
  | tuple xs =>
    obtain ⟨j, rfl, _, g2⟩ := g.tup
    by_cases c : xs.length ≤ 40
    · have c' : (xs.length : Int) ≤ 40 := by omega
      have cc : cLc false (iSeq (cVar 0)) (cT false [1]) cYes (cCallO (FS defs (n + 1) "is_number") (cCons (cVar 1) cNil)) [1] [some (.d (.tuple xs)), none] S = some (.ok (.d (.list (xs.map fun z => PyData.bool (isI z)))) S) := by
        apply cLc_map0 (xs := xs) (g := fun z => z)
        · simp
        · exact Nat.le_trans c (by decide)
        · intro z hz
          refine ⟨_, rfl, fun S' => ?_⟩
          simp [is_number_any n z (g2 z hz)]
      refine ⟨xs.all isI, ?_, by rw [rowD_iff]; exact ⟨fun h => ⟨c, h⟩, fun h => h.2⟩⟩
      have bm := bools_map isI xs
      have ba : ((xs.map isI).all id) = xs.all isI := by rw [List.all_map]; rfl
      simp [b_is_row, g_MOST_ITEMS, c', cc, bm]
    · have c' : ¬ (xs.length : Int) ≤ 40 := by omega
      exact ⟨false, by simp [b_is_row, g_MOST_ITEMS, c'], by rw [rowD_iff]; exact ⟨by simp, fun h => absurd h.1 c⟩⟩
  | dict kvs => cases k <;> simp [Gd] at g
  | _ => exact ⟨false, by simp [isT] at h1; simp [b_is_row, h1], by simp [RowD]⟩
theorem eqD_lnil (xs : List D) : eqD (.list xs) (.list []) = some (.bool xs.isEmpty) := by
  have d0 : (PyData.list []).depth ≤ 60 := by decide
  have : shal (.list xs) (.list []) = true := by
    unfold shal
    exact decide_eq_true (Nat.le_trans (Nat.min_le_right _ _) d0)
  unfold eqD
  rw [if_pos this]
  cases xs <;> simp
theorem neD_lnil (xs : List D) : neD (.list xs) (.list []) = some (.bool (!xs.isEmpty)) := by
  have d0 : (PyData.list []).depth ≤ 60 := by decide
  have : shal (.list xs) (.list []) = true := by
    unfold shal
    exact decide_eq_true (Nat.le_trans (Nat.min_le_right _ _) d0)
  unfold neD
  rw [if_pos this]
  cases xs <;> simp
theorem filter_all {p : D → Bool} : ∀ xs : List D, (xs.filter fun x => !p x).isEmpty = xs.all p
  | [] => rfl
  | x :: xs => by
    rw [List.filter_cons, List.all_cons]
    cases h : p x with
    | true => simp [filter_all xs]
    | false => simp
theorem law_is_row_any (n : Nat) {k : Nat} (x : D) (g : Gd k x) (S : Store) : ∃ r, FS defs (n + 1) "_law_is_row" [.d x, .d (.int 40)] S = some (.ok (.d (.bool r)) S) ∧ (r = true ↔ RowD x) := by
  have h1 := isa_tuple g
  rw [run__law_is_row]
  cases x with
  | tuple xs =>
    obtain ⟨j, rfl, _, g2⟩ := g.tup
    by_cases c : xs.length ≤ 40
    · have c' : ¬ (40 : Int) < (xs.length : Int) := by omega
      have cc : cLc false (iSeq (cVar 0)) (cT false [2]) (cTru (cOr (cOp1 notD (cOp1 (isaD "int") (cVar 2))) (cOp1 (isaD "bool") (cVar 2)))) (cVar 2) [2] [some (.d (.tuple xs)), some (.d (.int 40)), none] S = some (.ok (.d (.list ((xs.filter fun z => !isI z).map fun z => z))) S) := by
        apply cLc_pure0 (xs := xs) (g := fun z => z) (fun z => !isI z) (fun z => z)
        · simp
        · exact Nat.le_trans c (by decide)
        · intro z hz
          refine ⟨_, rfl, fun S' => ⟨?_, fun _ => by simp⟩⟩
          have gz := g2 z hz
          cases z with
          | dict kvs => cases j <;> simp [Gd] at gz
          | none => simp [isI]
          | _ => simp [isI]
      refine ⟨xs.all isI, ?_, by rw [rowD_iff]; exact ⟨fun h => ⟨c, h⟩, fun h => h.2⟩⟩
      rw [List.map_id'] at cc
      have fa := filter_all (p := isI) xs
      simp [b__law_is_row, c', cc, eqD_lnil, fa]
    · have c' : (40 : Int) < (xs.length : Int) := by omega
      exact ⟨false, by simp [b__law_is_row, c'], by rw [rowD_iff]; exact ⟨by simp, fun h => absurd h.1 c⟩⟩
  | dict kvs => cases k <;> simp [Gd] at g
  | _ => exact ⟨false, by simp [isT] at h1; simp [b__law_is_row, h1], by simp [RowD]⟩
def wordsL : List D := ["equals", "falls", "lows", "peaks", "peaks ends", "plateaus", "plateaus last", "records", "records weak", "rises", "run ends", "turns", "valleys", "valleys ends"].map wS
theorem law_words_t (n : Nat) (S : Store) : FS defs (n + 1) "_law_words" [] S = some (.ok (.d (.list wordsL)) S) := by
  rw [run__law_words]
  simp [b__law_words, wordsL]
def askB : D → Bool
  | .str s => inD (.str s) wordsL
  | _ => false
theorem is_asking_any (n : Nat) {k : Nat} (x : D) (g : Gd k x) (S : Store) : FS defs (n + 1) "is_asking" [.d x] S = some (.ok (.d (.bool (askB x))) S) := by
  rw [run_is_asking]
  have h1 := isa_str g
  cases x with
  | dict kvs => cases k <;> simp [Gd] at g
  | str s => simp [b_is_asking, g_ASKINGS, askB, wordsL]
  | _ => simp [isS] at h1; simp [b_is_asking, askB, h1]
theorem eqD_bools (a b c : Bool) : eqD (.list [.bool a, .bool b, .bool c]) (.list [.bool a, .bool b, .bool c]) = some (.bool true) := by
  cases a <;> cases b <;> cases c <;> rfl
theorem told_any (n : Nat) {k : Nat} (x : D) (g : Gd k x) (hk : k ≤ 60) (S : Store) : FS defs (n + 11) "_law_told_right" [.d x] S = some (.ok (.d (.bool true)) S) := by
  obtain ⟨r1, q1, h1⟩ := is_loop_any n x g S
  obtain ⟨r2, q2, h2⟩ := is_row_any (n + 8) x g S
  have q3 := is_asking_any (n + 9) x g S
  obtain ⟨s1, p1, k1⟩ := law_is_loop_any n x g hk S
  obtain ⟨s2, p2, k2⟩ := law_is_row_any (n + 9) x g S
  have e1 : s1 = r1 := Bool.eq_iff_iff.mpr (k1.trans h1.symm)
  have e2 : s2 = r2 := Bool.eq_iff_iff.mpr (k2.trans h2.symm)
  subst e1 e2
  have cc : ∀ v2, cLc false (iSeq (cVar 1)) (cT false [3]) (cTru (cOp1 notD (cOp1 (isaD "bool") (cVar 3)))) (cVar 3) [3] [some (.d x), some (.d (.list [.bool s1, .bool s2, .bool (askB x)])), v2, none] S = some (.ok (.d (.list (([s1, s2, askB x].filter fun _ => false).map PyData.bool))) S) := by
    intro v2
    apply cLc_pure0 (xs := [s1, s2, askB x]) (g := PyData.bool) (fun _ => false) PyData.bool
    · simp
    · exact show 3 ≤ sizeLine by decide
    · intro z hz
      refine ⟨_, rfl, fun S' => ⟨by simp, by simp⟩⟩
  simp at cc
  have lw := law_words_t (n + 9) S
  rw [run__law_told_right]
  have h3 := isa_str g
  cases x with
  | dict kvs => cases k <;> simp [Gd] at g
  | str s => simp [askB] at q3 cc; simp [b__law_told_right, q1, q2, q3, p1, p2, cc, neD_lnil, lw, eqD_bools]
  | _ => simp [isS] at h3; simp [askB] at q3 cc; simp [b__law_told_right, q1, q2, q3, p1, p2, cc, neD_lnil, h3, eqD_bools]
end Law

namespace Law
open PySem L2 G
theorem Gd.tupI {n : Nat} {xs : List D} (h : xs.length ≤ 1000) (g : ∀ x ∈ xs, Gd n x) : Gd (n + 1) (.tuple xs) := by
  simp only [Gd]
  exact ⟨h, g⟩
theorem Gd.lstI {n : Nat} {xs : List D} (h : xs.length ≤ 1000) (g : ∀ x ∈ xs, Gd n x) : Gd (n + 1) (.list xs) := by
  simp only [Gd]
  exact ⟨h, g⟩
theorem Gd.wS (n : Nat) (s : String) : Gd n (wS s) := by cases n <;> simp [Gd]
def anyL : List D := [.int 0, .int (-1), .int 1, .int 2, .int 20, .bool true, .bool false, .none, wS "", wS "x", wS "p", wS "item", wS "peaks", wS "print", wS "last", .int 1000000000000000000000000000000, .tuple [], .list [], .tuple [wS "take", wS "x"], .tuple [wS "last"], .tuple [wS "over", wS "x", wS "y"], .tuple [wS "print", wS "item"]]
theorem any_flat (n m : Nat) : Drw m (FS defs (n + 2) "_law_of" [.loc m, .d (.list anyL)]) (Gd 1) := fun S h => by
  obtain ⟨y, a, b, q, hy⟩ := of_drw n m anyL (by simp [anyL]) (by simp [anyL]) S h
  refine ⟨y, a, b, q, ?_⟩
  simp only [anyL, List.mem_cons, List.not_mem_nil, or_false] at hy
  rcases hy with rfl | rfl | rfl | rfl | rfl | rfl | rfl | rfl | rfl | rfl | rfl | rfl | rfl | rfl | rfl | rfl | rfl | rfl | rfl | rfl | rfl | rfl <;> simp [Gd]
theorem any_drw : ∀ (dp n m : Nat), Drw m (FS defs (n + dp + 3) "_law_any_value" [.loc m, .d (.int (dp : Int))]) (Gd (dp + 1))
  | dp, n, m => fun S hB => by
    obtain ⟨y0, a0, b0, q0, t0, rfl, t1, t2⟩ := take_drw (n + dp + 1) m 8 (by decide) (by decide) S hB
    have pw : ((10 : Int) ^ 30) = 1000000000000000000000000000000 := by decide
    have hB0 := hB.set a0 b0
    by_cases c : t0 < 5
    · obtain ⟨y, a, b, q, hy⟩ := (any_flat (n + dp) m).on hB a0 b0
      refine ⟨y, a, b, ?_, Gd.up (by omega) hy⟩
      rw [run__law_any_value]
      simp [anyL] at q
      simp [b__law_any_value, q0, c, pw, q]
    · cases dp with
      | zero =>
        obtain ⟨y, a, b, q, hy⟩ := (any_flat (n + 0) m).on hB a0 b0
        refine ⟨y, a, b, ?_, Gd.up (by omega) hy⟩
        rw [run__law_any_value]
        simp at q0 q
        simp [anyL] at q
        simp [b__law_any_value, q0, c, pw, q]
      | succ d =>
        obtain ⟨y5, a5, b5, q5, t5, rfl, t6, t7⟩ := (take_drw (n + (d + 1) + 1) m 5 (by decide) (by decide)).on hB a0 b0
        let S5 : Store := S.set m (.lst [.int a5, .int b5])
        have ok : okR t5 := by unfold okR; omega
        have dz : ¬ (d : Int) + 1 = 0 := by omega
        have hl : t5 = ((t5.toNat : Nat) : Int) := by omega
        obtain ⟨zs, S', g1, g2, ⟨a7, b7, g3⟩, g4, g5⟩ := cLc_eff (src := iRng1 (cCallO (FS defs (n + (d + 1) + 2) "_law_take") (cCons (cVar 0) (cCons (cCst (.int 5)) cNil)))) (tg := cT false [5]) (wipes := [5]) (el := cCallO (FS defs (n + (d + 1) + 2) "_law_any_value") (cCons (cVar 0) (cCons (cOp2 subD (cVar 1) (cCst (.int 1))) cNil)))
          (env := [some (.loc m), some (.d (.int ((d : Int) + 1))), some (.d (.int t0)), none, none, none]) (S := S.set m (.lst [.int a0, .int b0])) (S1 := S5) (xs := rangeL 0 t5.toNat) (fun T => ∃ a b : Int, T = S.set m (.lst [.int a, .int b])) (Gd (d + 1)) (by
            simp [q5, ok, S5]) (by simp only [rangeL, List.length_map, List.length_range]; exact Nat.le_trans (show t5.toNat ≤ 100 by omega) (by decide)) ⟨a5, b5, rfl⟩ (fun x hx => by
            refine ⟨[some (.loc m), some (.d (.int ((d : Int) + 1))), some (.d (.int t0)), none, none, some (.d x)], by simp, fun T ys hT hi => ?_⟩
            obtain ⟨a, b, rfl⟩ := hi
            obtain ⟨y, a8, b8, q8, hy⟩ := any_drw d n m (S.set m (.lst [.int a, .int b]) ++ [.lst ys]) ((hB.set a b).app _)
            have hm := hB.lt
            have q9 : (S.set m (Cell.lst [.int a, .int b]) ++ [Cell.lst ys]).set m (.lst [.int a8, .int b8]) = S.set m (.lst [.int a8, .int b8]) ++ [.lst ys] := by
              rw [List.set_append_left _ _ (by simpa using hm), List.set_set]
            rw [q9] at q8
            rw [show n + d + 3 = n + (d + 1) + 2 from by omega] at q8
            refine ⟨y, S.set m (.lst [.int a8, .int b8]), ?_, by simp [S5], ⟨a8, b8, rfl⟩, hy⟩
            simp [q8])
        have hzl : zs.length ≤ 1000 := by
          rw [g5]
          simp only [rangeL, List.length_map, List.length_range]
          omega
        subst g3
        have ht : t0 = 5 ∨ t0 = 6 ∨ t0 = 7 := by omega
        try simp [S5] at g1
        rcases ht with rfl | rfl | rfl
        · refine ⟨.list zs, a7, b7, ?_, Gd.lstI hzl g4⟩
          rw [run__law_any_value]
          simp [b__law_any_value, q0, dz, g1]
        · refine ⟨.tuple zs, a7, b7, ?_, Gd.tupI hzl g4⟩
          rw [run__law_any_value]
          simp [b__law_any_value, q0, dz, g1]
        · refine ⟨.tuple zs, a7, b7, ?_, Gd.tupI hzl g4⟩
          rw [run__law_any_value]
          simp [b__law_any_value, q0, dz, g1]
/-- values that are spoiled -/
def Gs : Nat → D → Prop
  | _, .none => True
  | _, .bool _ => True
  | _, .int _ => True
  | _, .str s => s.length ≤ 1000
  | n + 1, .tuple xs => xs.length ≤ 100 ∧ ∀ x ∈ xs, Gs n x
  | _, _ => False
theorem Gs.tup {k : Nat} {xs : List D} (g : Gs k (.tuple xs)) : ∃ j, k = j + 1 ∧ xs.length ≤ 100 ∧ ∀ x ∈ xs, Gs j x := by
  cases k with
  | zero => simp [Gs] at g
  | succ j =>
    simp only [Gs] at g
    exact ⟨j, rfl, g⟩
theorem Gs.gd : ∀ {n : Nat} {x : D}, Gs n x → Gd n x
  | n, .none, _ => by simp [Gd]
  | n, .bool _, _ => by simp [Gd]
  | n, .int _, _ => by simp [Gd]
  | n, .str _, _ => by simp [Gd]
  | 0, .tuple xs, g => by simp [Gs] at g
  | 0, .list xs, g => by simp [Gs] at g
  | n + 1, .tuple xs, g => by
    simp only [Gs] at g
    exact Gd.tupI (by omega) fun x hx => Gs.gd (g.2 x hx)
  | n + 1, .list xs, g => by simp [Gs] at g
  | 0, .dict kvs, g => by simp [Gs] at g
  | n + 1, .dict kvs, g => by simp [Gs] at g
@[simp] theorem addD_str (i j : Str) : addD (.str i) (.str j) = if i.length + j.length ≤ sizeLine then some (.str (i ++ j)) else none := Eq.trans rfl rfl
def spL (v x : D) : List D := [v, .list [x]] ++ (match x with | .str s => [.str (s ++ Str.ofString "s"), wS "y", wS "q", wS "item", wS "copy", wS "take", wS "same", wS "flag", wS "up", wS "last"] | _ => [])
theorem spL_ne (v x : D) : spL v x ≠ [] := by simp [spL]
theorem spL_len (v x : D) : (spL v x).length ≤ 1000000000000 := by cases x <;> simp [spL]
theorem spoil_flat (n m : Nat) {k : Nat} {v x : D} (gv : Gd 2 v) (g : Gs k x) : Drw m (FS defs (n + 2) "_law_of" [.loc m, .d (.list (spL v x))]) (Gd (k + 2)) := fun S h => by
  obtain ⟨y, a, b, q, hy⟩ := of_drw n m _ (spL_ne v x) (spL_len v x) S h
  refine ⟨y, a, b, q, ?_⟩
  have gx := g.gd
  rcases List.mem_append.mp hy with hy | hy
  · simp only [List.mem_cons, List.not_mem_nil, or_false] at hy
    rcases hy with rfl | rfl
    · exact Gd.up (by omega) gv
    · exact Gd.up (by omega) (Gd.lstI (n := k) (by simp) (by simpa using gx))
  · cases x with
    | str s =>
      simp only [List.mem_cons, List.not_mem_nil, or_false] at hy
      rcases hy with rfl | rfl | rfl | rfl | rfl | rfl | rfl | rfl | rfl | rfl <;> simp [Gd]
    | _ => simp at hy
theorem spoiled_drw : ∀ (j n m : Nat) (x : D), Gs j x → Drw m (FS defs (n + j + 6) "_law_spoiled" [.loc m, .d x]) (Gd (j + 2))
  | j, n, m, x, g => fun S hB => by
    have hT := isa_tuple g.gd
    have hS := isa_str g.gd
    -- something else in its place
    have flat : ∀ a0 b0 : Int, ∃ (v : D) (a1 b1 : Int) (y : D) (a2 b2 : Int), FS defs (n + j + 5) "_law_any_value" [.loc m, .d (.int 1)] (S.set m (.lst [.int a0, .int b0])) = some (.ok (.d v) (S.set m (.lst [.int a1, .int b1]))) ∧ FS defs (n + j + 5) "_law_of" [.loc m, .d (.list (spL v x))] (S.set m (.lst [.int a1, .int b1])) = some (.ok (.d y) (S.set m (.lst [.int a2, .int b2]))) ∧ Gd (j + 2) y := fun a0 b0 => by
      obtain ⟨v, a1, b1, q1, hv⟩ := (any_drw 1 (n + j + 1) m).on hB a0 b0
      obtain ⟨y, a2, b2, q2, hy⟩ := (spoil_flat (n + j + 3) m hv g).on hB a1 b1
      exact ⟨v, a1, b1, y, a2, b2, q1, q2, hy⟩
    obtain ⟨s1, s2, hs⟩ := hB.self
    cases x with
    | tuple xs =>
      simp [isS] at hS
      cases xs with
      | nil =>
        obtain ⟨v, a1, b1, y, a2, b2, q1, q2, hy⟩ := flat s1 s2
        rw [← hs] at q1
        refine ⟨y, a2, b2, ?_, hy⟩
        rw [run__law_spoiled]
        simp [spL] at q2
        simp [b__law_spoiled, eqD_tnil, q1, q2, hS]
      | cons z zs =>
        obtain ⟨y0, a0, b0, q0, t0, rfl, t1, t2⟩ := take_drw (n + j + 4) m 6 (by decide) (by decide) S hB
        by_cases c : t0 = 0
        · subst c
          obtain ⟨v, a1, b1, y, a2, b2, q1, q2, hy⟩ := flat a0 b0
          refine ⟨y, a2, b2, ?_, hy⟩
          rw [run__law_spoiled]
          simp [spL] at q2
          simp [b__law_spoiled, eqD_tnil, q0, q1, q2, hS]
        · obtain ⟨i, rfl, hl, g2⟩ := g.tup
          generalize hxs : z :: zs = xs at *
          have h0 : 0 < xs.length := by rw [← hxs]; simp
          have he : xs.isEmpty = false := by rw [← hxs]; rfl
          obtain ⟨y3, a3, b3, q3, t3, rfl, u1, u2⟩ := (take_drw (n + (i + 1) + 4) m (xs.length : Int) (by omega) (by omega)).on hB a0 b0
          obtain ⟨y4, a4, b4, q4, t4, rfl, u3, u4⟩ := (take_drw (n + (i + 1) + 4) m 8 (by decide) (by decide)).on hB a3 b3
          obtain ⟨p, rfl⟩ : ∃ p : Nat, t3 = (p : Int) := ⟨t3.toNat, by omega⟩
          have hp : p < xs.length := by omega
          have k1 := cut_to xs p
          have k2 := cut_from xs (p + 1)
          have k3 := cut_nat xs p (p + 1)
          rw [show ((p + 1 : Nat) : Int) = (p : Int) + 1 from by omega] at k2 k3
          have gd : ∀ y ∈ xs, Gd i y := fun y hy => (g2 y hy).gd
          have lt : (xs.take p).length = p := by rw [List.length_take]; omega
          have ld : (xs.drop (p + 1)).length = xs.length - (p + 1) := List.length_drop
          have l1 : ((xs.drop p).take (p + 1 - p)).length = 1 := by rw [List.length_take, List.length_drop]; omega
          rw [run__law_spoiled]
          by_cases c0 : t4 = 0
          · subst c0
            have z : (xs.take p).length + (xs.drop (p + 1)).length ≤ 16777216 := by omega
            refine ⟨.tuple (xs.take p ++ xs.drop (p + 1)), a4, b4, by simp [b__law_spoiled, eqD_tnil, he, q0, c, q3, q4, k1, k2, addD_tuple, -List.length_take, -List.length_drop, z], ?_⟩
            refine Gd.up (by omega) (Gd.tupI (n := i) (by rw [List.length_append]; omega) fun y hy => ?_)
            rcases List.mem_append.mp hy with hy | hy
            · exact gd y (List.mem_of_mem_take hy)
            · exact gd y (List.mem_of_mem_drop hy)
          by_cases c1 : t4 = 1
          · subst c1
            have hr : (repL 2 ((xs.drop p).take (p + 1 - p))).length = 2 := by
              obtain ⟨w, hw⟩ := List.length_eq_one_iff.mp l1
              rw [hw]; rfl
            have z1 : (xs.take p).length + (repL 2 ((xs.drop p).take (p + 1 - p))).length ≤ 16777216 := by omega
            have z2 : (xs.take p ++ repL 2 ((xs.drop p).take (p + 1 - p))).length + (xs.drop (p + 1)).length ≤ 16777216 := by rw [List.length_append]; omega
            have m2 : mulD (.tuple ((xs.drop p).take (p + 1 - p))) (.int 2) = some (.tuple (repL 2 ((xs.drop p).take (p + 1 - p)))) := by
              rw [mulD_tuple, if_pos]
              omega
            have a1 : addD (.tuple (xs.take p)) (.tuple (repL 2 ((xs.drop p).take (p + 1 - p)))) = some (.tuple (xs.take p ++ repL 2 ((xs.drop p).take (p + 1 - p)))) := by rw [addD_tuple]; exact if_pos z1
            have a2 : addD (.tuple (xs.take p ++ repL 2 ((xs.drop p).take (p + 1 - p)))) (.tuple (xs.drop (p + 1))) = some (.tuple (xs.take p ++ repL 2 ((xs.drop p).take (p + 1 - p)) ++ xs.drop (p + 1))) := by rw [addD_tuple]; exact if_pos z2
            have hm : ∀ y ∈ repL 2 ((xs.drop p).take (p + 1 - p)), y ∈ xs := by
              intro y hy
              simp only [repL, List.mem_flatten, List.mem_replicate] at hy
              obtain ⟨l, ⟨_, rfl⟩, hy⟩ := hy
              exact List.mem_of_mem_drop (List.mem_of_mem_take hy)
            refine ⟨.tuple (xs.take p ++ repL 2 ((xs.drop p).take (p + 1 - p)) ++ xs.drop (p + 1)), a4, b4, ?_, ?_⟩
            · generalize repL 2 ((xs.drop p).take (p + 1 - p)) = R at m2 a1 a2
              generalize (xs.drop p).take (p + 1 - p) = M at k3 m2
              generalize xs.take p = A at k1 a1 a2
              generalize xs.drop (p + 1) = B at k2 a2
              simp only [b__law_spoiled]
              simp [eqD_tnil, he, q0, c, q3, q4, k1, k2, k3, -mulD_tuple, -addD_tuple, m2, a1, a2]
            · refine Gd.up (by omega) (Gd.tupI (n := i) (by rw [List.length_append, List.length_append]; omega) fun y hy => ?_)
              rcases List.mem_append.mp hy with hy | hy
              · rcases List.mem_append.mp hy with hy | hy
                · exact gd y (List.mem_of_mem_take hy)
                · exact gd y (hm y hy)
              · exact gd y (List.mem_of_mem_drop hy)
          by_cases c2 : t4 = 2
          · subst c2
            refine ⟨.tuple xs.reverse, a4, b4, by simp [b__law_spoiled, eqD_tnil, he, q0, c, q3, q4], ?_⟩
            exact Gd.up (by omega) (Gd.tupI (n := i) (by simp; omega) fun y hy => gd y (by simpa using hy))
          by_cases c3 : t4 = 3
          · subst c3
            refine ⟨.list xs, a4, b4, by simp [b__law_spoiled, eqD_tnil, he, q0, c, q3, q4], ?_⟩
            exact Gd.up (by omega) (Gd.lstI (n := i) (by omega) gd)
          · obtain ⟨y5, a5, b5, q5, g5⟩ := (spoiled_drw i n m xs[p] (g2 _ (List.getElem_mem hp))).on hB a4 b4
            rw [show n + i + 6 = n + (i + 1) + 5 from by omega] at q5
            have ix : atI xs (p : Int) = some xs[p] := by rw [G.atI_nat]; simp [hp]
            have a1 : addD (.tuple (xs.take p)) (.tuple [y5]) = some (.tuple (xs.take p ++ [y5])) := by
              have z : (xs.take p).length + [y5].length ≤ 16777216 := by simp only [List.length_cons, List.length_nil]; omega
              rw [addD_tuple]; exact if_pos z
            have a2 : addD (.tuple (xs.take p ++ [y5])) (.tuple (xs.drop (p + 1))) = some (.tuple (xs.take p ++ [y5] ++ xs.drop (p + 1))) := by
              have z : (xs.take p ++ [y5]).length + (xs.drop (p + 1)).length ≤ 16777216 := by rw [List.length_append]; simp only [List.length_cons, List.length_nil]; omega
              rw [addD_tuple]; exact if_pos z
            refine ⟨.tuple (xs.take p ++ [y5] ++ xs.drop (p + 1)), a5, b5, ?_, ?_⟩
            · generalize xs[p] = X at q5 ix
              generalize xs.take p = A at k1 a1 a2
              generalize xs.drop (p + 1) = B at k2 a2
              simp [b__law_spoiled, eqD_tnil, he, q0, c, q3, q4, c0, c1, c2, c3, k1, k2, -addD_tuple, ix, q5, a1, a2]
            · refine Gd.up (by omega) (Gd.tupI (n := i + 2) (by rw [List.length_append, List.length_append]; simp only [List.length_cons, List.length_nil]; omega) fun y hy => ?_)
              rcases List.mem_append.mp hy with hy | hy
              · rcases List.mem_append.mp hy with hy | hy
                · exact Gd.up (by omega) (gd y (List.mem_of_mem_take hy))
                · rw [List.mem_singleton.mp hy]; exact g5
              · exact Gd.up (by omega) (gd y (List.mem_of_mem_drop hy))
    | dict kvs => cases j <;> simp [Gs] at g
    | str s =>
      obtain ⟨v, a1, b1, y, a2, b2, q1, q2, hy⟩ := flat s1 s2
      rw [← hs] at q1
      have hl : s.length ≤ 1000 := by cases j <;> simpa [Gs] using g
      have z : s.length + (Str.ofString "s").length ≤ 16777216 := by
        have : (Str.ofString "s").length = 1 := by decide
        omega
      refine ⟨y, a2, b2, ?_, hy⟩
      rw [run__law_spoiled]
      simp [spL] at q2
      simp [isT] at hT
      simp [isS] at hS
      simp [b__law_spoiled, hT, hS, q1, q2, z]
    | _ =>
      obtain ⟨v, a1, b1, y, a2, b2, q1, q2, hy⟩ := flat s1 s2
      rw [← hs] at q1
      refine ⟨y, a2, b2, ?_, hy⟩
      rw [run__law_spoiled]
      simp [isT] at hT
      simp [isS] at hS
      simp [spL] at q2
      simp [b__law_spoiled, hT, hS, q1, q2]
end Law

namespace Law
open PySem L2 G
/-! loops turned upside down -/
def Tst.turn : Tst → Tst
  | .over a b => .over b a
  | t => t
mutual
def Stm.turn : Stm → Stm
  | .pl p => .pl p
  | .ifs t a b => .ifs t.turn a.turn b.turn
def Body.turn : Body → Body
  | .nil => .nil
  | .cons s r => .cons s.turn r.turn
end
def btBody : MSs := match b_body_turned with
  | .cons _ (.cons (.for _ _ b) _) => b
  | _ => .nil
theorem bt_loop (n d : Nat) (e : Bool) (v0 : Option Val) (S : Store) (rec_ : ∀ d', d = d' + 1 → ∀ b : Body, b.oks e d' = true → b.len ≤ 8 → FS defs (n + d) "body_turned" [.d (.tuple b.encs)] S = some (.ok (.d (.tuple b.turn.encs)) S)) :
    ∀ (b : Body) (xs : List D) (v2 v3 : Option Val), b.oks e d = true → xs.length + b.len ≤ 8 → ∃ v2' v3', forL (gN 2) (evSs (FS defs (n + d)) btBody) b.encs [v0, some (.d (.tuple xs)), v2, v3] S = some (.ok (.nx [v0, some (.d (.tuple (xs ++ b.turn.encs))), v2', v3']) S)
  | .nil, xs, v2, v3, _, _ => ⟨v2, v3, by simp [Body.encs, Body.turn]⟩
  | .cons s r, xs, v2, v3, h, hl => by
    obtain ⟨d', rfl⟩ : ∃ d', d = d' + 1 := by
      cases d with
      | zero => simp [Body.oks] at h
      | succ d => exact ⟨d, rfl⟩
    simp only [Body.oks, Bool.and_eq_true] at h
    simp only [Body.len] at hl
    obtain ⟨hs, hr⟩ := h
    have z : xs.length + 1 ≤ 16777216 := by omega
    rw [Body.encs, forL_cons]
    cases s with
    | pl p =>
      obtain ⟨w, l, e1, hw⟩ := Pl.enc_eq p
      obtain ⟨v2', v3', h1⟩ := bt_loop n (d' + 1) e v0 S rec_ r (xs ++ [p.enc]) (some (.d p.enc)) v3 hr (by simp; omega)
      refine ⟨v2', v3', ?_⟩
      simp [btBody, b_body_turned, e1, g_IF, g_OVER] at h1
      simp [btBody, b_body_turned, Stm.enc, e1, hw, h1, Body.turn, Stm.turn, Body.encs, g_IF, g_OVER, z]
    | ifs t a b =>
      simp only [Stm.ok, Bool.and_eq_true, decide_eq_true_eq] at hs
      have q1 := rec_ d' rfl a hs.1.1.1.2 hs.1.2
      have q2 := rec_ d' rfl b hs.1.1.2 hs.2
      obtain ⟨v2', v3', h1⟩ := bt_loop n (d' + 1) e v0 S rec_ r (xs ++ [(Stm.ifs t a b).turn.enc]) (some (.d (Stm.ifs t a b).turn.enc)) (some (.d t.turn.enc)) hr (by simp; omega)
      refine ⟨v2', v3', ?_⟩
      simp [btBody, b_body_turned, Stm.enc, Stm.turn, g_IF, g_OVER] at h1
      cases t <;> simp [Tst.turn, Tst.enc] at h1 <;> simp [btBody, b_body_turned, Stm.enc, q1, q2, h1, Body.turn, Stm.turn, Tst.turn, Tst.enc, Body.encs, g_IF, g_OVER, z]
theorem body_turned_b : ∀ (d n : Nat) (e : Bool) (b : Body) (S : Store), b.oks e d = true → b.len ≤ 8 → FS defs (n + d + 1) "body_turned" [.d (.tuple b.encs)] S = some (.ok (.d (.tuple b.turn.encs)) S)
  | d, n, e, b, S, h, hl => by
    obtain ⟨v2', v3', w⟩ := bt_loop n d e (some (.d (.tuple b.encs))) S (fun d' hd b' hb hl' => by
      subst hd
      exact body_turned_b d' n e b' S hb hl') b [] none none h (by simpa using hl)
    rw [run_body_turned]
    simp [btBody, b_body_turned, g_IF, g_OVER] at w
    simp [b_body_turned, g_IF, g_OVER, w]
def ltBody : MSs := match b__law_turned with
  | .cons _ (.cons (.for _ _ b) _) => b
  | _ => .nil
theorem lt_loop (n d : Nat) (e : Bool) (v0 : Option Val) (S : Store) (rec_ : ∀ d', d = d' + 1 → ∀ b : Body, b.oks e d' = true → b.len ≤ 8 → FS defs (n + d) "_law_turned" [.d (.tuple b.encs)] S = some (.ok (.d (.tuple b.turn.encs)) S)) :
    ∀ (b : Body) (xs : List D) (v2 v3 : Option Val), b.oks e d = true → xs.length + b.len ≤ 8 → ∃ v2' v3', forL (gN 2) (evSs (FS defs (n + d)) ltBody) b.encs [v0, some (.d (.tuple xs)), v2, v3] S = some (.ok (.nx [v0, some (.d (.tuple (xs ++ b.turn.encs))), v2', v3']) S)
  | .nil, xs, v2, v3, _, _ => ⟨v2, v3, by simp [Body.encs, Body.turn]⟩
  | .cons s r, xs, v2, v3, h, hl => by
    obtain ⟨d', rfl⟩ : ∃ d', d = d' + 1 := by
      cases d with
      | zero => simp [Body.oks] at h
      | succ d => exact ⟨d, rfl⟩
    simp only [Body.oks, Bool.and_eq_true] at h
    simp only [Body.len] at hl
    obtain ⟨hs, hr⟩ := h
    have z : xs.length + 1 ≤ 16777216 := by omega
    rw [Body.encs, forL_cons]
    cases s with
    | pl p =>
      obtain ⟨w, l, e1, hw⟩ := Pl.enc_eq p
      obtain ⟨v2', v3', h1⟩ := lt_loop n (d' + 1) e v0 S rec_ r (xs ++ [p.enc]) (some (.d p.enc)) v3 hr (by simp; omega)
      refine ⟨v2', v3', ?_⟩
      simp [ltBody, b__law_turned, e1] at h1
      simp [ltBody, b__law_turned, Stm.enc, e1, hw, h1, Body.turn, Stm.turn, Body.encs, z]
    | ifs t a b =>
      simp only [Stm.ok, Bool.and_eq_true, decide_eq_true_eq] at hs
      have q1 := rec_ d' rfl a hs.1.1.1.2 hs.1.2
      have q2 := rec_ d' rfl b hs.1.1.2 hs.2
      obtain ⟨v2', v3', h1⟩ := lt_loop n (d' + 1) e v0 S rec_ r (xs ++ [(Stm.ifs t a b).turn.enc]) (some (.d (Stm.ifs t a b).turn.enc)) (some (.d t.turn.enc)) hr (by simp; omega)
      refine ⟨v2', v3', ?_⟩
      simp [ltBody, b__law_turned, Stm.enc, Stm.turn] at h1
      cases t <;> simp [Tst.turn, Tst.enc] at h1 <;> simp [ltBody, b__law_turned, Stm.enc, q1, q2, h1, Body.turn, Stm.turn, Tst.turn, Tst.enc, Body.encs, z]
theorem law_turned_b : ∀ (d n : Nat) (e : Bool) (b : Body) (S : Store), b.oks e d = true → b.len ≤ 8 → FS defs (n + d + 1) "_law_turned" [.d (.tuple b.encs)] S = some (.ok (.d (.tuple b.turn.encs)) S)
  | d, n, e, b, S, h, hl => by
    obtain ⟨v2', v3', w⟩ := lt_loop n d e (some (.d (.tuple b.encs))) S (fun d' hd b' hb hl' => by
      subst hd
      exact law_turned_b d' n e b' S hb hl') b [] none none h (by simpa using hl)
    rw [run__law_turned]
    simp [ltBody, b__law_turned] at w
    simp [b__law_turned, w]
end Law

namespace Law
open PySem L2 G
theorem cut_to2 {α : Type} (xs : List α) : cut xs none (some 2) = xs.take 2 := cut_to xs 2
/-! loops without a statement -/
mutual
def Stm.less (g k : Nat) : Stm → Stm
  | .pl p => .pl p
  | .ifs t a b => .ifs t (a.less g (k + 1)) (b.less g (k + 1 + a.cnt))
def Body.less (g k : Nat) : Body → Body
  | .nil => .nil
  | .cons s r => if k = g then r.less g (k + s.cnt) else .cons (s.less g k) (r.less g (k + s.cnt))
end
def blBody : MSs := match b_body_less with
  | .cons _ (.cons (.for _ _ b) _) => b
  | _ => .nil
theorem bl_loop (n d g : Nat) (e : Bool) (v0 v2 : Option Val) (S : Store) (rec_ : ∀ d', d = d' + 1 → ∀ (b : Body) (k : Nat), b.oks e d' = true → b.len ≤ 8 → b.cnt ≤ 100000 → FS defs (n + d + 1) "body_less" [.d (.tuple b.encs), .d (.int (g : Int)), .d (.int (k : Int))] S = some (.ok (.d (.tuple (b.less g k).encs)) S)) :
    ∀ (b : Body) (xs : List D) (k : Nat) (v3 v6 v7 : Option Val), b.oks e d = true → xs.length + b.len ≤ 8 → b.cnt ≤ 100000 → ∃ v3' v6' v7' k', forL (gN 3) (evSs (FS defs (n + d + 1)) blBody) b.encs [v0, some (.d (.int (g : Int))), v2, v3, some (.d (.tuple xs)), some (.d (.int (k : Int))), v6, v7] S = some (.ok (.nx [v0, some (.d (.int (g : Int))), v2, v3', some (.d (.tuple (xs ++ (b.less g k).encs))), k', v6', v7']) S)
  | .nil, xs, k, v3, v6, v7, _, _, _ => ⟨v3, v6, v7, some (.d (.int (k : Int))), by simp [Body.encs, Body.less]⟩
  | .cons s r, xs, k, v3, v6, v7, h, hl, hc => by
    obtain ⟨d', rfl⟩ : ∃ d', d = d' + 1 := by
      cases d with
      | zero => simp [Body.oks] at h
      | succ d => exact ⟨d, rfl⟩
    simp only [Body.oks, Bool.and_eq_true] at h
    simp only [Body.len] at hl
    simp only [Body.cnt] at hc
    obtain ⟨hs, hr⟩ := h
    have z : xs.length + 1 ≤ 16777216 := by omega
    have ds := Stm.dep_of e s d' hs
    have q0 := all_in_b (d' + 1) n (.cons s .nil) S (by simp [Body.dep]; omega) (by simp [Body.cnt]; omega)
    have l0 : ((Body.cons s .nil).all.length : Int) = (s.cnt : Int) := by rw [Body.all_len]; simp [Body.cnt]
    simp only [Body.enc, Body.encs] at q0
    generalize (Body.cons s .nil).all = A at q0 l0
    rw [Body.encs, forL_cons]
    have kk : ((k + s.cnt : Nat) : Int) = (k : Int) + (s.cnt : Int) := by omega
    by_cases c : k = g
    · subst c
      obtain ⟨v3', v6', v7', k', h1⟩ := bl_loop n (d' + 1) k e v0 v2 S rec_ r xs (k + s.cnt) (some (.d s.enc)) v6 v7 hr (by omega) (by omega)
      refine ⟨v3', v6', v7', k', ?_⟩
      rw [kk] at h1
      simp [blBody, b_body_less, g_IF] at h1
      simp [blBody, b_body_less, q0, l0, h1, Body.less, g_IF]
    · have c' : ¬ (k : Int) = (g : Int) := by omega
      obtain ⟨v3', v6', v7', k', h1⟩ := bl_loop n (d' + 1) g e v0 v2 S rec_ r (xs ++ [(s.less g k).enc]) (k + s.cnt) (some (.d s.enc)) (match s with | .pl _ => v6 | .ifs _ a _ => some (.d (.tuple (a.less g (k + 1)).encs))) (match s with | .pl _ => v7 | .ifs _ a b => some (.d (.tuple (b.less g (k + 1 + a.cnt)).encs))) hr (by simp; omega) (by omega)
      refine ⟨v3', v6', v7', k', ?_⟩
      rw [kk] at h1
      have el : (Body.less g k (.cons s r)).encs = (s.less g k).enc :: (r.less g (k + s.cnt)).encs := by
        simp only [Body.less, if_neg c, Body.encs]
      rw [el]
      cases s with
      | pl p =>
        obtain ⟨w, l, e1, hw⟩ := Pl.enc_eq p
        simp only [Stm.enc, e1] at q0
        simp [blBody, b_body_less, g_IF, Stm.less, Stm.enc, e1] at h1
        simp [blBody, b_body_less, Stm.enc, Stm.less, e1, hw, q0, l0, h1, c', g_IF, z]
      | ifs t a b =>
        simp only [Stm.ok, Bool.and_eq_true, decide_eq_true_eq] at hs
        simp only [Stm.cnt] at hc
        simp only [Stm.dep] at ds
        have q1 := rec_ d' rfl a (k + 1) hs.1.1.1.2 hs.1.2 (by omega)
        have q2 := rec_ d' rfl b (k + 1 + a.cnt) hs.1.1.2 hs.2 (by omega)
        have q3 := all_in_b (d' + 1) n a S (by omega) (by omega)
        have l3 : (a.all.length : Int) = (a.cnt : Int) := by rw [Body.all_len]
        rw [show ((k + 1 : Nat) : Int) = (k : Int) + 1 from by omega] at q1
        rw [show ((k + 1 + a.cnt : Nat) : Int) = (k : Int) + 1 + (a.cnt : Int) from by omega] at q2
        simp only [Stm.enc] at q0
        simp only [Body.enc] at q3
        simp [blBody, b_body_less, g_IF, Stm.less, Stm.enc] at h1
        simp [blBody, b_body_less, Stm.enc, Stm.less, q0, l0, q1, q2, q3, l3, h1, c', g_IF, z, cut_to2]
theorem body_less_b : ∀ (d n g : Nat) (e : Bool) (b : Body) (k : Nat) (S : Store), b.oks e d = true → b.len ≤ 8 → b.cnt ≤ 100000 → FS defs (n + d + 2) "body_less" [.d (.tuple b.encs), .d (.int (g : Int)), .d (.int (k : Int))] S = some (.ok (.d (.tuple (b.less g k).encs)) S)
  | d, n, g, e, b, k, S, h, hl, hc => by
    obtain ⟨v3', v6', v7', k', w⟩ := bl_loop n d g e (some (.d (.tuple b.encs))) (some (.d (.int (k : Int)))) S (fun d' hd b' k' hb hl' hc' => by
      subst hd
      exact body_less_b d' n g e b' k' S hb hl' hc') b [] k none none none h (by simpa using hl) hc
    rw [run_body_less]
    simp [blBody, b_body_less, g_IF] at w
    simp [b_body_less, g_IF, w]
def llsBody : MSs := match b__law_less with
  | .cons _ (.cons (.for _ _ b) _) => b
  | _ => .nil
theorem lls_loop (n d g : Nat) (e : Bool) (v0 v2 : Option Val) (S : Store) (rec_ : ∀ d', d = d' + 1 → ∀ (b : Body) (k : Nat), b.oks e d' = true → b.len ≤ 8 → b.cnt ≤ 100000 → FS defs (n + d + 1) "_law_less" [.d (.tuple b.encs), .d (.int (g : Int)), .d (.int (k : Int))] S = some (.ok (.d (.tuple (b.less g k).encs)) S)) :
    ∀ (b : Body) (xs : List D) (k : Nat) (v3 v6 v7 : Option Val), b.oks e d = true → xs.length + b.len ≤ 8 → b.cnt ≤ 100000 → ∃ v3' v6' v7' k', forL (gN 3) (evSs (FS defs (n + d + 1)) llsBody) b.encs [v0, some (.d (.int (g : Int))), v2, v3, some (.d (.tuple xs)), some (.d (.int (k : Int))), v6, v7] S = some (.ok (.nx [v0, some (.d (.int (g : Int))), v2, v3', some (.d (.tuple (xs ++ (b.less g k).encs))), k', v6', v7']) S)
  | .nil, xs, k, v3, v6, v7, _, _, _ => ⟨v3, v6, v7, some (.d (.int (k : Int))), by simp [Body.encs, Body.less]⟩
  | .cons s r, xs, k, v3, v6, v7, h, hl, hc => by
    obtain ⟨d', rfl⟩ : ∃ d', d = d' + 1 := by
      cases d with
      | zero => simp [Body.oks] at h
      | succ d => exact ⟨d, rfl⟩
    simp only [Body.oks, Bool.and_eq_true] at h
    simp only [Body.len] at hl
    simp only [Body.cnt] at hc
    obtain ⟨hs, hr⟩ := h
    have z : xs.length + 1 ≤ 16777216 := by omega
    have ds := Stm.dep_of e s d' hs
    have q0 := count_b (d' + 1) n (.cons s .nil) S (by simp [Body.dep]; omega)
    rw [show (Body.cons s .nil).cnt = s.cnt from by simp [Body.cnt]] at q0
    simp only [Body.enc, Body.encs] at q0
    rw [Body.encs, forL_cons]
    have kk : ((k + s.cnt : Nat) : Int) = (k : Int) + (s.cnt : Int) := by omega
    by_cases c : k = g
    · subst c
      obtain ⟨v3', v6', v7', k', h1⟩ := lls_loop n (d' + 1) k e v0 v2 S rec_ r xs (k + s.cnt) (some (.d s.enc)) v6 v7 hr (by omega) (by omega)
      refine ⟨v3', v6', v7', k', ?_⟩
      rw [kk] at h1
      simp [llsBody, b__law_less] at h1
      simp [llsBody, b__law_less, q0, h1, Body.less]
    · have c' : ¬ (k : Int) = (g : Int) := by omega
      obtain ⟨v3', v6', v7', k', h1⟩ := lls_loop n (d' + 1) g e v0 v2 S rec_ r (xs ++ [(s.less g k).enc]) (k + s.cnt) (some (.d s.enc)) (match s with | .pl _ => v6 | .ifs _ a _ => some (.d (.tuple (a.less g (k + 1)).encs))) (match s with | .pl _ => v7 | .ifs _ a b => some (.d (.tuple (b.less g (k + 1 + a.cnt)).encs))) hr (by simp; omega) (by omega)
      refine ⟨v3', v6', v7', k', ?_⟩
      rw [kk] at h1
      have el : (Body.less g k (.cons s r)).encs = (s.less g k).enc :: (r.less g (k + s.cnt)).encs := by
        simp only [Body.less, if_neg c, Body.encs]
      rw [el]
      cases s with
      | pl p =>
        obtain ⟨w, l, e1, hw⟩ := Pl.enc_eq p
        simp only [Stm.enc, e1] at q0
        simp [llsBody, b__law_less, Stm.less, Stm.enc, e1] at h1
        simp [llsBody, b__law_less, Stm.enc, Stm.less, e1, hw, q0, h1, c', z]
      | ifs t a b =>
        simp only [Stm.ok, Bool.and_eq_true, decide_eq_true_eq] at hs
        simp only [Stm.cnt] at hc
        simp only [Stm.dep] at ds
        have q1 := rec_ d' rfl a (k + 1) hs.1.1.1.2 hs.1.2 (by omega)
        have q2 := rec_ d' rfl b (k + 1 + a.cnt) hs.1.1.2 hs.2 (by omega)
        have q3 := count_b (d' + 1) n a S (by omega)
        rw [show ((k + 1 : Nat) : Int) = (k : Int) + 1 from by omega] at q1
        rw [show ((k + 1 + a.cnt : Nat) : Int) = (k : Int) + 1 + (a.cnt : Int) from by omega] at q2
        simp only [Stm.enc] at q0
        simp only [Body.enc] at q3
        simp [llsBody, b__law_less, Stm.less, Stm.enc] at h1
        simp [llsBody, b__law_less, Stm.enc, Stm.less, q0, q1, q2, q3, h1, c', z]
theorem law_less_b : ∀ (d n g : Nat) (e : Bool) (b : Body) (k : Nat) (S : Store), b.oks e d = true → b.len ≤ 8 → b.cnt ≤ 100000 → FS defs (n + d + 2) "_law_less" [.d (.tuple b.encs), .d (.int (g : Int)), .d (.int (k : Int))] S = some (.ok (.d (.tuple (b.less g k).encs)) S)
  | d, n, g, e, b, k, S, h, hl, hc => by
    obtain ⟨v3', v6', v7', k', w⟩ := lls_loop n d g e (some (.d (.tuple b.encs))) (some (.d (.int (k : Int)))) S (fun d' hd b' k' hb hl' hc' => by
      subst hd
      exact law_less_b d' n g e b' k' S hb hl' hc') b [] k none none none h (by simpa using hl) hc
    rw [run__law_less]
    simp [llsBody, b__law_less] at w
    simp [b__law_less, w]
end Law

namespace Law
open PySem L2 G
theorem take_set_ge {T : Store} {k N : Nat} (h : N ≤ k) (c : Cell) : (T.set k c).take N = T.take N := by
  rw [List.take_set]
  exact List.set_eq_of_length_le (by simp; omega)
theorem take_app_ge {T U : Store} {N : Nat} (h : N ≤ T.length) : (T ++ U).take N = T.take N := by
  rw [List.take_append_of_le_length h]
/-! first words; kinds of rows -/
def hdD : D → D
  | .tuple (w :: _) => w
  | _ => .none
mutual
def Stm.fst : Stm → List D
  | .pl p => [hdD p.enc]
  | .ifs _ a b => wS "if" :: (a.fst ++ b.fst)
def Body.fst : Body → List D
  | .nil => []
  | .cons s r => s.fst ++ r.fst
end
mutual
theorem Stm.all_fst : ∀ s : Stm, s.all.map hdD = s.fst
  | .pl p => rfl
  | .ifs t a b => by simp only [Stm.all, Stm.fst, List.map_cons, List.map_append, Body.all_fst a, Body.all_fst b]; rfl
theorem Body.all_fst : ∀ b : Body, b.all.map hdD = b.fst
  | .nil => rfl
  | .cons s r => by simp only [Body.all, Body.fst, List.map_append, Stm.all_fst s, Body.all_fst r]
end
def TupW (x : D) : Prop := ∃ (w : String) (r : List D), x = .tuple (wS w :: r)
mutual
theorem Stm.all_tup : ∀ s : Stm, ∀ x ∈ s.all, TupW x
  | .pl p, x, h => by
    obtain ⟨w, r, e, _⟩ := Pl.enc_eq p
    simp only [Stm.all, List.mem_singleton] at h
    exact ⟨w, r, by rw [h, e]⟩
  | .ifs t a b, x, h => by
    simp only [Stm.all, List.mem_cons, List.mem_append] at h
    rcases h with rfl | h | h
    · exact ⟨"if", _, rfl⟩
    · exact Body.all_tup a x h
    · exact Body.all_tup b x h
theorem Body.all_tup : ∀ b : Body, ∀ x ∈ b.all, TupW x
  | .nil, x, h => by simp [Body.all] at h
  | .cons s r, x, h => by
    simp only [Body.all, List.mem_append] at h
    rcases h with h | h
    · exact Stm.all_tup s x h
    · exact Body.all_tup r x h
end
theorem Body.fst_len (b : Body) : b.fst.length = b.cnt := by rw [← Body.all_fst, List.length_map, Body.all_len]
theorem Body.fst_str (b : Body) : ∀ x ∈ b.fst, x.plain = true ∧ x.depth ≤ 0 := by
  intro x h
  rw [← Body.all_fst] at h
  obtain ⟨y, hy, rfl⟩ := List.mem_map.mp h
  obtain ⟨w, r, rfl⟩ := Body.all_tup b y hy
  simp [hdD, PyData.plain, PyData.depth]
theorem words_l (n : Nat) (l : Loop) (h : l.ok 20) (S : Store) : FS defs (n + 12) "words" [.d l.enc] S = some (.ok (.d (.list (l.each.fst ++ l.after.fst))) S) := by
  have q1 := need_loop_l n l S h
  have d1 := Body.dep_of _ _ _ h.1
  have d2 := Body.dep_of _ _ _ h.2.1
  have hc := h.2.2.2.2
  have a1 := all_in_b 4 (n + 5) l.each S d1 (by omega)
  have a2 := all_in_b 4 (n + 5) l.after S d2 (by omega)
  have q3 : FS defs (n + 11) "all_of" [.d l.enc] S = some (.ok (.d (.list (l.each.all ++ l.after.all))) S) := by
    rw [run_all_of]
    have z : l.each.all.length + l.after.all.length ≤ 16777216 := by rw [Body.all_len, Body.all_len]; omega
    simp only [Body.enc] at a1 a2
    simp [b_all_of, a1, a2, z]
  simp only [Loop.enc, Body.enc] at q1 q3 ⊢
  have c : cLc false (iSeq (cCallO (FS defs (n + 11) "all_of") (cCons (cVar 0) cNil))) (cT false [1]) cYes (cOp2 idxD (cVar 1) (cCst (.int 0))) [1] [some (.d (.tuple [.tuple l.each.encs, .tuple l.after.encs])), none] S = some (.ok (.d (.list ((l.each.all ++ l.after.all).map hdD))) S) := by
    apply cLc_map0 (xs := l.each.all ++ l.after.all) (g := fun x => x)
    · simp [q3]
    · rw [List.length_append, Body.all_len, Body.all_len]
      exact Nat.le_trans hc (by decide)
    · intro x hx
      have ht : TupW x := by
        rcases List.mem_append.mp hx with h | h
        · exact Body.all_tup _ _ h
        · exact Body.all_tup _ _ h
      obtain ⟨w, r, rfl⟩ := ht
      refine ⟨_, rfl, fun S' => ?_⟩
      simp [hdD]
  rw [List.map_append, Body.all_fst, Body.all_fst] at c
  rw [run_words]
  simp [b_words, q1, c]
def lfBody : MSs := match b__law_firsts with
  | .cons _ (.cons (.for _ _ b) _) => b
  | _ => .nil
theorem lf_loop (n d : Nat) (v0 : Option Val) (rec_ : ∀ (b : Body) (S : Store), b.dep < d → b.cnt ≤ 1000 → FS defs (n + d) "_law_firsts" [.d (.tuple b.encs)] S = some (.ok (.d (.list b.fst)) S)) (N : Nat) (S0 : Store) :
    ∀ (b : Body) (xs : List D) (k : Nat) (T : Store) (v2 : Option Val), b.dep ≤ d → xs.length + b.cnt ≤ 1000 → N ≤ k → T[k]? = some (.lst xs) → T.take N = S0 →
    ∃ v2' k' T', forL (gN 2) (evSs (FS defs (n + d)) lfBody) b.encs [v0, some (.loc k), v2] T = some (.ok (.nx [v0, some (.loc k'), v2']) T') ∧ N ≤ k' ∧ T'[k']? = some (.lst (xs ++ b.fst)) ∧ T'.take N = S0
  | .nil, xs, k, T, v2, _, _, hk, ht, hT => ⟨v2, k, T, by simp [Body.encs], hk, by simpa [Body.fst] using ht, hT⟩
  | .cons s r, xs, k, T, v2, hd, hx, hk, ht, hT => by
    simp only [Body.dep] at hd
    simp only [Body.cnt] at hx
    have lk := (List.getElem?_eq_some_iff.mp ht).1
    have z0 : xs.length < 16777216 := by omega
    have zL : xs.length < sizeLine := by rw [sizeLine_eq]; exact z0
    have lkT : (T.set k (.lst (xs ++ [wS "if"])))[k]? = some (.lst (xs ++ [wS "if"])) := by simp [lk]
    clear lk
    rw [Body.encs, forL_cons]
    cases s with
    | pl p =>
      obtain ⟨w, l, e, hw⟩ := Pl.enc_eq p
      simp only [Stm.cnt] at hx
      obtain ⟨w2, k', T', h1, h2, h3, h4⟩ := lf_loop n d v0 rec_ N S0 r (xs ++ [wS w]) k (T.set k (.lst (xs ++ [wS w]))) (some (.d p.enc)) (by omega) (by simp; omega) hk (by rw [List.getElem?_set_self (List.getElem?_eq_some_iff.mp ht).1]) (by rw [take_set_ge hk]; exact hT)
      refine ⟨w2, k', T', ?_, h2, ?_, h4⟩
      · simp [lfBody, b__law_firsts, e] at h1
        clear h2 h3 h4 hT lkT
        simp (disch := first | omega | simp) [lfBody, b__law_firsts, Stm.enc, e, hw, cApp, ht, zL, h1]
      · rw [h3, Body.fst, Stm.fst, e]
        simp [hdD]
    | ifs t a b =>
      simp only [Stm.dep] at hd
      simp only [Stm.cnt] at hx
      have q1 := fun S => rec_ a S (by omega) (by omega)
      have q2 := fun S => rec_ b S (by omega) (by omega)
      have fa := Body.fst_len a
      have fb := Body.fst_len b
      let T1 : Store := T.set k (.lst (xs ++ [wS "if"]))
      obtain ⟨w2, k', T', h1, h2, h3, h4⟩ := lf_loop n d v0 rec_ N S0 r (xs ++ [wS "if"] ++ a.fst ++ b.fst) T1.length (T1 ++ [.lst (xs ++ [wS "if"] ++ a.fst ++ b.fst)]) (some (.d (Stm.ifs t a b).enc)) (by omega) (by simp; omega) (by have := (List.getElem?_eq_some_iff.mp ht).1; simp [T1]; omega) (by simp) (by
        have := (List.getElem?_eq_some_iff.mp ht).1
        rw [take_app_ge (by simp [T1]; omega)]
        simp only [T1]
        rw [take_set_ge hk]; exact hT)
      refine ⟨w2, k', T', ?_, h2, ?_, h4⟩
      · simp [lfBody, b__law_firsts, Stm.enc, T1] at h1
        clear h2 h3 h4 hT
        simp (disch := first | omega | simp) [lfBody, b__law_firsts, Stm.enc, cApp, ht, lkT, zL, q1, q2, view, h1]
      · rw [h3, Body.fst, Stm.fst]
        simp
theorem law_firsts_b : ∀ (d n : Nat) (b : Body) (S : Store), b.dep ≤ d → b.cnt ≤ 1000 → FS defs (n + d + 1) "_law_firsts" [.d (.tuple b.encs)] S = some (.ok (.d (.list b.fst)) S)
  | d, n, b, S, h, hc => by
    obtain ⟨v2, k, T, w, h2, h3, h4⟩ := lf_loop n d (some (.d (.tuple b.encs))) (fun b' S' hb hc' => by
      match d, hb with
      | d + 1, hb => exact law_firsts_b d n b' S' (by omega) hc') S.length S b [] S.length (S ++ [.lst []]) none h (by simpa using hc) (Nat.le_refl _) (by simp) (by simp)
    have h5 : (T.set k Cell.dead).take S.length = S := by rw [take_set_ge h2]; exact h4
    rw [run__law_firsts]
    simp [lfBody, b__law_firsts] at w
    simp at h3
    simp [b__law_firsts, cNew, w, cFrzV, h3, h5]
theorem loop_turned_l (n : Nat) (l : Loop) (h : l.ok 20) (S : Store) : FS defs (n + 12) "upside_down" [.d l.enc] S = some (.ok (.d (.tuple [.tuple l.each.turn.encs, .tuple l.after.turn.encs])) S) := by
  have q1 := need_loop_l n l S h
  have t1 := body_turned_b 4 (n + 5) true l.each S h.1 h.2.2.1
  have t2 := body_turned_b 4 (n + 5) false l.after S h.2.1 h.2.2.2.1
  have q2 : FS defs (n + 11) "loop_turned" [.d l.enc] S = some (.ok (.d (.tuple [.tuple l.each.turn.encs, .tuple l.after.turn.encs])) S) := by
    rw [run_loop_turned]
    simp [b_loop_turned, t1, t2]
  rw [run_upside_down]
  simp [b_upside_down, q1, q2]
theorem without_l (n : Nat) (l : Loop) (h : l.ok 20) (g : Nat) (hg : g < l.each.cnt + l.after.cnt) (S : Store) : FS defs (n + 12) "without" [.d l.enc, .d (.int (g : Int))] S = some (.ok (.d (.tuple [.tuple (l.each.less g 0).encs, .tuple (l.after.less g l.each.cnt).encs])) S) := by
  have q1 := need_loop_l n l S h
  have d1 := Body.dep_of _ _ _ h.1
  have d2 := Body.dep_of _ _ _ h.2.1
  have hc := h.2.2.2.2
  have t1 := body_less_b 4 (n + 4) g true l.each 0 S h.1 h.2.2.1 (by omega)
  have t2 := body_less_b 4 (n + 4) g false l.after l.each.cnt S h.2.1 h.2.2.2.1 (by omega)
  have q3 : FS defs (n + 10) "all_of" [.d l.enc] S = some (.ok (.d (.list (l.each.all ++ l.after.all))) S) := by
    have a1 := all_in_b 4 (n + 4) l.each S d1 (by omega)
    have a2 := all_in_b 4 (n + 4) l.after S d2 (by omega)
    rw [run_all_of]
    have z : l.each.all.length + l.after.all.length ≤ 16777216 := by rw [Body.all_len, Body.all_len]; omega
    simp only [Body.enc] at a1 a2
    simp [b_all_of, a1, a2, z]
  have q4 : FS defs (n + 11) "need_statement" [.d l.enc, .d (.int (g : Int))] S = some (.ok (.d .none) S) := by
    have i1 := is_number_any (n + 9) (k := 0) (.int (g : Int)) (by simp [Gd]) S
    have e1 := Body.all_len l.each
    have e2 := Body.all_len l.after
    have z : (g : Int) < (l.each.all.length : Int) + (l.after.all.length : Int) := by omega
    simp only [Loop.enc, Body.enc] at q3 ⊢
    rw [run_need_statement]
    simp [isI] at i1
    simp [b_need_statement, i1, q3, z]
  have q2 : FS defs (n + 11) "loop_less" [.d l.enc, .d (.int (g : Int))] S = some (.ok (.d (.tuple [.tuple (l.each.less g 0).encs, .tuple (l.after.less g l.each.cnt).encs])) S) := by
    have a1 := all_in_b 4 (n + 5) l.each S d1 (by omega)
    have e1 : (l.each.all.length : Int) = (l.each.cnt : Int) := by rw [Body.all_len]
    simp only [Body.enc] at a1
    rw [run_loop_less]
    simp at t1
    simp [b_loop_less, t1, t2, a1, e1]
  rw [run_without]
  simp only [Loop.enc, Body.enc] at q1 q2 q4 ⊢
  simp [b_without, q1, q2, q4]
end Law

namespace Law
open PySem L2 G
theorem zipL_map (f : Int → D) : ∀ as bs : List Int, zipL (as.map f) (bs.map f) = (as.zip bs).map fun p => PyData.tuple [f p.1, f p.2]
  | [], _ => by simp [zipL]
  | _ :: _, [] => by simp [zipL]
  | a :: as, b :: bs => by
    have := zipL_map f as bs
    simp only [zipL] at this
    simp [zipL, this]
def U1 (ns : List Int) : Bool := (ns.zip (ns.drop 1)).all fun p => !decide (p.1 = p.2)
def U2 (ns : List Int) : Bool := ((List.range (ns.length - 1)).filter fun i => decide (ns.getD (i + 1) 0 = ns.getD i 0)).isEmpty
theorem U_eq (ns : List Int) : U2 ns = U1 ns := by
  apply Bool.eq_iff_iff.mpr
  unfold U1 U2
  rw [List.isEmpty_iff, List.filter_eq_nil_iff, List.all_eq_true]
  constructor
  · intro h p hp
    obtain ⟨i, hi, rfl⟩ := List.mem_iff_getElem.mp hp
    simp only [List.length_zip, List.length_drop] at hi
    have hi2 : i < ns.length - 1 := by omega
    have := h i (List.mem_range.mpr hi2)
    simp only [List.getElem_zip, List.getElem_drop, Bool.not_eq_true', decide_eq_false_iff_not]
    simp only [decide_eq_true_eq, List.getD_eq_getElem?_getD, List.getElem?_eq_getElem (show i + 1 < ns.length by omega), List.getElem?_eq_getElem (show i < ns.length by omega), Option.getD_some] at this
    intro e
    apply this
    rw [e]
    congr 1
    omega
  · intro h i hi
    have hi2 : i < ns.length - 1 := List.mem_range.mp hi
    have hz : i < (ns.zip (ns.drop 1)).length := by simp; omega
    have := h _ (List.getElem_mem hz)
    simp only [List.getElem_zip, List.getElem_drop, Bool.not_eq_true', decide_eq_false_iff_not] at this
    simp only [decide_eq_true_eq, List.getD_eq_getElem?_getD, List.getElem?_eq_getElem (show i + 1 < ns.length by omega), List.getElem?_eq_getElem (show i < ns.length by omega), Option.getD_some]
    intro e
    apply this
    rw [← e]
    congr 1
    omega
def kdB (kd : String) (ns : List Int) : Bool := decide (kd = "any") || U1 ns
theorem need_row_t (n : Nat) (ns : List Int) (h : ns.length ≤ 40) (S : Store) : FS defs (n + 3) "need_row" [.d (.tuple (ns.map .int))] S = some (.ok (.d .none) S) := by
  obtain ⟨r, q, hr⟩ := is_row_any n (k := 1) (.tuple (ns.map .int)) (Gd.tupI (by simp; omega) fun x hx => by
    obtain ⟨i, _, rfl⟩ := List.mem_map.mp hx
    simp [Gd]) S
  rw [hr.mpr ⟨ns, rfl, h⟩] at q
  rw [run_need_row]
  simp [b_need_row, q]
theorem is_of_kind_t (n : Nat) (ns : List Int) (h : ns.length ≤ 40) (kd : String) (hk : kd = "any" ∨ kd = "unlike") (S : Store) : FS defs (n + 4) "is_of_kind" [.d (.tuple (ns.map .int)), .d (wS kd)] S = some (.ok (.d (.bool (kdB kd ns))) S) := by
  have q1 := need_row_t n ns h S
  have q2 : FS defs (n + 3) "need_kind" [.d (wS kd)] S = some (.ok (.d .none) S) := by
    rw [run_need_kind]
    rcases hk with rfl | rfl <;> simp [b_need_kind, g_ANY, g_UNLIKE]
  have c : cLc false (iZp (cVar 0) (cSlc (cVar 0) (cPart (cCst (.int 1))) cNoPart)) (cT true [2, 3]) cYes (cOp2 neD (cVar 2) (cVar 3)) [2, 3] [some (.d (.tuple (ns.map .int))), some (.d (wS kd)), none, none] S = some (.ok (.d (.list ((ns.zip (ns.drop 1)).map fun p => PyData.bool (!decide (p.1 = p.2))))) S) := by
    apply cLc_map0 (xs := ns.zip (ns.drop 1)) (g := fun p => PyData.tuple [.int p.1, .int p.2])
    · have := zipL_map PyData.int ns (ns.drop 1)
      rw [List.map_drop] at this
      simp only [List.drop_one] at this
      simp [cut_from1, this]
    · have : (ns.zip (ns.drop 1)).length ≤ 40 := by rw [List.length_zip]; omega
      exact Nat.le_trans this (by decide)
    · intro p hp
      refine ⟨_, by simp [setAll]; rfl, fun S' => ?_⟩
      simp
  have bm := bools_map (fun p : Int × Int => !decide (p.1 = p.2)) (ns.zip (ns.drop 1))
  rw [run_is_of_kind]
  rcases hk with rfl | rfl
  · simp [b_is_of_kind, q1, q2, g_ANY, kdB]
  · simp [b_is_of_kind, q1, q2, g_ANY, kdB, c, bm, U1, List.all_map, Function.comp_def]
theorem law_of_kind_t (n : Nat) (ns : List Int) (h : ns.length ≤ 40) (kd : String) (S : Store) : FS defs (n + 1) "_law_of_kind" [.d (.tuple (ns.map .int)), .d (wS kd)] S = some (.ok (.d (.bool (kdB kd ns))) S) := by
  have rl : rangeL 1 (ns.length - 1) = (List.range (ns.length - 1)).map fun (i : Nat) => PyData.int (1 + (i : Int)) := by
    simp [rangeL]
  have c : cLc false (iRng2 (cCst (.int 1)) (cOp1 lenD (cVar 0))) (cT false [3]) (cTru (cOp2 eqD (cOp2 idxD (cVar 0) (cVar 3)) (cOp2 idxD (cVar 0) (cOp2 subD (cVar 3) (cCst (.int 1)))))) (cVar 3) [3] [some (.d (.tuple (ns.map .int))), some (.d (wS kd)), none, none] S = some (.ok (.d (.list (((List.range (ns.length - 1)).filter fun i => decide (ns.getD (i + 1) 0 = ns.getD i 0)).map fun (i : Nat) => PyData.int (1 + (i : Int))))) S) := by
    apply cLc_pure0 (xs := List.range (ns.length - 1)) (g := fun (i : Nat) => PyData.int (1 + (i : Int))) (fun i => decide (ns.getD (i + 1) 0 = ns.getD i 0))
    · have o1 : okR 1 := by decide
      have o2 : okR (ns.length : Int) := by unfold okR; omega
      have e : ((ns.length : Int) - 1).toNat = ns.length - 1 := by omega
      simp [o1, o2, e, rl]
    · simp only [List.length_range]
      exact Nat.le_trans (show _ ≤ 40 by omega) (by decide)
    · intro i hi
      have hi2 : i < ns.length - 1 := List.mem_range.mp hi
      have a1 : atI (ns.map PyData.int) (1 + (i : Int)) = some (.int (ns.getD (i + 1) 0)) := by
        rw [show 1 + (i : Int) = ((i + 1 : Nat) : Int) from by omega, G.atI_nat]
        simp [List.getElem?_eq_getElem (show i + 1 < ns.length by omega)]
      have a2 : atI (ns.map PyData.int) (i : Int) = some (.int (ns.getD i 0)) := by
        rw [G.atI_nat]
        simp [List.getElem?_eq_getElem (show i < ns.length by omega)]
      have a3 : 1 + (i : Int) - 1 = (i : Int) := by omega
      refine ⟨_, rfl, fun S' => ⟨?_, fun _ => by simp⟩⟩
      simp [a1, a2, a3]
  have ue := U_eq ns
  unfold U2 at ue
  generalize (List.range (ns.length - 1)).filter (fun i => decide (ns.getD (i + 1) 0 = ns.getD i 0)) = F at c ue
  rw [run__law_of_kind]
  have fe : (F.map fun (i : Nat) => PyData.int (1 + (i : Int))).isEmpty = F.isEmpty := by cases F <;> rfl
  have en := eqD_lnil (F.map fun (i : Nat) => PyData.int (1 + (i : Int)))
  rw [fe, ue] at en
  by_cases k : kd = "any"
  · subst k
    simp [b__law_of_kind, c, kdB]
  · simp [b__law_of_kind, c, kdB, k, en]
end Law

namespace Law
open PySem L2 G
theorem neD_self {x : D} (h : x.plain = true) (d : x.depth ≤ 60) : neD x x = some (.bool false) := by
  unfold neD shal
  rw [if_pos (decide_eq_true (Nat.le_trans (Nat.min_le_left _ _) d)), SeqAt.eqv_refl_plain x h]
  rfl
theorem plainAll_map {α : Type} (f : α → D) (h : ∀ x, (f x).plain = true) : ∀ xs : List α, PyData.plainAll (xs.map f) = true
  | [] => rfl
  | x :: xs => by simp only [List.map_cons, PyData.plainAll, h x, plainAll_map f h xs, Bool.and_self]
theorem depthAll_map' {α : Type} (f : α → D) (d : Nat) (h : ∀ x, (f x).depth ≤ d) : ∀ xs : List α, PyData.depthAll (xs.map f) ≤ d
  | [] => Nat.zero_le _
  | x :: xs => by
    simp only [List.map_cons, PyData.depthAll]
    exact Nat.max_le.mpr ⟨h x, depthAll_map' f d h xs⟩
theorem neD_bool (a b : Bool) : neD (.bool a) (.bool b) = some (.bool (a != b)) := by cases a <;> cases b <;> rfl
/-- comprehensions that read the cells below -/
theorem lcL_rd {α : Type} {tg : D → G.Env → Option G.Env} {t : DenT} {el : Den} {env : G.Env} (S : Store) (g : α → D) (p : α → Bool) (f : α → D) : ∀ (xs : List α) (ys : List D), (∀ x ∈ xs, ∃ e, tg (g x) env = some e ∧ ∀ ys, t e (S ++ [.lst ys]) = some (.ok (p x) (S ++ [.lst ys])) ∧ (p x = true → el e (S ++ [.lst ys]) = some (.ok (.d (f x)) (S ++ [.lst ys])))) → ys.length + xs.length ≤ sizeLine →
    lcL tg t el S.length (xs.map g) env (S ++ [.lst ys]) = some (S ++ [.lst (ys ++ (xs.filter p).map f)])
  | [], ys, _, _ => by simp [lcL]
  | x :: xs, ys, h, hz => by
    obtain ⟨e, h1, h2⟩ := h x (by simp)
    obtain ⟨h3, h4⟩ := h2 ys
    rw [List.length_cons] at hz
    rw [List.map_cons, lcL, h1]
    simp only [h3]
    cases hp : p x with
    | true =>
      simp only [h4 hp]
      have ih := lcL_rd S g p f xs (ys ++ [f x]) (fun y hy => h y (by simp [hy])) (by simp; omega)
      simp only [List.getElem?_append_right (Nat.le_refl _), Nat.sub_self, List.getElem?_cons_zero]
      rw [if_pos (by omega)]
      rw [show (S ++ [Cell.lst ys]).set S.length (.lst (ys ++ [f x])) = S ++ [.lst (ys ++ [f x])] from by simp]
      rw [ih]
      simp [List.filter_cons, hp]
    | false =>
      have ih := lcL_rd S g p f xs ys (fun y hy => h y (by simp [hy])) (by omega)
      show lcL tg t el S.length (xs.map g) env (S ++ [.lst ys]) = _
      rw [ih]
      simp [List.filter_cons, hp]
theorem cLc_rd0 {α : Type} {src : DenI} {tg : D → G.Env → Option G.Env} {t : DenT} {el : Den} {wipes : List Nat} {env : G.Env} {S : Store} {xs : List α} {g : α → D} (p : α → Bool) (f : α → D) (hs : src env S = some (.ok (xs.map g) S)) (hz : xs.length ≤ sizeLine)
    (h : ∀ x ∈ xs, ∃ e, tg (g x) (wipeE env wipes) = some e ∧ ∀ ys, t e (S ++ [.lst ys]) = some (.ok (p x) (S ++ [.lst ys])) ∧ (p x = true → el e (S ++ [.lst ys]) = some (.ok (.d (f x)) (S ++ [.lst ys])))) : cLc false src tg t el wipes env S = some (.ok (.d (.list ((xs.filter p).map f))) S) := by
  unfold cLc
  rw [hs, bnd_ok, lcL_rd S g p f xs [] h (by simpa using hz)]
  simp
theorem Pl.pd (p : Pl) : p.enc.plain = true ∧ p.enc.depth ≤ 1 := by cases p <;> simp [Pl.enc, PyData.plain, PyData.plainAll, PyData.depth, PyData.depthAll]
theorem Tst.pd (t : Tst) : t.enc.plain = true ∧ t.enc.depth ≤ 1 := by cases t <;> simp [Tst.enc, PyData.plain, PyData.plainAll, PyData.depth, PyData.depthAll]
mutual
theorem Stm.pd : ∀ s : Stm, s.enc.plain = true ∧ s.enc.depth ≤ 2 * s.dep + 2
  | .pl p => by
    have := p.pd
    simp only [Stm.enc, Stm.dep]
    exact ⟨this.1, by omega⟩
  | .ifs t a b => by
    have h0 := t.pd
    have h1 := Body.pd a
    have h2 := Body.pd b
    simp only [Stm.enc, Stm.dep, PyData.plain, PyData.plainAll, PyData.depth, PyData.depthAll, h0.1, h1.1, h2.1, Bool.and_self, true_and]
    omega
theorem Body.pd : ∀ b : Body, PyData.plainAll b.encs = true ∧ PyData.depthAll b.encs ≤ 2 * b.dep
  | .nil => by simp [Body.encs, PyData.plainAll, PyData.depthAll]
  | .cons s r => by
    have h1 := Stm.pd s
    have h2 := Body.pd r
    simp only [Body.encs, Body.dep, PyData.plainAll, PyData.depthAll, h1.1, h2.1, Bool.and_self, true_and]
    omega
end
theorem neD_loop (l : Loop) (h : l.ok 20) : neD l.enc l.enc = some (.bool false) := by
  have h1 := Body.pd l.each
  have h2 := Body.pd l.after
  have d1 := Body.dep_of _ _ _ h.1
  have d2 := Body.dep_of _ _ _ h.2.1
  refine neD_self ?_ ?_
  · simp [PyData.plain, PyData.plainAll, h1.1, h2.1]
  · simp only [PyData.depth, PyData.depthAll]
    omega
theorem row_t (n : Nat) (m : Nat) (most : Nat) (hm : most ≤ 1000000) (S : Store) (h : Bag m S) : ∃ (r : List Int) (S' : Store), FS defs (n + 3) "_law_row" [.loc m, .d (.int most)] S = some (.ok (.d (.tuple (r.map .int))) S') ∧ S'.length = S.length ∧ Bag m S' ∧ (∀ i, i ≠ m → S'[i]? = S[i]?) ∧ r.length ≤ most := by
  obtain ⟨x, a, b, e1, x0, x1⟩ := take_t (n + 1) m ((most : Int) + 1) (many_of _ (by omega) (by omega)) S h
  have h1 := h.set a b
  obtain ⟨i, y, a2, b2, e2, hy⟩ := of_t n m [.int 2, .int 3, .int 4, .int (x + 1), .int (10 ^ 12)] (by simp) (by simp) _ h1
  have hy' : ∃ v : Int, y = .int v ∧ 0 < v ∧ v ≤ 1000000000000 := by
    have hi := (List.getElem?_eq_some_iff.mp hy).1
    simp only [List.length_cons, List.length_nil] at hi
    match i, hi with
    | 0, _ => simp at hy; exact ⟨2, hy.symm, by decide, by decide⟩
    | 1, _ => simp at hy; exact ⟨3, hy.symm, by decide, by decide⟩
    | 2, _ => simp at hy; exact ⟨4, hy.symm, by decide, by decide⟩
    | 3, _ => simp at hy; exact ⟨x + 1, hy.symm, by omega, by omega⟩
    | 4, _ => simp at hy; exact ⟨1000000000000, hy.symm, by decide, by decide⟩
  obtain ⟨v, rfl, v0, v1⟩ := hy'
  have h2 := h1.set a2 b2
  have hx : x = (x.toNat : Int) := by omega
  let S2 : Store := (S.set m (.lst [.int a, .int b])).set m (.lst [.int a2, .int b2])
  have hl2 : S2.length = S.length := by simp [S2]
  obtain ⟨zs, S', g1, g2, g3, g4, g5⟩ := cLc_eff (src := iRng1 (cVar 2)) (tg := cT false [4]) (wipes := [4]) (el := evE (FS defs (n + 2)) (.bin .Sub (.call "_law_take" "_law_take" (.cons (.var 0) (.cons (.var 3) .nil))) (.call "_law_of" "_law_of" (.cons (.var 0) (.cons (.lst (.cons (.cst (.int 0)) (.cons (.cst (.int 0)) (.cons (.cst (.int 1)) .nil)))) .nil)))))
    (env := [some (.loc m), some (.d (.int most)), some (.d (.int x)), some (.d (.int v)), none]) (S := S2) (S1 := S2) (xs := rangeL 0 x.toNat)
    (fun T => Bag m T ∧ ∀ i, i ≠ m → i < S.length → T[i]? = S[i]?) (fun y => ∃ i : Int, y = .int i) (by
      have : okR x := by unfold okR; omega
      simp [this]) (by simp only [rangeL, List.length_map, List.length_range]; exact Nat.le_trans (show x.toNat ≤ 1000000 by omega) (show 1000000 ≤ sizeLine by decide)) ⟨h2, fun i hi hl => by simp [S2, Ne.symm hi]⟩ (fun y hy => by
      refine ⟨[some (.loc m), some (.d (.int most)), some (.d (.int x)), some (.d (.int v)), some (.d y)], by simp, fun T ys hT hi => ?_⟩
      obtain ⟨hB, hI⟩ := hi
      obtain ⟨x3, a3, b3, e3, _, _⟩ := take_t (n + 1) m v (many_of v v0 v1) (T ++ [.lst ys]) (hB.app _)
      have hm3 := hB.lt
      have q3 : (T ++ [Cell.lst ys]).set m (.lst [.int a3, .int b3]) = T.set m (.lst [.int a3, .int b3]) ++ [.lst ys] := by rw [List.set_append_left _ _ hm3]
      rw [q3] at e3
      have hB3 := hB.set a3 b3
      obtain ⟨j, y4, a4, b4, e4, hy4⟩ := of_t n m [.int 0, .int 0, .int 1] (by simp) (by simp) (T.set m (.lst [.int a3, .int b3]) ++ [.lst ys]) (hB3.app _)
      have q4 : (T.set m (.lst [.int a3, .int b3]) ++ [Cell.lst ys]).set m (.lst [.int a4, .int b4]) = (T.set m (.lst [.int a3, .int b3])).set m (.lst [.int a4, .int b4]) ++ [.lst ys] := by rw [List.set_append_left _ _ (by simpa using hm3)]
      rw [q4] at e4
      have hy5 : ∃ w : Int, y4 = .int w := by
        have hj := (List.getElem?_eq_some_iff.mp hy4).1
        simp only [List.length_cons, List.length_nil] at hj
        match j, hj with
        | 0, _ => simp at hy4; exact ⟨0, hy4.symm⟩
        | 1, _ => simp at hy4; exact ⟨0, hy4.symm⟩
        | 2, _ => simp at hy4; exact ⟨1, hy4.symm⟩
      obtain ⟨w, rfl⟩ := hy5
      refine ⟨.int (x3 - w), (T.set m (.lst [.int a3, .int b3])).set m (.lst [.int a4, .int b4]), ?_, by simp [hT], ⟨hB3.set a4 b4, fun i hi hl => ?_⟩, _, rfl⟩
      · simp [e3, e4]
      · simp [Ne.symm hi, hI i hi hl])
  have hz : ∀ zs : List D, (∀ y ∈ zs, ∃ i : Int, y = .int i) → ∃ r : List Int, zs = r.map .int := by
    intro zs
    induction zs with
    | nil => exact fun _ => ⟨[], rfl⟩
    | cons z zs ih =>
      intro H
      obtain ⟨i, rfl⟩ := H z (by simp)
      obtain ⟨r, rfl⟩ := ih fun y hy => H y (by simp [hy])
      exact ⟨i :: r, rfl⟩
  obtain ⟨r, rfl⟩ := hz zs g4
  refine ⟨r, S', ?_, by rw [g2, hl2], g3.1, ?_, ?_⟩
  · rw [run__law_row]
    have e10 : ((10 : Int) ^ 12) = 1000000000000 := by decide
    rw [e10] at e2
    simp [S2] at g1
    have hlS : S'.take S.length = S' := List.take_of_length_le (by rw [g2, hl2]; exact Nat.le_refl _)
    simp [b__law_row, e1, e2, g1, hlS]
  · intro i hi
    by_cases q : i < S.length
    · exact g3.2 i hi q
    · rw [List.getElem?_eq_none (by rw [g2, hl2]; omega), List.getElem?_eq_none (by omega)]
  · rw [List.length_map] at g5
    rw [g5]
    simp only [rangeL, List.length_map, List.length_range]
    omega
end Law

namespace Law
open PySem L2 G
theorem Gs.up : ∀ {n m : Nat} {x : D}, n ≤ m → Gs n x → Gs m x
  | n, m, .none, _, _ => by simp [Gs]
  | n, m, .bool _, _, _ => by simp [Gs]
  | n, m, .int _, _, _ => by simp [Gs]
  | n, m, .str _, _, g => by
    cases n <;> cases m <;> simpa [Gs] using g
  | 0, m, .tuple xs, _, g => by simp [Gs] at g
  | 0, m, .list xs, _, g => by simp [Gs] at g
  | n + 1, m, .list xs, _, g => by simp [Gs] at g
  | n + 1, 0, .tuple xs, h, g => absurd h (by omega)
  | n + 1, m + 1, .tuple xs, h, g => by
    simp only [Gs] at g ⊢
    exact ⟨g.1, fun x hx => Gs.up (by omega) (g.2 x hx)⟩
  | 0, m, .dict kvs, _, g => by simp [Gs] at g
  | n + 1, m, .dict kvs, _, g => by simp [Gs] at g
theorem Gs.tupI {n : Nat} {xs : List D} (h : xs.length ≤ 100) (g : ∀ x ∈ xs, Gs n x) : Gs (n + 1) (.tuple xs) := by
  simp only [Gs]
  exact ⟨h, g⟩
theorem Gs.strI (n : Nat) {s : Str} (h : s.length ≤ 1000) : Gs n (.str s) := by cases n <;> simpa [Gs] using h
theorem Hd.sl (a : Hd) : (Str.ofString a.s).length ≤ 1000 := by cases a <;> decide
theorem Fg.sl (a : Fg) : (Str.ofString a.s).length ≤ 1000 := by cases a <;> decide
theorem Th.sl (a : Th) : (Str.ofString a.s).length ≤ 1000 := by
  cases a with
  | h a => exact Hd.sl a
  | item => decide
theorem Pl.gs (p : Pl) : Gs 1 p.enc := by
  cases p <;> simp only [Pl.enc] <;> refine Gs.tupI (by simp) ?_ <;> intro x hx <;> simp only [List.mem_cons, List.not_mem_nil, or_false] at hx <;> rcases hx with rfl | rfl | rfl <;> first | exact Gs.strI _ (Hd.sl _) | exact Gs.strI _ (Fg.sl _) | exact Gs.strI _ (Th.sl _) | exact Gs.strI _ (by decide)
theorem gs1 {a : String} (ha : (Str.ofString a).length ≤ 1000) : Gs 1 (.tuple [wS a]) := Gs.tupI (by simp) fun x hx => by
  rw [List.mem_singleton.mp hx]
  exact Gs.strI _ ha
theorem Tst.gs (p : Tst) : Gs 1 p.enc := by
  cases p with
  | first => exact gs1 (by decide)
  | last => exact gs1 (by decide)
  | _ => simp only [Tst.enc] <;> refine Gs.tupI (by simp) ?_ <;> intro x hx <;> simp only [List.mem_cons, List.not_mem_nil, or_false] at hx <;> rcases hx with rfl | rfl | rfl <;> first | exact Gs.strI _ (Hd.sl _) | exact Gs.strI _ (Fg.sl _) | exact Gs.strI _ (Th.sl _) | exact Gs.strI _ (by decide)
mutual
theorem Stm.gs {e : Bool} : ∀ (s : Stm) (d : Nat), s.ok e d = true → Gs (2 * d + 2) s.enc
  | .pl p, d, _ => Gs.up (by omega) p.gs
  | .ifs t a b, d, h => by
    simp only [Stm.ok, Bool.and_eq_true, decide_eq_true_eq] at h
    have h1 := Body.gs a d h.1.1.1.2
    have h2 := Body.gs b d h.1.1.2
    have l1 := Body.encs_len a
    have l2 := Body.encs_len b
    refine Gs.tupI (n := 2 * d + 1) (by simp) fun x hx => ?_
    simp only [List.mem_cons, List.not_mem_nil, or_false] at hx
    rcases hx with rfl | rfl | rfl | rfl
    · exact Gs.strI _ (by decide)
    · exact Gs.up (by omega) t.gs
    · exact Gs.tupI (by omega) h1
    · exact Gs.tupI (by omega) h2
theorem Body.gs {e : Bool} : ∀ (b : Body) (d : Nat), b.oks e d = true → ∀ x ∈ b.encs, Gs (2 * d) x
  | .nil, d, _, x, hx => by simp [Body.encs] at hx
  | .cons s r, 0, h, x, hx => by simp [Body.oks] at h
  | .cons s r, d + 1, h, x, hx => by
    simp only [Body.oks, Bool.and_eq_true] at h
    simp only [Body.encs, List.mem_cons] at hx
    rcases hx with rfl | hx
    · exact Stm.gs s d h.1
    · exact Body.gs r (d + 1) h.2 x hx
end
theorem Loop.gs {l : Loop} (h : l.ok 20) : Gs 10 l.enc := by
  have l1 := Body.encs_len l.each
  have l2 := Body.encs_len l.after
  have h1 := h.2.2.1
  have h2 := h.2.2.2.1
  refine Gs.tupI (n := 9) (by simp) fun x hx => ?_
  simp only [List.mem_cons, List.not_mem_nil, or_false] at hx
  rcases hx with rfl | rfl
  · exact Gs.tupI (n := 8) (by omega) (Body.gs _ 4 h.1)
  · exact Gs.tupI (n := 8) (by omega) (Body.gs _ 4 h.2.1)
theorem row_gs {ns : List Int} (h : ns.length ≤ 40) : Gs 1 (.tuple (ns.map .int)) := Gs.tupI (by simp; omega) fun x hx => by
  obtain ⟨i, _, rfl⟩ := List.mem_map.mp hx
  simp [Gs]
theorem words_gs : ∀ x ∈ wordsL, Gs 0 x := by
  intro x hx
  simp only [wordsL, List.mem_map] at hx
  obtain ⟨s, hs, rfl⟩ := hx
  refine Gs.strI 0 ?_
  simp only [List.mem_cons, List.not_mem_nil, or_false] at hs
  rcases hs with rfl | rfl | rfl | rfl | rfl | rfl | rfl | rfl | rfl | rfl | rfl | rfl | rfl | rfl <;> decide
theorem of_live (n m p : Nat) (xs : List D) (hx : xs ≠ []) (hz : xs.length ≤ 1000000000000) (hp : p ≠ m) (S : Store) (h : Bag m S) (ht : S[p]? = some (.lst xs)) : ∃ (y : D) (a b : Int), FS defs (n + 2) "_law_of" [.loc m, .loc p] S = some (.ok (.d y) (S.set m (.lst [.int a, .int b]))) ∧ y ∈ xs := by
  have h0 : 0 < xs.length := List.length_pos_iff.mpr hx
  obtain ⟨x, a, b, e, x0, x1⟩ := take_t n m (xs.length : Int) (many_of _ (by omega) (by omega)) S h
  have hi : x.toNat < xs.length := by omega
  refine ⟨xs[x.toNat], a, b, ?_, List.getElem_mem hi⟩
  have e2 : atI xs x = some xs[x.toNat] := by
    have := G.atI_nat xs x.toNat
    rw [Int.toNat_of_nonneg x0] at this
    rw [this]
    simp [hi]
  have e3 : (S.set m (.lst [.int a, .int b]))[p]? = some (.lst xs) := by rw [List.getElem?_set_ne (Ne.symm hp)]; exact ht
  rw [run__law_of]
  simp [b__law_of, view, ht, e, e2, e3]
def tBody : MSs := match b_law with
  | .cons (.for _ _ (.cons _ (.cons _ (.cons (.for _ _ b) _)))) _ => b
  | _ => .nil
theorem t_loop (n m : Nat) (l : Loop) (hl : l.ok 20) (ns : List Int) (hn : ns.length ≤ 9) (v0 v1 v3 v4 v6 v7 v8 v9 v14 v15 v16 v17 : Option Val) : ∀ (ks : List Nat) (T : Store) (v2 v12 v13 : Option Val), Bag m T →
    ∃ v2' v12' v13' T', forL (gN 2) (evSs (FS defs (n + 16)) tBody) (ks.map fun (k : Nat) => PyData.int (k : Int)) [v0, v1, v2, v3, v4, some (.loc m), v6, v7, v8, v9, some (.d l.enc), some (.d (.tuple (ns.map .int))), v12, v13, v14, v15, v16, v17] T
      = some (.ok (.nx [v0, v1, v2', v3, v4, some (.loc m), v6, v7, v8, v9, some (.d l.enc), some (.d (.tuple (ns.map .int))), v12', v13', v14, v15, v16, v17]) T') ∧ Bag m T'
  | [], T, v2, v12, v13, h => ⟨v2, v12, v13, T, rfl, h⟩
  | k :: ks, T, v2, v12, v13, h => by
    have lw := law_words_t (n + 15) T
    obtain ⟨y1, a1, b1, q1, h1⟩ := of_drw (n + 14) m wordsL (by simp [wordsL]) (by simp [wordsL]) T h
    obtain ⟨y2, a2, b2, q2, h2⟩ := (of_drw (n + 14) m [l.enc, l.enc, .tuple (ns.map .int), y1] (by simp) (by simp)).on h a1 b1
    have gy : Gs 10 y2 := by
      simp only [List.mem_cons, List.not_mem_nil, or_false] at h2
      rcases h2 with rfl | rfl | rfl | rfl
      · exact Loop.gs hl
      · exact Loop.gs hl
      · exact Gs.up (by omega) (row_gs (by omega))
      · exact Gs.up (by omega) (words_gs _ h1)
    obtain ⟨y3, a3, b3, q3, h3⟩ := (spoiled_drw 10 n m y2 gy).on h a2 b2
    obtain ⟨y4, a4, b4, q4, h4⟩ := (spoiled_drw 10 n m y2 gy).on h a3 b3
    have hm := h.lt
    let S4 : Store := T.set m (.lst [.int a4, .int b4]) ++ [.lst [y2, y3, y4]]
    have B4 : Bag m S4 := (h.set a4 b4).app _
    have l4 : (T.set m (.lst [.int a4, .int b4])).length = T.length := by simp
    obtain ⟨y5, a5, b5, q5, h5⟩ := any_drw 2 (n + 11) m S4 B4
    have q5' : FS defs (n + 16) "_law_any_value" [.loc m, .d (.int 2)] S4 = some (.ok (.d y5) (S4.set m (.lst [.int a5, .int b5]))) := by simpa using q5
    have p4 : S4[T.length]? = some (.lst [y2, y3, y4]) := by
      simp only [S4]
      rw [← l4]
      simp
    have p5 : (S4.set m (.lst [.int a5, .int b5]))[T.length]? = some (.lst [y2, y3, y4]) := by
      rw [List.getElem?_set_ne (by omega)]
      simp only [S4]
      rw [← l4]
      simp
    let S5 : Store := (S4.set m (.lst [.int a5, .int b5])).set T.length (.lst [y2, y3, y4, y5])
    have lS4 : S4.length = T.length + 1 := by simp [S4]
    have B5 : Bag m S5 := by
      obtain ⟨a, b, hb⟩ := B4.set a5 b5
      refine ⟨a, b, ?_⟩
      simp only [S5]
      rw [List.getElem?_set_ne (by omega)]
      exact hb
    have p6 : S5[T.length]? = some (.lst [y2, y3, y4, y5]) := by
      simp only [S5]
      rw [List.getElem?_set_self (by rw [List.length_set, lS4]; omega)]
    obtain ⟨y6, a6, b6, q6, h6⟩ := of_live (n + 14) m T.length [y2, y3, y4, y5] (by simp) (by simp) (by omega) S5 B5 p6
    have g6 : Gd 12 y6 := by
      simp only [List.mem_cons, List.not_mem_nil, or_false] at h6
      rcases h6 with rfl | rfl | rfl | rfl
      · exact Gd.up (by omega) gy.gd
      · exact h3
      · exact h4
      · exact Gd.up (by omega) h5
    have q7 := told_any (n + 5) y6 g6 (by decide) (S5.set m (.lst [.int a6, .int b6]))
    obtain ⟨w2, w12, w13, T', e, hB⟩ := t_loop n m l hl ns hn v0 v1 v3 v4 v6 v7 v8 v9 v14 v15 v16 v17 ks (S5.set m (.lst [.int a6, .int b6])) (some (.d (.int (k : Int)))) (some (.d y2)) (some (.loc T.length)) (B5.set a6 b6)
    refine ⟨w2, w12, w13, T', ?_, hB⟩
    rw [List.map_cons, forL_cons]
    have eq4 : (T.set m (Cell.lst [.int a4, .int b4])) ++ [Cell.lst [y2, y3, y4]] = S4 := rfl
    have eq5 : (S4.set m (Cell.lst [.int a5, .int b5])).set T.length (.lst [y2, y3, y4, y5]) = S5 := rfl
    clear_value S4 S5
    simp only [Loop.enc, Body.enc] at *
    have z3 : [y2, y3, y4].length < sizeLine := show 3 < sizeLine by decide
    simp at z3
    simp [tBody, b_law] at e
    simp [tBody, b_law, lw, q1, q2, q3, q4, cNew, eq4, p4, q5', cApp, p5, z3, eq5, q6, q7, e]
def ofBody : MSs := match b_law with
  | .cons (.for _ _ (.cons _ (.cons _ (.cons _ (.cons (.for _ _ (.cons (.for _ _ b) _)) _))))) _ => b
  | _ => .nil
theorem kr_loop (n : Nat) (kd : String) (hk : kd = "any" ∨ kd = "unlike") (v0 v1 v2 v3 v4 v5 v7 v8 v9 v10 v11 v12 v13 v15 v16 v17 : Option Val) (S : Store) : ∀ (rs : List (List Int)) (v14 : Option Val), (∀ r ∈ rs, r.length ≤ 40) →
    ∃ v14', forL (gN 14) (evSs (FS defs (n + 16)) ofBody) (rs.map fun r => PyData.tuple (r.map .int)) [v0, v1, v2, v3, v4, v5, some (.d (wS kd)), v7, v8, v9, v10, v11, v12, v13, v14, v15, v16, v17] S
      = some (.ok (.nx [v0, v1, v2, v3, v4, v5, some (.d (wS kd)), v7, v8, v9, v10, v11, v12, v13, v14', v15, v16, v17]) S)
  | [], v14, _ => ⟨v14, rfl⟩
  | r :: rs, v14, h => by
    obtain ⟨w, e⟩ := kr_loop n kd hk v0 v1 v2 v3 v4 v5 v7 v8 v9 v10 v11 v12 v13 v15 v16 v17 S rs (some (.d (.tuple (r.map .int)))) fun x hx => h x (by simp [hx])
    refine ⟨w, ?_⟩
    have q1 := is_of_kind_t (n + 12) r (h r (by simp)) kd hk S
    have q2 := law_of_kind_t (n + 15) r (h r (by simp)) kd S
    have q3 : neD (.bool (kdB kd r)) (.bool (kdB kd r)) = some (.bool false) := by cases kdB kd r <;> rfl
    rw [List.map_cons, forL_cons]
    simp [ofBody, b_law] at e
    simp [ofBody, b_law, q1, q2, q3, e]
def nuBody : MSs := match b_law with
  | .cons (.for _ _ (.cons _ (.cons _ (.cons _ (.cons _ (.cons _ (.cons _ (.cons _ (.cons (.for _ _ b) _))))))))) _ => b
  | _ => .nil
mutual
theorem Stm.less_pd (g : Nat) : ∀ (s : Stm) (k : Nat), (s.less g k).dep ≤ s.dep
  | .pl p, k => Nat.le_refl _
  | .ifs t a b, k => by
    have h1 := Body.less_pd g a (k + 1)
    have h2 := Body.less_pd g b (k + 1 + a.cnt)
    simp only [Stm.less, Stm.dep]
    omega
theorem Body.less_pd (g : Nat) : ∀ (b : Body) (k : Nat), (b.less g k).dep ≤ b.dep
  | .nil, k => Nat.le_refl _
  | .cons s r, k => by
    have h1 := Stm.less_pd g s k
    have h2 := Body.less_pd g r (k + s.cnt)
    simp only [Body.less]
    split
    · simp only [Body.dep]; omega
    · simp only [Body.dep]; omega
end
mutual
theorem Stm.turn_pd : ∀ s : Stm, s.turn.dep = s.dep
  | .pl p => rfl
  | .ifs t a b => by simp only [Stm.turn, Stm.dep, Body.turn_pd a, Body.turn_pd b]
theorem Body.turn_pd : ∀ b : Body, b.turn.dep = b.dep
  | .nil => rfl
  | .cons s r => by simp only [Body.turn, Body.dep, Stm.turn_pd s, Body.turn_pd r]
end
theorem neD_two (b c : Body) (h1 : b.dep ≤ 4) (h2 : c.dep ≤ 4) : neD (.tuple [.tuple b.encs, .tuple c.encs]) (.tuple [.tuple b.encs, .tuple c.encs]) = some (.bool false) := by
  have k1 := Body.pd b
  have k2 := Body.pd c
  refine neD_self ?_ ?_
  · simp [PyData.plain, PyData.plainAll, k1.1, k2.1]
  · simp only [PyData.depth, PyData.depthAll]
    omega
theorem nu_loop (n : Nat) (l : Loop) (hl : l.ok 20) (v0 v1 v2 v3 v4 v5 v6 v8 v9 v11 v12 v13 : Option Val) (S : Store) : ∀ (ks : List Nat) (v7 v16 v17 : Option Val), (∀ k ∈ ks, k < l.each.cnt + l.after.cnt) →
    ∃ v7' v16' v17', forL (gN 7) (evSs (FS defs (n + 16)) nuBody) (ks.map fun (k : Nat) => PyData.int (k : Int)) [v0, v1, v2, v3, v4, v5, v6, v7, v8, v9, some (.d l.enc), v11, v12, v13, some (.d l.each.enc), some (.d l.after.enc), v16, v17] S
      = some (.ok (.nx [v0, v1, v2, v3, v4, v5, v6, v7', v8, v9, some (.d l.enc), v11, v12, v13, some (.d l.each.enc), some (.d l.after.enc), v16', v17']) S)
  | [], v7, v16, v17, _ => ⟨v7, v16, v17, rfl⟩
  | k :: ks, v7, v16, v17, h => by
    obtain ⟨w7, w16, w17, e⟩ := nu_loop n l hl v0 v1 v2 v3 v4 v5 v6 v8 v9 v11 v12 v13 S ks (some (.d (.int (k : Int)))) (some (.d (.tuple (l.each.less k 0).encs))) (some (.d (.tuple [.tuple (l.each.less k 0).encs, .tuple (l.after.less k l.each.cnt).encs]))) fun x hx => h x (by simp [hx])
    refine ⟨w7, w16, w17, ?_⟩
    have hc := hl.2.2.2.2
    have d1 := Body.dep_of _ _ _ hl.1
    have d2 := Body.dep_of _ _ _ hl.2.1
    have q1 := without_l (n + 4) l hl k (h k (by simp)) S
    have t1 := law_less_b 4 (n + 10) k true l.each 0 S hl.1 hl.2.2.1 (by omega)
    have t2 := law_less_b 4 (n + 10) k false l.after l.each.cnt S hl.2.1 hl.2.2.2.1 (by omega)
    have c1 := count_b 4 (n + 11) l.each S d1
    have m1 := Body.less_pd k l.each 0
    have m2 := Body.less_pd k l.after l.each.cnt
    have q3 := neD_two (l.each.less k 0) (l.after.less k l.each.cnt) (by omega) (by omega)
    rw [List.map_cons, forL_cons]
    simp only [Loop.enc, Body.enc] at *
    simp at t1
    simp [nuBody, b_law] at e
    simp [nuBody, b_law, q1, t1, t2, c1, q3, e]
def kBody : MSs := match b_law with
  | .cons (.for _ _ b) _ => b
  | _ => .nil
theorem ssetD_t (ns : List Int) (h : ns.length ≤ 63) : ssetD (.tuple (ns.map .int)) = some (.list ((sortU ns).map .int)) := by simp [ssetD, intsOf_map, h]
theorem insU_len (x : Int) : ∀ ys : List Int, (insU x ys).length ≤ ys.length + 1
  | [] => by simp [insU]
  | z :: ys => by
    have := insU_len x ys
    unfold insU
    split
    · simp
    · split
      · simp
      · simp; exact this
theorem sortU_len : ∀ ns : List Int, (sortU ns).length ≤ ns.length
  | [] => by simp [sortU]
  | x :: ns => by
    have h1 := sortU_len ns
    have h2 := insU_len x (sortU ns)
    have e : sortU (x :: ns) = insU x (sortU ns) := rfl
    rw [e, List.length_cons]
    omega
def kdBody : MSs := match b_law with
  | .cons (.for _ _ (.cons _ (.cons _ (.cons _ (.cons (.for _ _ b) _))))) _ => b
  | _ => .nil
theorem kd_loop (n : Nat) (r : List Int) (hr : r.length ≤ 9) (v0 v1 v2 v3 v4 v5 v7 v8 v9 v10 v12 v13 v15 v16 v17 : Option Val) (S : Store) : ∀ (ks : List String) (v6 v14 : Option Val), (∀ k ∈ ks, k = "any" ∨ k = "unlike") →
    ∃ v6' v14', forL (gN 6) (evSs (FS defs (n + 16)) kdBody) (ks.map wS) [v0, v1, v2, v3, v4, v5, v6, v7, v8, v9, v10, some (.d (.tuple (r.map .int))), v12, v13, v14, v15, v16, v17] S
      = some (.ok (.nx [v0, v1, v2, v3, v4, v5, v6', v7, v8, v9, v10, some (.d (.tuple (r.map .int))), v12, v13, v14', v15, v16, v17]) S)
  | [], v6, v14, _ => ⟨v6, v14, rfl⟩
  | k :: ks, v6, v14, h => by
    have hs := sortU_len r
    have hi := srtI_len r
    obtain ⟨w14, e1⟩ := kr_loop n k (h k (by simp)) v0 v1 v2 v3 v4 v5 v7 v8 v9 v10 (some (.d (.tuple (r.map .int)))) v12 v13 v15 v16 v17 S [r, srtI r, sortU r] v14 (fun x hx => by
      simp only [List.mem_cons, List.not_mem_nil, or_false] at hx
      rcases hx with rfl | rfl | rfl <;> omega)
    obtain ⟨w6, u14, e⟩ := kd_loop n r hr v0 v1 v2 v3 v4 v5 v7 v8 v9 v10 v12 v13 v15 v16 v17 S ks (some (.d (wS k))) w14 fun x hx => h x (by simp [hx])
    refine ⟨w6, u14, ?_⟩
    have z := ssetD_t r (by omega)
    rw [List.map_cons, forL_cons]
    simp [ofBody, b_law] at e1
    simp [kdBody, b_law] at e
    simp [kdBody, b_law, z, e1, e]
theorem neD_list {xs : List D} (h : ∀ x ∈ xs, x.plain = true ∧ x.depth ≤ 0) : neD (.list xs) (.list xs) = some (.bool false) := by
  have key : PyData.plainAll xs = true ∧ PyData.depthAll xs ≤ 0 := by
    induction xs with
    | nil => exact ⟨rfl, Nat.zero_le _⟩
    | cons x xs ih =>
      obtain ⟨h1, h2⟩ := h x (by simp)
      obtain ⟨h3, h4⟩ := ih fun y hy => h y (by simp [hy])
      simp only [PyData.plainAll, PyData.depthAll, h1, h3, Bool.and_self, true_and]
      omega
  refine neD_self ?_ ?_
  · simpa only [PyData.plain] using key.1
  · simp only [PyData.depth]
    omega
theorem k_loop (n : Nat) (ns : List Int) (v3 v4 v8 v9 : Option Val) : ∀ (ks : List Nat) (v1 v2 v5 v6 v7 v10 v11 v12 v13 v14 v15 v16 v17 : Option Val) (S : Store),
    ∃ v1' v2' v5' v6' v7' v10' v11' v12' v13' v14' v15' v16' v17' S', forL (gN 1) (evSs (FS defs (n + 16)) kBody) (ks.map fun (k : Nat) => PyData.int (k : Int)) [some (.d (.list (ns.map .int))), v1, v2, v3, v4, v5, v6, v7, v8, v9, v10, v11, v12, v13, v14, v15, v16, v17] S
      = some (.ok (.nx [some (.d (.list (ns.map .int))), v1', v2', v3, v4, v5', v6', v7', v8, v9, v10', v11', v12', v13', v14', v15', v16', v17']) S')
  | [], v1, v2, v5, v6, v7, v10, v11, v12, v13, v14, v15, v16, v17, S => ⟨v1, v2, v5, v6, v7, v10, v11, v12, v13, v14, v15, v16, v17, S, rfl⟩
  | k :: ks, v1, v2, v5, v6, v7, v10, v11, v12, v13, v14, v15, v16, v17, S => by
    obtain ⟨a, b, e1⟩ := bag_t (n + 15) ns k S
    have B0 : Bag S.length (S ++ [.lst [.int a, .int b]]) := ⟨a, b, by simp⟩
    obtain ⟨y, a1, b1, e2, l, rfl, hl⟩ := loop_drw (n + 8) S.length 20 _ B0
    obtain ⟨r, S1, e3, _, B1, _, hr⟩ := row_t (n + 13) S.length 9 (by decide) _ (B0.set a1 b1)
    obtain ⟨u2, u12, u13, S2, e4, B2⟩ := t_loop n S.length l hl r hr (some (.d (.list (ns.map .int)))) (some (.d (.int (k : Int)))) v3 v4 v6 v7 v8 v9 v14 v15 v16 v17 (List.range 10) S1 v2 v12 v13 B1
    obtain ⟨u6, u14, e5⟩ := kd_loop n r hr (some (.d (.list (ns.map .int)))) (some (.d (.int (k : Int)))) u2 v3 v4 (some (.loc S.length)) v7 v8 v9 (some (.d l.enc)) u12 u13 v15 v16 v17 S2 ["any", "unlike"] v6 v14 (by simp)
    have hc := hl.2.2.2.2
    have d1 := Body.dep_of _ _ _ hl.1
    have d2 := Body.dep_of _ _ _ hl.2.1
    have w1 := words_l (n + 4) l hl S2
    have f1 := law_firsts_b 4 (n + 11) l.each S2 d1 (by omega)
    have f2 := law_firsts_b 4 (n + 11) l.after S2 d2 (by omega)
    have wn : neD (.list (l.each.fst ++ l.after.fst)) (.list (l.each.fst ++ l.after.fst)) = some (.bool false) := neD_list fun x hx => by
      rcases List.mem_append.mp hx with h | h
      · exact Body.fst_str _ x h
      · exact Body.fst_str _ x h
    have zf : l.each.fst.length + l.after.fst.length ≤ 16777216 := by rw [Body.fst_len, Body.fst_len]; omega
    have t1 := loop_turned_l (n + 4) l hl S2
    have t2 := law_turned_b 4 (n + 11) true l.each S2 hl.1 hl.2.2.1
    have t3 := law_turned_b 4 (n + 11) false l.after S2 hl.2.1 hl.2.2.2.1
    have tn := neD_two l.each.turn l.after.turn (by rw [Body.turn_pd]; omega) (by rw [Body.turn_pd]; omega)
    have c1 := count_b 4 (n + 11) l.each S2 d1
    have c2 := count_b 4 (n + 11) l.after S2 d2
    obtain ⟨u7, u16, u17, e6⟩ := nu_loop n l hl (some (.d (.list (ns.map .int)))) (some (.d (.int (k : Int)))) u2 v3 v4 (some (.loc S.length)) u6 v8 v9 (some (.d (.tuple (r.map .int)))) u12 u13 S2 (List.range (l.each.cnt + l.after.cnt)) v7 v16 v17 (fun x hx => List.mem_range.mp hx)
    have ok : okR ((l.each.cnt : Int) + (l.after.cnt : Int)) := by unfold okR; omega
    have tn' : ((l.each.cnt : Int) + (l.after.cnt : Int)).toNat = l.each.cnt + l.after.cnt := by omega
    have ok10 : okR 10 := by decide
    have r10 := rangeL_zero 10
    have rc := rangeL_zero (l.each.cnt + l.after.cnt)
    obtain ⟨x1, x2, x5, x6, x7, x10, x11, x12, x13, x14, x15, x16, x17, S', e9⟩ := k_loop n ns v3 v4 v8 v9 ks (some (.d (.int (k : Int)))) u2 (some (.loc S.length)) u6 u7 (some (.d l.enc)) (some (.d (.tuple (r.map .int)))) u12 u13 (some (.d l.each.enc)) (some (.d l.after.enc)) u16 u17 S2
    refine ⟨x1, x2, x5, x6, x7, x10, x11, x12, x13, x14, x15, x16, x17, S', ?_⟩
    rw [List.map_cons, forL_cons]
    simp only [Loop.enc, Body.enc] at *
    generalize hR : List.range 10 = R10 at e4 r10
    generalize hRc : List.range (l.each.cnt + l.after.cnt) = Rc at e6 rc
    simp at e2 e3
    simp [tBody, b_law] at e4
    simp [kdBody, b_law] at e5
    simp [nuBody, b_law] at e6
    simp [kBody, b_law] at e9
    simp [kBody, b_law, e1, e2, e3, ok10, r10, e4, e5, w1, f1, f2, zf, wn, t1, t2, t3, tn, c1, c2, ok, tn', rc, e6, e9]
theorem told_rows (n : Nat) (xs : List D) (hz : xs.length ≤ 1000) (h : ∀ x ∈ xs, Gd 20 x) (S : Store) (v0 v1 v2 v3 v5 v6 v7 v8 v9 v10 v11 v12 v13 v14 v15 v16 v17 : Option Val) :
    cLc false (iSeq (cVar 4)) (cT false [12]) (cTru (cOp1 notD (cCallO (FS defs (n + 11 + 1) "_law_told_right") (cCons (cVar 12) cNil)))) (cVar 12) [12] [v0, v1, v2, v3, some (.d (.list xs)), v5, v6, v7, v8, v9, v10, v11, v12, v13, v14, v15, v16, v17] S = some (.ok (.d (.list [])) S) := by
  have : cLc false (iSeq (cVar 4)) (cT false [12]) (cTru (cOp1 notD (cCallO (FS defs (n + 11 + 1) "_law_told_right") (cCons (cVar 12) cNil)))) (cVar 12) [12] [v0, v1, v2, v3, some (.d (.list xs)), v5, v6, v7, v8, v9, v10, v11, v12, v13, v14, v15, v16, v17] S = some (.ok (.d (.list ((xs.filter fun _ => false).map fun x => x))) S) := by
    apply cLc_pure0 (xs := xs) (g := fun x => x) (fun _ => false) (fun x => x)
    · simp
    · exact Nat.le_trans hz (by decide)
    · intro x hx
      refine ⟨_, rfl, fun S' => ⟨?_, fun z => by cases z⟩⟩
      have q := told_any (n + 1) x (h x hx) (by decide) S'
      rw [show n + 1 + 11 = n + 11 + 1 from by omega] at q
      simp [q]
  rw [this]
  simp
theorem told_rows39 (xs : List D) (hz : xs.length ≤ 1000) (h : ∀ x ∈ xs, Gd 20 x) (S : Store) (v0 v1 v2 v3 v5 v6 v7 v8 v9 v10 v11 v12 v13 v14 v15 v16 v17 : Option Val) :
    cLc false (iSeq (cVar 4)) (cT false [12]) (cTru (cOp1 notD (cCallO (FS defs 39 "_law_told_right") (cCons (cVar 12) cNil)))) (cVar 12) [12] [v0, v1, v2, v3, some (.d (.list xs)), v5, v6, v7, v8, v9, v10, v11, v12, v13, v14, v15, v16, v17] S = some (.ok (.d (.list [])) S) :=
  told_rows 27 xs hz h S v0 v1 v2 v3 v5 v6 v7 v8 v9 v10 v11 v12 v13 v14 v15 v16 v17
theorem law_true (ns : List Int) (h : ns.length ≤ 63) : ∃ S, FS defs 40 "law" [.d (.list (ns.map .int))] [] = some (.ok (.d (.bool true)) S) := by
  have hm : (if (4 : Int) < (if (ns.length : Int) + 3 < 9 then (ns.length : Int) + 3 else 9) then (if (ns.length : Int) + 3 < 9 then (ns.length : Int) + 3 else 9) else 4) = ((max 4 (min 9 (ns.length + 3)) : Nat) : Int) := by
    split <;> split <;> omega
  have hN : (max 4 (min 9 (ns.length + 3))) ≤ 10 := by omega
  generalize max 4 (min 9 (ns.length + 3)) = N at hm hN
  have ok : okR (N : Int) := by unfold okR; omega
  rw [show (40 : Nat) = 39 + 1 from rfl, run_law]
  obtain ⟨x1, x2, x5, x6, x7, x10, x11, x12, x13, x14, x15, x16, x17, S', e⟩ := k_loop 23 ns none none none none (List.range N) none none none none none none none none none none none none none []
  refine ⟨[], ?_⟩
  have ok4 : okR 4 := by decide
  have r4 : List.range 4 = [0, 1, 2, 3] := by rfl
  have r8 : ∀ x : D, repL 8 [x] = [x, x, x, x, x, x, x, x] := fun x => rfl
  have r40 : ∀ x : D, repL 40 [x] = List.replicate 40 x := fun x => by rfl
  have r41 : ∀ x : D, repL 41 [x] = List.replicate 41 x := fun x => by rfl
  simp [kBody, b_law] at e
  simp [b_law, hm, ok, rangeL_zero, e]
  have k1 : ∀ xs : List D, cut xs none (some 1) = xs.take 1 := fun xs => cut_to xs 1
  have k3 : ∀ xs : List D, cut xs none (some 3) = xs.take 3 := fun xs => cut_to xs 3
  have k4 : ∀ xs : List D, cut xs none (some 4) = xs.take 4 := fun xs => cut_to xs 4
  have k7 : ∀ xs : List D, cut xs none (some 7) = xs.take 7 := fun xs => cut_to xs 7
  have z14 : 14 < sizeLine := by decide
  simp [ok4, r4, forL_cons, r8, cNew, cFrzV, cApp, view, k1, k3, k4, k7, r40, r41, z14]
  rw [told_rows39 _ (by simp) (by
    intro x hx
    simp only [List.mem_cons, List.not_mem_nil, or_false] at hx
    rcases hx with rfl | rfl | rfl | rfl | rfl | rfl | rfl | rfl | rfl | rfl | rfl | rfl | rfl | rfl | rfl <;> simp [Gd])]
  simp [eqD_lnil]
end Law

namespace Law
open PySem PySem.Spec PyProof.Rows L2 G
theorem at_is_number {K : PySem.W.Frag} {mg : Str → Option Value} {h : Heap} {f : Addr} {oc : Value} {od an : Option Addr} {osl : Array (Option Value)} {kV doc pm cdv ct : Value} (X : K.In h) (G : h.Ns mainGlobals mg)
    (a : PySem.W.nsIn K mainGlobals "is_number" = some (some (.ref f))) (l : K.lookup f = some ⟨oc, od, .func (PySem.W.fnOf "is_number" "is_number" (defArgs (top 29)) (defBody (top 29)) (defScope (top 29)) .none kV doc pm an cdv ct), osl⟩)
    (c : PySem.W.codeIn K cdv "is_number" = true) (k : PySem.W.keepIn K (.ref f) = true) : DefAt K mg d_is_number := def_at X G a l c k (fun _ _ _ _ _ _ us hl => match us, hl with | [_], _ => rfl)
theorem at_are_texts {K : PySem.W.Frag} {mg : Str → Option Value} {h : Heap} {f : Addr} {oc : Value} {od an : Option Addr} {osl : Array (Option Value)} {kV doc pm cdv ct : Value} (X : K.In h) (G : h.Ns mainGlobals mg)
    (a : PySem.W.nsIn K mainGlobals "are_texts" = some (some (.ref f))) (l : K.lookup f = some ⟨oc, od, .func (PySem.W.fnOf "are_texts" "are_texts" (defArgs (top 30)) (defBody (top 30)) (defScope (top 30)) .none kV doc pm an cdv ct), osl⟩)
    (c : PySem.W.codeIn K cdv "are_texts" = true) (k : PySem.W.keepIn K (.ref f) = true) : DefAt K mg d_are_texts := def_at X G a l c k (fun _ _ _ _ _ _ us hl => match us, hl with | [_], _ => rfl)
theorem at_is_holder {K : PySem.W.Frag} {mg : Str → Option Value} {h : Heap} {f : Addr} {oc : Value} {od an : Option Addr} {osl : Array (Option Value)} {kV doc pm cdv ct : Value} (X : K.In h) (G : h.Ns mainGlobals mg)
    (a : PySem.W.nsIn K mainGlobals "is_holder" = some (some (.ref f))) (l : K.lookup f = some ⟨oc, od, .func (PySem.W.fnOf "is_holder" "is_holder" (defArgs (top 31)) (defBody (top 31)) (defScope (top 31)) .none kV doc pm an cdv ct), osl⟩)
    (c : PySem.W.codeIn K cdv "is_holder" = true) (k : PySem.W.keepIn K (.ref f) = true) : DefAt K mg d_is_holder := def_at X G a l c k (fun _ _ _ _ _ _ us hl => match us, hl with | [_], _ => rfl)
theorem at_is_flag {K : PySem.W.Frag} {mg : Str → Option Value} {h : Heap} {f : Addr} {oc : Value} {od an : Option Addr} {osl : Array (Option Value)} {kV doc pm cdv ct : Value} (X : K.In h) (G : h.Ns mainGlobals mg)
    (a : PySem.W.nsIn K mainGlobals "is_flag" = some (some (.ref f))) (l : K.lookup f = some ⟨oc, od, .func (PySem.W.fnOf "is_flag" "is_flag" (defArgs (top 32)) (defBody (top 32)) (defScope (top 32)) .none kV doc pm an cdv ct), osl⟩)
    (c : PySem.W.codeIn K cdv "is_flag" = true) (k : PySem.W.keepIn K (.ref f) = true) : DefAt K mg d_is_flag := def_at X G a l c k (fun _ _ _ _ _ _ us hl => match us, hl with | [_], _ => rfl)
theorem at_is_thing {K : PySem.W.Frag} {mg : Str → Option Value} {h : Heap} {f : Addr} {oc : Value} {od an : Option Addr} {osl : Array (Option Value)} {kV doc pm cdv ct : Value} (X : K.In h) (G : h.Ns mainGlobals mg)
    (a : PySem.W.nsIn K mainGlobals "is_thing" = some (some (.ref f))) (l : K.lookup f = some ⟨oc, od, .func (PySem.W.fnOf "is_thing" "is_thing" (defArgs (top 33)) (defBody (top 33)) (defScope (top 33)) .none kV doc pm an cdv ct), osl⟩)
    (c : PySem.W.codeIn K cdv "is_thing" = true) (k : PySem.W.keepIn K (.ref f) = true) : DefAt K mg d_is_thing := def_at X G a l c k (fun _ _ _ _ _ _ us hl => match us, hl with | [_], _ => rfl)
theorem at_is_plain {K : PySem.W.Frag} {mg : Str → Option Value} {h : Heap} {f : Addr} {oc : Value} {od an : Option Addr} {osl : Array (Option Value)} {kV doc pm cdv ct : Value} (X : K.In h) (G : h.Ns mainGlobals mg)
    (a : PySem.W.nsIn K mainGlobals "is_plain" = some (some (.ref f))) (l : K.lookup f = some ⟨oc, od, .func (PySem.W.fnOf "is_plain" "is_plain" (defArgs (top 34)) (defBody (top 34)) (defScope (top 34)) .none kV doc pm an cdv ct), osl⟩)
    (c : PySem.W.codeIn K cdv "is_plain" = true) (k : PySem.W.keepIn K (.ref f) = true) : DefAt K mg d_is_plain := def_at X G a l c k (fun _ _ _ _ _ _ us hl => match us, hl with | [_], _ => rfl)
theorem at_is_test {K : PySem.W.Frag} {mg : Str → Option Value} {h : Heap} {f : Addr} {oc : Value} {od an : Option Addr} {osl : Array (Option Value)} {kV doc pm cdv ct : Value} (X : K.In h) (G : h.Ns mainGlobals mg)
    (a : PySem.W.nsIn K mainGlobals "is_test" = some (some (.ref f))) (l : K.lookup f = some ⟨oc, od, .func (PySem.W.fnOf "is_test" "is_test" (defArgs (top 35)) (defBody (top 35)) (defScope (top 35)) .none kV doc pm an cdv ct), osl⟩)
    (c : PySem.W.codeIn K cdv "is_test" = true) (k : PySem.W.keepIn K (.ref f) = true) : DefAt K mg d_is_test := def_at X G a l c k (fun _ _ _ _ _ _ us hl => match us, hl with | [_], _ => rfl)
theorem at_looks_like_if {K : PySem.W.Frag} {mg : Str → Option Value} {h : Heap} {f : Addr} {oc : Value} {od an : Option Addr} {osl : Array (Option Value)} {kV doc pm cdv ct : Value} (X : K.In h) (G : h.Ns mainGlobals mg)
    (a : PySem.W.nsIn K mainGlobals "looks_like_if" = some (some (.ref f))) (l : K.lookup f = some ⟨oc, od, .func (PySem.W.fnOf "looks_like_if" "looks_like_if" (defArgs (top 36)) (defBody (top 36)) (defScope (top 36)) .none kV doc pm an cdv ct), osl⟩)
    (c : PySem.W.codeIn K cdv "looks_like_if" = true) (k : PySem.W.keepIn K (.ref f) = true) : DefAt K mg d_looks_like_if := def_at X G a l c k (fun _ _ _ _ _ _ us hl => match us, hl with | [_], _ => rfl)
theorem at_needs_item {K : PySem.W.Frag} {mg : Str → Option Value} {h : Heap} {f : Addr} {oc : Value} {od an : Option Addr} {osl : Array (Option Value)} {kV doc pm cdv ct : Value} (X : K.In h) (G : h.Ns mainGlobals mg)
    (a : PySem.W.nsIn K mainGlobals "needs_item" = some (some (.ref f))) (l : K.lookup f = some ⟨oc, od, .func (PySem.W.fnOf "needs_item" "needs_item" (defArgs (top 37)) (defBody (top 37)) (defScope (top 37)) .none kV doc pm an cdv ct), osl⟩)
    (c : PySem.W.codeIn K cdv "needs_item" = true) (k : PySem.W.keepIn K (.ref f) = true) : DefAt K mg d_needs_item := def_at X G a l c k (fun _ _ _ _ _ _ us hl => match us, hl with | [_], _ => rfl)
theorem at_is_body {K : PySem.W.Frag} {mg : Str → Option Value} {h : Heap} {f : Addr} {oc : Value} {od an : Option Addr} {osl : Array (Option Value)} {kV doc pm cdv ct : Value} (X : K.In h) (G : h.Ns mainGlobals mg)
    (a : PySem.W.nsIn K mainGlobals "is_body" = some (some (.ref f))) (l : K.lookup f = some ⟨oc, od, .func (PySem.W.fnOf "is_body" "is_body" (defArgs (top 38)) (defBody (top 38)) (defScope (top 38)) .none kV doc pm an cdv ct), osl⟩)
    (c : PySem.W.codeIn K cdv "is_body" = true) (k : PySem.W.keepIn K (.ref f) = true) : DefAt K mg d_is_body := def_at X G a l c k (fun _ _ _ _ _ _ us hl => match us, hl with | [_, _, _], _ => rfl)
theorem at_all_in {K : PySem.W.Frag} {mg : Str → Option Value} {h : Heap} {f : Addr} {oc : Value} {od an : Option Addr} {osl : Array (Option Value)} {kV doc pm cdv ct : Value} (X : K.In h) (G : h.Ns mainGlobals mg)
    (a : PySem.W.nsIn K mainGlobals "all_in" = some (some (.ref f))) (l : K.lookup f = some ⟨oc, od, .func (PySem.W.fnOf "all_in" "all_in" (defArgs (top 39)) (defBody (top 39)) (defScope (top 39)) .none kV doc pm an cdv ct), osl⟩)
    (c : PySem.W.codeIn K cdv "all_in" = true) (k : PySem.W.keepIn K (.ref f) = true) : DefAt K mg d_all_in := def_at X G a l c k (fun _ _ _ _ _ _ us hl => match us, hl with | [_], _ => rfl)
theorem at_all_of {K : PySem.W.Frag} {mg : Str → Option Value} {h : Heap} {f : Addr} {oc : Value} {od an : Option Addr} {osl : Array (Option Value)} {kV doc pm cdv ct : Value} (X : K.In h) (G : h.Ns mainGlobals mg)
    (a : PySem.W.nsIn K mainGlobals "all_of" = some (some (.ref f))) (l : K.lookup f = some ⟨oc, od, .func (PySem.W.fnOf "all_of" "all_of" (defArgs (top 40)) (defBody (top 40)) (defScope (top 40)) .none kV doc pm an cdv ct), osl⟩)
    (c : PySem.W.codeIn K cdv "all_of" = true) (k : PySem.W.keepIn K (.ref f) = true) : DefAt K mg d_all_of := def_at X G a l c k (fun _ _ _ _ _ _ us hl => match us, hl with | [_], _ => rfl)
theorem at_is_loop {K : PySem.W.Frag} {mg : Str → Option Value} {h : Heap} {f : Addr} {oc : Value} {od an : Option Addr} {osl : Array (Option Value)} {kV doc pm cdv ct : Value} (X : K.In h) (G : h.Ns mainGlobals mg)
    (a : PySem.W.nsIn K mainGlobals "is_loop" = some (some (.ref f))) (l : K.lookup f = some ⟨oc, od, .func (PySem.W.fnOf "is_loop" "is_loop" (defArgs (top 41)) (defBody (top 41)) (defScope (top 41)) .none kV doc pm an cdv ct), osl⟩)
    (c : PySem.W.codeIn K cdv "is_loop" = true) (k : PySem.W.keepIn K (.ref f) = true) : DefAt K mg d_is_loop := def_at X G a l c k (fun _ _ _ _ _ _ us hl => match us, hl with | [_], _ => rfl)
theorem at_is_row {K : PySem.W.Frag} {mg : Str → Option Value} {h : Heap} {f : Addr} {oc : Value} {od an : Option Addr} {osl : Array (Option Value)} {kV doc pm cdv ct : Value} (X : K.In h) (G : h.Ns mainGlobals mg)
    (a : PySem.W.nsIn K mainGlobals "is_row" = some (some (.ref f))) (l : K.lookup f = some ⟨oc, od, .func (PySem.W.fnOf "is_row" "is_row" (defArgs (top 42)) (defBody (top 42)) (defScope (top 42)) .none kV doc pm an cdv ct), osl⟩)
    (c : PySem.W.codeIn K cdv "is_row" = true) (k : PySem.W.keepIn K (.ref f) = true) : DefAt K mg d_is_row := def_at X G a l c k (fun _ _ _ _ _ _ us hl => match us, hl with | [_], _ => rfl)
theorem at_is_asking {K : PySem.W.Frag} {mg : Str → Option Value} {h : Heap} {f : Addr} {oc : Value} {od an : Option Addr} {osl : Array (Option Value)} {kV doc pm cdv ct : Value} (X : K.In h) (G : h.Ns mainGlobals mg)
    (a : PySem.W.nsIn K mainGlobals "is_asking" = some (some (.ref f))) (l : K.lookup f = some ⟨oc, od, .func (PySem.W.fnOf "is_asking" "is_asking" (defArgs (top 43)) (defBody (top 43)) (defScope (top 43)) .none kV doc pm an cdv ct), osl⟩)
    (c : PySem.W.codeIn K cdv "is_asking" = true) (k : PySem.W.keepIn K (.ref f) = true) : DefAt K mg d_is_asking := def_at X G a l c k (fun _ _ _ _ _ _ us hl => match us, hl with | [_], _ => rfl)
theorem at_need_loop {K : PySem.W.Frag} {mg : Str → Option Value} {h : Heap} {f : Addr} {oc : Value} {od an : Option Addr} {osl : Array (Option Value)} {kV doc pm cdv ct : Value} (X : K.In h) (G : h.Ns mainGlobals mg)
    (a : PySem.W.nsIn K mainGlobals "need_loop" = some (some (.ref f))) (l : K.lookup f = some ⟨oc, od, .func (PySem.W.fnOf "need_loop" "need_loop" (defArgs (top 44)) (defBody (top 44)) (defScope (top 44)) .none kV doc pm an cdv ct), osl⟩)
    (c : PySem.W.codeIn K cdv "need_loop" = true) (k : PySem.W.keepIn K (.ref f) = true) : DefAt K mg d_need_loop := def_at X G a l c k (fun _ _ _ _ _ _ us hl => match us, hl with | [_], _ => rfl)
theorem at_need_row {K : PySem.W.Frag} {mg : Str → Option Value} {h : Heap} {f : Addr} {oc : Value} {od an : Option Addr} {osl : Array (Option Value)} {kV doc pm cdv ct : Value} (X : K.In h) (G : h.Ns mainGlobals mg)
    (a : PySem.W.nsIn K mainGlobals "need_row" = some (some (.ref f))) (l : K.lookup f = some ⟨oc, od, .func (PySem.W.fnOf "need_row" "need_row" (defArgs (top 45)) (defBody (top 45)) (defScope (top 45)) .none kV doc pm an cdv ct), osl⟩)
    (c : PySem.W.codeIn K cdv "need_row" = true) (k : PySem.W.keepIn K (.ref f) = true) : DefAt K mg d_need_row := def_at X G a l c k (fun _ _ _ _ _ _ us hl => match us, hl with | [_], _ => rfl)
theorem at_need_kind {K : PySem.W.Frag} {mg : Str → Option Value} {h : Heap} {f : Addr} {oc : Value} {od an : Option Addr} {osl : Array (Option Value)} {kV doc pm cdv ct : Value} (X : K.In h) (G : h.Ns mainGlobals mg)
    (a : PySem.W.nsIn K mainGlobals "need_kind" = some (some (.ref f))) (l : K.lookup f = some ⟨oc, od, .func (PySem.W.fnOf "need_kind" "need_kind" (defArgs (top 46)) (defBody (top 46)) (defScope (top 46)) .none kV doc pm an cdv ct), osl⟩)
    (c : PySem.W.codeIn K cdv "need_kind" = true) (k : PySem.W.keepIn K (.ref f) = true) : DefAt K mg d_need_kind := def_at X G a l c k (fun _ _ _ _ _ _ us hl => match us, hl with | [_], _ => rfl)
theorem at_need_statement {K : PySem.W.Frag} {mg : Str → Option Value} {h : Heap} {f : Addr} {oc : Value} {od an : Option Addr} {osl : Array (Option Value)} {kV doc pm cdv ct : Value} (X : K.In h) (G : h.Ns mainGlobals mg)
    (a : PySem.W.nsIn K mainGlobals "need_statement" = some (some (.ref f))) (l : K.lookup f = some ⟨oc, od, .func (PySem.W.fnOf "need_statement" "need_statement" (defArgs (top 47)) (defBody (top 47)) (defScope (top 47)) .none kV doc pm an cdv ct), osl⟩)
    (c : PySem.W.codeIn K cdv "need_statement" = true) (k : PySem.W.keepIn K (.ref f) = true) : DefAt K mg d_need_statement := def_at X G a l c k (fun _ _ _ _ _ _ us hl => match us, hl with | [_, _], _ => rfl)
theorem at_body_less {K : PySem.W.Frag} {mg : Str → Option Value} {h : Heap} {f : Addr} {oc : Value} {od an : Option Addr} {osl : Array (Option Value)} {kV doc pm cdv ct : Value} (X : K.In h) (G : h.Ns mainGlobals mg)
    (a : PySem.W.nsIn K mainGlobals "body_less" = some (some (.ref f))) (l : K.lookup f = some ⟨oc, od, .func (PySem.W.fnOf "body_less" "body_less" (defArgs (top 48)) (defBody (top 48)) (defScope (top 48)) .none kV doc pm an cdv ct), osl⟩)
    (c : PySem.W.codeIn K cdv "body_less" = true) (k : PySem.W.keepIn K (.ref f) = true) : DefAt K mg d_body_less := def_at X G a l c k (fun _ _ _ _ _ _ us hl => match us, hl with | [_, _, _], _ => rfl)
theorem at_loop_less {K : PySem.W.Frag} {mg : Str → Option Value} {h : Heap} {f : Addr} {oc : Value} {od an : Option Addr} {osl : Array (Option Value)} {kV doc pm cdv ct : Value} (X : K.In h) (G : h.Ns mainGlobals mg)
    (a : PySem.W.nsIn K mainGlobals "loop_less" = some (some (.ref f))) (l : K.lookup f = some ⟨oc, od, .func (PySem.W.fnOf "loop_less" "loop_less" (defArgs (top 49)) (defBody (top 49)) (defScope (top 49)) .none kV doc pm an cdv ct), osl⟩)
    (c : PySem.W.codeIn K cdv "loop_less" = true) (k : PySem.W.keepIn K (.ref f) = true) : DefAt K mg d_loop_less := def_at X G a l c k (fun _ _ _ _ _ _ us hl => match us, hl with | [_, _], _ => rfl)
theorem at_body_turned {K : PySem.W.Frag} {mg : Str → Option Value} {h : Heap} {f : Addr} {oc : Value} {od an : Option Addr} {osl : Array (Option Value)} {kV doc pm cdv ct : Value} (X : K.In h) (G : h.Ns mainGlobals mg)
    (a : PySem.W.nsIn K mainGlobals "body_turned" = some (some (.ref f))) (l : K.lookup f = some ⟨oc, od, .func (PySem.W.fnOf "body_turned" "body_turned" (defArgs (top 50)) (defBody (top 50)) (defScope (top 50)) .none kV doc pm an cdv ct), osl⟩)
    (c : PySem.W.codeIn K cdv "body_turned" = true) (k : PySem.W.keepIn K (.ref f) = true) : DefAt K mg d_body_turned := def_at X G a l c k (fun _ _ _ _ _ _ us hl => match us, hl with | [_], _ => rfl)
theorem at_loop_turned {K : PySem.W.Frag} {mg : Str → Option Value} {h : Heap} {f : Addr} {oc : Value} {od an : Option Addr} {osl : Array (Option Value)} {kV doc pm cdv ct : Value} (X : K.In h) (G : h.Ns mainGlobals mg)
    (a : PySem.W.nsIn K mainGlobals "loop_turned" = some (some (.ref f))) (l : K.lookup f = some ⟨oc, od, .func (PySem.W.fnOf "loop_turned" "loop_turned" (defArgs (top 51)) (defBody (top 51)) (defScope (top 51)) .none kV doc pm an cdv ct), osl⟩)
    (c : PySem.W.codeIn K cdv "loop_turned" = true) (k : PySem.W.keepIn K (.ref f) = true) : DefAt K mg d_loop_turned := def_at X G a l c k (fun _ _ _ _ _ _ us hl => match us, hl with | [_], _ => rfl)
theorem at_is_of_kind {K : PySem.W.Frag} {mg : Str → Option Value} {h : Heap} {f : Addr} {oc : Value} {od an : Option Addr} {osl : Array (Option Value)} {kV doc pm cdv ct : Value} (X : K.In h) (G : h.Ns mainGlobals mg)
    (a : PySem.W.nsIn K mainGlobals "is_of_kind" = some (some (.ref f))) (l : K.lookup f = some ⟨oc, od, .func (PySem.W.fnOf "is_of_kind" "is_of_kind" (defArgs (top 52)) (defBody (top 52)) (defScope (top 52)) .none kV doc pm an cdv ct), osl⟩)
    (c : PySem.W.codeIn K cdv "is_of_kind" = true) (k : PySem.W.keepIn K (.ref f) = true) : DefAt K mg d_is_of_kind := def_at X G a l c k (fun _ _ _ _ _ _ us hl => match us, hl with | [_, _], _ => rfl)
theorem at_words {K : PySem.W.Frag} {mg : Str → Option Value} {h : Heap} {f : Addr} {oc : Value} {od an : Option Addr} {osl : Array (Option Value)} {kV doc pm cdv ct : Value} (X : K.In h) (G : h.Ns mainGlobals mg)
    (a : PySem.W.nsIn K mainGlobals "words" = some (some (.ref f))) (l : K.lookup f = some ⟨oc, od, .func (PySem.W.fnOf "words" "words" (defArgs (top 53)) (defBody (top 53)) (defScope (top 53)) .none kV doc pm an cdv ct), osl⟩)
    (c : PySem.W.codeIn K cdv "words" = true) (k : PySem.W.keepIn K (.ref f) = true) : DefAt K mg d_words := def_at X G a l c k (fun _ _ _ _ _ _ us hl => match us, hl with | [_], _ => rfl)
theorem at_without {K : PySem.W.Frag} {mg : Str → Option Value} {h : Heap} {f : Addr} {oc : Value} {od an : Option Addr} {osl : Array (Option Value)} {kV doc pm cdv ct : Value} (X : K.In h) (G : h.Ns mainGlobals mg)
    (a : PySem.W.nsIn K mainGlobals "without" = some (some (.ref f))) (l : K.lookup f = some ⟨oc, od, .func (PySem.W.fnOf "without" "without" (defArgs (top 54)) (defBody (top 54)) (defScope (top 54)) .none kV doc pm an cdv ct), osl⟩)
    (c : PySem.W.codeIn K cdv "without" = true) (k : PySem.W.keepIn K (.ref f) = true) : DefAt K mg d_without := def_at X G a l c k (fun _ _ _ _ _ _ us hl => match us, hl with | [_, _], _ => rfl)
theorem at_upside_down {K : PySem.W.Frag} {mg : Str → Option Value} {h : Heap} {f : Addr} {oc : Value} {od an : Option Addr} {osl : Array (Option Value)} {kV doc pm cdv ct : Value} (X : K.In h) (G : h.Ns mainGlobals mg)
    (a : PySem.W.nsIn K mainGlobals "upside_down" = some (some (.ref f))) (l : K.lookup f = some ⟨oc, od, .func (PySem.W.fnOf "upside_down" "upside_down" (defArgs (top 55)) (defBody (top 55)) (defScope (top 55)) .none kV doc pm an cdv ct), osl⟩)
    (c : PySem.W.codeIn K cdv "upside_down" = true) (k : PySem.W.keepIn K (.ref f) = true) : DefAt K mg d_upside_down := def_at X G a l c k (fun _ _ _ _ _ _ us hl => match us, hl with | [_], _ => rfl)
theorem at__law_bag {K : PySem.W.Frag} {mg : Str → Option Value} {h : Heap} {f : Addr} {oc : Value} {od an : Option Addr} {osl : Array (Option Value)} {kV doc pm cdv ct : Value} (X : K.In h) (G : h.Ns mainGlobals mg)
    (a : PySem.W.nsIn K mainGlobals "_law_bag" = some (some (.ref f))) (l : K.lookup f = some ⟨oc, od, .func (PySem.W.fnOf "_law_bag" "_law_bag" (defArgs (top 57)) (defBody (top 57)) (defScope (top 57)) .none kV doc pm an cdv ct), osl⟩)
    (c : PySem.W.codeIn K cdv "_law_bag" = true) (k : PySem.W.keepIn K (.ref f) = true) : DefAt K mg d__law_bag := def_at X G a l c k (fun _ _ _ _ _ _ us hl => match us, hl with | [_, _], _ => rfl)
theorem at__law_take {K : PySem.W.Frag} {mg : Str → Option Value} {h : Heap} {f : Addr} {oc : Value} {od an : Option Addr} {osl : Array (Option Value)} {kV doc pm cdv ct : Value} (X : K.In h) (G : h.Ns mainGlobals mg)
    (a : PySem.W.nsIn K mainGlobals "_law_take" = some (some (.ref f))) (l : K.lookup f = some ⟨oc, od, .func (PySem.W.fnOf "_law_take" "_law_take" (defArgs (top 58)) (defBody (top 58)) (defScope (top 58)) .none kV doc pm an cdv ct), osl⟩)
    (c : PySem.W.codeIn K cdv "_law_take" = true) (k : PySem.W.keepIn K (.ref f) = true) : DefAt K mg d__law_take := def_at X G a l c k (fun _ _ _ _ _ _ us hl => match us, hl with | [_, _], _ => rfl)
theorem at__law_of {K : PySem.W.Frag} {mg : Str → Option Value} {h : Heap} {f : Addr} {oc : Value} {od an : Option Addr} {osl : Array (Option Value)} {kV doc pm cdv ct : Value} (X : K.In h) (G : h.Ns mainGlobals mg)
    (a : PySem.W.nsIn K mainGlobals "_law_of" = some (some (.ref f))) (l : K.lookup f = some ⟨oc, od, .func (PySem.W.fnOf "_law_of" "_law_of" (defArgs (top 59)) (defBody (top 59)) (defScope (top 59)) .none kV doc pm an cdv ct), osl⟩)
    (c : PySem.W.codeIn K cdv "_law_of" = true) (k : PySem.W.keepIn K (.ref f) = true) : DefAt K mg d__law_of := def_at X G a l c k (fun _ _ _ _ _ _ us hl => match us, hl with | [_, _], _ => rfl)
theorem at__law_thing_of {K : PySem.W.Frag} {mg : Str → Option Value} {h : Heap} {f : Addr} {oc : Value} {od an : Option Addr} {osl : Array (Option Value)} {kV doc pm cdv ct : Value} (X : K.In h) (G : h.Ns mainGlobals mg)
    (a : PySem.W.nsIn K mainGlobals "_law_thing_of" = some (some (.ref f))) (l : K.lookup f = some ⟨oc, od, .func (PySem.W.fnOf "_law_thing_of" "_law_thing_of" (defArgs (top 60)) (defBody (top 60)) (defScope (top 60)) .none kV doc pm an cdv ct), osl⟩)
    (c : PySem.W.codeIn K cdv "_law_thing_of" = true) (k : PySem.W.keepIn K (.ref f) = true) : DefAt K mg d__law_thing_of := def_at X G a l c k (fun _ _ _ _ _ _ us hl => match us, hl with | [_, _], _ => rfl)
theorem at__law_test {K : PySem.W.Frag} {mg : Str → Option Value} {h : Heap} {f : Addr} {oc : Value} {od an : Option Addr} {osl : Array (Option Value)} {kV doc pm cdv ct : Value} (X : K.In h) (G : h.Ns mainGlobals mg)
    (a : PySem.W.nsIn K mainGlobals "_law_test" = some (some (.ref f))) (l : K.lookup f = some ⟨oc, od, .func (PySem.W.fnOf "_law_test" "_law_test" (defArgs (top 61)) (defBody (top 61)) (defScope (top 61)) .none kV doc pm an cdv ct), osl⟩)
    (c : PySem.W.codeIn K cdv "_law_test" = true) (k : PySem.W.keepIn K (.ref f) = true) : DefAt K mg d__law_test := def_at X G a l c k (fun _ _ _ _ _ _ us hl => match us, hl with | [_, _], _ => rfl)
theorem at__law_plain {K : PySem.W.Frag} {mg : Str → Option Value} {h : Heap} {f : Addr} {oc : Value} {od an : Option Addr} {osl : Array (Option Value)} {kV doc pm cdv ct : Value} (X : K.In h) (G : h.Ns mainGlobals mg)
    (a : PySem.W.nsIn K mainGlobals "_law_plain" = some (some (.ref f))) (l : K.lookup f = some ⟨oc, od, .func (PySem.W.fnOf "_law_plain" "_law_plain" (defArgs (top 62)) (defBody (top 62)) (defScope (top 62)) .none kV doc pm an cdv ct), osl⟩)
    (c : PySem.W.codeIn K cdv "_law_plain" = true) (k : PySem.W.keepIn K (.ref f) = true) : DefAt K mg d__law_plain := def_at X G a l c k (fun _ _ _ _ _ _ us hl => match us, hl with | [_, _], _ => rfl)
theorem at__law_body {K : PySem.W.Frag} {mg : Str → Option Value} {h : Heap} {f : Addr} {oc : Value} {od an : Option Addr} {osl : Array (Option Value)} {kV doc pm cdv ct : Value} (X : K.In h) (G : h.Ns mainGlobals mg)
    (a : PySem.W.nsIn K mainGlobals "_law_body" = some (some (.ref f))) (l : K.lookup f = some ⟨oc, od, .func (PySem.W.fnOf "_law_body" "_law_body" (defArgs (top 63)) (defBody (top 63)) (defScope (top 63)) .none kV doc pm an cdv ct), osl⟩)
    (c : PySem.W.codeIn K cdv "_law_body" = true) (k : PySem.W.keepIn K (.ref f) = true) : DefAt K mg d__law_body := def_at X G a l c k (fun _ _ _ _ _ _ us hl => match us, hl with | [_, _, _, _], _ => rfl)
theorem at__law_count {K : PySem.W.Frag} {mg : Str → Option Value} {h : Heap} {f : Addr} {oc : Value} {od an : Option Addr} {osl : Array (Option Value)} {kV doc pm cdv ct : Value} (X : K.In h) (G : h.Ns mainGlobals mg)
    (a : PySem.W.nsIn K mainGlobals "_law_count" = some (some (.ref f))) (l : K.lookup f = some ⟨oc, od, .func (PySem.W.fnOf "_law_count" "_law_count" (defArgs (top 64)) (defBody (top 64)) (defScope (top 64)) .none kV doc pm an cdv ct), osl⟩)
    (c : PySem.W.codeIn K cdv "_law_count" = true) (k : PySem.W.keepIn K (.ref f) = true) : DefAt K mg d__law_count := def_at X G a l c k (fun _ _ _ _ _ _ us hl => match us, hl with | [_], _ => rfl)
theorem at__law_known {K : PySem.W.Frag} {mg : Str → Option Value} {h : Heap} {f : Addr} {oc : Value} {od an : Option Addr} {osl : Array (Option Value)} {kV doc pm cdv ct : Value} (X : K.In h) (G : h.Ns mainGlobals mg)
    (a : PySem.W.nsIn K mainGlobals "_law_known" = some (some (.ref f))) (l : K.lookup f = some ⟨oc, od, .func (PySem.W.fnOf "_law_known" "_law_known" (defArgs (top 65)) (defBody (top 65)) (defScope (top 65)) .none kV doc pm an cdv ct), osl⟩)
    (c : PySem.W.codeIn K cdv "_law_known" = true) (k : PySem.W.keepIn K (.ref f) = true) : DefAt K mg d__law_known := def_at X G a l c k (fun _ _ _ _ _ _ us hl => match us, hl with | [_], _ => rfl)
theorem at__law_loop {K : PySem.W.Frag} {mg : Str → Option Value} {h : Heap} {f : Addr} {oc : Value} {od an : Option Addr} {osl : Array (Option Value)} {kV doc pm cdv ct : Value} (X : K.In h) (G : h.Ns mainGlobals mg)
    (a : PySem.W.nsIn K mainGlobals "_law_loop" = some (some (.ref f))) (l : K.lookup f = some ⟨oc, od, .func (PySem.W.fnOf "_law_loop" "_law_loop" (defArgs (top 66)) (defBody (top 66)) (defScope (top 66)) .none kV doc pm an cdv ct), osl⟩)
    (c : PySem.W.codeIn K cdv "_law_loop" = true) (k : PySem.W.keepIn K (.ref f) = true) : DefAt K mg d__law_loop := def_at X G a l c k (fun _ _ _ _ _ _ us hl => match us, hl with | [_, _], _ => rfl)
theorem at__law_row {K : PySem.W.Frag} {mg : Str → Option Value} {h : Heap} {f : Addr} {oc : Value} {od an : Option Addr} {osl : Array (Option Value)} {kV doc pm cdv ct : Value} (X : K.In h) (G : h.Ns mainGlobals mg)
    (a : PySem.W.nsIn K mainGlobals "_law_row" = some (some (.ref f))) (l : K.lookup f = some ⟨oc, od, .func (PySem.W.fnOf "_law_row" "_law_row" (defArgs (top 67)) (defBody (top 67)) (defScope (top 67)) .none kV doc pm an cdv ct), osl⟩)
    (c : PySem.W.codeIn K cdv "_law_row" = true) (k : PySem.W.keepIn K (.ref f) = true) : DefAt K mg d__law_row := def_at X G a l c k (fun _ _ _ _ _ _ us hl => match us, hl with | [_, _], _ => rfl)
theorem at__law_any_value {K : PySem.W.Frag} {mg : Str → Option Value} {h : Heap} {f : Addr} {oc : Value} {od an : Option Addr} {osl : Array (Option Value)} {kV doc pm cdv ct : Value} (X : K.In h) (G : h.Ns mainGlobals mg)
    (a : PySem.W.nsIn K mainGlobals "_law_any_value" = some (some (.ref f))) (l : K.lookup f = some ⟨oc, od, .func (PySem.W.fnOf "_law_any_value" "_law_any_value" (defArgs (top 68)) (defBody (top 68)) (defScope (top 68)) .none kV doc pm an cdv ct), osl⟩)
    (c : PySem.W.codeIn K cdv "_law_any_value" = true) (k : PySem.W.keepIn K (.ref f) = true) : DefAt K mg d__law_any_value := def_at X G a l c k (fun _ _ _ _ _ _ us hl => match us, hl with | [_, _], _ => rfl)
theorem at__law_spoiled {K : PySem.W.Frag} {mg : Str → Option Value} {h : Heap} {f : Addr} {oc : Value} {od an : Option Addr} {osl : Array (Option Value)} {kV doc pm cdv ct : Value} (X : K.In h) (G : h.Ns mainGlobals mg)
    (a : PySem.W.nsIn K mainGlobals "_law_spoiled" = some (some (.ref f))) (l : K.lookup f = some ⟨oc, od, .func (PySem.W.fnOf "_law_spoiled" "_law_spoiled" (defArgs (top 69)) (defBody (top 69)) (defScope (top 69)) .none kV doc pm an cdv ct), osl⟩)
    (c : PySem.W.codeIn K cdv "_law_spoiled" = true) (k : PySem.W.keepIn K (.ref f) = true) : DefAt K mg d__law_spoiled := def_at X G a l c k (fun _ _ _ _ _ _ us hl => match us, hl with | [_, _], _ => rfl)
theorem at__law_is_thing {K : PySem.W.Frag} {mg : Str → Option Value} {h : Heap} {f : Addr} {oc : Value} {od an : Option Addr} {osl : Array (Option Value)} {kV doc pm cdv ct : Value} (X : K.In h) (G : h.Ns mainGlobals mg)
    (a : PySem.W.nsIn K mainGlobals "_law_is_thing" = some (some (.ref f))) (l : K.lookup f = some ⟨oc, od, .func (PySem.W.fnOf "_law_is_thing" "_law_is_thing" (defArgs (top 70)) (defBody (top 70)) (defScope (top 70)) .none kV doc pm an cdv ct), osl⟩)
    (c : PySem.W.codeIn K cdv "_law_is_thing" = true) (k : PySem.W.keepIn K (.ref f) = true) : DefAt K mg d__law_is_thing := def_at X G a l c k (fun _ _ _ _ _ _ us hl => match us, hl with | [_, _], _ => rfl)
theorem at__law_is_plain {K : PySem.W.Frag} {mg : Str → Option Value} {h : Heap} {f : Addr} {oc : Value} {od an : Option Addr} {osl : Array (Option Value)} {kV doc pm cdv ct : Value} (X : K.In h) (G : h.Ns mainGlobals mg)
    (a : PySem.W.nsIn K mainGlobals "_law_is_plain" = some (some (.ref f))) (l : K.lookup f = some ⟨oc, od, .func (PySem.W.fnOf "_law_is_plain" "_law_is_plain" (defArgs (top 71)) (defBody (top 71)) (defScope (top 71)) .none kV doc pm an cdv ct), osl⟩)
    (c : PySem.W.codeIn K cdv "_law_is_plain" = true) (k : PySem.W.keepIn K (.ref f) = true) : DefAt K mg d__law_is_plain := def_at X G a l c k (fun _ _ _ _ _ _ us hl => match us, hl with | [_, _], _ => rfl)
theorem at__law_is_test {K : PySem.W.Frag} {mg : Str → Option Value} {h : Heap} {f : Addr} {oc : Value} {od an : Option Addr} {osl : Array (Option Value)} {kV doc pm cdv ct : Value} (X : K.In h) (G : h.Ns mainGlobals mg)
    (a : PySem.W.nsIn K mainGlobals "_law_is_test" = some (some (.ref f))) (l : K.lookup f = some ⟨oc, od, .func (PySem.W.fnOf "_law_is_test" "_law_is_test" (defArgs (top 72)) (defBody (top 72)) (defScope (top 72)) .none kV doc pm an cdv ct), osl⟩)
    (c : PySem.W.codeIn K cdv "_law_is_test" = true) (k : PySem.W.keepIn K (.ref f) = true) : DefAt K mg d__law_is_test := def_at X G a l c k (fun _ _ _ _ _ _ us hl => match us, hl with | [_, _], _ => rfl)
theorem at__law_is_body {K : PySem.W.Frag} {mg : Str → Option Value} {h : Heap} {f : Addr} {oc : Value} {od an : Option Addr} {osl : Array (Option Value)} {kV doc pm cdv ct : Value} (X : K.In h) (G : h.Ns mainGlobals mg)
    (a : PySem.W.nsIn K mainGlobals "_law_is_body" = some (some (.ref f))) (l : K.lookup f = some ⟨oc, od, .func (PySem.W.fnOf "_law_is_body" "_law_is_body" (defArgs (top 73)) (defBody (top 73)) (defScope (top 73)) .none kV doc pm an cdv ct), osl⟩)
    (c : PySem.W.codeIn K cdv "_law_is_body" = true) (k : PySem.W.keepIn K (.ref f) = true) : DefAt K mg d__law_is_body := def_at X G a l c k (fun _ _ _ _ _ _ us hl => match us, hl with | [_, _, _], _ => rfl)
theorem at__law_is_loop {K : PySem.W.Frag} {mg : Str → Option Value} {h : Heap} {f : Addr} {oc : Value} {od an : Option Addr} {osl : Array (Option Value)} {kV doc pm cdv ct : Value} (X : K.In h) (G : h.Ns mainGlobals mg)
    (a : PySem.W.nsIn K mainGlobals "_law_is_loop" = some (some (.ref f))) (l : K.lookup f = some ⟨oc, od, .func (PySem.W.fnOf "_law_is_loop" "_law_is_loop" (defArgs (top 74)) (defBody (top 74)) (defScope (top 74)) .none kV doc pm an cdv ct), osl⟩)
    (c : PySem.W.codeIn K cdv "_law_is_loop" = true) (k : PySem.W.keepIn K (.ref f) = true) : DefAt K mg d__law_is_loop := def_at X G a l c k (fun _ _ _ _ _ _ us hl => match us, hl with | [_], _ => rfl)
theorem at__law_of_kind {K : PySem.W.Frag} {mg : Str → Option Value} {h : Heap} {f : Addr} {oc : Value} {od an : Option Addr} {osl : Array (Option Value)} {kV doc pm cdv ct : Value} (X : K.In h) (G : h.Ns mainGlobals mg)
    (a : PySem.W.nsIn K mainGlobals "_law_of_kind" = some (some (.ref f))) (l : K.lookup f = some ⟨oc, od, .func (PySem.W.fnOf "_law_of_kind" "_law_of_kind" (defArgs (top 75)) (defBody (top 75)) (defScope (top 75)) .none kV doc pm an cdv ct), osl⟩)
    (c : PySem.W.codeIn K cdv "_law_of_kind" = true) (k : PySem.W.keepIn K (.ref f) = true) : DefAt K mg d__law_of_kind := def_at X G a l c k (fun _ _ _ _ _ _ us hl => match us, hl with | [_, _], _ => rfl)
theorem at__law_is_row {K : PySem.W.Frag} {mg : Str → Option Value} {h : Heap} {f : Addr} {oc : Value} {od an : Option Addr} {osl : Array (Option Value)} {kV doc pm cdv ct : Value} (X : K.In h) (G : h.Ns mainGlobals mg)
    (a : PySem.W.nsIn K mainGlobals "_law_is_row" = some (some (.ref f))) (l : K.lookup f = some ⟨oc, od, .func (PySem.W.fnOf "_law_is_row" "_law_is_row" (defArgs (top 76)) (defBody (top 76)) (defScope (top 76)) .none kV doc pm an cdv ct), osl⟩)
    (c : PySem.W.codeIn K cdv "_law_is_row" = true) (k : PySem.W.keepIn K (.ref f) = true) : DefAt K mg d__law_is_row := def_at X G a l c k (fun _ _ _ _ _ _ us hl => match us, hl with | [_, _], _ => rfl)
theorem at__law_words {K : PySem.W.Frag} {mg : Str → Option Value} {h : Heap} {f : Addr} {oc : Value} {od an : Option Addr} {osl : Array (Option Value)} {kV doc pm cdv ct : Value} (X : K.In h) (G : h.Ns mainGlobals mg)
    (a : PySem.W.nsIn K mainGlobals "_law_words" = some (some (.ref f))) (l : K.lookup f = some ⟨oc, od, .func (PySem.W.fnOf "_law_words" "_law_words" (defArgs (top 77)) (defBody (top 77)) (defScope (top 77)) .none kV doc pm an cdv ct), osl⟩)
    (c : PySem.W.codeIn K cdv "_law_words" = true) (k : PySem.W.keepIn K (.ref f) = true) : DefAt K mg d__law_words := def_at X G a l c k (fun _ _ _ _ _ _ us hl => match us, hl with | [], _ => rfl)
theorem at__law_turned {K : PySem.W.Frag} {mg : Str → Option Value} {h : Heap} {f : Addr} {oc : Value} {od an : Option Addr} {osl : Array (Option Value)} {kV doc pm cdv ct : Value} (X : K.In h) (G : h.Ns mainGlobals mg)
    (a : PySem.W.nsIn K mainGlobals "_law_turned" = some (some (.ref f))) (l : K.lookup f = some ⟨oc, od, .func (PySem.W.fnOf "_law_turned" "_law_turned" (defArgs (top 78)) (defBody (top 78)) (defScope (top 78)) .none kV doc pm an cdv ct), osl⟩)
    (c : PySem.W.codeIn K cdv "_law_turned" = true) (k : PySem.W.keepIn K (.ref f) = true) : DefAt K mg d__law_turned := def_at X G a l c k (fun _ _ _ _ _ _ us hl => match us, hl with | [_], _ => rfl)
theorem at__law_less {K : PySem.W.Frag} {mg : Str → Option Value} {h : Heap} {f : Addr} {oc : Value} {od an : Option Addr} {osl : Array (Option Value)} {kV doc pm cdv ct : Value} (X : K.In h) (G : h.Ns mainGlobals mg)
    (a : PySem.W.nsIn K mainGlobals "_law_less" = some (some (.ref f))) (l : K.lookup f = some ⟨oc, od, .func (PySem.W.fnOf "_law_less" "_law_less" (defArgs (top 79)) (defBody (top 79)) (defScope (top 79)) .none kV doc pm an cdv ct), osl⟩)
    (c : PySem.W.codeIn K cdv "_law_less" = true) (k : PySem.W.keepIn K (.ref f) = true) : DefAt K mg d__law_less := def_at X G a l c k (fun _ _ _ _ _ _ us hl => match us, hl with | [_, _, _], _ => rfl)
theorem at__law_firsts {K : PySem.W.Frag} {mg : Str → Option Value} {h : Heap} {f : Addr} {oc : Value} {od an : Option Addr} {osl : Array (Option Value)} {kV doc pm cdv ct : Value} (X : K.In h) (G : h.Ns mainGlobals mg)
    (a : PySem.W.nsIn K mainGlobals "_law_firsts" = some (some (.ref f))) (l : K.lookup f = some ⟨oc, od, .func (PySem.W.fnOf "_law_firsts" "_law_firsts" (defArgs (top 80)) (defBody (top 80)) (defScope (top 80)) .none kV doc pm an cdv ct), osl⟩)
    (c : PySem.W.codeIn K cdv "_law_firsts" = true) (k : PySem.W.keepIn K (.ref f) = true) : DefAt K mg d__law_firsts := def_at X G a l c k (fun _ _ _ _ _ _ us hl => match us, hl with | [_], _ => rfl)
theorem at__law_told_right {K : PySem.W.Frag} {mg : Str → Option Value} {h : Heap} {f : Addr} {oc : Value} {od an : Option Addr} {osl : Array (Option Value)} {kV doc pm cdv ct : Value} (X : K.In h) (G : h.Ns mainGlobals mg)
    (a : PySem.W.nsIn K mainGlobals "_law_told_right" = some (some (.ref f))) (l : K.lookup f = some ⟨oc, od, .func (PySem.W.fnOf "_law_told_right" "_law_told_right" (defArgs (top 81)) (defBody (top 81)) (defScope (top 81)) .none kV doc pm an cdv ct), osl⟩)
    (c : PySem.W.codeIn K cdv "_law_told_right" = true) (k : PySem.W.keepIn K (.ref f) = true) : DefAt K mg d__law_told_right := def_at X G a l c k (fun _ _ _ _ _ _ us hl => match us, hl with | [_], _ => rfl)
theorem at_law {K : PySem.W.Frag} {mg : Str → Option Value} {h : Heap} {f : Addr} {oc : Value} {od an : Option Addr} {osl : Array (Option Value)} {kV doc pm cdv ct : Value} (X : K.In h) (G : h.Ns mainGlobals mg)
    (a : PySem.W.nsIn K mainGlobals "law" = some (some (.ref f))) (l : K.lookup f = some ⟨oc, od, .func (PySem.W.fnOf "law" "law" (defArgs (top 82)) (defBody (top 82)) (defScope (top 82)) .none kV doc pm an cdv ct), osl⟩)
    (c : PySem.W.codeIn K cdv "law" = true) (k : PySem.W.keepIn K (.ref f) = true) : DefAt K mg d_law := def_at X G a l c k (fun _ _ _ _ _ _ us hl => match us, hl with | [_], _ => rfl)
theorem at_the_law {K : PySem.W.Frag} {mg : Str → Option Value} {h : Heap} {f fa : Addr} {oc : Value} {od an : Option Addr} {osl : Array (Option Value)} {kV doc pm cdv ct : Value} (X : K.In h) (G : h.Ns mainGlobals mg) (hfa : mg "law" = some (.ref fa))
    (a : PySem.W.nsIn K mainGlobals "law" = some (some (.ref f))) (l : K.lookup f = some ⟨oc, od, .func (PySem.W.fnOf "law" "law" (defArgs (top 82)) (defBody (top 82)) (defScope (top 82)) .none kV doc pm an cdv ct), osl⟩)
    (c : PySem.W.codeIn K cdv "law" = true) (k : PySem.W.keepIn K (.ref f) = true) : ∃ fd, Fun K (Str.ofString d_law.key) (Str.ofString d_law.qual) d_law.st fa fd ∧ ∀ (s : Shared) (u : Value), BindsTo s fd ⟨[u], []⟩ [("script", u)] := by
  have e := hfa.symm.trans (PySem.W.mg_of X G a)
  cases e
  exact ⟨_, fun_mk (st := top 82) l c k, fun s u => .of_eq rfl⟩
theorem glb_HOLDERS {K : PySem.W.Frag} {mg : Str → Option Value} {h : Heap} {a0 : Addr} {n0 : Nat} {sl0 : Array (Option Value)} {t0_0 t0_1 t0_2 : Tok} (X : K.In h) (G : h.Ns mainGlobals mg) (a : PySem.W.nsIn K mainGlobals "HOLDERS" = some (some (.ref a0)))
    (l0 : K.lookup a0 = some ⟨.type "tuple", none, .seq #[(.str "x" t0_0), (.str "y" t0_1), (.str "z" t0_2)] n0, sl0⟩) : GlbAt K mg ("HOLDERS", g_HOLDERS) :=
  glb_at (v := .ref a0) X G a rfl (dp_ktup (vs := [(.str "x"), (.str "y"), (.str "z")]) l0 rfl rfl (by simp [sizeLine]) (.cons ⟨_, rfl⟩ (.cons ⟨_, rfl⟩ (.cons ⟨_, rfl⟩ .nil))) fun F => (.cons (.str _) (.cons (.str _) (.cons (.str _) .nil)))) fun _ => ⟨a0, _, rfl, l0, rfl, rfl⟩
theorem glb_FLAGS {K : PySem.W.Frag} {mg : Str → Option Value} {h : Heap} {a0 : Addr} {n0 : Nat} {sl0 : Array (Option Value)} {t0_0 t0_1 : Tok} (X : K.In h) (G : h.Ns mainGlobals mg) (a : PySem.W.nsIn K mainGlobals "FLAGS" = some (some (.ref a0)))
    (l0 : K.lookup a0 = some ⟨.type "tuple", none, .seq #[(.str "p" t0_0), (.str "q" t0_1)] n0, sl0⟩) : GlbAt K mg ("FLAGS", g_FLAGS) :=
  glb_at (v := .ref a0) X G a rfl (dp_ktup (vs := [(.str "p"), (.str "q")]) l0 rfl rfl (by simp [sizeLine]) (.cons ⟨_, rfl⟩ (.cons ⟨_, rfl⟩ .nil)) fun F => (.cons (.str _) (.cons (.str _) .nil))) fun _ => ⟨a0, _, rfl, l0, rfl, rfl⟩
theorem glb_ITEM {K : PySem.W.Frag} {mg : Str → Option Value} {h : Heap} {tk : Tok} (X : K.In h) (G : h.Ns mainGlobals mg) (a : PySem.W.nsIn K mainGlobals "ITEM" = some (some (.str "item" tk))) : GlbAt K mg ("ITEM", g_ITEM) :=
  glb_at (v := .str "item") X G a ⟨tk, rfl⟩ (fun F => .str _) (fun z => nomatch z)
theorem glb_PRINT {K : PySem.W.Frag} {mg : Str → Option Value} {h : Heap} {tk : Tok} (X : K.In h) (G : h.Ns mainGlobals mg) (a : PySem.W.nsIn K mainGlobals "PRINT" = some (some (.str "print" tk))) : GlbAt K mg ("PRINT", g_PRINT) :=
  glb_at (v := .str "print") X G a ⟨tk, rfl⟩ (fun F => .str _) (fun z => nomatch z)
theorem glb_UP {K : PySem.W.Frag} {mg : Str → Option Value} {h : Heap} {tk : Tok} (X : K.In h) (G : h.Ns mainGlobals mg) (a : PySem.W.nsIn K mainGlobals "UP" = some (some (.str "up" tk))) : GlbAt K mg ("UP", g_UP) :=
  glb_at (v := .str "up") X G a ⟨tk, rfl⟩ (fun F => .str _) (fun z => nomatch z)
theorem glb_DOWN {K : PySem.W.Frag} {mg : Str → Option Value} {h : Heap} {tk : Tok} (X : K.In h) (G : h.Ns mainGlobals mg) (a : PySem.W.nsIn K mainGlobals "DOWN" = some (some (.str "down" tk))) : GlbAt K mg ("DOWN", g_DOWN) :=
  glb_at (v := .str "down") X G a ⟨tk, rfl⟩ (fun F => .str _) (fun z => nomatch z)
theorem glb_TAKE {K : PySem.W.Frag} {mg : Str → Option Value} {h : Heap} {tk : Tok} (X : K.In h) (G : h.Ns mainGlobals mg) (a : PySem.W.nsIn K mainGlobals "TAKE" = some (some (.str "take" tk))) : GlbAt K mg ("TAKE", g_TAKE) :=
  glb_at (v := .str "take") X G a ⟨tk, rfl⟩ (fun F => .str _) (fun z => nomatch z)
theorem glb_DROP {K : PySem.W.Frag} {mg : Str → Option Value} {h : Heap} {tk : Tok} (X : K.In h) (G : h.Ns mainGlobals mg) (a : PySem.W.nsIn K mainGlobals "DROP" = some (some (.str "drop" tk))) : GlbAt K mg ("DROP", g_DROP) :=
  glb_at (v := .str "drop") X G a ⟨tk, rfl⟩ (fun F => .str _) (fun z => nomatch z)
theorem glb_COPY {K : PySem.W.Frag} {mg : Str → Option Value} {h : Heap} {tk : Tok} (X : K.In h) (G : h.Ns mainGlobals mg) (a : PySem.W.nsIn K mainGlobals "COPY" = some (some (.str "copy" tk))) : GlbAt K mg ("COPY", g_COPY) :=
  glb_at (v := .str "copy") X G a ⟨tk, rfl⟩ (fun F => .str _) (fun z => nomatch z)
theorem glb_EMPTY {K : PySem.W.Frag} {mg : Str → Option Value} {h : Heap} {tk : Tok} (X : K.In h) (G : h.Ns mainGlobals mg) (a : PySem.W.nsIn K mainGlobals "EMPTY" = some (some (.str "empty" tk))) : GlbAt K mg ("EMPTY", g_EMPTY) :=
  glb_at (v := .str "empty") X G a ⟨tk, rfl⟩ (fun F => .str _) (fun z => nomatch z)
theorem glb_FLAG {K : PySem.W.Frag} {mg : Str → Option Value} {h : Heap} {tk : Tok} (X : K.In h) (G : h.Ns mainGlobals mg) (a : PySem.W.nsIn K mainGlobals "FLAG" = some (some (.str "flag" tk))) : GlbAt K mg ("FLAG", g_FLAG) :=
  glb_at (v := .str "flag") X G a ⟨tk, rfl⟩ (fun F => .str _) (fun z => nomatch z)
theorem glb_OVER {K : PySem.W.Frag} {mg : Str → Option Value} {h : Heap} {tk : Tok} (X : K.In h) (G : h.Ns mainGlobals mg) (a : PySem.W.nsIn K mainGlobals "OVER" = some (some (.str "over" tk))) : GlbAt K mg ("OVER", g_OVER) :=
  glb_at (v := .str "over") X G a ⟨tk, rfl⟩ (fun F => .str _) (fun z => nomatch z)
theorem glb_SAME {K : PySem.W.Frag} {mg : Str → Option Value} {h : Heap} {tk : Tok} (X : K.In h) (G : h.Ns mainGlobals mg) (a : PySem.W.nsIn K mainGlobals "SAME" = some (some (.str "same" tk))) : GlbAt K mg ("SAME", g_SAME) :=
  glb_at (v := .str "same") X G a ⟨tk, rfl⟩ (fun F => .str _) (fun z => nomatch z)
theorem glb_FIRST {K : PySem.W.Frag} {mg : Str → Option Value} {h : Heap} {tk : Tok} (X : K.In h) (G : h.Ns mainGlobals mg) (a : PySem.W.nsIn K mainGlobals "FIRST" = some (some (.str "first" tk))) : GlbAt K mg ("FIRST", g_FIRST) :=
  glb_at (v := .str "first") X G a ⟨tk, rfl⟩ (fun F => .str _) (fun z => nomatch z)
theorem glb_LAST {K : PySem.W.Frag} {mg : Str → Option Value} {h : Heap} {tk : Tok} (X : K.In h) (G : h.Ns mainGlobals mg) (a : PySem.W.nsIn K mainGlobals "LAST" = some (some (.str "last" tk))) : GlbAt K mg ("LAST", g_LAST) :=
  glb_at (v := .str "last") X G a ⟨tk, rfl⟩ (fun F => .str _) (fun z => nomatch z)
theorem glb_IF {K : PySem.W.Frag} {mg : Str → Option Value} {h : Heap} {tk : Tok} (X : K.In h) (G : h.Ns mainGlobals mg) (a : PySem.W.nsIn K mainGlobals "IF" = some (some (.str "if" tk))) : GlbAt K mg ("IF", g_IF) :=
  glb_at (v := .str "if") X G a ⟨tk, rfl⟩ (fun F => .str _) (fun z => nomatch z)
theorem glb_MOST_STATEMENTS {K : PySem.W.Frag} {mg : Str → Option Value} {h : Heap} {tk : Tok} (X : K.In h) (G : h.Ns mainGlobals mg) (a : PySem.W.nsIn K mainGlobals "MOST_STATEMENTS" = some (some (.int 20 tk))) : GlbAt K mg ("MOST_STATEMENTS", g_MOST_STATEMENTS) :=
  glb_at (v := .int 20) X G a ⟨tk, rfl⟩ (fun F => .int _) (fun z => nomatch z)
theorem glb_MOST_DEEP {K : PySem.W.Frag} {mg : Str → Option Value} {h : Heap} {tk : Tok} (X : K.In h) (G : h.Ns mainGlobals mg) (a : PySem.W.nsIn K mainGlobals "MOST_DEEP" = some (some (.int 4 tk))) : GlbAt K mg ("MOST_DEEP", g_MOST_DEEP) :=
  glb_at (v := .int 4) X G a ⟨tk, rfl⟩ (fun F => .int _) (fun z => nomatch z)
theorem glb_MOST_ITEMS {K : PySem.W.Frag} {mg : Str → Option Value} {h : Heap} {tk : Tok} (X : K.In h) (G : h.Ns mainGlobals mg) (a : PySem.W.nsIn K mainGlobals "MOST_ITEMS" = some (some (.int 40 tk))) : GlbAt K mg ("MOST_ITEMS", g_MOST_ITEMS) :=
  glb_at (v := .int 40) X G a ⟨tk, rfl⟩ (fun F => .int _) (fun z => nomatch z)
theorem glb_ASKINGS {K : PySem.W.Frag} {mg : Str → Option Value} {h : Heap} {a0 : Addr} {n0 : Nat} {sl0 : Array (Option Value)} {t0_0 t0_1 t0_2 t0_3 t0_4 t0_5 t0_6 t0_7 t0_8 t0_9 t0_10 t0_11 t0_12 t0_13 : Tok} (X : K.In h) (G : h.Ns mainGlobals mg) (a : PySem.W.nsIn K mainGlobals "ASKINGS" = some (some (.ref a0)))
    (l0 : K.lookup a0 = some ⟨.type "tuple", none, .seq #[(.str "equals" t0_0), (.str "falls" t0_1), (.str "lows" t0_2), (.str "peaks" t0_3), (.str "peaks ends" t0_4), (.str "plateaus" t0_5), (.str "plateaus last" t0_6), (.str "records" t0_7), (.str "records weak" t0_8), (.str "rises" t0_9), (.str "run ends" t0_10), (.str "turns" t0_11), (.str "valleys" t0_12), (.str "valleys ends" t0_13)] n0, sl0⟩) : GlbAt K mg ("ASKINGS", g_ASKINGS) :=
  glb_at (v := .ref a0) X G a rfl (dp_ktup (vs := [(.str "equals"), (.str "falls"), (.str "lows"), (.str "peaks"), (.str "peaks ends"), (.str "plateaus"), (.str "plateaus last"), (.str "records"), (.str "records weak"), (.str "rises"), (.str "run ends"), (.str "turns"), (.str "valleys"), (.str "valleys ends")]) l0 rfl rfl (by simp [sizeLine]) (.cons ⟨_, rfl⟩ (.cons ⟨_, rfl⟩ (.cons ⟨_, rfl⟩ (.cons ⟨_, rfl⟩ (.cons ⟨_, rfl⟩ (.cons ⟨_, rfl⟩ (.cons ⟨_, rfl⟩ (.cons ⟨_, rfl⟩ (.cons ⟨_, rfl⟩ (.cons ⟨_, rfl⟩ (.cons ⟨_, rfl⟩ (.cons ⟨_, rfl⟩ (.cons ⟨_, rfl⟩ (.cons ⟨_, rfl⟩ .nil)))))))))))))) fun F => (.cons (.str _) (.cons (.str _) (.cons (.str _) (.cons (.str _) (.cons (.str _) (.cons (.str _) (.cons (.str _) (.cons (.str _) (.cons (.str _) (.cons (.str _) (.cons (.str _) (.cons (.str _) (.cons (.str _) (.cons (.str _) .nil))))))))))))))) fun _ => ⟨a0, _, rfl, l0, rfl, rfl⟩
theorem glb_ANY {K : PySem.W.Frag} {mg : Str → Option Value} {h : Heap} {tk : Tok} (X : K.In h) (G : h.Ns mainGlobals mg) (a : PySem.W.nsIn K mainGlobals "ANY" = some (some (.str "any" tk))) : GlbAt K mg ("ANY", g_ANY) :=
  glb_at (v := .str "any") X G a ⟨tk, rfl⟩ (fun F => .str _) (fun z => nomatch z)
theorem glb_UNLIKE {K : PySem.W.Frag} {mg : Str → Option Value} {h : Heap} {tk : Tok} (X : K.In h) (G : h.Ns mainGlobals mg) (a : PySem.W.nsIn K mainGlobals "UNLIKE" = some (some (.str "unlike" tk))) : GlbAt K mg ("UNLIKE", g_UNLIKE) :=
  glb_at (v := .str "unlike") X G a ⟨tk, rfl⟩ (fun F => .str _) (fun z => nomatch z)
theorem walk {l : PySem.W.OpenLaw} {q : Program} {loose : List Str} {XP : (Str → Option Value) → Heap → Prop} {YP : World → Heap → Prop} {d : DefRec} {K : Params → PySem.W.Frag} (hn : l.most = some 63) (hdf : d.params.defaults = [])
    (hY : ∀ (w : World) (h : Heap), YP w h → (K w.params).In h)
    (F : ∀ (w : World) (mg : Str → Option Value) (fa : Addr) (h : Heap), (K w.params).In h → h.Ns mainGlobals mg → mg d.name = some (.ref fa) →
      ∃ fd : FuncData, (∀ (s : Shared) (u : Value), BindsTo s fd ⟨[u], []⟩ [("script", u)]) ∧ ∀ base : Heap, (K w.params).In base → base.Ns mainGlobals mg → FnOk l.prog w (K w.params) mg base CX0 40 fa fd ["script"] (spLaw (K w.params))) :
    PySem.W.WalkO q loose XP YP l.row.toRowW d [] (fun f vs => PySem.call f vs) :=
  L2.walk_of (n := 63) (k := 40) (x := "script") (CX := fun _ => CX0) (sp := fun w => spLaw (K w.params)) hn (by decide) hdf ⟨rfl, by decide, by decide⟩ hY F (fun _ _ a ns hl _ hS => ⟨a, ns, rfl, hS, hl, fun _ => rfl⟩) fun _ _ _ _ _ z => z
end Law
open PySem PySem.W PyProof.Rows in
set_option maxRecDepth 100000 in
set_option maxHeartbeats 0 in
theorem PySem.Challenge.cw_peakprints_k01_loops_rows_and_askings_re_holds : PySem.Challenge.rw_peakprints_k01_loops_rows_and_askings_re.Holds := by
  w_on; o_law; k_head; (case hw => w_witness2)
  k_fill
  refine Law.walk (l := PySem.Challenge.rw_peakprints_k01_loops_rows_and_askings_re) rfl rfl (fun w h Y => PySem.W.kIn_of Y) ?F
  case F =>
    intro w mg fa h KX GN hmg
    have A_is_number : G.DefAt _ mg Law.d_is_number := Law.at_is_number KX GN (by k_is) (by k_is) (by k_is) (by k_is)
    have A_are_texts : G.DefAt _ mg Law.d_are_texts := Law.at_are_texts KX GN (by k_is) (by k_is) (by k_is) (by k_is)
    have A_is_holder : G.DefAt _ mg Law.d_is_holder := Law.at_is_holder KX GN (by k_is) (by k_is) (by k_is) (by k_is)
    have A_is_flag : G.DefAt _ mg Law.d_is_flag := Law.at_is_flag KX GN (by k_is) (by k_is) (by k_is) (by k_is)
    have A_is_thing : G.DefAt _ mg Law.d_is_thing := Law.at_is_thing KX GN (by k_is) (by k_is) (by k_is) (by k_is)
    have A_is_plain : G.DefAt _ mg Law.d_is_plain := Law.at_is_plain KX GN (by k_is) (by k_is) (by k_is) (by k_is)
    have A_is_test : G.DefAt _ mg Law.d_is_test := Law.at_is_test KX GN (by k_is) (by k_is) (by k_is) (by k_is)
    have A_looks_like_if : G.DefAt _ mg Law.d_looks_like_if := Law.at_looks_like_if KX GN (by k_is) (by k_is) (by k_is) (by k_is)
    have A_needs_item : G.DefAt _ mg Law.d_needs_item := Law.at_needs_item KX GN (by k_is) (by k_is) (by k_is) (by k_is)
    have A_is_body : G.DefAt _ mg Law.d_is_body := Law.at_is_body KX GN (by k_is) (by k_is) (by k_is) (by k_is)
    have A_all_in : G.DefAt _ mg Law.d_all_in := Law.at_all_in KX GN (by k_is) (by k_is) (by k_is) (by k_is)
    have A_all_of : G.DefAt _ mg Law.d_all_of := Law.at_all_of KX GN (by k_is) (by k_is) (by k_is) (by k_is)
    have A_is_loop : G.DefAt _ mg Law.d_is_loop := Law.at_is_loop KX GN (by k_is) (by k_is) (by k_is) (by k_is)
    have A_is_row : G.DefAt _ mg Law.d_is_row := Law.at_is_row KX GN (by k_is) (by k_is) (by k_is) (by k_is)
    have A_is_asking : G.DefAt _ mg Law.d_is_asking := Law.at_is_asking KX GN (by k_is) (by k_is) (by k_is) (by k_is)
    have A_need_loop : G.DefAt _ mg Law.d_need_loop := Law.at_need_loop KX GN (by k_is) (by k_is) (by k_is) (by k_is)
    have A_need_row : G.DefAt _ mg Law.d_need_row := Law.at_need_row KX GN (by k_is) (by k_is) (by k_is) (by k_is)
    have A_need_kind : G.DefAt _ mg Law.d_need_kind := Law.at_need_kind KX GN (by k_is) (by k_is) (by k_is) (by k_is)
    have A_need_statement : G.DefAt _ mg Law.d_need_statement := Law.at_need_statement KX GN (by k_is) (by k_is) (by k_is) (by k_is)
    have A_body_less : G.DefAt _ mg Law.d_body_less := Law.at_body_less KX GN (by k_is) (by k_is) (by k_is) (by k_is)
    have A_loop_less : G.DefAt _ mg Law.d_loop_less := Law.at_loop_less KX GN (by k_is) (by k_is) (by k_is) (by k_is)
    have A_body_turned : G.DefAt _ mg Law.d_body_turned := Law.at_body_turned KX GN (by k_is) (by k_is) (by k_is) (by k_is)
    have A_loop_turned : G.DefAt _ mg Law.d_loop_turned := Law.at_loop_turned KX GN (by k_is) (by k_is) (by k_is) (by k_is)
    have A_is_of_kind : G.DefAt _ mg Law.d_is_of_kind := Law.at_is_of_kind KX GN (by k_is) (by k_is) (by k_is) (by k_is)
    have A_words : G.DefAt _ mg Law.d_words := Law.at_words KX GN (by k_is) (by k_is) (by k_is) (by k_is)
    have A_without : G.DefAt _ mg Law.d_without := Law.at_without KX GN (by k_is) (by k_is) (by k_is) (by k_is)
    have A_upside_down : G.DefAt _ mg Law.d_upside_down := Law.at_upside_down KX GN (by k_is) (by k_is) (by k_is) (by k_is)
    have A__law_bag : G.DefAt _ mg Law.d__law_bag := Law.at__law_bag KX GN (by k_is) (by k_is) (by k_is) (by k_is)
    have A__law_take : G.DefAt _ mg Law.d__law_take := Law.at__law_take KX GN (by k_is) (by k_is) (by k_is) (by k_is)
    have A__law_of : G.DefAt _ mg Law.d__law_of := Law.at__law_of KX GN (by k_is) (by k_is) (by k_is) (by k_is)
    have A__law_thing_of : G.DefAt _ mg Law.d__law_thing_of := Law.at__law_thing_of KX GN (by k_is) (by k_is) (by k_is) (by k_is)
    have A__law_test : G.DefAt _ mg Law.d__law_test := Law.at__law_test KX GN (by k_is) (by k_is) (by k_is) (by k_is)
    have A__law_plain : G.DefAt _ mg Law.d__law_plain := Law.at__law_plain KX GN (by k_is) (by k_is) (by k_is) (by k_is)
    have A__law_body : G.DefAt _ mg Law.d__law_body := Law.at__law_body KX GN (by k_is) (by k_is) (by k_is) (by k_is)
    have A__law_count : G.DefAt _ mg Law.d__law_count := Law.at__law_count KX GN (by k_is) (by k_is) (by k_is) (by k_is)
    have A__law_known : G.DefAt _ mg Law.d__law_known := Law.at__law_known KX GN (by k_is) (by k_is) (by k_is) (by k_is)
    have A__law_loop : G.DefAt _ mg Law.d__law_loop := Law.at__law_loop KX GN (by k_is) (by k_is) (by k_is) (by k_is)
    have A__law_row : G.DefAt _ mg Law.d__law_row := Law.at__law_row KX GN (by k_is) (by k_is) (by k_is) (by k_is)
    have A__law_any_value : G.DefAt _ mg Law.d__law_any_value := Law.at__law_any_value KX GN (by k_is) (by k_is) (by k_is) (by k_is)
    have A__law_spoiled : G.DefAt _ mg Law.d__law_spoiled := Law.at__law_spoiled KX GN (by k_is) (by k_is) (by k_is) (by k_is)
    have A__law_is_thing : G.DefAt _ mg Law.d__law_is_thing := Law.at__law_is_thing KX GN (by k_is) (by k_is) (by k_is) (by k_is)
    have A__law_is_plain : G.DefAt _ mg Law.d__law_is_plain := Law.at__law_is_plain KX GN (by k_is) (by k_is) (by k_is) (by k_is)
    have A__law_is_test : G.DefAt _ mg Law.d__law_is_test := Law.at__law_is_test KX GN (by k_is) (by k_is) (by k_is) (by k_is)
    have A__law_is_body : G.DefAt _ mg Law.d__law_is_body := Law.at__law_is_body KX GN (by k_is) (by k_is) (by k_is) (by k_is)
    have A__law_is_loop : G.DefAt _ mg Law.d__law_is_loop := Law.at__law_is_loop KX GN (by k_is) (by k_is) (by k_is) (by k_is)
    have A__law_of_kind : G.DefAt _ mg Law.d__law_of_kind := Law.at__law_of_kind KX GN (by k_is) (by k_is) (by k_is) (by k_is)
    have A__law_is_row : G.DefAt _ mg Law.d__law_is_row := Law.at__law_is_row KX GN (by k_is) (by k_is) (by k_is) (by k_is)
    have A__law_words : G.DefAt _ mg Law.d__law_words := Law.at__law_words KX GN (by k_is) (by k_is) (by k_is) (by k_is)
    have A__law_turned : G.DefAt _ mg Law.d__law_turned := Law.at__law_turned KX GN (by k_is) (by k_is) (by k_is) (by k_is)
    have A__law_less : G.DefAt _ mg Law.d__law_less := Law.at__law_less KX GN (by k_is) (by k_is) (by k_is) (by k_is)
    have A__law_firsts : G.DefAt _ mg Law.d__law_firsts := Law.at__law_firsts KX GN (by k_is) (by k_is) (by k_is) (by k_is)
    have A__law_told_right : G.DefAt _ mg Law.d__law_told_right := Law.at__law_told_right KX GN (by k_is) (by k_is) (by k_is) (by k_is)
    have A_law : G.DefAt _ mg Law.d_law := Law.at_law KX GN (by k_is) (by k_is) (by k_is) (by k_is)
    have A_the_law := Law.at_the_law KX GN hmg (by k_is) (by k_is) (by k_is) (by k_is)
    have B_HOLDERS : G.GlbAt _ mg ("HOLDERS", Law.g_HOLDERS) := Law.glb_HOLDERS KX GN (by k_is) (by k_is)
    have B_FLAGS : G.GlbAt _ mg ("FLAGS", Law.g_FLAGS) := Law.glb_FLAGS KX GN (by k_is) (by k_is)
    have B_ITEM : G.GlbAt _ mg ("ITEM", Law.g_ITEM) := Law.glb_ITEM KX GN (by k_is)
    have B_PRINT : G.GlbAt _ mg ("PRINT", Law.g_PRINT) := Law.glb_PRINT KX GN (by k_is)
    have B_UP : G.GlbAt _ mg ("UP", Law.g_UP) := Law.glb_UP KX GN (by k_is)
    have B_DOWN : G.GlbAt _ mg ("DOWN", Law.g_DOWN) := Law.glb_DOWN KX GN (by k_is)
    have B_TAKE : G.GlbAt _ mg ("TAKE", Law.g_TAKE) := Law.glb_TAKE KX GN (by k_is)
    have B_DROP : G.GlbAt _ mg ("DROP", Law.g_DROP) := Law.glb_DROP KX GN (by k_is)
    have B_COPY : G.GlbAt _ mg ("COPY", Law.g_COPY) := Law.glb_COPY KX GN (by k_is)
    have B_EMPTY : G.GlbAt _ mg ("EMPTY", Law.g_EMPTY) := Law.glb_EMPTY KX GN (by k_is)
    have B_FLAG : G.GlbAt _ mg ("FLAG", Law.g_FLAG) := Law.glb_FLAG KX GN (by k_is)
    have B_OVER : G.GlbAt _ mg ("OVER", Law.g_OVER) := Law.glb_OVER KX GN (by k_is)
    have B_SAME : G.GlbAt _ mg ("SAME", Law.g_SAME) := Law.glb_SAME KX GN (by k_is)
    have B_FIRST : G.GlbAt _ mg ("FIRST", Law.g_FIRST) := Law.glb_FIRST KX GN (by k_is)
    have B_LAST : G.GlbAt _ mg ("LAST", Law.g_LAST) := Law.glb_LAST KX GN (by k_is)
    have B_IF : G.GlbAt _ mg ("IF", Law.g_IF) := Law.glb_IF KX GN (by k_is)
    have B_MOST_STATEMENTS : G.GlbAt _ mg ("MOST_STATEMENTS", Law.g_MOST_STATEMENTS) := Law.glb_MOST_STATEMENTS KX GN (by k_is)
    have B_MOST_DEEP : G.GlbAt _ mg ("MOST_DEEP", Law.g_MOST_DEEP) := Law.glb_MOST_DEEP KX GN (by k_is)
    have B_MOST_ITEMS : G.GlbAt _ mg ("MOST_ITEMS", Law.g_MOST_ITEMS) := Law.glb_MOST_ITEMS KX GN (by k_is)
    have B_ASKINGS : G.GlbAt _ mg ("ASKINGS", Law.g_ASKINGS) := Law.glb_ASKINGS KX GN (by k_is) (by k_is)
    have B_ANY : G.GlbAt _ mg ("ANY", Law.g_ANY) := Law.glb_ANY KX GN (by k_is)
    have B_UNLIKE : G.GlbAt _ mg ("UNLIKE", Law.g_UNLIKE) := Law.glb_UNLIKE KX GN (by k_is)
    have B : ∀ id ∈ G.bltNames, mg (Str.ofString id) = none := by
      intro id hid
      simp only [G.bltNames, List.mem_cons, List.not_mem_nil, or_false] at hid
      rcases hid with rfl | rfl | rfl | rfl | rfl | rfl | rfl | rfl | rfl | rfl | rfl | rfl | rfl | rfl | rfl | rfl <;> exact PySem.W.mg_none_of KX GN (by k_is)
    have O : G.ProgOk (L2.KOf KX) mg Law.tab Law.defs := ⟨Law.chk, ?_, Law.calls, Law.keys, ?_, B⟩
    · obtain ⟨fd, Fu, hb⟩ := A_the_law
      exact ⟨fd, hb, fun base _ _ => (G.prog_ok O 40 Law.d_law (by simp [Law.defs]) fa fd Fu).imp (G.law_imp Law.law_true)⟩
    · intro d hd
      simp only [Law.defs, List.mem_cons, List.not_mem_nil, or_false] at hd
      rcases hd with rfl | rfl | rfl | rfl | rfl | rfl | rfl | rfl | rfl | rfl | rfl | rfl | rfl | rfl | rfl | rfl | rfl | rfl | rfl | rfl | rfl | rfl | rfl | rfl | rfl | rfl | rfl | rfl | rfl | rfl | rfl | rfl | rfl | rfl | rfl | rfl | rfl | rfl | rfl | rfl | rfl | rfl | rfl | rfl | rfl | rfl | rfl | rfl | rfl | rfl | rfl | rfl | rfl
      · exact A_is_number
      · exact A_are_texts
      · exact A_is_holder
      · exact A_is_flag
      · exact A_is_thing
      · exact A_is_plain
      · exact A_is_test
      · exact A_looks_like_if
      · exact A_needs_item
      · exact A_is_body
      · exact A_all_in
      · exact A_all_of
      · exact A_is_loop
      · exact A_is_row
      · exact A_is_asking
      · exact A_need_loop
      · exact A_need_row
      · exact A_need_kind
      · exact A_need_statement
      · exact A_body_less
      · exact A_loop_less
      · exact A_body_turned
      · exact A_loop_turned
      · exact A_is_of_kind
      · exact A_words
      · exact A_without
      · exact A_upside_down
      · exact A__law_bag
      · exact A__law_take
      · exact A__law_of
      · exact A__law_thing_of
      · exact A__law_test
      · exact A__law_plain
      · exact A__law_body
      · exact A__law_count
      · exact A__law_known
      · exact A__law_loop
      · exact A__law_row
      · exact A__law_any_value
      · exact A__law_spoiled
      · exact A__law_is_thing
      · exact A__law_is_plain
      · exact A__law_is_test
      · exact A__law_is_body
      · exact A__law_is_loop
      · exact A__law_of_kind
      · exact A__law_is_row
      · exact A__law_words
      · exact A__law_turned
      · exact A__law_less
      · exact A__law_firsts
      · exact A__law_told_right
      · exact A_law
    · intro p hp
      simp only [Law.tab, List.mem_cons, List.not_mem_nil, or_false] at hp
      rcases hp with rfl | rfl | rfl | rfl | rfl | rfl | rfl | rfl | rfl | rfl | rfl | rfl | rfl | rfl | rfl | rfl | rfl | rfl | rfl | rfl | rfl | rfl
      · exact B_HOLDERS
      · exact B_FLAGS
      · exact B_ITEM
      · exact B_PRINT
      · exact B_UP
      · exact B_DOWN
      · exact B_TAKE
      · exact B_DROP
      · exact B_COPY
      · exact B_EMPTY
      · exact B_FLAG
      · exact B_OVER
      · exact B_SAME
      · exact B_FIRST
      · exact B_LAST
      · exact B_IF
      · exact B_MOST_STATEMENTS
      · exact B_MOST_DEEP
      · exact B_MOST_ITEMS
      · exact B_ASKINGS
      · exact B_ANY
      · exact B_UNLIKE
#print axioms PySem.Challenge.cw_peakprints_k01_loops_rows_and_askings_re_holds

