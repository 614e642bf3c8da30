import PyProof.Rows.All
import Wide.All
import OpenK.AllK
import Wide.FinOn
import HandS.ForMost
import HandS.Exc
import HandS.ExcOwn
import HandS.Defaults
import HandS.CallSlots
import HandS.TupAny
import HandS.Zip
import HandS.IsInst
import HandS.Head0
import HandS.Head1
import HandS.Head2
import HandS.HeadEnd
import HandS.HeadHook1
import HandS.HeadHook2
import KE.DataEq
import KE.DataIsa
import KE.SortData
import HandS.Small
import HandS.Style
import KE.GoesMore
import HandS.Comp
import HandS.Ends
import HandS.Words
import HandS.WordsExc
import PySem.Challenge.RW_wokeas_k45_behind_and_beside_told
set_option Elab.async false
set_option linter.all false
set_option maxRecDepth 100000
set_option maxHeartbeats 0
/-! Wk1: the small machine: data, store, programs, runs. -/
namespace Wk
open PySem L2

/-- data: tuples are trees, and so are lists that nobody changes (fl: the script); what may change stands in the store -/
inductive D where
  | non | bl (b : Bool) | int (i : Int) | str (x : Str) | tup (xs : List D) | fl (xs : List D) | ref (n : Nat) | fn (i : Nat) | ty (s : String)
  deriving Inhabited

/-- what stands in the store: a list; one that a loop walks; a dict -/
inductive O where
  | lst (xs : List D) | lck (xs : List D) | dic (kvs : List (D × D))
  deriving Inhabited

structure S where
  os : List O
  lk : Bool
  deriving Inhabited

abbrev Env := List (Option D)

inductive R (t : Type) where
  | ok (x : t) (s : S) | ex (c : Str) (fs : List (Str × D)) (s : S) | no

@[inline] def R.bind {t u : Type} (r : R t) (f : t → S → R u) : R u :=
  match r with
  | .ok x s => f x s
  | .ex c fs s => .ex c fs s
  | .no => .no

inductive RS where
  | nx (e : Env) (s : S) | ret (d : D) (s : S) | bk (e : Env) (s : S) | ct (e : Env) (s : S) | ex (c : Str) (fs : List (Str × D)) (e : Env) (s : S) | no

inductive Blt where
  | len | all | any | tuple | list | int | repr | sorted | isi
  deriving DecidableEq

inductive Tg where
  | nm (i : Nat) | tup (ts : List Tg)

inductive Ex where
  | var (i : Nat) | cst (d : D)
  | tup (es : List Ex) | lst (es : List Ex)
  | bin (op : Operator) (a b : Ex) | cmp (op : CmpOp) (a b : Ex)
  | and (a b : Ex) | or (a b : Ex) | not (a : Ex) | neg (a : Ex)
  | ite (c a b : Ex) | idx (a b : Ex) | sl (a : Ex) (lo hi : Option Ex)
  | call (f : Nat) (es : List Ex) (ks : List Str) (ws : List Ex)
  | blt (f : Blt) (es : List Ex)
  | reprEq (a b : Ex)
  | comp (e : Ex) (t : Tg) (it : Ex) (c : Option Ex) (own : List Nat)
  | comp2 (e : Ex) (t : Tg) (it : Ex) (t1 : Tg) (it1 : Ex) (c1 : Option Ex) (own : List Nat)
  | dic (kvs : List (Ex × Ex))
  | app (o e : Ex)
  | rng (es : List Ex) | enum (e : Ex) | zip (a b : Ex)

inductive Sm where
  | asg (t : Tg) (e : Ex) | setI (o i e : Ex) | expr (e : Ex) | ret (e : Ex) | retN
  | ite (c : Ex) (a b : List Sm) | for_ (t : Tg) (it : Ex) (b : List Sm) | whl (c : Ex) (b : List Sm)
  | brk | cnt | pass | dead

/-- a def: how many slots, its parameters, their defaults (of the last ones), its body -/
structure Fd where
  n : Nat
  ps : List Str
  dfl : List D
  body : List Sm

abbrev Tb := List Fd

/-! ### data -/
/-- all or nothing -/
def allM (f : D → Option PyData) : List D → Option (List PyData)
  | [] => some []
  | x :: xs => match f x, allM f xs with
    | some p, some ps => some (p :: ps)
    | _, _ => none
/-- reading data off the store, to a depth -/
def rd : Nat → List O → D → Option PyData
  | 0, _, _ => none
  | n + 1, os, d =>
    match d with
    | .non => some .none
    | .bl b => some (.bool b)
    | .int i => some (.int i)
    | .str x => some (.str x)
    | .tup xs => (allM (rd n os) xs).map .tuple
    | .fl xs => (allM (rd n os) xs).map .list
    | .ref k => match os[k]? with
      | some (.lst xs) => (allM (rd n os) xs).map .list
      | some (.lck xs) => (allM (rd n os) xs).map .list
      | _ => none
    | .fn _ => none
    | .ty _ => none

/-- no reference from m on -/
def low : Nat → Nat → D → Bool
  | 0, _, _ => false
  | n + 1, m, d => match d with
    | .tup xs => xs.all (low n m)
    | .fl xs => xs.all (low n m)
    | .ref k => decide (k < m)
    | _ => true

def lowO (m : Nat) : O → Bool
  | .lst xs => xs.all (low 30 m)
  | .lck xs => xs.all (low 30 m)
  | .dic kvs => kvs.all fun p => low 30 m p.1 && low 30 m p.2

def alloc (o : O) (s : S) : R D := .ok (.ref s.os.length) { s with os := s.os ++ [o] }
def S.set (s : S) (n : Nat) (o : O) : S := { s with os := s.os.set n o }
/-- d is put into the object n -/
def S.put (s : S) (n : Nat) (o : O) (d : D) : S := { os := s.os.set n o, lk := s.lk || !low 30 n d }

def listOf (os : List O) : D → Option (List D)
  | .ref k => match os[k]? with
    | some (.lst xs) => some xs
    | some (.lck xs) => some xs
    | _ => none
  | .fl xs => some xs
  | _ => none
def seqOf (os : List O) : D → Option (List D)
  | .tup xs => some xs
  | d => listOf os d

def eqD (os : List O) (a b : D) : Option Bool :=
  match rd 40 os a, rd 40 os b with
  | some x, some y => some (PyData.eqv x y)
  | _, _ => none

mutual
/-- the very same data -/
def sameP : PyData → PyData → Bool
  | .none, .none => true
  | .bool a, .bool b => a == b
  | .int i, .int j => decide (i = j)
  | .str x, .str y => decide (x = y)
  | .list xs, .list ys => samePs xs ys
  | .tuple xs, .tuple ys => samePs xs ys
  | _, _ => false
def samePs : List PyData → List PyData → Bool
  | [], [] => true
  | x :: xs, y :: ys => sameP x y && samePs xs ys
  | _, _ => false
end
mutual
/-- how long its text may be, at most -/
def wideP : PyData → Option Nat
  | .none => some 8
  | .bool _ => some 8
  | .int i => if i.natAbs < 10 ^ 70 then some 72 else none
  | .str x => if x.cps.all (· < 128) then some (10 * x.length + 2) else none
  | .list xs => widePs xs
  | .tuple xs => widePs xs
  | .dict _ => none
def widePs : List PyData → Option Nat
  | [] => some 8
  | x :: xs => match wideP x, widePs xs with
    | some a, some b => some (a + b + 2)
    | _, _ => none
end
def fitP (p : PyData) : Bool := match wideP p with
  | some n => decide (n ≤ 10000000)
  | none => false

def inD (os : List O) (a : D) (xs : List D) : Option Bool :=
  match rd 40 os a, allM (rd 40 os) xs with
  | some d, some ps => some (ps.any fun y => PyData.eqv y d)
  | _, _ => none

/-- a key of a dict: an int, a text -/
def keyD : D → Option Key
  | .int i => some (.inl i)
  | .str x => some (.inr x)
  | _ => none
def dKey : Key → D
  | .inl i => .int i
  | .inr x => .str x
def eqKey : D → D → Bool
  | .int i, .int j => decide (i = j)
  | .str x, .str y => decide (x = y)
  | _, _ => false
def dGet (kvs : List (D × D)) (k : D) : Option D := (kvs.find? fun p => eqKey p.1 k).map (·.2)
def dPut (kvs : List (D × D)) (k v : D) : List (D × D) :=
  if kvs.any fun p => eqKey p.1 k then kvs.map fun p => if eqKey p.1 k then (p.1, v) else p else kvs ++ [(k, v)]

/-! ### operators -/
def binI (op : Operator) (i j : Int) : Option Int :=
  match op with
  | .Add => some (i + j)
  | .Sub => some (i - j)
  | .Mult => if decide (-(2 ^ 64) < i ∧ i < 2 ^ 64) || decide (-(2 ^ 64) < j ∧ j < 2 ^ 64) then some (i * j) else none
  | .FloorDiv => if decide (0 < j ∧ j < 1073741824) then some (i / j) else none
  | .Mod => if decide (0 < j) then some (i % j) else none
  | .Pow => if decide (0 ≤ j ∧ j ≤ 1000 ∧ i.natAbs < 2 ^ 64) then some (i ^ j.toNat) else none
  | _ => none
def binD (op : Operator) (a b : D) (s : S) : R D :=
  match a, b with
  | .int i, .int j => match binI op i j with
    | some k => .ok (.int k) s
    | none => .no
  | .str x, .str y => if op = .Add ∧ x.length + y.length ≤ 100000 then .ok (.str (x ++ y)) s else .no
  | .tup xs, .tup ys => if op = .Add ∧ xs.length + ys.length ≤ 100000 then .ok (.tup (xs ++ ys)) s else .no
  | .ref i, .ref j => match op, s.os[i]?, s.os[j]? with
    | .Add, some (.lst xs), some (.lst ys) => if xs.length + ys.length ≤ 100000 then alloc (.lst (xs ++ ys)) s else .no
    | _, _, _ => .no
  | _, _ => .no
def nonB : D → Bool
  | .non => true
  | _ => false
def isOp (a b : D) : Option Bool := if nonB b then some (nonB a) else none
def dicOf (os : List O) : D → Option (List (D × D))
  | .ref k => match os[k]? with
    | some (.dic kvs) => some kvs
    | _ => none
  | _ => none
def inOp (os : List O) (a b : D) : Option Bool :=
  match dicOf os b with
  | some kvs => if (keyD a).isSome then some (dGet kvs a).isSome else none
  | none => (seqOf os b).bind fun xs => inD os a xs
def cmpD (op : CmpOp) (a b : D) (os : List O) : Option Bool :=
  match op with
  | .Eq => eqD os a b
  | .NotEq => (eqD os a b).map (!·)
  | .Lt => match a, b with
    | .int i, .int j => some (decide (i < j))
    | _, _ => none
  | .LtE => match a, b with
    | .int i, .int j => some (decide (i ≤ j))
    | _, _ => none
  | .Gt => match a, b with
    | .int i, .int j => some (decide (j < i))
    | _, _ => none
  | .GtE => match a, b with
    | .int i, .int j => some (decide (j ≤ i))
    | _, _ => none
  | .Is => isOp a b
  | .IsNot => (isOp a b).map (!·)
  | .In => inOp os a b
  | .NotIn => (inOp os a b).map (!·)
def idxD (a b : D) (os : List O) : Option D :=
  match dicOf os a with
  | some kvs => if (keyD b).isSome then dGet kvs b else none
  | none => match b with
    | .int i => (seqOf os a).bind fun xs => atI xs i
    | _ => none
def cutD (xs : List D) (lo hi : Option Int) : List D := (xs.drop (HT.sIx xs.length 0 lo)).take (HT.sIx xs.length xs.length hi - HT.sIx xs.length 0 lo)
def slD (a : D) (lo hi : Option Int) (s : S) : R D :=
  match a with
  | .tup xs => .ok (.tup (cutD xs lo hi)) s
  | d => match listOf s.os d with
    | some xs => alloc (.lst (cutD xs lo hi)) s
    | none => .no
def bools : List D → Option (List Bool)
  | [] => some []
  | .bl b :: xs => (bools xs).map (b :: ·)
  | _ => none
/-- the kinds that isinstance tells apart -/
inductive Ki where
  | non | bl | int | str | lst | tup | dic
def kiOf (os : List O) : D → Option Ki
  | .non => some .non
  | .bl _ => some .bl
  | .int _ => some .int
  | .str _ => some .str
  | .tup _ => some .tup
  | .fl _ => some .lst
  | .ref k => match os[k]? with
    | some (.lst _) => some .lst
    | some (.lck _) => some .lst
    | some (.dic _) => some .dic
    | none => none
  | _ => none
def isiK : Ki → String → Option Bool
  | k, "int" => some (match k with | .int => true | .bl => true | _ => false)
  | k, "bool" => some (match k with | .bl => true | _ => false)
  | k, "tuple" => some (match k with | .tup => true | _ => false)
  | k, "str" => some (match k with | .str => true | _ => false)
  | k, "list" => some (match k with | .lst => true | _ => false)
  | _, _ => none
def int1 (a : D) (s : S) : R D :=
  match a with
  | .int i => .ok (.int i) s
  | _ => .no
def isi2 (a t : D) (s : S) : R D :=
  match t with
  | .ty t => match (kiOf s.os a).bind fun k => isiK k t with
    | some b => .ok (.bl b) s
    | none => .no
  | _ => .no
def bltD (f : Blt) (xs : List D) (s : S) : R D :=
  match f, xs with
  | .len, [a] => match a with
    | .str x => if x.length ≤ 100000 then .ok (.int x.length) s else .no
    | _ => match seqOf s.os a with
      | some ys => .ok (.int ys.length) s
      | none => match dicOf s.os a with
        | some kvs => .ok (.int kvs.length) s
        | none => .no
  | .all, [a] => match (listOf s.os a).bind bools with
    | some bs => .ok (.bl (bs.all id)) s
    | none => .no
  | .any, [a] => match (listOf s.os a).bind bools with
    | some bs => .ok (.bl (bs.any id)) s
    | none => .no
  | .tuple, [a] => match seqOf s.os a with
    | some ys => .ok (.tup ys) s
    | none => .no
  | .list, [a] => match seqOf s.os a with
    | some ys => alloc (.lst ys) s
    | none => .no
  | .int, [a] => int1 a s
  | .isi, [a, t] => isi2 a t s
  | _, _ => .no

/-! ### targets, walks -/
mutual
def asgT : Tg → D → Env → Option Env
  | .nm i, d, e => if i < e.length then some (e.set i (some d)) else none
  | .tup ts, d, e => match d with
    | .tup xs => asgTs ts xs e
    | _ => none
def asgTs : List Tg → List D → Env → Option Env
  | [], [], e => some e
  | t :: ts, x :: xs, e => match asgT t x e with
    | some e1 => asgTs ts xs e1
    | none => none
  | _, _, _ => none
end
mutual
/-- the slots of a target -/
def ixT : Tg → List Nat
  | .nm i => [i]
  | .tup ts => ixTs ts
def ixTs : List Tg → List Nat
  | [] => []
  | t :: ts => ixT t ++ ixTs ts
end
def wipeE (e : Env) : List Nat → Env
  | [] => e
  | v :: vs => (wipeE e vs).set v none

/-- what a walk gives: its items, the list that is locked meanwhile -/
structure Wk where
  xs : List D
  lock : Option (Nat × List D)
def lockS (s : S) : Option (Nat × List D) → S
  | none => s
  | some (n, xs) => s.set n (.lck xs)
def freeS (s : S) : Option (Nat × List D) → S
  | none => s
  | some (n, xs) => s.set n (.lst xs)
def walkOf (d : D) (s : S) : R Wk :=
  match d with
  | .tup xs => .ok ⟨xs, none⟩ s
  | .fl xs => .ok ⟨xs, none⟩ s
  | .ref n => match s.os[n]? with
    | some (.lst xs) => .ok ⟨xs, some (n, xs)⟩ (lockS s (some (n, xs)))
    | some (.lck xs) => .ok ⟨xs, none⟩ s
    | _ => .no
  | _ => .no
def rngI (lo : Int) (n : Nat) : List D := (List.range n).map fun (i : Nat) => D.int (lo + (i : Int))
def enumD : Nat → List D → List D
  | _, [] => []
  | i, x :: xs => .tup [.int (i : Int), x] :: enumD (i + 1) xs
def zipD : List D → List D → List D
  | x :: xs, y :: ys => .tup [x, y] :: zipD xs ys
  | _, _ => []

def forL (body : Env → S → RS) (t : Tg) : List D → Env → S → RS
  | [], e, s => .nx e s
  | x :: xs, e, s => match asgT t x e with
    | none => .no
    | some e1 => match body e1 s with
      | .nx e2 s2 => forL body t xs e2 s2
      | .ct e2 s2 => forL body t xs e2 s2
      | .bk e2 s2 => .nx e2 s2
      | r => r
def RS.free (l : Option (Nat × List D)) : RS → RS
  | .nx e s => .nx e (freeS s l)
  | .ret d s => .ret d (freeS s l)
  | .bk e s => .bk e (freeS s l)
  | .ct e s => .ct e (freeS s l)
  | .ex c fs e s => .ex c fs e (freeS s l)
  | .no => .no
/-- a comprehension's turns; an exception in it is no answer -/
def compL (elt : Env → S → R D) (tst : Env → S → R D) (t : Tg) (e : Env) : List D → S → R (List D)
  | [], s => .ok [] s
  | x :: xs, s => match asgT t x e with
    | none => .no
    | some e1 => match tst e1 s with
      | .ok (.bl true) s1 => match elt e1 s1 with
        | .ok y s2 => match compL elt tst t e xs s2 with
          | .ok ys s3 => .ok (y :: ys) s3
          | _ => .no
        | _ => .no
      | .ok (.bl false) s1 => compL elt tst t e xs s1
      | _ => .no
def compL2 (inner : Env → S → R (List D)) (t : Tg) (e : Env) : List D → S → R (List D)
  | [], s => .ok [] s
  | x :: xs, s => match asgT t x e with
    | none => .no
    | some e1 => match inner e1 s with
      | .ok ys s1 => match compL2 inner t e xs s1 with
        | .ok zs s2 => .ok (ys ++ zs) s2
        | _ => .no
      | _ => .no

/-- the arguments in the parameters' order -/
def kwGet {t : Type} (ks : List Str) (ws : List t) (x : Str) : Option t :=
  match ks, ws with
  | k :: ks, w :: ws => if k = x then some w else kwGet ks ws x
  | _, _ => none
def fillG {t : Type} (ks : List Str) (ws : List t) : List Str → List (Option t) → Option (List t)
  | [], _ => some []
  | _ :: _, [] => none
  | q :: qs, d :: ds => match kwGet ks ws q, d, fillG ks ws qs ds with
    | some w, _, some r => some (w :: r)
    | none, some w, some r => some (w :: r)
    | _, _, _ => none
def bindG {t : Type} (ps : List Str) (dfl : List t) (vs : List t) (ks : List Str) (ws : List t) : Option (List t) :=
  if decide (vs.length ≤ ps.length) && decide (ks.length = ws.length) && ks.all (fun k => decide (k ∈ ps.drop vs.length)) && decide ks.Nodup then
    (fillG ks ws (ps.drop vs.length) ((List.replicate (ps.length - dfl.length) none ++ dfl.map some).drop vs.length)).map (vs ++ ·)
  else none
def bindD (fd : Fd) (vs : List D) (ks : List Str) (ws : List D) : Option (List D) :=
  match ks with
  | [] => if vs.length = fd.ps.length then some vs else bindG fd.ps fd.dfl vs [] ws
  | _ => bindG fd.ps fd.dfl vs ks ws

/-! ### runs -/
def onB (x : D) (s : S) (t e : S → R D) : R D :=
  match x with
  | .bl true => t s
  | .bl false => e s
  | _ => .no
def okB (k : Option Bool) (s : S) : R D :=
  match k with
  | some k => .ok (.bl k) s
  | none => .no
def okD (k : Option D) (s : S) : R D :=
  match k with
  | some d => .ok d s
  | none => .no
def notD (x : D) (s : S) : R D :=
  match x with
  | .bl b => .ok (.bl (!b)) s
  | _ => .no
def negD (x : D) (s : S) : R D :=
  match x with
  | .int i => .ok (.int (-i)) s
  | _ => .no
def varD (env : Env) (i : Nat) (s : S) : R D :=
  match env[i]? with
  | some (some d) => .ok d s
  | _ => .no
def intD (x : D) (s : S) : R (Option Int) :=
  match x with
  | .int i => .ok (some i) s
  | _ => .no
def rdF (x : D) (s : S) : Option PyData :=
  match rd 40 s.os x with
  | some p => if fitP p then some p else none
  | none => none
def onP (o : Option PyData) (s : S) (k : PyData → S → R D) : R D :=
  match o with
  | some p => k p s
  | none => .no
def sameD (p q : PyData) (s : S) : R D := if sameP p q then .ok (.bl true) s else .no
def dicD (ps : List (D × D)) (s : S) : R D :=
  if ps.all (fun p => (keyD p.1).isSome) && decide (ps.length ≤ 15) then alloc (.dic (ps.foldl (fun m p => dPut m p.1 p.2) [])) s else .no
def onL (x : D) (s : S) (k : S → R D) : R D :=
  match x with
  | .ref n => match s.os[n]? with
    | some (.lst _) => k s
    | some (.lck _) => k s
    | _ => .no
  | _ => .no
def appD (x y : D) (s : S) : R D :=
  match x with
  | .ref n => match s.os[n]? with
    | some (.lst xs) => if xs.length < 100000 then .ok .non (s.put n (.lst (xs ++ [y])) y) else .no
    | _ => .no
  | _ => .no
/-- o[k] = d -/
def putI (x k d : D) (s : S) : Option S :=
  match x with
  | .ref n => match s.os[n]? with
    | some (.dic kvs) => if (keyD k).isSome && decide (kvs.length < 100000) then some (s.put n (.dic (dPut kvs k d)) d) else none
    | some (.lst xs) => match k with
      | .int j => match ixN xs.length j with
        | some q => some (s.put n (.lst (xs.set q d)) d)
        | none => none
      | _ => none
    | _ => none
  | _ => none
def thenS (r : R D) (env : Env) (k : D → S → RS) : RS :=
  match r with
  | .ok d s => k d s
  | .ex c fs s => .ex c fs env s
  | .no => .no
def onBS (x : D) (s : S) (t e : S → RS) : RS :=
  match x with
  | .bl true => t s
  | .bl false => e s
  | _ => .no
def nxO (e : Option Env) (s : S) : RS :=
  match e with
  | some e => .nx e s
  | none => .no
def nxS (e : Env) (s : Option S) : RS :=
  match s with
  | some s => .nx e s
  | none => .no
def whlS (r : RS) (k : Env → S → RS) : RS :=
  match r with
  | .nx e s => k e s
  | .ct e s => k e s
  | .bk e s => .nx e s
  | q => q
def callD (T : Tb) (callee : Nat → List D → S → R D) (f : Nat) (xs : List D) (ks : List Str) (ys : List D) (s : S) : R D :=
  match T[f]? with
  | some fd => match bindD fd xs ks ys with
    | some zs => callee f zs s
    | none => .no
  | none => .no
structure Rec where
  ex : Ex → Env → S → R D
  st : Sm → Env → S → RS

def evs (f : Ex → S → R D) : List Ex → S → R (List D)
  | [], s => .ok [] s
  | e :: es, s => (f e s).bind fun x s1 => (evs f es s1).bind fun xs s2 => .ok (x :: xs) s2
def evP (f : Ex → S → R D) : List (Ex × Ex) → S → R (List (D × D))
  | [], s => .ok [] s
  | (a, b) :: r, s => (f a s).bind fun x s1 => (f b s1).bind fun y s2 => (evP f r s2).bind fun ps s3 => .ok ((x, y) :: ps) s3
def evI (f : Ex → S → R D) : Option Ex → S → R (Option Int)
  | none, s => .ok none s
  | some e, s => (f e s).bind fun x s1 => intD x s1
def execs (f : Sm → Env → S → RS) : List Sm → Env → S → RS
  | [], e, s => .nx e s
  | st :: r, e, s => match f st e s with
    | .nx e1 s1 => execs f r e1 s1
    | q => q

def rngW (xs : List D) (s : S) : R Wk :=
  match xs with
  | [.int j] => if -100000 ≤ j ∧ j ≤ 100000 then .ok ⟨rngI 0 j.toNat, none⟩ s else .no
  | [.int i, .int j] => if (-100000 ≤ i ∧ i ≤ 100000) ∧ -100000 ≤ j ∧ j ≤ 100000 then .ok ⟨rngI i (j - i).toNat, none⟩ s else .no
  | _ => .no
def enumW (d : D) (s : S) : R Wk :=
  match seqOf s.os d with
  | some xs => match walkOf d s with
    | .ok w s2 => .ok ⟨enumD 0 xs, w.lock⟩ s2
    | _ => .no
  | none => .no
def zipW (d d2 : D) (s : S) : R Wk :=
  match d, d2 with
  | .tup xs, .tup ys => .ok ⟨zipD xs ys, none⟩ s
  | _, _ => .no
/-- the walk of an expression in a for's place -/
def walkE (f : Ex → S → R D) (it : Ex) (s : S) : R Wk :=
  match it with
  | .rng es => (evs f es s).bind fun xs s1 => rngW xs s1
  | .enum e => (f e s).bind fun d s1 => enumW d s1
  | .zip a b => (f a s).bind fun d s1 => (f b s1).bind fun d2 s2 => zipW d d2 s2
  | e => (f e s).bind fun d s1 => walkOf d s1

def tstOf (f : Ex → Env → S → R D) : Option Ex → Env → S → R D
  | some c => f c
  | none => fun _ s => .ok (.bl true) s
/-- the inner part of a turn of two clauses -/
def innerF (fi1 : Env → S → R Wk) (fe ft1 : Env → S → R D) (t1 : Tg) (e1 : Env) (s : S) : R (List D) :=
  match fi1 e1 s with
  | .ok w1 s2 => match compL fe ft1 t1 (wipeE e1 (ixT t1)) w1.xs s2 with
    | .ok ys s3 => .ok ys (freeS s3 w1.lock)
    | _ => .no
  | _ => .no
def walkS (r : R Wk) (env : Env) (k : Wk → S → RS) : RS :=
  match r with
  | .ok w s => k w s
  | .ex c fs s => .ex c fs env s
  | .no => .no
def doneL (l : Option (Nat × List D)) : R (List D) → R D
  | .ok ys s2 => if ys.length ≤ 100000 then alloc (.lst ys) (freeS s2 l) else .no
  | _ => .no

/-- each object's references go to elder ones -/
def chk : Nat → List O → Bool
  | _, [] => true
  | i, o :: os => lowO i o && chk (i + 1) os
/-- what a call leaves of the store: what it made is dropped where nobody else knows it -/
def back (m : Nat) (d : D) (s : S) : R D :=
  if s.lk && !chk 0 (s.os.take m) then .ok d s
  else if low 30 m d then .ok d { os := s.os.take m, lk := false }
  else match d with
    | .ref n => match s.os[n]? with
      | some (.lst xs) => if xs.all (low 30 m) then .ok (.ref m) { os := s.os.take m ++ [.lst xs], lk := false } else .ok d s
      | _ => .ok d s
    | _ => .ok d s

def step (T : Tb) (callee : Nat → List D → S → R D) (r : Rec) : Rec where
  ex := fun e env s => match e with
    | .var i => varD env i s
    | .cst d => .ok d s
    | .tup es => (evs (fun e s => r.ex e env s) es s).bind fun xs s1 => .ok (.tup xs) s1
    | .lst es => (evs (fun e s => r.ex e env s) es s).bind fun xs s1 => alloc (.lst xs) s1
    | .bin op a b => (r.ex a env s).bind fun x s1 => (r.ex b env s1).bind fun y s2 => binD op x y s2
    | .cmp op a b => (r.ex a env s).bind fun x s1 => (r.ex b env s1).bind fun y s2 => okB (cmpD op x y s2.os) s2
    | .and a b => (r.ex a env s).bind fun x s1 => onB x s1 (fun s2 => r.ex b env s2) fun s2 => .ok (.bl false) s2
    | .or a b => (r.ex a env s).bind fun x s1 => onB x s1 (fun s2 => .ok (.bl true) s2) fun s2 => r.ex b env s2
    | .not a => (r.ex a env s).bind fun x s1 => notD x s1
    | .neg a => (r.ex a env s).bind fun x s1 => negD x s1
    | .ite c a b => (r.ex c env s).bind fun x s1 => onB x s1 (fun s2 => r.ex a env s2) fun s2 => r.ex b env s2
    | .idx a b => (r.ex a env s).bind fun x s1 => (r.ex b env s1).bind fun y s2 => okD (idxD x y s2.os) s2
    | .sl a lo hi => (r.ex a env s).bind fun x s1 => (evI (fun e s => r.ex e env s) lo s1).bind fun l s2 => (evI (fun e s => r.ex e env s) hi s2).bind fun h s3 => slD x l h s3
    | .call f es ks ws => (evs (fun e s => r.ex e env s) es s).bind fun xs s1 => (evs (fun e s => r.ex e env s) ws s1).bind fun ys s2 => callD T callee f xs ks ys s2
    | .blt f es => (evs (fun e s => r.ex e env s) es s).bind fun xs s1 => bltD f xs s1
    | .reprEq a b => (r.ex a env s).bind fun x s1 => onP (rdF x s1) s1 fun p s2 => (r.ex b env s2).bind fun y s3 => onP (rdF y s3) s3 fun q s4 => sameD p q s4
    | .comp e t it c own => (walkE (fun e s => r.ex e env s) it s).bind fun w s1 => doneL w.lock (compL (fun env s => r.ex e env s) (fun env s => tstOf r.ex c env s) t (wipeE env own) w.xs s1)
    | .comp2 e t it t1 it1 c1 own => (walkE (fun e s => r.ex e env s) it s).bind fun w s1 => doneL w.lock (compL2 (innerF (fun env s => walkE (fun e s => r.ex e env s) it1 s) (fun env s => r.ex e env s) (fun env s => tstOf r.ex c1 env s) t1) t (wipeE env own) w.xs s1)
    | .dic kvs => (evP (fun e s => r.ex e env s) kvs s).bind fun ps s1 => dicD ps s1
    | .app o e => (r.ex o env s).bind fun x s1 => onL x s1 fun s2 => (r.ex e env s2).bind fun y s3 => appD x y s3
    | .rng _ => .no
    | .enum _ => .no
    | .zip _ _ => .no
  st := fun st env s => match st with
    | .asg t e => thenS (r.ex e env s) env fun d s1 => nxO (asgT t d env) s1
    | .setI o i e => thenS (r.ex e env s) env fun d s1 => thenS (r.ex o env s1) env fun x s2 => thenS (r.ex i env s2) env fun k s3 => nxS env (putI x k d s3)
    | .expr e => thenS (r.ex e env s) env fun _ s1 => .nx env s1
    | .ret e => thenS (r.ex e env s) env fun d s1 => .ret d s1
    | .retN => .ret .non s
    | .ite c a b => thenS (r.ex c env s) env fun x s1 => onBS x s1 (fun s2 => execs r.st a env s2) fun s2 => execs r.st b env s2
    | .for_ t it b => walkS (walkE (fun e s => r.ex e env s) it s) env fun w s1 => (forL (fun env s => execs r.st b env s) t w.xs env s1).free w.lock
    | .whl c b => thenS (r.ex c env s) env fun x s1 => onBS x s1 (fun s2 => whlS (execs r.st b env s2) fun e3 s3 => r.st (.whl c b) e3 s3) fun s2 => .nx env s2
    | .brk => .bk env s
    | .cnt => .ct env s
    | .pass => .nx env s
    | .dead => .no

def lv (T : Tb) (callee : Nat → List D → S → R D) (n : Nat) : Rec :=
  Nat.rec ⟨fun _ _ _ => .no, fun _ _ _ => .no⟩ (fun _ r => step T callee r) n

def runB (T : Tb) (callee : Nat → List D → S → R D) (F : Nat) (fd : Fd) (xs : List D) (s : S) : R D :=
  match execs (lv T callee F).st fd.body (xs.map some ++ List.replicate (fd.n - xs.length) none) s with
  | .nx _ s1 => back s.os.length .non s1
  | .ret d s1 => back s.os.length d s1
  | .ex c fs _ s1 => .ex c fs s1
  | _ => .no

def callK (T : Tb) (F : Nat) (k : Nat) : Nat → List D → S → R D :=
  Nat.rec (fun _ _ _ => .no) (fun _ c f xs s => match T[f]? with
    | some fd => if xs.length = fd.ps.length then runB T c F fd xs s else .no
    | none => .no) k
end Wk

/-! Wk2: what stands for what. -/
namespace Wk
open PySem L2

/-- a list that nobody changes: locked, or written -/
def Fz (K : PySem.W.Frag) (H : Hp) (a : Addr) (vs : List V) : Prop := (∃ o, H a = some (.frz o (.lst vs))) ∨ SqL K (fun _ => none) a vs
theorem Fz.sq {K : PySem.W.Frag} {H : Hp} {a : Addr} {vs : List V} (h : Fz K H a vs) : SqL K H a vs := by
  rcases h with h | (h | ⟨o, h⟩) | h
  · exact .inl (.inr h)
  · cases h
  · cases h
  · exact .inr h

mutual
inductive Rep (K : PySem.W.Frag) (mu : List Addr) (H : Hp) : V → D → Prop
  | non : Rep K mu H .non .non
  | bl (b : Bool) : Rep K mu H (.bl b) (.bl b)
  | int (i : Int) : Rep K mu H (.int i) (.int i)
  | str (x : Str) : Rep K mu H (.str x) (.str x)
  | ty (x : String) : Rep K mu H (.ty x) (.ty x)
  | tup {a : Addr} {vs : List V} {xs : List D} : SqT K H a vs → Reps K mu H vs xs → Rep K mu H (.ref a) (.tup xs)
  | fl {a : Addr} {vs : List V} {xs : List D} : Fz K H a vs → Reps K mu H vs xs → Rep K mu H (.ref a) (.fl xs)
  | ref {a : Addr} {n : Nat} : mu[n]? = some a → Rep K mu H (.ref a) (.ref n)
inductive Reps (K : PySem.W.Frag) (mu : List Addr) (H : Hp) : List V → List D → Prop
  | nil : Reps K mu H [] []
  | cons {v : V} {x : D} {vs : List V} {xs : List D} : Rep K mu H v x → Reps K mu H vs xs → Reps K mu H (v :: vs) (x :: xs)
end

/-- data stand for the same -/
structure Grow (K : PySem.W.Frag) (mu : List Addr) (H : Hp) (mu' : List Addr) (H' : Hp) : Prop where
  pre : ∀ (n : Nat) (a : Addr), mu[n]? = some a → mu'[n]? = some a
  tups : ∀ a vs, SqT K H a vs → SqT K H' a vs
  fzs : ∀ a vs, Fz K H a vs → Fz K H' a vs
/-- and what the store does not know stays -/
structure Ext (K : PySem.W.Frag) (mu : List Addr) (H : Hp) (mu' : List Addr) (H' : Hp) : Prop extends Grow K mu H mu' H' where
  fr : ∀ a u, H a = some u → a ∉ mu → H' a = some u ∧ a ∉ mu'
section
variable {K : PySem.W.Frag} {mu mu1 mu2 : List Addr} {H H1 H2 : Hp}
theorem Grow.refl : Grow K mu H mu H := ⟨fun _ _ h => h, fun _ _ h => h, fun _ _ h => h⟩
theorem Grow.trans (a : Grow K mu H mu1 H1) (b : Grow K mu1 H1 mu2 H2) : Grow K mu H mu2 H2 :=
  ⟨fun n x h => b.pre n x (a.pre n x h), fun x vs h => b.tups x vs (a.tups x vs h), fun x vs h => b.fzs x vs (a.fzs x vs h)⟩
theorem Ext.refl : Ext K mu H mu H := ⟨.refl, fun _ _ h q => ⟨h, q⟩⟩
theorem Ext.trans (a : Ext K mu H mu1 H1) (b : Ext K mu1 H1 mu2 H2) : Ext K mu H mu2 H2 :=
  ⟨a.toGrow.trans b.toGrow, fun x u h q => let ⟨h1, q1⟩ := a.fr x u h q; b.fr x u h1 q1⟩
end

section
variable {K : PySem.W.Frag} {mu mu' : List Addr} {H H' : Hp}
mutual
theorem Rep.mono (e : Grow K mu H mu' H') : ∀ {v : V} {d : D}, Rep K mu H v d → Rep K mu' H' v d
  | _, _, .non => .non
  | _, _, .bl b => .bl b
  | _, _, .int i => .int i
  | _, _, .str x => .str x
  | _, _, .ty x => .ty x
  | _, _, .tup h r => .tup (e.tups _ _ h) (Reps.mono e r)
  | _, _, .fl h r => .fl (e.fzs _ _ h) (Reps.mono e r)
  | _, _, .ref h => .ref (e.pre _ _ h)
theorem Reps.mono (e : Grow K mu H mu' H') : ∀ {vs : List V} {xs : List D}, Reps K mu H vs xs → Reps K mu' H' vs xs
  | _, _, .nil => .nil
  | _, _, .cons a b => .cons (Rep.mono e a) (Reps.mono e b)
end
theorem Reps.length : ∀ {vs : List V} {xs : List D}, Reps K mu H vs xs → vs.length = xs.length
  | _, _, .nil => rfl
  | _, _, .cons _ b => congrArg Nat.succ (Reps.length b)
theorem Reps.get : ∀ {vs : List V} {xs : List D} {i : Nat} {x : D}, Reps K mu H vs xs → xs[i]? = some x → ∃ v, vs[i]? = some v ∧ Rep K mu H v x
  | _, _, _, _, .nil, e => by simp at e
  | _, _, 0, _, .cons a _, e => by simp at e; subst e; exact ⟨_, rfl, a⟩
  | _, _, i + 1, x, .cons _ b, e => by
    obtain ⟨v, h1, h2⟩ := Reps.get (i := i) (x := x) b (by simpa using e)
    exact ⟨v, by simpa using h1, h2⟩
theorem Reps.getV : ∀ {vs : List V} {xs : List D} {i : Nat} {v : V}, Reps K mu H vs xs → vs[i]? = some v → ∃ x, xs[i]? = some x ∧ Rep K mu H v x
  | _, _, _, _, .nil, e => by simp at e
  | _, _, 0, _, .cons a _, e => by simp at e; subst e; exact ⟨_, rfl, a⟩
  | _, _, i + 1, x, .cons _ b, e => by
    obtain ⟨v, h1, h2⟩ := Reps.getV (i := i) (v := x) b (by simpa using e)
    exact ⟨v, by simpa using h1, h2⟩
theorem Reps.append : ∀ {vs ws : List V} {xs ys : List D}, Reps K mu H vs xs → Reps K mu H ws ys → Reps K mu H (vs ++ ws) (xs ++ ys)
  | _, _, _, _, .nil, s => s
  | _, _, _, _, .cons a b, s => .cons a (Reps.append b s)
theorem Reps.take : ∀ {vs : List V} {xs : List D} (n : Nat), Reps K mu H vs xs → Reps K mu H (vs.take n) (xs.take n)
  | _, _, 0, _ => .nil
  | _, _, _ + 1, .nil => .nil
  | _, _, n + 1, .cons a b => .cons a (Reps.take n b)
theorem Reps.drop : ∀ {vs : List V} {xs : List D} (n : Nat), Reps K mu H vs xs → Reps K mu H (vs.drop n) (xs.drop n)
  | _, _, 0, r => r
  | _, _, _ + 1, .nil => .nil
  | _, _, n + 1, .cons _ b => Reps.drop n b
theorem Reps.set {v : V} {x : D} (r : Rep K mu H v x) : ∀ {vs : List V} {xs : List D} (i : Nat), Reps K mu H vs xs → Reps K mu H (vs.set i v) (xs.set i x)
  | _, _, _, .nil => .nil
  | _, _, 0, .cons _ b => .cons r b
  | _, _, i + 1, .cons a b => .cons a (Reps.set r i b)
end

/-! ### references -/
mutual
/-- all references are below m -/
inductive Low (m : Nat) : D → Prop
  | non : Low m .non
  | bl (b : Bool) : Low m (.bl b)
  | int (i : Int) : Low m (.int i)
  | str (x : Str) : Low m (.str x)
  | ty (x : String) : Low m (.ty x)
  | fn (i : Nat) : Low m (.fn i)
  | tup {xs : List D} : Lows m xs → Low m (.tup xs)
  | fl {xs : List D} : Lows m xs → Low m (.fl xs)
  | ref {n : Nat} : n < m → Low m (.ref n)
inductive Lows (m : Nat) : List D → Prop
  | nil : Lows m []
  | cons {x : D} {xs : List D} : Low m x → Lows m xs → Lows m (x :: xs)
end
theorem lows_of {m : Nat} : ∀ {xs : List D}, (∀ x ∈ xs, Low m x) → Lows m xs
  | [], _ => .nil
  | x :: xs, h => .cons (h x (List.mem_cons_self ..)) (lows_of fun y hy => h y (List.mem_cons_of_mem _ hy))
theorem Lows.mem {m : Nat} : ∀ {xs : List D}, Lows m xs → ∀ x ∈ xs, Low m x
  | _, .nil, _, h => by cases h
  | _, .cons a b, x, h => by
    rcases List.mem_cons.mp h with e | h
    · rw [e]; exact a
    · exact b.mem x h
theorem low_ok {m : Nat} : ∀ {n : Nat} {d : D}, low n m d = true → Low m d
  | 0, _, h => by simp [low] at h
  | n + 1, .non, _ => .non
  | n + 1, .bl b, _ => .bl b
  | n + 1, .int i, _ => .int i
  | n + 1, .str x, _ => .str x
  | n + 1, .ty x, _ => .ty x
  | n + 1, .fn i, _ => .fn i
  | n + 1, .ref k, h => .ref (by simpa [low] using h)
  | n + 1, .tup xs, h => .tup (lows_of fun x hx => by
      have h' : xs.all (low n m) = true := h
      exact low_ok (List.all_eq_true.mp h' x hx))
  | n + 1, .fl xs, h => .fl (lows_of fun x hx => by
      have h' : xs.all (low n m) = true := h
      exact low_ok (List.all_eq_true.mp h' x hx))
mutual
theorem Low.mono {m k : Nat} (h : m ≤ k) : ∀ {d : D}, Low m d → Low k d
  | _, .non => .non
  | _, .bl b => .bl b
  | _, .int i => .int i
  | _, .str x => .str x
  | _, .ty x => .ty x
  | _, .fn i => .fn i
  | _, .tup l => .tup (Lows.mono h l)
  | _, .fl l => .fl (Lows.mono h l)
  | _, .ref l => .ref (Nat.lt_of_lt_of_le l h)
theorem Lows.mono {m k : Nat} (h : m ≤ k) : ∀ {xs : List D}, Lows m xs → Lows k xs
  | _, .nil => .nil
  | _, .cons a b => .cons (Low.mono h a) (Lows.mono h b)
end
theorem Lows.append {m : Nat} : ∀ {xs ys : List D}, Lows m xs → Lows m ys → Lows m (xs ++ ys)
  | _, _, .nil, s => s
  | _, _, .cons a b, s => .cons a (Lows.append b s)
section
variable {K : PySem.W.Frag} {mu : List Addr} {H : Hp}
mutual
theorem Rep.low : ∀ {v : V} {d : D}, Rep K mu H v d → Low mu.length d
  | _, _, .non => .non
  | _, _, .bl b => .bl b
  | _, _, .int i => .int i
  | _, _, .str x => .str x
  | _, _, .ty x => .ty x
  | _, _, .tup _ r => .tup (Reps.low r)
  | _, _, .fl _ r => .fl (Reps.low r)
  | _, _, .ref h => .ref (List.getElem?_eq_some_iff.mp h).1
theorem Reps.low : ∀ {vs : List V} {xs : List D}, Reps K mu H vs xs → Lows mu.length xs
  | _, _, .nil => .nil
  | _, _, .cons a b => .cons (Rep.low a) (Reps.low b)
end
mutual
/-- over the elder part alone -/
theorem Rep.cut {m : Nat} : ∀ {v : V} {d : D}, Rep K mu H v d → Low m d → Rep K (mu.take m) H v d
  | _, _, .non, _ => .non
  | _, _, .bl b, _ => .bl b
  | _, _, .int i, _ => .int i
  | _, _, .str x, _ => .str x
  | _, _, .ty x, _ => .ty x
  | _, _, .tup h r, .tup l => .tup h (Reps.cut r l)
  | _, _, .fl h r, .fl l => .fl h (Reps.cut r l)
  | _, _, .ref h, .ref l => .ref (by rw [List.getElem?_take_of_lt l]; exact h)
theorem Reps.cut {m : Nat} : ∀ {vs : List V} {xs : List D}, Reps K mu H vs xs → Lows m xs → Reps K (mu.take m) H vs xs
  | _, _, .nil, _ => .nil
  | _, _, .cons a b, .cons l ls => .cons (Rep.cut a l) (Reps.cut b ls)
end
end

/-! ### the store -/
def kvRep (K : PySem.W.Frag) (mu : List Addr) (H : Hp) : List (Key × V) → List (D × D) → Prop
  | [], [] => True
  | (k, v) :: r, (x, y) :: q => x = dKey k ∧ Rep K mu H v y ∧ kvRep K mu H r q
  | _, _ => False
def ORep (K : PySem.W.Frag) (mu : List Addr) (H : Hp) (a : Addr) : O → Prop
  | .lst xs => ∃ vs, H a = some (.lst vs) ∧ Reps K mu H vs xs
  | .lck xs => ∃ vs, H a = some (.lst vs) ∧ Reps K mu H vs xs
  | .dic kvs => ∃ kws, H a = some (.dK kws) ∧ kvRep K mu H kws kvs
def LowO (m : Nat) : O → Prop
  | .lst xs => Lows m xs
  | .lck xs => Lows m xs
  | .dic kvs => ∀ p ∈ kvs, Low m p.1 ∧ Low m p.2
structure SM (K : PySem.W.Frag) (mu : List Addr) (H : Hp) (s : S) : Prop where
  len : mu.length = s.os.length
  nd : mu.Nodup
  ats : ∀ (n : Nat) (o : O) (a : Addr), s.os[n]? = some o → mu[n]? = some a → ORep K mu H a o
  lo : s.lk = false → ∀ (n : Nat) (o : O), s.os[n]? = some o → LowO n o
/-- slots -/
structure EM (K : PySem.W.Frag) (mu : List Addr) (H : Hp) (sg : L2.St) (env : Env) : Prop where
  len : env.length = sg.length
  ats : ∀ (i : Nat) d, env[i]? = some (some d) → ∃ v, sg[i]? = some (some v) ∧ Rep K mu H v d
theorem EM.mono {K : PySem.W.Frag} {mu mu' : List Addr} {H H' : Hp} {sg : L2.St} {env : Env} (e : Grow K mu H mu' H') (h : EM K mu H sg env) : EM K mu' H' sg env :=
  ⟨h.len, fun i d q => let ⟨v, a, b⟩ := h.ats i d q; ⟨v, a, b.mono e⟩⟩
theorem EM.set {K : PySem.W.Frag} {mu : List Addr} {H : Hp} {sg : L2.St} {env : Env} {v : V} {d : D} (h : EM K mu H sg env) (r : Rep K mu H v d) (i : Nat) : EM K mu H (sg.set i (some v)) (env.set i (some d)) :=
  ⟨by simp [h.len], fun j x q => by
    by_cases hj : i = j
    · subst hj
      by_cases hi : i < env.length
      · rw [List.getElem?_set_self hi] at q
        cases q
        exact ⟨v, by rw [List.getElem?_set_self (by rw [← h.len]; exact hi)], r⟩
      · rw [List.getElem?_eq_none (by simpa using hi)] at q
        cases q
    · rw [List.getElem?_set_ne hj] at q
      obtain ⟨w, e, r'⟩ := h.ats j x q
      exact ⟨w, by rw [List.getElem?_set_ne hj]; exact e, r'⟩⟩
section
variable {K : PySem.W.Frag} {mu mu' : List Addr} {H H' : Hp}
theorem kvRep.mono (e : Grow K mu H mu' H') : ∀ {r : List (Key × V)} {q : List (D × D)}, kvRep K mu H r q → kvRep K mu' H' r q
  | [], [], _ => trivial
  | (_, _) :: _, (_, _) :: _, ⟨a, b, c⟩ => ⟨a, b.mono e, kvRep.mono e c⟩
  | [], _ :: _, h => h.elim
  | _ :: _, [], h => h.elim
theorem kvRep.low : ∀ {r : List (Key × V)} {q : List (D × D)}, kvRep K mu H r q → ∀ p ∈ q, Low mu.length p.1 ∧ Low mu.length p.2
  | [], [], _, p, hp => by cases hp
  | (k, _) :: _, (_, _) :: _, ⟨a, b, c⟩, p, hp => by
    rcases List.mem_cons.mp hp with e | hp
    · subst e
      refine ⟨?_, b.low⟩
      rw [a]
      cases k with
      | inl i => exact .int i
      | inr x => exact .str x
    · exact kvRep.low c p hp
  | [], _ :: _, h, _, _ => h.elim
  | _ :: _, [], h, _, _ => h.elim
theorem kvRep.cut {m : Nat} : ∀ {r : List (Key × V)} {q : List (D × D)}, kvRep K mu H r q → (∀ p ∈ q, Low m p.1 ∧ Low m p.2) → kvRep K (mu.take m) H r q
  | [], [], _, _ => trivial
  | (_, _) :: _, (x, y) :: _, ⟨a, b, c⟩, l => ⟨a, b.cut (l (x, y) (List.mem_cons_self ..)).2, kvRep.cut c fun p hp => l p (List.mem_cons_of_mem _ hp)⟩
  | [], _ :: _, h, _ => h.elim
  | _ :: _, [], h, _ => h.elim
theorem lowO_ok {m : Nat} : ∀ {o : O}, lowO m o = true → LowO m o
  | .lst xs, h => lows_of fun x hx => low_ok (List.all_eq_true.mp h x hx)
  | .lck xs, h => lows_of fun x hx => low_ok (List.all_eq_true.mp h x hx)
  | .dic kvs, h => fun p hp => by
      have q := List.all_eq_true.mp h p hp
      simp only [Bool.and_eq_true] at q
      exact ⟨low_ok q.1, low_ok q.2⟩
theorem LowO.mono {m k : Nat} (h : m ≤ k) : ∀ {o : O}, LowO m o → LowO k o
  | .lst _, l => Lows.mono h l
  | .lck _, l => Lows.mono h l
  | .dic _, l => fun p hp => ⟨(l p hp).1.mono h, (l p hp).2.mono h⟩
theorem chk_ok : ∀ {i : Nat} {os : List O}, chk i os = true → ∀ (n : Nat) (o : O), os[n]? = some o → LowO (i + n) o
  | i, [], _, n, o, e => by simp at e
  | i, x :: os, h, 0, o, e => by
    simp only [chk, Bool.and_eq_true] at h
    simp at e
    subst e
    exact lowO_ok h.1
  | i, x :: os, h, n + 1, o, e => by
    simp only [chk, Bool.and_eq_true] at h
    have q := chk_ok h.2 n o (by simpa using e)
    rw [show i + (n + 1) = i + 1 + n by omega]
    exact q
/-- the same object under a wider view -/
theorem ORep.keep {a : Addr} (e : Grow K mu H mu' H') (hl : ∀ u, H a = some u → H' a = some u) : ∀ {o : O}, ORep K mu H a o → ORep K mu' H' a o
  | .lst xs, ⟨vs, h, r⟩ => ⟨vs, hl _ h, r.mono e⟩
  | .lck xs, ⟨vs, h, r⟩ => ⟨vs, hl _ h, r.mono e⟩
  | .dic kvs, ⟨kw, h, r⟩ => ⟨kw, hl _ h, r.mono e⟩
theorem ORep.cut {a : Addr} {m : Nat} : ∀ {o : O}, ORep K mu H a o → LowO m o → ORep K (mu.take m) H a o
  | .lst xs, ⟨vs, h, r⟩, l => ⟨vs, h, r.cut l⟩
  | .lck xs, ⟨vs, h, r⟩, l => ⟨vs, h, r.cut l⟩
  | .dic kvs, ⟨kw, h, r⟩, l => ⟨kw, h, r.cut l⟩
/-- what an object of the store is to the heap -/
def Mb : HO → Prop
  | .lst _ => True
  | .dK _ => True
  | _ => False
theorem ORep.known {a : Addr} : ∀ {o : O}, ORep K mu H a o → ∃ u, H a = some u ∧ Mb u
  | .lst xs, ⟨vs, h, _⟩ => ⟨_, h, trivial⟩
  | .lck xs, ⟨vs, h, _⟩ => ⟨_, h, trivial⟩
  | .dic kvs, ⟨kw, h, _⟩ => ⟨_, h, trivial⟩
theorem SM.known {s : S} (m : SM K mu H s) {a : Addr} (h : a ∈ mu) : ∃ u, H a = some u ∧ Mb u := by
  obtain ⟨n, hn, e⟩ := List.getElem_of_mem h
  have e' : mu[n]? = some a := by rw [List.getElem?_eq_getElem hn, e]
  have hs : n < s.os.length := by rw [← m.len]; exact hn
  exact (m.ats n _ a (List.getElem?_eq_getElem hs) e').known
theorem SM.fresh {s : S} (m : SM K mu H s) {p : Addr} (h : H p = none) : p ∉ mu := fun q => by
  obtain ⟨u, hu, _⟩ := m.known q
  rw [h] at hu; cases hu
/-- an address that holds no tuple and nothing locked -/
def Soft (H : Hp) (a : Addr) : Prop := ∀ u, H a = some u → Mb u
theorem soft_none {a : Addr} (h : H a = none) : Soft H a := fun u q => by rw [h] at q; cases q
theorem grow_upd {a : Addr} {o : HO} (hs : Soft H a) : Grow K mu H mu (upd H a o) := by
  refine ⟨fun _ _ h => h, fun b vs h => ?_, fun b vs h => ?_⟩
  · have nb : ∀ u, H b = some u → ¬ Mb u → b ≠ a := fun u q nm z => nm (hs u (z ▸ q))
    rcases h with (h | ⟨ob, h⟩) | h
    · exact .inl (.inl (by rw [upd_ne (nb _ h fun z => z)]; exact h))
    · exact .inl (.inr ⟨ob, by rw [upd_ne (nb _ h fun z => z)]; exact h⟩)
    · exact .inr h
  · rcases h with ⟨ob, h⟩ | h
    · have nb : b ≠ a := fun z => by
        subst z
        exact hs _ h
      exact .inl ⟨ob, by rw [upd_ne nb]; exact h⟩
    · exact .inr h
theorem grow_push {mu : List Addr} {p : Addr} : Grow K mu H (mu ++ [p]) H :=
  ⟨fun n a h => by rw [List.getElem?_append_left (List.getElem?_eq_some_iff.mp h).1]; exact h, fun _ _ h => h, fun _ _ h => h⟩
/-- a new tuple -/
theorem ext_new {p : Addr} {o : HO} (hp : H p = none) : Ext K mu H mu (upd H p o) :=
  ⟨grow_upd (soft_none hp), fun a u h q => ⟨by rw [upd_ne (ne_of_none h hp)]; exact h, q⟩⟩
theorem SM.new {s : S} {p : Addr} {o : HO} (m : SM K mu H s) (hp : H p = none) : SM K mu (upd H p o) s :=
  ⟨m.len, m.nd, fun n q a h1 h2 => (m.ats n q a h1 h2).keep (ext_new hp).toGrow fun u z => by rw [upd_ne (ne_of_none z hp)]; exact z, m.lo⟩
/-- a new object of the store -/
theorem ext_push {p : Addr} {o : HO} (hp : H p = none) : Ext K mu H (mu ++ [p]) (upd H p o) :=
  ⟨(grow_upd (soft_none hp)).trans grow_push, fun a u h q => by
    have na : a ≠ p := ne_of_none h hp
    exact ⟨by rw [upd_ne na]; exact h, by simp [q, na]⟩⟩
theorem SM.push {s : S} {p : Addr} {o : HO} {q : O} (m : SM K mu H s) (hp : p ∉ mu) (hs : Soft H p) (hq : ORep K (mu ++ [p]) (upd H p o) p q) (hl : LowO s.os.length q) :
    SM K (mu ++ [p]) (upd H p o) { s with os := s.os ++ [q] } := by
  have g : Grow K mu H (mu ++ [p]) (upd H p o) := (grow_upd hs).trans grow_push
  have old : ∀ (n : Nat) (r : O), (s.os ++ [q])[n]? = some r → (n < s.os.length ∧ s.os[n]? = some r) ∨ (n = s.os.length ∧ r = q) := fun n r h => by
    by_cases hn : n < s.os.length
    · rw [List.getElem?_append_left hn] at h
      exact .inl ⟨hn, h⟩
    · rw [List.getElem?_append_right (by omega)] at h
      have : n - s.os.length < 1 := by simpa using (List.getElem?_eq_some_iff.mp h).1
      have h0 : n = s.os.length := by omega
      subst h0
      simp at h
      exact .inr ⟨rfl, h.symm⟩
  refine ⟨by simp [m.len], ?_, fun n x a hx ha => ?_, fun hk n x hx => ?_⟩
  · rw [List.nodup_append]
    exact ⟨m.nd, by simp, fun a ha b hb => by simp at hb; subst hb; exact fun z => hp (z ▸ ha)⟩
  · rcases old n x hx with ⟨li, ei⟩ | ⟨li, ei⟩
    · have ha' : mu[n]? = some a := by
        rw [List.getElem?_append_left (by rw [m.len]; exact li)] at ha
        exact ha
      have na : a ≠ p := fun z => hp (z ▸ List.mem_of_getElem? ha')
      exact (m.ats n x a ei ha').keep g fun u z => by rw [upd_ne na]; exact z
    · subst li ei
      rw [← m.len, List.getElem?_append_right (Nat.le_refl _)] at ha
      simp at ha
      subst ha
      exact hq
  · rcases old n x hx with ⟨li, ei⟩ | ⟨li, ei⟩
    · exact m.lo hk n x ei
    · subst li ei
      exact hl
theorem SM.soft {s : S} (m : SM K mu H s) {a : Addr} (h : a ∈ mu) : Soft H a := fun u q => by
  obtain ⟨w, hw, b⟩ := m.known h
  rw [hw] at q; cases q
  exact b
/-- an object of the store is changed -/
theorem ext_write {s : S} {a : Addr} {o : HO} (m : SM K mu H s) (h : a ∈ mu) : Ext K mu H mu (upd H a o) :=
  ⟨grow_upd (m.soft h), fun b u q nb => by
    have ne : b ≠ a := fun z => by subst z; exact nb h
    exact ⟨by rw [upd_ne ne]; exact q, nb⟩⟩
theorem SM.write {s : S} {n : Nat} {a : Addr} {q : O} {v : HO} {lk : Bool} (m : SM K mu H s) (hn : n < s.os.length) (ha : mu[n]? = some a)
    (hq : ORep K mu (upd H a v) a q) (hlk : lk = false → s.lk = false ∧ LowO n q) : SM K mu (upd H a v) { os := s.os.set n q, lk := lk } := by
  have hm : a ∈ mu := List.mem_of_getElem? ha
  refine ⟨by simp [m.len], m.nd, fun i x b hx hb => ?_, fun hk i x hx => ?_⟩
  · by_cases hi : i = n
    · subst hi
      rw [List.getElem?_set_self hn] at hx
      cases hx
      rw [ha] at hb
      cases hb
      exact hq
    · rw [List.getElem?_set_ne (Ne.symm hi)] at hx
      have nb : b ≠ a := fun z => by
        subst z
        exact hi (nodup_at m.nd hb ha)
      exact (m.ats i x b hx hb).keep (ext_write m hm).toGrow fun w z => by rw [upd_ne nb]; exact z
  · obtain ⟨h0, hl⟩ := hlk hk
    by_cases hi : i = n
    · subst hi
      rw [List.getElem?_set_self hn] at hx
      cases hx
      exact hl
    · rw [List.getElem?_set_ne (Ne.symm hi)] at hx
      exact m.lo h0 i x hx
where
  nodup_at {l : List Addr} (nd : l.Nodup) {i j : Nat} {a : Addr} (h1 : l[i]? = some a) (h2 : l[j]? = some a) : i = j := by
    obtain ⟨l1, e1⟩ := List.getElem?_eq_some_iff.mp h1
    obtain ⟨l2, e2⟩ := List.getElem?_eq_some_iff.mp h2
    exact (List.getElem_inj nd).mp (e1.trans e2.symm)
/-- a lock, its end -/
theorem SM.same {s : S} {n : Nat} {o q : O} (m : SM K mu H s) (hn : s.os[n]? = some o) (h : ∀ a, ORep K mu H a o → ORep K mu H a q) (hl : LowO n o → LowO n q) : SM K mu H (s.set n q) := by
  have ln : n < s.os.length := (List.getElem?_eq_some_iff.mp hn).1
  have at_ : ∀ (i : Nat) (x : O), (s.os.set n q)[i]? = some x → (i = n ∧ x = q) ∨ s.os[i]? = some x := fun i x hx => by
    by_cases hi : i = n
    · subst hi
      rw [List.getElem?_set_self ln] at hx
      cases hx
      exact .inl ⟨rfl, rfl⟩
    · rw [List.getElem?_set_ne (Ne.symm hi)] at hx
      exact .inr hx
  refine ⟨by simp [S.set, m.len], m.nd, fun i x a hx ha => ?_, fun hk i x hx => ?_⟩
  · rcases at_ i x hx with ⟨rfl, rfl⟩ | hx
    · exact h a (m.ats _ o a hn ha)
    · exact m.ats i x a hx ha
  · rcases at_ i x hx with ⟨rfl, rfl⟩ | hx
    · exact hl (m.lo hk _ o hn)
    · exact m.lo hk i x hx
/-- the elder part of the store -/
theorem SM.take {s : S} {m : Nat} (h : SM K mu H s) (hl : ∀ (n : Nat) (o : O), n < m → s.os[n]? = some o → LowO n o) : SM K (mu.take m) H { os := s.os.take m, lk := false } := by
  have at_ : ∀ (n : Nat) (o : O), (s.os.take m)[n]? = some o → n < m ∧ s.os[n]? = some o := fun n o e => by
    have ln : n < (s.os.take m).length := (List.getElem?_eq_some_iff.mp e).1
    have lm : n < m := by rw [List.length_take] at ln; omega
    rw [List.getElem?_take_of_lt lm] at e
    exact ⟨lm, e⟩
  refine ⟨by simp [h.len], h.nd.sublist (List.take_sublist _ _), fun n o a e ha => ?_, fun _ n o e => ?_⟩
  · obtain ⟨lm, e⟩ := at_ n o e
    rw [List.getElem?_take_of_lt lm] at ha
    exact (h.ats n o a e ha).cut ((hl n o lm e).mono (Nat.le_of_lt lm))
  · obtain ⟨lm, e⟩ := at_ n o e
    exact hl n o lm e
end
end Wk

/-! Wk3: a run leaves locked lists as they are. -/
namespace Wk
open PySem L2

def Kept (s s' : S) : Prop := ∀ (n : Nat) (xs : List D), s.os[n]? = some (.lck xs) → s'.os[n]? = some (.lck xs)
theorem Kept.refl (s : S) : Kept s s := fun _ _ h => h
theorem Kept.trans {s s1 s2 : S} (a : Kept s s1) (b : Kept s1 s2) : Kept s s2 := fun n xs h => b n xs (a n xs h)
def KR {t : Type} (s : S) : R t → Prop
  | .ok _ s' => Kept s s'
  | .ex _ _ s' => Kept s s'
  | .no => True
def KS (s : S) : RS → Prop
  | .nx _ s' => Kept s s'
  | .ret _ s' => Kept s s'
  | .bk _ s' => Kept s s'
  | .ct _ s' => Kept s s'
  | .ex _ _ _ s' => Kept s s'
  | .no => True
theorem KR.bind {t u : Type} {s : S} {r : R t} {k : t → S → R u} (h : KR s r) (hk : ∀ x s1, KR s1 (k x s1)) : KR s (r.bind k) := by
  cases r with
  | ok x s1 =>
    have q := hk x s1
    show KR s (k x s1)
    cases e : k x s1 with
    | ok y s2 => rw [e] at q; exact Kept.trans h q
    | ex c fs s2 => rw [e] at q; exact Kept.trans h q
    | no => trivial
  | ex c fs s1 => exact h
  | no => trivial
theorem KR.from {t : Type} {s s1 : S} {r : R t} (a : Kept s s1) (h : KR s1 r) : KR s r := by
  cases r with
  | ok y s2 => exact a.trans h
  | ex c fs s2 => exact a.trans h
  | no => trivial
theorem KS.from {s s1 : S} {r : RS} (a : Kept s s1) (h : KS s1 r) : KS s r := by
  cases r with
  | nx => exact a.trans h
  | ret => exact a.trans h
  | bk => exact a.trans h
  | ct => exact a.trans h
  | ex => exact a.trans h
  | no => trivial
theorem kept_push {s : S} {o : O} : Kept s { s with os := s.os ++ [o] } := fun n xs h => by
  show (s.os ++ [o])[n]? = _
  rw [List.getElem?_append_left (List.getElem?_eq_some_iff.mp h).1]
  exact h
theorem kr_alloc {s : S} {o : O} : KR s (alloc o s) := kept_push
theorem kept_put {s : S} {n : Nat} {o p : O} {lk : Bool} (h : s.os[n]? = some o) (ho : ∀ xs, o ≠ .lck xs) : Kept s { os := s.os.set n p, lk := lk } := fun m xs q => by
  have ne : n ≠ m := fun z => by
    subst z
    rw [h] at q
    exact ho xs (Option.some.inj q)
  show (s.os.set n p)[m]? = _
  rw [List.getElem?_set_ne ne]
  exact q
theorem kr_bin {op : Operator} {a b : D} {s : S} : KR s (binD op a b s) := by
  unfold binD
  repeat' split
  all_goals first | exact Kept.refl s | exact kr_alloc | trivial
theorem kr_sl {a : D} {lo hi : Option Int} {s : S} : KR s (slD a lo hi s) := by
  unfold slD
  repeat' split
  all_goals first | exact Kept.refl s | exact kr_alloc | trivial
theorem kr_blt {f : Blt} {xs : List D} {s : S} : KR s (bltD f xs s) := by
  unfold bltD
  repeat' split
  all_goals try unfold int1
  all_goals try unfold isi2
  all_goals repeat' split
  all_goals first | exact Kept.refl s | exact kr_alloc | trivial
theorem kr_evs {f : Ex → S → R D} (hf : ∀ e s, KR s (f e s)) : ∀ (es : List Ex) (s : S), KR s (evs f es s)
  | [], s => Kept.refl s
  | e :: es, s => (hf e s).bind fun x s1 => (kr_evs hf es s1).bind fun xs s2 => Kept.refl s2
theorem kr_evP {f : Ex → S → R D} (hf : ∀ e s, KR s (f e s)) : ∀ (es : List (Ex × Ex)) (s : S), KR s (evP f es s)
  | [], s => Kept.refl s
  | (a, b) :: es, s => (hf a s).bind fun x s1 => (hf b s1).bind fun y s2 => (kr_evP hf es s2).bind fun xs s3 => Kept.refl s3
theorem kr_evI {f : Ex → S → R D} (hf : ∀ e s, KR s (f e s)) : ∀ (e : Option Ex) (s : S), KR s (evI f e s)
  | none, s => Kept.refl s
  | some e, s => (hf e s).bind fun x s1 => by
    unfold intD
    split
    · exact Kept.refl s1
    · trivial
/-- the lock that a walk has laid -/
def Lk (s : S) : Option (Nat × List D) → Prop
  | none => True
  | some (n, xs) => s.os[n]? = some (.lck xs)
theorem Lk.kept {s s' : S} {l : Option (Nat × List D)} (h : Lk s l) (k : Kept s s') : Lk s' l := by
  cases l with
  | none => trivial
  | some p => exact k _ _ h
/-- from s a walk came to s1, with a lock: its end brings back what was locked at s -/
def Lkd (s s1 : S) : Option (Nat × List D) → Prop
  | none => Kept s s1
  | some (n, xs) => s1.os[n]? = some (.lck xs) ∧ ∀ s2, Kept s1 s2 → Kept s (s2.set n (.lst xs))
theorem Lkd.lk {s s1 : S} {l : Option (Nat × List D)} (h : Lkd s s1 l) : Lk s1 l := by
  cases l with
  | none => trivial
  | some p => exact h.1
theorem Lkd.free {s s1 s2 : S} {l : Option (Nat × List D)} (h : Lkd s s1 l) (k : Kept s1 s2) : Kept s (freeS s2 l) := by
  cases l with
  | none => exact Kept.trans h k
  | some p => exact h.2 s2 k
theorem Lkd.from {s0 s s1 : S} {l : Option (Nat × List D)} (k : Kept s0 s) (h : Lkd s s1 l) : Lkd s0 s1 l := by
  cases l with
  | none => exact k.trans h
  | some p => exact ⟨h.1, fun s2 q => k.trans (h.2 s2 q)⟩
theorem walkOf_lkd {d : D} {s : S} {w : Wk} {s1 : S} (h : walkOf d s = .ok w s1) : Lkd s s1 w.lock := by
  unfold walkOf at h
  split at h
  · cases h; exact Kept.refl s
  · cases h; exact Kept.refl s
  · rename_i n
    split at h
    · rename_i xs e
      cases h
      have ln : n < s.os.length := (List.getElem?_eq_some_iff.mp e).1
      refine ⟨by show (s.os.set n _)[n]? = _; rw [List.getElem?_set_self ln], fun s2 k m ys q => ?_⟩
      have ne : n ≠ m := fun z => by
        subst z
        rw [e] at q
        cases q
      show (s2.os.set n _)[m]? = _
      rw [List.getElem?_set_ne ne]
      refine k m ys ?_
      show (s.os.set n _)[m]? = _
      rw [List.getElem?_set_ne ne]
      exact q
    · cases h; exact Kept.refl s
    · cases h
  · cases h
/-- what a walk says of locks -/
def KW (s : S) : R Wk → Prop
  | .ok w s1 => Lkd s s1 w.lock
  | .ex _ _ s1 => Kept s s1
  | .no => True
theorem kw_walkOf {d : D} {s : S} : KW s (walkOf d s) := by
  cases e : walkOf d s with
  | ok w s1 => exact walkOf_lkd e
  | ex c fs s1 =>
    exfalso
    unfold walkOf at e
    repeat' split at e
    all_goals cases e
  | no => trivial
theorem KR.bindW {t : Type} {s : S} {r : R t} {k : t → S → R Wk} (h : KR s r) (hk : ∀ x s1, KW s1 (k x s1)) : KW s (r.bind k) := by
  cases r with
  | ok x s1 =>
    have q := hk x s1
    show KW s (k x s1)
    cases e : k x s1 with
    | ok y s2 => rw [e] at q; exact Lkd.from h q
    | ex c fs s2 => rw [e] at q; exact Kept.trans h q
    | no => trivial
  | ex c fs s1 => exact h
  | no => trivial
theorem kw_walkE {f : Ex → S → R D} (hf : ∀ e s, KR s (f e s)) (it : Ex) (s : S) : KW s (walkE f it s) := by
  unfold walkE
  split
  · refine (kr_evs hf _ s).bindW fun xs s1 => ?_
    unfold rngW
    repeat' split
    all_goals first | exact Kept.refl s1 | trivial
  · refine (hf _ s).bindW fun d s1 => ?_
    unfold enumW
    split
    · split
      · rename_i w s2 e
        have q := walkOf_lkd e
        exact q
      · trivial
    · trivial
  · refine (hf _ s).bindW fun d s1 => ?_
    refine (hf _ s1).bindW fun d2 s2 => ?_
    unfold zipW
    split
    · exact Kept.refl s2
    · trivial
  · exact (hf _ s).bindW fun d s1 => kw_walkOf
theorem ks_execs {f : Sm → Env → S → RS} (hf : ∀ st e s, KS s (f st e s)) : ∀ (b : List Sm) (e : Env) (s : S), KS s (execs f b e s)
  | [], e, s => Kept.refl s
  | st :: r, e, s => by
    have h := hf st e s
    unfold execs
    split
    · rename_i e1 s1 q
      rw [q] at h
      exact KS.from h (ks_execs hf r e1 s1)
    · exact h
theorem ks_forL {body : Env → S → RS} (hb : ∀ e s, KS s (body e s)) (t : Tg) : ∀ (xs : List D) (e : Env) (s : S), KS s (forL body t xs e s)
  | [], e, s => Kept.refl s
  | x :: xs, e, s => by
    unfold forL
    split
    · trivial
    · rename_i e1 _
      have h := hb e1 s
      split
      · rename_i e2 s2 q
        rw [q] at h
        exact KS.from h (ks_forL hb t xs e2 s2)
      · rename_i e2 s2 q
        rw [q] at h
        exact KS.from h (ks_forL hb t xs e2 s2)
      · rename_i e2 s2 q
        rw [q] at h
        exact h
      · exact h
theorem kr_compL {elt tst : Env → S → R D} (he : ∀ e s, KR s (elt e s)) (ht : ∀ e s, KR s (tst e s)) (t : Tg) (e : Env) : ∀ (xs : List D) (s : S), KR s (compL elt tst t e xs s)
  | [], s => Kept.refl s
  | x :: xs, s => by
    unfold compL
    split
    · trivial
    · rename_i e1 _
      have h1 := ht e1 s
      split
      · rename_i s1 q1
        rw [q1] at h1
        have h2 := he e1 s1
        split
        · rename_i y s2 q2
          rw [q2] at h2
          have h3 := kr_compL he ht t e xs s2
          split
          · rename_i ys s3 q3
            rw [q3] at h3
            exact (Kept.trans h1 h2).trans h3
          · trivial
        · trivial
      · rename_i s1 q1
        rw [q1] at h1
        exact KR.from h1 (kr_compL he ht t e xs s1)
      · trivial
theorem kr_compL2 {inner : Env → S → R (List D)} (hi : ∀ e s, KR s (inner e s)) (t : Tg) (e : Env) : ∀ (xs : List D) (s : S), KR s (compL2 inner t e xs s)
  | [], s => Kept.refl s
  | x :: xs, s => by
    unfold compL2
    split
    · trivial
    · rename_i e1 _
      have h1 := hi e1 s
      split
      · rename_i ys s1 q1
        rw [q1] at h1
        have h2 := kr_compL2 hi t e xs s1
        split
        · rename_i zs s2 q2
          rw [q2] at h2
          exact Kept.trans h1 h2
        · trivial
      · trivial
theorem KS.free {s s1 : S} {l : Option (Nat × List D)} {r : RS} (h : Lkd s s1 l) (k : KS s1 r) : KS s (r.free l) := by
  cases r with
  | nx => exact h.free k
  | ret => exact h.free k
  | bk => exact h.free k
  | ct => exact h.free k
  | ex => exact h.free k
  | no => trivial
theorem kr_tst {f : Ex → Env → S → R D} (hf : ∀ e env s, KR s (f e env s)) (c : Option Ex) (e : Env) (s : S) : KR s (tstOf f c e s) := by
  cases c with
  | none => exact Kept.refl s
  | some c => exact hf c e s
theorem kr_inner {fi1 : Env → S → R Wk} {fe ft1 : Env → S → R D} (hi : ∀ e s, KW s (fi1 e s)) (he : ∀ e s, KR s (fe e s)) (ht : ∀ e s, KR s (ft1 e s)) (t1 : Tg) (e1 : Env) (s : S) : KR s (innerF fi1 fe ft1 t1 e1 s) := by
  have hw := hi e1 s
  unfold innerF
  split
  · rename_i w1 s2 q1
    rw [q1] at hw
    have h2 := kr_compL he ht t1 (wipeE e1 (ixT t1)) w1.xs s2
    split
    · rename_i ys s3 q2
      rw [q2] at h2
      exact Lkd.free hw h2
    · trivial
  · trivial
theorem kr_doneL {s s1 : S} {l : Option (Nat × List D)} {r : R (List D)} (h : Lkd s s1 l) (k : KR s1 r) : KR s (doneL l r) := by
  unfold doneL
  split
  · split
    · exact KR.from (Lkd.free h k) kr_alloc
    · trivial
  · trivial

theorem kr_onB {x : D} {s : S} {t e : S → R D} (ht : ∀ s, KR s (t s)) (he : ∀ s, KR s (e s)) : KR s (onB x s t e) := by
  unfold onB
  split
  · exact ht s
  · exact he s
  · trivial
theorem kr_onL {x : D} {s : S} {k : S → R D} (h : ∀ s, KR s (k s)) : KR s (onL x s k) := by
  unfold onL
  split
  · split
    · exact h s
    · exact h s
    · trivial
  · trivial
theorem kr_onP {o : Option PyData} {s : S} {k : PyData → S → R D} (h : ∀ p s, KR s (k p s)) : KR s (onP o s k) := by
  cases o with
  | none => trivial
  | some p => exact h p s
theorem ks_onBS {x : D} {s : S} {t e : S → RS} (ht : ∀ s, KS s (t s)) (he : ∀ s, KS s (e s)) : KS s (onBS x s t e) := by
  unfold onBS
  split
  · exact ht s
  · exact he s
  · trivial
theorem ks_then {r : R D} {env : Env} {s : S} {k : D → S → RS} (h : KR s r) (hk : ∀ d s1, KS s1 (k d s1)) : KS s (thenS r env k) := by
  cases r with
  | ok d s1 => exact KS.from h (hk d s1)
  | ex c fs s1 => exact h
  | no => trivial
theorem ks_nxO {e : Option Env} {s : S} : KS s (nxO e s) := by
  cases e with
  | none => trivial
  | some e => exact Kept.refl s
theorem ks_whlS {s : S} {r : RS} {k : Env → S → RS} (h : KS s r) (hk : ∀ e s, KS s (k e s)) : KS s (whlS r k) := by
  cases r with
  | nx e s1 => exact KS.from h (hk e s1)
  | ct e s1 => exact KS.from h (hk e s1)
  | bk e s1 => exact h
  | ret d s1 => exact h
  | ex c fs e s1 => exact h
  | no => trivial
theorem kept_putI {x k d : D} {s s1 : S} (h : putI x k d s = some s1) : Kept s s1 := by
  unfold putI at h
  split at h
  · split at h
    · rename_i q
      split at h
      · cases h
        exact kept_put q fun ys z => by cases z
      · cases h
    · rename_i q
      split at h
      · split at h
        · cases h
          exact kept_put q fun ys z => by cases z
        · cases h
      · cases h
    · cases h
  · cases h
theorem ks_nxS {x k d : D} {env : Env} {s : S} : KS s (nxS env (putI x k d s)) := by
  cases e : putI x k d s with
  | none => trivial
  | some s1 => exact kept_putI e
theorem step_kept {T : Tb} {callee : Nat → List D → S → R D} {r : Rec} (hc : ∀ f xs s, KR s (callee f xs s)) (he : ∀ e env s, KR s (r.ex e env s)) (hs : ∀ st env s, KS s (r.st st env s)) :
    (∀ e env s, KR s ((step T callee r).ex e env s)) ∧ ∀ st env s, KS s ((step T callee r).st st env s) := by
  have hf : ∀ (env : Env) (e : Ex) (s : S), KR s (r.ex e env s) := fun env e s => he e env s
  refine ⟨fun e env s => ?_, fun st env s => ?_⟩
  · cases e with
    | var i =>
      show KR s (varD env i s)
      unfold varD
      split
      · exact Kept.refl s
      · trivial
    | cst d => exact Kept.refl s
    | tup es => exact (kr_evs (hf env) es s).bind fun xs s1 => Kept.refl s1
    | lst es => exact (kr_evs (hf env) es s).bind fun xs s1 => kr_alloc
    | bin op a b => exact (he a env s).bind fun x s1 => (he b env s1).bind fun y s2 => kr_bin
    | cmp op a b =>
      refine (he a env s).bind fun x s1 => (he b env s1).bind fun y s2 => ?_
      unfold okB
      split
      · exact Kept.refl s2
      · trivial
    | and a b => exact (he a env s).bind fun x s1 => kr_onB (fun s => he b env s) fun s => Kept.refl s
    | or a b => exact (he a env s).bind fun x s1 => kr_onB (fun s => Kept.refl s) fun s => he b env s
    | not a =>
      refine (he a env s).bind fun x s1 => ?_
      unfold notD
      split
      · exact Kept.refl s1
      · trivial
    | neg a =>
      refine (he a env s).bind fun x s1 => ?_
      unfold negD
      split
      · exact Kept.refl s1
      · trivial
    | ite c a b => exact (he c env s).bind fun x s1 => kr_onB (fun s => he a env s) fun s => he b env s
    | idx a b =>
      refine (he a env s).bind fun x s1 => (he b env s1).bind fun y s2 => ?_
      unfold okD
      split
      · exact Kept.refl s2
      · trivial
    | sl a lo hi =>
      exact (he a env s).bind fun x s1 => (kr_evI (hf env) lo s1).bind fun l s2 => (kr_evI (hf env) hi s2).bind fun h s3 => kr_sl
    | call f es ks ws =>
      refine (kr_evs (hf env) es s).bind fun x s1 => (kr_evs (hf env) ws s1).bind fun y s2 => ?_
      unfold callD
      split
      · split
        · exact hc _ _ _
        · trivial
      · trivial
    | blt f es => exact (kr_evs (hf env) es s).bind fun xs s1 => kr_blt
    | reprEq a b =>
      refine (he a env s).bind fun x s1 => kr_onP fun p s2 => (he b env s2).bind fun y s3 => kr_onP fun q s4 => ?_
      unfold sameD
      split
      · exact Kept.refl s4
      · trivial
    | comp e t it c own =>
      have hw := kw_walkE (hf env) it s
      show KR s ((walkE (fun e s => r.ex e env s) it s).bind _)
      unfold R.bind
      split
      · rename_i w s1 q
        rw [q] at hw
        exact kr_doneL hw (kr_compL (he e) (kr_tst he c) t (wipeE env own) w.xs s1)
      · rename_i q
        rw [q] at hw
        exact hw
      · trivial
    | comp2 e t it t1 it1 c1 own =>
      have hw := kw_walkE (hf env) it s
      show KR s ((walkE (fun e s => r.ex e env s) it s).bind _)
      unfold R.bind
      split
      · rename_i w s1 q
        rw [q] at hw
        exact kr_doneL hw (kr_compL2 (kr_inner (fun e s => kw_walkE (hf e) it1 s) (he e) (kr_tst he c1) t1) t (wipeE env own) w.xs s1)
      · rename_i q
        rw [q] at hw
        exact hw
      · trivial
    | dic kvs =>
      refine (kr_evP (hf env) kvs s).bind fun ps s1 => ?_
      unfold dicD
      split
      · exact kr_alloc
      · trivial
    | app o e =>
      refine (he o env s).bind fun x s1 => kr_onL fun s2 => (he e env s2).bind fun y s2 => ?_
      unfold appD
      split
      · split
        · rename_i xs q
          split
          · exact kept_put q fun ys z => by cases z
          · trivial
        · trivial
      · trivial
    | rng es => trivial
    | enum e => trivial
    | zip a b => trivial
  · cases st with
    | asg t e => exact ks_then (he e env s) fun d s1 => ks_nxO
    | setI o i e => exact ks_then (he e env s) fun d s1 => ks_then (he o env s1) fun x s2 => ks_then (he i env s2) fun k s3 => ks_nxS
    | expr e => exact ks_then (he e env s) fun d s1 => Kept.refl s1
    | ret e => exact ks_then (he e env s) fun d s1 => Kept.refl s1
    | retN => exact Kept.refl s
    | ite c a b => exact ks_then (he c env s) fun d s1 => ks_onBS (fun s => ks_execs hs a env s) fun s => ks_execs hs b env s
    | for_ t it b =>
      have hw := kw_walkE (hf env) it s
      show KS s (walkS (walkE (fun e s => r.ex e env s) it s) env _)
      unfold walkS
      split
      · rename_i w s1 q
        rw [q] at hw
        exact KS.free hw (ks_forL (fun e2 s2 => ks_execs hs b e2 s2) t w.xs env s1)
      · rename_i q
        rw [q] at hw
        exact hw
      · trivial
    | whl c b => exact ks_then (he c env s) fun d s1 => ks_onBS (fun s => ks_whlS (ks_execs hs b env s) fun e3 s3 => hs _ e3 s3) fun s => Kept.refl s
    | brk => exact Kept.refl s
    | cnt => exact Kept.refl s
    | pass => exact Kept.refl s
    | dead => trivial
theorem lv_kept {T : Tb} {callee : Nat → List D → S → R D} (hc : ∀ f xs s, KR s (callee f xs s)) : ∀ n : Nat, (∀ e env s, KR s ((lv T callee n).ex e env s)) ∧ ∀ st env s, KS s ((lv T callee n).st st env s)
  | 0 => ⟨fun _ _ _ => trivial, fun _ _ _ => trivial⟩
  | n + 1 => step_kept hc (lv_kept hc n).1 (lv_kept hc n).2
theorem kr_back {s0 s : S} {m : Nat} {d : D} (h : Kept s0 s) (hm : s0.os.length ≤ m) : KR s0 (back m d s) := by
  have hk : ∀ (n : Nat) (xs : List D) (more : List O), s0.os[n]? = some (.lck xs) → (s.os.take m ++ more)[n]? = some (.lck xs) := fun n xs more q => by
    have l0 : n < s0.os.length := (List.getElem?_eq_some_iff.mp q).1
    have q2 := h n xs q
    have l1 : n < s.os.length := (List.getElem?_eq_some_iff.mp q2).1
    rw [List.getElem?_append_left (by rw [List.length_take]; omega), List.getElem?_take_of_lt (by omega)]
    exact q2
  unfold back
  split
  · exact h
  · split
    · intro n xs q
      have := hk n xs [] q
      rwa [List.append_nil] at this
    · split
      · split
        · split
          · intro n xs q
            exact hk n xs _ q
          · exact h
        · exact h
      · exact h
theorem callK_kept (T : Tb) (F : Nat) : ∀ (k f : Nat) (xs : List D) (s : S), KR s (callK T F k f xs s)
  | 0, _, _, _ => trivial
  | k + 1, f, xs, s => by
    show KR s (match T[f]? with | some fd => (if xs.length = fd.ps.length then runB T (callK T F k) F fd xs s else .no) | none => .no)
    split
    · split
      · unfold runB
        have h := ks_execs (lv_kept (T := T) (callK_kept T F k) F).2 (by assumption : Fd).body (xs.map some ++ List.replicate ((by assumption : Fd).n - xs.length) none) s
        split
        · rename_i q
          rw [q] at h
          exact kr_back h (Nat.le_refl _)
        · rename_i q
          rw [q] at h
          exact kr_back h (Nat.le_refl _)
        · rename_i q
          rw [q] at h
          exact h
        · trivial
      · trivial
    · trivial
end Wk

/-! Wk4: readings. -/
namespace Wk
open PySem L2 PyProof.Rows

/-! ### data -/
section
variable {K : PySem.W.Frag} {mu : List Addr} {H : Hp}
theorem allM_nil {f : D → Option PyData} : allM f [] = some [] := rfl
theorem allM_cons {f : D → Option PyData} {x : D} {xs : List D} {ps : List PyData} (h : allM f (x :: xs) = some ps) : ∃ p qs, ps = p :: qs ∧ f x = some p ∧ allM f xs = some qs := by
  unfold allM at h
  split at h
  · rename_i p qs h1 h2
    cases h
    exact ⟨p, qs, rfl, h1, h2⟩
  · cases h
/-- what is read is what stands there -/
def RdOk (K : PySem.W.Frag) (H : Hp) (n : Nat) (v : V) (p : PyData) : Prop := Dp K H v p ∧ p.plain = true ∧ p.depth ≤ n
theorem allM_ok {f : D → Option PyData} {n : Nat} (hf : ∀ v d p, Rep K mu H v d → f d = some p → RdOk K H n v p) : ∀ {vs : List V} {xs : List D} {ps : List PyData}, Reps K mu H vs xs → allM f xs = some ps →
    DpAll K H vs ps ∧ PyData.plainAll ps = true ∧ PyData.depthAll ps ≤ n
  | _, _, _, .nil, h => by
    cases h
    exact ⟨.nil, rfl, Nat.zero_le _⟩
  | _, _, _, .cons a b, h => by
    obtain ⟨p, qs, rfl, h1, h2⟩ := allM_cons h
    obtain ⟨d1, p1, e1⟩ := hf _ _ _ a h1
    obtain ⟨d2, p2, e2⟩ := allM_ok hf b h2
    refine ⟨.cons d1 d2, ?_, ?_⟩
    · show (PyData.plain p && PyData.plainAll qs) = true
      rw [p1, p2]; rfl
    · show max (PyData.depth p) (PyData.depthAll qs) ≤ n
      omega
theorem rd_ok {s : S} (m : SM K mu H s) : ∀ {n : Nat} {v : V} {d : D} {p : PyData}, Rep K mu H v d → rd n s.os d = some p → RdOk K H n v p
  | 0, _, _, _, _, h => by cases h
  | n + 1, _, _, _, .non, h => by cases h; exact ⟨.non, rfl, Nat.zero_le _⟩
  | n + 1, _, _, _, .bl b, h => by cases h; exact ⟨.bl b, rfl, Nat.zero_le _⟩
  | n + 1, _, _, _, .int b, h => by cases h; exact ⟨.int b, rfl, Nat.zero_le _⟩
  | n + 1, _, _, _, .str b, h => by cases h; exact ⟨.str b, rfl, Nat.zero_le _⟩
  | n + 1, _, _, _, .ty b, h => by cases h
  | n + 1, _, _, _, @Rep.tup _ _ _ a vs xs hq r, h => by
    have h' : (allM (rd n s.os) xs).map PyData.tuple = some _ := h
    obtain ⟨ps, e1, e2⟩ := Option.map_eq_some_iff.mp h'
    obtain ⟨d1, p1, q1⟩ := allM_ok (fun v d p r q => rd_ok m r q) r e1
    subst e2
    exact ⟨.tup hq d1, p1, Nat.succ_le_succ q1⟩
  | n + 1, _, _, _, @Rep.fl _ _ _ a vs xs hq r, h => by
    have h' : (allM (rd n s.os) xs).map PyData.list = some _ := h
    obtain ⟨ps, e1, e2⟩ := Option.map_eq_some_iff.mp h'
    obtain ⟨d1, p1, q1⟩ := allM_ok (fun v d p r q => rd_ok m r q) r e1
    subst e2
    exact ⟨.lst hq.sq d1, p1, Nat.succ_le_succ q1⟩
  | n + 1, _, _, _, @Rep.ref _ _ _ a k hk, h => by
    have h' : (match s.os[k]? with
      | some (.lst xs) => (allM (rd n s.os) xs).map PyData.list
      | some (.lck xs) => (allM (rd n s.os) xs).map PyData.list
      | _ => none) = some _ := h
    split at h'
    · rename_i xs e
      obtain ⟨vs, hv, r⟩ := m.ats k _ a e hk
      obtain ⟨ps, e1, e2⟩ := Option.map_eq_some_iff.mp h'
      obtain ⟨d1, p1, q1⟩ := allM_ok (fun v d p r q => rd_ok m r q) r e1
      subst e2
      exact ⟨.lst (SqL.of hv) d1, p1, Nat.succ_le_succ q1⟩
    · rename_i xs e
      obtain ⟨vs, hv, r⟩ := m.ats k _ a e hk
      obtain ⟨ps, e1, e2⟩ := Option.map_eq_some_iff.mp h'
      obtain ⟨d1, p1, q1⟩ := allM_ok (fun v d p r q => rd_ok m r q) r e1
      subst e2
      exact ⟨.lst (SqL.of hv) d1, p1, Nat.succ_le_succ q1⟩
    · cases h'
/-- a list of the store, or the script -/
theorem listOf_ok {s : S} (m : SM K mu H s) {v : V} {d : D} {xs : List D} (r : Rep K mu H v d) (h : listOf s.os d = some xs) : ∃ a vs, v = .ref a ∧ SqL K H a vs ∧ Reps K mu H vs xs := by
  unfold listOf at h
  split at h
  · rename_i k
    cases r with
    | ref hk =>
      split at h
      · rename_i ys e
        cases h
        obtain ⟨vs, hv, r⟩ := m.ats k _ _ e hk
        exact ⟨_, vs, rfl, SqL.of hv, r⟩
      · rename_i ys e
        cases h
        obtain ⟨vs, hv, r⟩ := m.ats k _ _ e hk
        exact ⟨_, vs, rfl, SqL.of hv, r⟩
      · cases h
  · cases h
    cases r with
    | fl hq r => exact ⟨_, _, rfl, hq.sq, r⟩
  · cases h
theorem seqOf_ok {s : S} (m : SM K mu H s) {v : V} {d : D} {xs : List D} (r : Rep K mu H v d) (h : seqOf s.os d = some xs) : ∃ a vs, v = .ref a ∧ (SqL K H a vs ∨ SqT K H a vs) ∧ Reps K mu H vs xs := by
  unfold seqOf at h
  split at h
  · cases h
    cases r with
    | tup hq r => exact ⟨_, _, rfl, .inr hq, r⟩
  · obtain ⟨a, vs, e, hq, r⟩ := listOf_ok m r h
    exact ⟨a, vs, e, .inl hq, r⟩
/-- keys -/
theorem keyD_ok {v : V} {d : D} (r : Rep K mu H v d) (h : (keyD d).isSome = true) : ∃ k, v = kV k ∧ d = dKey k := by
  cases r with
  | int i => exact ⟨.inl i, rfl, rfl⟩
  | str x => exact ⟨.inr x, rfl, rfl⟩
  | _ => simp [keyD] at h
theorem eqKey_key (a b : Key) : eqKey (dKey a) (dKey b) = decide (a = b) := by
  cases a <;> cases b <;> simp [eqKey, dKey]
theorem dGet_ok : ∀ {kws : List (Key × V)} {kvs : List (D × D)} {k : Key}, kvRep K mu H kws kvs → match dGet kvs (dKey k) with
    | some d => ∃ v, valV kws k = some v ∧ Rep K mu H v d
    | none => valV kws k = none
  | [], [], k, _ => rfl
  | (a, v) :: r, (x, y) :: q, k, ⟨e, rp, c⟩ => by
    subst e
    have ih := dGet_ok (k := k) c
    unfold dGet valV at *
    by_cases hk : a = k
    · subst hk
      simp only [List.find?_cons, eqKey_key, decide_true, Option.map_some]
      exact ⟨v, rfl, rp⟩
    · simp only [List.find?_cons, eqKey_key, decide_eq_false hk]
      exact ih
  | [], _ :: _, _, h => h.elim
  | _ :: _, [], _, h => h.elim
theorem kvRep.length : ∀ {kws : List (Key × V)} {kvs : List (D × D)}, kvRep K mu H kws kvs → kws.length = kvs.length
  | [], [], _ => rfl
  | (_, _) :: r, (_, _) :: q, ⟨_, _, c⟩ => congrArg Nat.succ (kvRep.length c)
  | [], _ :: _, h => h.elim
  | _ :: _, [], h => h.elim
theorem kv_any : ∀ {kws : List (Key × V)} {kvs : List (D × D)} {k : Key}, kvRep K mu H kws kvs → (kvs.any fun p => eqKey p.1 (dKey k)) = kws.any fun kv => decide (kv.1 = k)
  | [], [], _, _ => rfl
  | (a, _) :: r, (x, _) :: q, k, ⟨e, _, c⟩ => by
    subst e
    simp only [List.any_cons, eqKey_key, kv_any c]
  | [], _ :: _, _, h => h.elim
  | _ :: _, [], _, h => h.elim
theorem kv_map {v : V} {d : D} (rp : Rep K mu H v d) : ∀ {kws : List (Key × V)} {kvs : List (D × D)} {k : Key}, kvRep K mu H kws kvs →
    kvRep K mu H (kws.map fun kv => if kv.1 = k then (kv.1, v) else kv) (kvs.map fun p => if eqKey p.1 (dKey k) then (p.1, d) else p)
  | [], [], _, _ => trivial
  | (a, w) :: r, (x, y) :: q, k, ⟨e, r0, c⟩ => by
    subst e
    have ih := kv_map rp (k := k) c
    by_cases hk : a = k
    · simp only [List.map_cons, eqKey_key, hk, decide_true, if_true]
      exact ⟨rfl, rp, ih⟩
    · simp only [List.map_cons, eqKey_key, hk, decide_false, if_false, Bool.false_eq_true]
      exact ⟨rfl, r0, ih⟩
  | [], _ :: _, _, h => h.elim
  | _ :: _, [], _, h => h.elim
theorem kv_append : ∀ {kws kws' : List (Key × V)} {kvs kvs' : List (D × D)}, kvRep K mu H kws kvs → kvRep K mu H kws' kvs' → kvRep K mu H (kws ++ kws') (kvs ++ kvs')
  | [], _, [], _, _, h => h
  | (_, _) :: r, _, (_, _) :: q, _, ⟨e, r0, c⟩, h => ⟨e, r0, kv_append c h⟩
  | [], _, _ :: _, _, h, _ => h.elim
  | _ :: _, _, [], _, h, _ => h.elim
theorem dPut_ok {kws : List (Key × V)} {kvs : List (D × D)} {k : Key} {v : V} {d : D} (h : kvRep K mu H kws kvs) (rp : Rep K mu H v d) : kvRep K mu H (putK kws k v) (dPut kvs (dKey k) d) := by
  unfold putK dPut
  rw [kv_any h]
  split
  · exact kv_map rp h
  · exact kv_append h ⟨rfl, rp, trivial⟩
end

/-! ### what is wanted behind a run -/
section
variable (X : Cx) (W : WX)
def xfRep (K : PySem.W.Frag) (mu : List Addr) (H : Hp) : List (Str × V) → List (Str × D) → Prop
  | [], [] => True
  | (k, v) :: r, (x, y) :: q => x = k ∧ Rep K mu H v y ∧ xfRep K mu H r q
  | _, _ => False
/-- an exception: its class, its dict -/
def XRep (mu : List Addr) (H : Hp) (c : Str) (fs : List (Str × D)) (cls : Value) (dd : Option Addr) : Prop :=
  ∃ C d fv, X.mg c = some (.ref C) ∧ cls = .ref C ∧ dd = some d ∧ H d = some (.xd fv) ∧ xfRep X.K mu H fv fs
def Pt {t u : Type} (sg : L2.St) (mu : List Addr) (H : Hp) (rp : List Addr → Hp → u → t → Prop) (r : R t) (Q : u → Hp → Prop) : Prop :=
  match r with
  | .ok x s => ∀ y H' mu', Ext X.K mu H mu' H' → SM X.K mu' H' s → rp mu' H' y x → Q y H'
  | .ex c fs s => ∀ cls dd H' mu', Ext X.K mu H mu' H' → SM X.K mu' H' s → XRep X mu' H' c fs cls dd → W cls dd sg H'
  | .no => False
def asB : R D → R Bool
  | .ok (.bl b) s => .ok b s
  | .ok _ _ => .no
  | .ex c fs s => .ex c fs s
  | .no => .no
def rpI {t : Type} : List Addr → Hp → t → t → Prop := fun _ _ y x => y = x
def tE (f : Env → S → R D) : TE := fun sg H Q => ∃ mu env s, EM X.K mu H sg env ∧ SM X.K mu H s ∧ Pt X W sg mu H (Rep X.K) (f env s) Q
def tT (f : Env → S → R D) : TT := fun sg H Q => ∃ mu env s, EM X.K mu H sg env ∧ SM X.K mu H s ∧ Pt X W sg mu H rpI (asB (f env s)) Q
def tA (f : Env → S → R (List D)) : TA := fun sg H Q => ∃ mu env s, EM X.K mu H sg env ∧ SM X.K mu H s ∧ Pt X W sg mu H (Reps X.K) (f env s) Q
def tO (f : Env → S → R (Option Int)) : TO := fun sg H Q => ∃ mu env s, EM X.K mu H sg env ∧ SM X.K mu H s ∧ Pt X W sg mu H rpI (f env s) Q
end

section
variable {X : Cx} {W : WX} {sg : L2.St} {mu : List Addr} {H : Hp} {s : S} {env : Env}
theorem Pt.shift {t u : Type} {mu1 : List Addr} {H1 : Hp} {rp : List Addr → Hp → u → t → Prop} {r : R t} {Q : u → Hp → Prop} (e : Ext X.K mu H mu1 H1) (p : Pt X W sg mu H rp r Q) : Pt X W sg mu1 H1 rp r Q := by
  cases r with
  | ok x s => exact fun y H' mu' e' => p y H' mu' (e.trans e')
  | ex c fs s => exact fun cls dd H' mu' e' => p cls dd H' mu' (e.trans e')
  | no => exact p
theorem Pt.mono {t u : Type} {rp : List Addr → Hp → u → t → Prop} {r : R t} {Q Q' : u → Hp → Prop} (p : Pt X W sg mu H rp r Q) (h : ∀ y H, Q y H → Q' y H) : Pt X W sg mu H rp r Q' := by
  cases r with
  | ok x s => exact fun y H' mu' e m r => h _ _ (p y H' mu' e m r)
  | ex c fs s => exact p
  | no => exact p
theorem Pt.bind {t u t2 u2 : Type} {rp : List Addr → Hp → u → t → Prop} {rp2 : List Addr → Hp → u2 → t2 → Prop} {r : R t} {k : t → S → R t2} {Q : u2 → Hp → Prop} (p : Pt X W sg mu H rp2 (r.bind k) Q) :
    Pt X W sg mu H rp r fun y H1 => ∃ mu1 s1 x, r = .ok x s1 ∧ Ext X.K mu H mu1 H1 ∧ SM X.K mu1 H1 s1 ∧ rp mu1 H1 y x ∧ Pt X W sg mu1 H1 rp2 (k x s1) Q := by
  cases r with
  | ok x s => exact fun y H' mu' e m r' => ⟨mu', s, x, rfl, e, m, r', Pt.shift (r := k x s) e p⟩
  | ex c fs s => exact p
  | no => exact p
theorem Pt.ok {t u : Type} {rp : List Addr → Hp → u → t → Prop} {x : t} {Q : u → Hp → Prop} {y : u} (p : Pt X W sg mu H rp (.ok x s) Q) (m : SM X.K mu H s) (r : rp mu H y x) : Q y H := p y H mu .refl m r

theorem _root_.L2.PE.weak {e : Expr} {t t' : TE} (h : PE X e t) (w : ∀ sg H Q, t' sg H Q → t sg H Q) : PE X e t' := ⟨fun pins s σ H Q I q => h.run pins s σ H Q I (w _ _ _ q)⟩
theorem _root_.L2.PT.weak {e : Expr} {t t' : TT} (h : PT X e t) (w : ∀ sg H Q, t' sg H Q → t sg H Q) : PT X e t' := ⟨fun pins s σ H Q I q => h.run pins s σ H Q I (w _ _ _ q)⟩
theorem _root_.L2.PW.weak {e : Expr} {t t' : TT} (h : PW X e t) (w : ∀ sg H Q, t' sg H Q → t sg H Q) : PW X e t' := ⟨fun wh pins s σ H Q I q => h.run wh pins s σ H Q I (w _ _ _ q)⟩
theorem _root_.L2.PA.weak {e : List Expr} {t t' : TA} (h : PA X e t) (w : ∀ sg H Q, t' sg H Q → t sg H Q) : PA X e t' := ⟨fun pos pins s σ H Q I q => h.run pos pins s σ H Q I (w _ _ _ q)⟩
theorem _root_.L2.PO.weak {e : Option Expr} {t t' : TO} (h : PO X e t) (w : ∀ sg H Q, t' sg H Q → t sg H Q) : PO X e t' := ⟨fun pins s σ H Q I q => h.run pins s σ H Q I (w _ _ _ q)⟩
theorem _root_.L2.PS.weak {e : Stmt} {t t' : TS} (h : PS X e t) (w : ∀ D sg H, t' D sg H → t D sg H) : PS X e t' := ⟨fun pins s σ H D I q => h.run pins s σ H D I (w _ _ _ q)⟩
theorem _root_.L2.PSs.weak {e : List Stmt} {t t' : TS} (h : PSs X e t) (w : ∀ D sg H, t' D sg H → t D sg H) : PSs X e t' := ⟨fun pins s σ H D I q => h.run pins s σ H D I (w _ _ _ q)⟩
theorem _root_.L2.PE.or {e : Expr} {t t' : TE} (h : PE X e t) (h' : PE X e t') : PE X e (fun sg H Q => t sg H Q ∨ t' sg H Q) := ⟨fun pins s σ H Q I q => q.elim (h.run pins s σ H Q I) (h'.run pins s σ H Q I)⟩
theorem _root_.L2.PT.or {e : Expr} {t t' : TT} (h : PT X e t) (h' : PT X e t') : PT X e (fun sg H Q => t sg H Q ∨ t' sg H Q) := ⟨fun pins s σ H Q I q => q.elim (h.run pins s σ H Q I) (h'.run pins s σ H Q I)⟩

/-! ### names, constants -/
variable {e a b c : Expr} {pos : Pos} {f g h : Env → S → R D}
theorem se_var {i : Nat} {x : Str} (hN : X.N[i]? = some x) (hv : Vis X.env.scope x) (hd : (x == ("__debug__" : Str)) = false) (hcd : (x == ("__classdict__" : Str)) = false) :
    PE X (.Name x pos) (tE X W fun env s => varD env i s) := by
  refine (pe_var hN hv hd hcd).weak fun sg H Q ⟨mu, env, s, em, sm, p⟩ => ?_
  show ∃ v, sg[i]? = some (some v) ∧ Q v H
  have p : Pt X W sg mu H (Rep X.K) (varD env i s) Q := p
  unfold varD at p
  split at p
  · rename_i d q
    obtain ⟨v, e, r⟩ := em.ats i d q
    exact ⟨v, e, p.ok sm r⟩
  · exact p.elim
/-- an expression with one value, whatever the slots are -/
theorem se_con {v : V} {d : D} (h : PE X e (tC v)) (r : ∀ mu H, Rep X.K mu H v d) : PE X e (tE X W fun _ s => .ok d s) :=
  h.weak fun sg H Q ⟨mu, env, s, em, sm, p⟩ => p.ok sm (r mu H)

/-! ### arguments -/
theorem sa_nil : PA X [] (tA X W fun _ s => .ok [] s) := pa_nil.weak fun sg H Q ⟨mu, env, s, em, sm, p⟩ => p.ok sm .nil
theorem sa_cons {es : List Expr} {fs : Env → S → R (List D)} (ha : PE X e (tE X W f)) (hr : PA X es (tA X W fs)) (hs : starEach (e :: es) X.env = (false, eval e X.env) :: starEach es X.env) :
    PA X (e :: es) (tA X W fun env s => (f env s).bind fun x s1 => (fs env s1).bind fun xs s2 => .ok (x :: xs) s2) := by
  refine (pa_cons ha hr hs).weak fun sg H Q ⟨mu, env, s, em, sm, p⟩ => ?_
  refine ⟨mu, env, s, em, sm, ?_⟩
  refine Pt.mono (p.bind (rp := Rep X.K)) fun v H1 ⟨mu1, s1, x, _, e1, m1, r1, p1⟩ => ?_
  refine ⟨mu1, env, s1, em.mono e1.toGrow, m1, ?_⟩
  refine Pt.mono (p1.bind (rp := Reps X.K)) fun vs H2 ⟨mu2, s2, xs, _, e2, m2, r2, p2⟩ => ?_
  exact p2.ok m2 (.cons (r1.mono e2.toGrow) r2)
end
end Wk

/-! Wk5: expressions. -/
namespace Wk
open PySem L2 PyProof.Rows
theorem sz {n : Nat} (h : n ≤ 100000) : n ≤ sizeLine := Nat.le_trans h (by decide)
theorem sz1 {n : Nat} (h : n < 100000) : n < sizeLine := Nat.lt_of_lt_of_le h (by decide)
section
variable {X : Cx} {W : WX} {sg : L2.St} {mu : List Addr} {H : Hp} {s : S} {env : Env}
variable {e a b c : Expr} {pos : Pos} {f g h : Env → S → R D} {es : List Expr} {fs : Env → S → R (List D)}

/-- a new list of the store -/
theorem Pt.alloc {xs : List D} {vs : List V} {Q : VK} {p : Addr} (q : Pt X W sg mu H (Rep X.K) (alloc (.lst xs) s) Q) (m : SM X.K mu H s) (r : Reps X.K mu H vs xs) (hp : H p = none) : Q (.ref p) (upd H p (.lst vs)) := by
  have e := ext_push (K := X.K) (mu := mu) (o := .lst vs) hp
  have low : LowO s.os.length (.lst xs) := by rw [← m.len]; exact r.low
  exact q (.ref p) _ (mu ++ [p]) e (m.push (m.fresh hp) (soft_none hp) ⟨vs, upd_same, r.mono e.toGrow⟩ low) (.ref (by rw [← m.len]; simp))
theorem Pt.tup {xs : List D} {vs : List V} {Q : VK} {p : Addr} (q : Pt X W sg mu H (Rep X.K) (.ok (.tup xs) s) Q) (m : SM X.K mu H s) (r : Reps X.K mu H vs xs) (hp : H p = none) : Q (.ref p) (upd H p (.tup vs)) := by
  have e := ext_new (K := X.K) (mu := mu) (o := .tup vs) hp
  exact q (.ref p) _ mu e (m.new hp) (.tup (SqT.of upd_same) (r.mono e.toGrow))

theorem se_tup {k : Nat} (hl : ∀ env s xs s1, fs env s = .ok xs s1 → xs.length ≤ 100000) (h : PA X es (tA X W fs)) : PE X (.Tuple es k pos) (tE X W fun env s => (fs env s).bind fun xs s1 => .ok (.tup xs) s1) := by
  refine (pe_tup h).weak fun sg H Q ⟨mu, env, s, em, sm, p⟩ => ?_
  refine ⟨mu, env, s, em, sm, (p.bind (rp := Reps X.K)).mono fun vs H1 ⟨mu1, s1, xs, q, e1, m1, r1, p1⟩ => ?_⟩
  exact ⟨by rw [r1.length]; exact sz (hl _ _ _ _ q), fun p hp => p1.tup m1 r1 hp⟩
theorem se_lst (hl : ∀ env s xs s1, fs env s = .ok xs s1 → xs.length ≤ 100000) (h : PA X es (tA X W fs)) : PE X (.List es pos) (tE X W fun env s => (fs env s).bind fun xs s1 => alloc (.lst xs) s1) := by
  refine (pe_lst h).weak fun sg H Q ⟨mu, env, s, em, sm, p⟩ => ?_
  refine ⟨mu, env, s, em, sm, (p.bind (rp := Reps X.K)).mono fun vs H1 ⟨mu1, s1, xs, q, e1, m1, r1, p1⟩ => ?_⟩
  exact ⟨by rw [r1.length]; exact sz (hl _ _ _ _ q), fun p hp => p1.alloc m1 r1 hp⟩

/-! ### operators -/
/-- an operator by values -/
def OpOk (X : Cx) (W : WX) (f : Value → Value → Sem Value) (o : D → D → S → R D) : Prop :=
  ∃ r, OpR X f r ∧ ∀ sg mu H s v w x y Q, SM X.K mu H s → Rep X.K mu H v x → Rep X.K mu H w y → Pt X W sg mu H (Rep X.K) (o x y s) Q → r v w H Q
theorem se_bin {op : Operator} {o : D → D → S → R D} (ho : OpOk X W (binaryOp op) o) (ha : PE X a (tE X W f)) (hb : PE X b (tE X W g)) :
    PE X (.BinOp a op b pos) (tE X W fun env s => (f env s).bind fun x s1 => (g env s1).bind fun y s2 => o x y s2) := by
  obtain ⟨r, h1, h2⟩ := ho
  refine (pe_op h1 ha hb).weak fun sg H Q ⟨mu, env, s, em, sm, p⟩ => ?_
  refine ⟨mu, env, s, em, sm, (p.bind (rp := Rep X.K)).mono fun v H1 ⟨mu1, s1, x, _, e1, m1, r1, p1⟩ => ?_⟩
  refine ⟨mu1, env, s1, em.mono e1.toGrow, m1, (p1.bind (rp := Rep X.K)).mono fun w H2 ⟨mu2, s2, y, _, e2, m2, r2, p2⟩ => ?_⟩
  exact h2 sg mu2 H2 s2 v w x y Q m2 (r1.mono e2.toGrow) r2 p2
theorem op_int {op : Operator} {C : Int → Int → Prop} {g : Int → Int → Int} (h : OpR X (binaryOp op) (rI C fun i j => .int (g i j))) (hn : op ≠ .Add) (hc : ∀ i j k, binI op i j = some k → C i j ∧ k = g i j) : OpOk X W (binaryOp op) (binD op) := by
  refine ⟨_, h, fun sg mu H s v w x y Q m rx ry p => ?_⟩
  unfold binD at p
  split at p
  · rename_i i j
    cases rx
    cases ry
    split at p
    · rename_i k e
      obtain ⟨c1, c2⟩ := hc i j k e
      subst c2
      exact ⟨i, j, rfl, rfl, c1, p.ok m (.int _)⟩
    · exact p.elim
  · split at p
    · rename_i q; exact absurd q.1 hn
    · exact p.elim
  · split at p
    · rename_i q; exact absurd q.1 hn
    · exact p.elim
  · split at p
    · exact absurd rfl hn
    · exact p.elim
  · exact p.elim
theorem op_add_ok : OpOk X W (binaryOp .Add) (binD .Add) := by
  refine ⟨_, OpR.or op_add (OpR.or op_add_str (OpR.or op_catA op_cat)), fun sg mu H s v w x y Q m rx ry p => ?_⟩
  unfold binD at p
  split at p
  · rename_i i j
    cases rx
    cases ry
    exact .inl ⟨i, j, rfl, rfl, p.ok m (.int _)⟩
  · rename_i x y
    cases rx
    cases ry
    split at p
    · rename_i q
      exact .inr (.inl ⟨x, y, rfl, rfl, sz q.2, p.ok m (.str _)⟩)
    · exact p.elim
  · rename_i xs ys
    cases rx with
    | @tup a vs _ ha r1 =>
      cases ry with
      | @tup b ws _ hb r2 =>
        split at p
        · rename_i q
          refine .inr (.inr (.inl ⟨a, b, vs, ws, rfl, rfl, ha, hb, by rw [r1.length, r2.length]; exact sz q.2, fun e => ?_, fun _ e => ?_, fun _ _ t ht => p.tup m (r1.append r2) ht⟩))
          · subst e
            cases r1
            exact p.ok m (.tup hb r2)
          · subst e
            cases r2
            rw [List.append_nil] at p
            exact p.ok m (.tup ha r1)
        · exact p.elim
  · rename_i i j
    split at p
    · rename_i xs ys e1 e2
      split at p
      · rename_i q
        cases rx with
        | @ref a _ ha =>
          cases ry with
          | @ref b _ hb =>
            obtain ⟨vs, h1, r1⟩ := m.ats i _ a e1 ha
            obtain ⟨ws, h2, r2⟩ := m.ats j _ b e2 hb
            exact .inr (.inr (.inr ⟨a, b, vs, ws, rfl, rfl, h1, h2, by rw [r1.length, r2.length]; exact sz q, fun t ht => p.alloc m (r1.append r2) ht⟩))
      · exact p.elim
    · exact p.elim
  · exact p.elim
theorem op_none {op : Operator} (hn : op ≠ .Add) (h : ∀ i j, binI op i j = none) : OpOk X W (binaryOp op) (binD op) := by
  refine ⟨fun _ _ _ _ => False, fun pins s σ H x y v u Q I r1 r2 h => h.elim, fun sg mu H s v w x y Q m rx ry p => ?_⟩
  unfold binD at p
  split at p
  · rw [h] at p; exact p
  · split at p
    · rename_i q; exact absurd q.1 hn
    · exact p
  · split at p
    · rename_i q; exact absurd q.1 hn
    · exact p
  · split at p
    · exact absurd rfl hn
    · exact p
  · exact p
theorem bin_ok (op : Operator) : OpOk X W (binaryOp op) (binD op) := by
  cases op with
  | Add => exact op_add_ok
  | Sub =>
    refine op_int (C := fun _ _ => True) (g := fun i j => i - j) ?_ (by decide) fun i j k e => ⟨trivial, (Option.some.inj e).symm⟩
    exact fun pins s σ H x y v u Q I r1 r2 ⟨i, j, h1, h2, _, q⟩ => op_sub pins s σ H x y v u Q I r1 r2 ⟨i, j, h1, h2, q⟩
  | Mult =>
    refine op_int (C := CMul) op_mul (by decide) fun i j k e => ?_
    simp only [binI] at e
    split at e
    · rename_i q
      rw [Bool.or_eq_true, decide_eq_true_eq, decide_eq_true_eq] at q
      exact ⟨q, (Option.some.inj e).symm⟩
    · cases e
  | Mod =>
    refine op_int (C := fun _ j => 0 < j) op_mod (by decide) fun i j k e => ?_
    simp only [binI] at e
    split at e
    · rename_i q
      exact ⟨of_decide_eq_true q, (Option.some.inj e).symm⟩
    · cases e
  | FloorDiv =>
    refine op_int (C := CDiv) op_fdiv (by decide) fun i j k e => ?_
    simp only [binI] at e
    split at e
    · rename_i q
      have q' := of_decide_eq_true q
      exact ⟨q', (Option.some.inj e).symm⟩
    · cases e
  | Pow =>
    refine op_int (C := CPow) op_pow (by decide) fun i j k e => ?_
    simp only [binI] at e
    split at e
    · rename_i q
      obtain ⟨h1, h2, h3⟩ := of_decide_eq_true q
      exact ⟨⟨h1, by omega, h3⟩, (Option.some.inj e).symm⟩
    · cases e
  | _ => exact op_none (by decide) fun _ _ => rfl

/-! ### comparisons -/
def CmOk (X : Cx) (f : Value → Value → Sem Value) (o : D → D → List O → Option Bool) : Prop :=
  ∃ r, OpR X f r ∧ ∀ mu H s v w x y k (Q : VK), SM X.K mu H s → Rep X.K mu H v x → Rep X.K mu H w y → o x y s.os = some k → Q (.bl k) H → r v w H Q
def rEqP (K : PySem.W.Frag) (n : Nat) (neg : Bool) : R2 := fun x y H Q => ∃ d e, RdOk K H n x d ∧ RdOk K H n y e ∧ Q (.bl (if neg then !PyData.eqv d e else PyData.eqv d e)) H
theorem op_eqP (hu : X.A.units + 64 < cLine) : OpR X (compareOp .Eq) (rEqP X.K 40 false) := by
  intro pins s σ H x y v u Q I rx ry h
  obtain ⟨d, e, ⟨h1, h2, h3⟩, ⟨k1, k2, k3⟩, q⟩ := h
  obtain ⟨as, ra⟩ := Dp.reads I d x v h1 rx
  obtain ⟨bs, rb⟩ := Dp.reads I e y u k1 ry
  exact PySem.SeqAt.eq_plain ra rb h2 k2 (by have : min d.depth e.depth ≤ d.depth := Nat.min_le_left _ _; omega) ⟨.bl _, H, I, rfl, q⟩
theorem op_neP (hu : X.A.units + 64 < cLine) : OpR X (compareOp .NotEq) (rEqP X.K 40 true) := by
  intro pins s σ H x y v u Q I rx ry h
  obtain ⟨d, e, ⟨h1, h2, h3⟩, ⟨k1, k2, k3⟩, q⟩ := h
  obtain ⟨as, ra⟩ := Dp.reads I d x v h1 rx
  obtain ⟨bs, rb⟩ := Dp.reads I e y u k1 ry
  exact PySem.SeqAt.ne_plain ra rb h2 k2 (by have : min d.depth e.depth ≤ d.depth := Nat.min_le_left _ _; omega) ⟨.bl _, H, I, rfl, q⟩
theorem cm_eq (hu : X.A.units + 64 < cLine) : CmOk X (compareOp .Eq) (cmpD .Eq) := by
  refine ⟨_, op_eqP hu, fun mu H s v w x y k Q m rx ry e q => ?_⟩
  have e' : eqD s.os x y = some k := e
  unfold eqD at e'
  split at e'
  · rename_i p1 p2 h1 h2
    cases e'
    exact ⟨p1, p2, rd_ok m rx h1, rd_ok m ry h2, q⟩
  · cases e'
theorem cm_ne (hu : X.A.units + 64 < cLine) : CmOk X (compareOp .NotEq) (cmpD .NotEq) := by
  refine ⟨_, op_neP hu, fun mu H s v w x y k Q m rx ry e q => ?_⟩
  have e' : (eqD s.os x y).map (!·) = some k := e
  obtain ⟨b, e1, e2⟩ := Option.map_eq_some_iff.mp e'
  unfold eqD at e1
  split at e1
  · rename_i p1 p2 h1 h2
    cases e1
    subst e2
    exact ⟨p1, p2, rd_ok m rx h1, rd_ok m ry h2, q⟩
  · cases e1
theorem cm_int {op : CmpOp} {g : Int → Int → Bool} (h : OpR X (compareOp op) (rI0 fun i j => .bl (g i j))) (hd : ∀ x y os k, cmpD op x y os = some k → ∃ i j, x = .int i ∧ y = .int j ∧ k = g i j) : CmOk X (compareOp op) (cmpD op) := by
  refine ⟨_, h, fun mu H s v w x y k Q m rx ry e q => ?_⟩
  obtain ⟨i, j, rfl, rfl, rfl⟩ := hd x y s.os k e
  cases rx
  cases ry
  exact ⟨i, j, rfl, rfl, q⟩
theorem two_ints {x y : D} {g : Int → Int → Bool} {k : Bool} (e : (match x, y with | .int i, .int j => some (g i j) | _, _ => none) = some k) : ∃ i j, x = .int i ∧ y = .int j ∧ k = g i j := by
  split at e
  · cases e; exact ⟨_, _, rfl, rfl, rfl⟩
  · cases e
theorem nonB_ok {v : V} {d : D} (r : Rep X.K mu H v d) : nonB d = decide (v = .non) := by
  cases r <;> simp [nonB]
theorem isOp_ok {v w : V} {x y : D} {k : Bool} (rx : Rep X.K mu H v x) (ry : Rep X.K mu H w y) (e : isOp x y = some k) : w = .non ∧ k = decide (v = .non) := by
  unfold isOp at e
  split at e
  · rename_i q
    cases e
    rw [nonB_ok ry] at q
    exact ⟨of_decide_eq_true q, nonB_ok rx⟩
  · cases e
theorem cm_is : CmOk X (compareOp .Is) (cmpD .Is) := by
  refine ⟨_, op_isN, fun mu H s v w x y k Q m rx ry e q => ?_⟩
  obtain ⟨e1, e2⟩ := isOp_ok rx ry e
  subst e2
  exact ⟨e1, q⟩
theorem cm_isnot : CmOk X (compareOp .IsNot) (cmpD .IsNot) := by
  refine ⟨_, op_notN, fun mu H s v w x y k Q m rx ry e q => ?_⟩
  obtain ⟨j, e0, e3⟩ := Option.map_eq_some_iff.mp (show (isOp x y).map (!·) = some k from e)
  obtain ⟨e1, e2⟩ := isOp_ok rx ry e0
  subst e2 e3
  exact ⟨e1, q⟩
/-- x in a list, a tuple -/
def rInP (K : PySem.W.Frag) (n : Nat) (neg : Bool) : R2 := fun x y H Q => ∃ d ds, RdOk K H n x d ∧ (Dp K H y (.list ds) ∨ Dp K H y (.tuple ds)) ∧ PyData.plainAll ds = true ∧ PyData.depthAll ds ≤ n ∧
  Q (.bl (if neg then !ds.any fun z => PyData.eqv z d else ds.any fun z => PyData.eqv z d)) H
theorem op_inP (hu : X.A.units + 64 < cLine) : OpR X (compareOp .In) (rInP X.K 40 false) := by
  intro pins s σ H x y v u Q I rx ry h
  obtain ⟨d, ds, ⟨h1, h2, h3⟩, hy, k2, k3, q⟩ := h
  obtain ⟨as, ra⟩ := Dp.reads I d x v h1 rx
  have hm : min (PyData.depthAll ds) d.depth ≤ 40 := Nat.le_trans (Nat.min_le_left _ _) k3
  rcases hy with hy | hy
  · obtain ⟨bs, rb⟩ := Dp.reads I _ y u hy ry
    exact PySem.SeqAt.in_list_data rb ra k2 h2 (by omega) ⟨.bl _, H, I, rfl, q⟩
  · obtain ⟨bs, rb⟩ := Dp.reads I _ y u hy ry
    exact PySem.SeqAt.in_tuple_data rb ra k2 h2 (by omega) ⟨.bl _, H, I, rfl, q⟩
theorem op_notInP (hu : X.A.units + 64 < cLine) : OpR X (compareOp .NotIn) (rInP X.K 40 true) := by
  intro pins s σ H x y v u Q I rx ry h
  obtain ⟨d, ds, ⟨h1, h2, h3⟩, hy, k2, k3, q⟩ := h
  obtain ⟨as, ra⟩ := Dp.reads I d x v h1 rx
  have hm : min (PyData.depthAll ds) d.depth ≤ 40 := Nat.le_trans (Nat.min_le_left _ _) k3
  rcases hy with hy | hy
  · obtain ⟨bs, rb⟩ := Dp.reads I _ y u hy ry
    exact PySem.SeqAt.notIn_list_data rb ra k2 h2 (by omega) ⟨.bl _, H, I, rfl, q⟩
  · obtain ⟨bs, rb⟩ := Dp.reads I _ y u hy ry
    exact PySem.SeqAt.notIn_tuple_data rb ra k2 h2 (by omega) ⟨.bl _, H, I, rfl, q⟩
theorem in_seq {x y : D} {v w : V} {k : Bool} {xs : List D} (m : SM X.K mu H s) (rx : Rep X.K mu H v x) (ry : Rep X.K mu H w y) (h : seqOf s.os y = some xs) (e : inD s.os x xs = some k) :
    ∃ d ds, RdOk X.K H 40 v d ∧ (Dp X.K H w (.list ds) ∨ Dp X.K H w (.tuple ds)) ∧ PyData.plainAll ds = true ∧ PyData.depthAll ds ≤ 40 ∧ k = ds.any fun z => PyData.eqv z d := by
  unfold inD at e
  split at e
  · rename_i d ps h1 h2
    cases e
    obtain ⟨a, vs, rfl, hq, r⟩ := seqOf_ok m ry h
    obtain ⟨d1, p1, q1⟩ := allM_ok (fun v d p r q => rd_ok m r q) r h2
    exact ⟨d, ps, rd_ok m rx h1, hq.imp (fun z => .lst z d1) fun z => .tup z d1, p1, q1, rfl⟩
  · cases e
/-- the comparisons but in, not in -/
theorem cm_ok (hu : X.A.units + 64 < cLine) (op : CmpOp) (h1 : op ≠ .In) (h2 : op ≠ .NotIn) : CmOk X (compareOp op) (cmpD op) := by
  cases op with
  | Eq => exact cm_eq hu
  | NotEq => exact cm_ne hu
  | Lt => exact cm_int op_lt fun x y os k e => two_ints e
  | LtE => exact cm_int op_le fun x y os k e => two_ints e
  | Gt => exact cm_int op_gt fun x y os k e => two_ints e
  | GtE => exact cm_int op_ge fun x y os k e => two_ints e
  | Is => exact cm_is
  | IsNot => exact cm_isnot
  | In => exact absurd rfl h1
  | NotIn => exact absurd rfl h2
/-- the run of a comparison -/
def cmR (op : CmpOp) (f g : Env → S → R D) (env : Env) (s : S) : R D :=
  (f env s).bind fun x s1 => (g env s1).bind fun y s2 => okB (cmpD op x y s2.os) s2
theorem se_cmp {op : CmpOp} (ho : CmOk X (compareOp op) (cmpD op)) (hm : behindInMarks op b = false) (ha : PE X a (tE X W f)) (hb : PE X b (tE X W g)) : PE X (.Compare a [op] [b] pos) (tE X W (cmR op f g)) := by
  obtain ⟨r, h1, h2⟩ := ho
  refine (pe_cmpR h1 ha hb hm).weak fun sg H Q ⟨mu, env, s, em, sm, p⟩ => ?_
  refine ⟨mu, env, s, em, sm, (Pt.bind (rp := Rep X.K) p).mono fun v H1 ⟨mu1, s1, x, _, e1, m1, r1, p1⟩ => ?_⟩
  refine ⟨mu1, env, s1, em.mono e1.toGrow, m1, (Pt.bind (rp := Rep X.K) p1).mono fun w H2 ⟨mu2, s2, y, _, e2, m2, r2, p2⟩ => ?_⟩
  unfold okB at p2
  split at p2
  · rename_i k e
    exact h2 mu2 H2 s2 v w x y k Q m2 (r1.mono e2.toGrow) r2 e (p2.ok m2 (.bl k))
  · exact p2.elim
/-- a run that ends in a truth value -/
theorem asB_bind {r : R D} {k : D → S → R D} : asB (r.bind k) = r.bind fun x s => asB (k x s) := by
  cases r <;> rfl
theorem st_cmp {op : CmpOp} (ho : CmOk X (compareOp op) (cmpD op)) (hm : behindInMarks op b = false) (ha : PE X a (tE X W f)) (hb : PE X b (tE X W g)) : PT X (.Compare a [op] [b] pos) (tT X W (cmR op f g)) := by
  obtain ⟨r, h1, h2⟩ := ho
  refine (pt_cmpR h1 ha hb hm).weak fun sg H Q ⟨mu, env, s, em, sm, p⟩ => ?_
  unfold cmR at p
  rw [asB_bind] at p
  refine ⟨mu, env, s, em, sm, (Pt.bind (rp := Rep X.K) p).mono fun v H1 ⟨mu1, s1, x, _, e1, m1, r1, p1⟩ => ?_⟩
  rw [asB_bind] at p1
  refine ⟨mu1, env, s1, em.mono e1.toGrow, m1, (Pt.bind (rp := Rep X.K) p1).mono fun w H2 ⟨mu2, s2, y, _, e2, m2, r2, p2⟩ => ?_⟩
  unfold okB at p2
  split at p2
  · rename_i k e
    exact h2 mu2 H2 s2 v w x y k _ m2 (r1.mono e2.toGrow) r2 e ⟨k, rfl, Pt.ok (rp := rpI) p2 m2 rfl⟩
  · exact p2.elim
/-- in, not in -/
def isNeg : CmpOp → Bool
  | .NotIn => true
  | _ => false
theorem dicOf_ok {y : D} {w : V} {kvs : List (D × D)} (m : SM X.K mu H s) (ry : Rep X.K mu H w y) (h : dicOf s.os y = some kvs) : ∃ a kws n, w = .ref a ∧ y = .ref n ∧ mu[n]? = some a ∧ s.os[n]? = some (.dic kvs) ∧ H a = some (.dK kws) ∧ kvRep X.K mu H kws kvs := by
  unfold dicOf at h
  split at h
  · rename_i n
    split at h
    · rename_i q hn
      cases h
      cases ry with
      | @ref a _ ha =>
        obtain ⟨kws, h1, r⟩ := m.ats n _ a hn ha
        exact ⟨a, kws, n, rfl, rfl, ha, hn, h1, r⟩
    · cases h
  · cases h
theorem dget_ok {x d : D} {v : V} {kws : List (Key × V)} {kvs : List (D × D)} {a : Addr} (hk : (keyD x).isSome = true) (rx : Rep X.K mu H v x) (h1 : H a = some (.dK kws)) (r : kvRep X.K mu H kws kvs) :
    ∃ o, DGet H a v o ∧ (match dGet kvs x with | some d => ∃ u, o = some u ∧ Rep X.K mu H u d | none => o = none) := by
  obtain ⟨ky, rfl, rfl⟩ := keyD_ok rx hk
  have g := dGet_ok (k := ky) r
  refine ⟨_, DGet.k h1, ?_⟩
  cases eg : dGet kvs (dKey ky) with
  | none => rw [eg] at g; exact g
  | some d => rw [eg] at g; exact g
theorem inOp_ok {x y : D} {v w : V} {j : Bool} (m : SM X.K mu H s) (rx : Rep X.K mu H v x) (ry : Rep X.K mu H w y) (e : inOp s.os x y = some j) :
    (∃ d ds, RdOk X.K H 40 v d ∧ (Dp X.K H w (.list ds) ∨ Dp X.K H w (.tuple ds)) ∧ PyData.plainAll ds = true ∧ PyData.depthAll ds ≤ 40 ∧ j = ds.any fun z => PyData.eqv z d) ∨ ∃ a o, w = .ref a ∧ DGet H a v o ∧ j = o.isSome := by
  unfold inOp at e
  split at e
  · rename_i kvs hd
    split at e
    · rename_i hk
      obtain ⟨a, kws, n, rfl, rfl, ha, hn, h1, r⟩ := dicOf_ok m ry hd
      obtain ⟨o, g, c⟩ := dget_ok (d := .non) hk rx h1 r
      refine .inr ⟨a, o, rfl, g, ?_⟩
      cases e
      cases eg : dGet kvs x with
      | none => rw [eg] at c; rw [show o = none from c]; rfl
      | some d => rw [eg] at c; obtain ⟨u, hu, _⟩ := c; rw [hu]; rfl
    · cases e
  · obtain ⟨xs, h1, h2⟩ := Option.bind_eq_some_iff.mp e
    exact .inl (in_seq m rx ry h1 h2)
theorem in_split {op : CmpOp} (ho : op = .In ∨ op = .NotIn) {x y : D} {v w : V} {k : Bool} {Q : VK} (m : SM X.K mu H s) (rx : Rep X.K mu H v x) (ry : Rep X.K mu H w y) (e : cmpD op x y s.os = some k) (q : Q (.bl k) H) :
    rInP X.K 40 (isNeg op) v w H Q ∨ ∃ a o, w = .ref a ∧ DGet H a v o ∧ Q (.bl (if isNeg op then !o.isSome else o.isSome)) H := by
  obtain ⟨j, e0, e1⟩ : ∃ j, inOp s.os x y = some j ∧ k = if isNeg op then !j else j := by
    rcases ho with rfl | rfl
    · exact ⟨k, e, rfl⟩
    · obtain ⟨j, h1, h2⟩ := Option.map_eq_some_iff.mp (show (inOp s.os x y).map (!·) = some k from e)
      exact ⟨j, h1, h2.symm⟩
  subst e1
  rcases inOp_ok m rx ry e0 with ⟨d, ds, a1, a2, a3, a4, a5⟩ | ⟨a, o, a1, a2, a3⟩
  · subst a5
    exact .inl ⟨d, ds, a1, a2, a3, a4, q⟩
  · subst a3
    exact .inr ⟨a, o, a1, a2, q⟩
/-- the reading of in, not in: over a sequence, over a dict -/
def tIn (X : Cx) (op : CmpOp) (ta tb : TE) : TE := fun sg H Q => ta sg H fun v H1 => tb sg H1 fun w H2 => rInP X.K 40 (isNeg op) v w H2 Q ∨ ∃ a o, w = .ref a ∧ DGet H2 a v o ∧ Q (.bl (if isNeg op then !o.isSome else o.isSome)) H2
theorem opr_dict {op : CmpOp} (ho : op = .In ∨ op = .NotIn) (hu : X.A.units + 64 < cLine) : OpR X (compareOp op) (fun v w H Q => rInP X.K 40 (isNeg op) v w H Q ∨ ∃ a o, w = .ref a ∧ DGet H a v o ∧ Q (.bl (if isNeg op then !o.isSome else o.isSome)) H) := by
  intro pins s σ H x y v u Q I rx ry h
  rcases ho with rfl | rfl
  · rcases h with h | ⟨a, o, e1, g, q⟩
    · exact op_inP hu pins s σ H x y v u Q I rx ry h
    · subst e1
      obtain rfl : u = Value.ref a := ry
      exact d_in (by omega) I g rx fun s1 I1 => ⟨.bl _, H, I1, rfl, q⟩
  · rcases h with h | ⟨a, o, e1, g, q⟩
    · exact op_notInP hu pins s σ H x y v u Q I rx ry h
    · subst e1
      obtain rfl : u = Value.ref a := ry
      exact d_notIn (by omega) I g rx fun s1 I1 => ⟨.bl _, H, I1, rfl, q⟩
theorem cm_in {op : CmpOp} (ho : op = .In ∨ op = .NotIn) (hu : X.A.units + 64 < cLine) : CmOk X (compareOp op) (cmpD op) :=
  ⟨_, opr_dict ho hu, fun mu H s v w x y k Q m rx ry e q => in_split ho m rx ry e q⟩
theorem cm_all (hu : X.A.units + 64 < cLine) (op : CmpOp) : CmOk X (compareOp op) (cmpD op) := by
  by_cases h1 : op = .In
  · exact cm_in (.inl h1) hu
  · by_cases h2 : op = .NotIn
    · exact cm_in (.inr h2) hu
    · exact cm_ok hu op h1 h2
end
end Wk

/-! Wk6: expressions, on. -/
namespace Wk
open PySem L2 PyProof.Rows
section
variable {X : Cx} {W : WX} {sg : L2.St} {mu : List Addr} {H : Hp} {s : S} {env : Env}
variable {e a b c : Expr} {pos : Pos} {f g h : Env → S → R D} {es rest : List Expr} {fs : Env → S → R (List D)}

/-! ### and, or, not, if -/
theorem se_and (ha : PE X a (tE X W f)) (hb : PE X (.BoolOp .And (b :: rest) pos) (tE X W g)) :
    PE X (.BoolOp .And (a :: b :: rest) pos) (tE X W fun env s => (f env s).bind fun x s1 => onB x s1 (fun s2 => g env s2) fun s2 => .ok (.bl false) s2) := by
  refine (pe_and ha hb).weak fun sg H Q ⟨mu, env, s, em, sm, p⟩ => ?_
  refine ⟨mu, env, s, em, sm, (Pt.bind (rp := Rep X.K) p).mono fun v H1 ⟨mu1, s1, x, _, e1, m1, r1, p1⟩ => ?_⟩
  unfold onB at p1
  split at p1
  · cases r1
    exact ⟨true, rfl, ⟨mu1, env, s1, em.mono e1.toGrow, m1, p1⟩⟩
  · cases r1
    exact ⟨false, rfl, p1.ok m1 (.bl false)⟩
  · exact p1.elim
theorem se_or (ha : PE X a (tE X W f)) (hb : PE X (.BoolOp .Or (b :: rest) pos) (tE X W g)) :
    PE X (.BoolOp .Or (a :: b :: rest) pos) (tE X W fun env s => (f env s).bind fun x s1 => onB x s1 (fun s2 => .ok (.bl true) s2) fun s2 => g env s2) := by
  refine (pe_or ha hb).weak fun sg H Q ⟨mu, env, s, em, sm, p⟩ => ?_
  refine ⟨mu, env, s, em, sm, (Pt.bind (rp := Rep X.K) p).mono fun v H1 ⟨mu1, s1, x, _, e1, m1, r1, p1⟩ => ?_⟩
  unfold onB at p1
  split at p1
  · cases r1
    exact ⟨true, rfl, p1.ok m1 (.bl true)⟩
  · cases r1
    exact ⟨false, rfl, ⟨mu1, env, s1, em.mono e1.toGrow, m1, p1⟩⟩
  · exact p1.elim
theorem se_not (ha : PE X a (tE X W f)) : PE X (.UnaryOp .Not a pos) (tE X W fun env s => (f env s).bind fun x s1 => notD x s1) := by
  refine (pe_not ha).weak fun sg H Q ⟨mu, env, s, em, sm, p⟩ => ?_
  refine ⟨mu, env, s, em, sm, (Pt.bind (rp := Rep X.K) p).mono fun v H1 ⟨mu1, s1, x, _, e1, m1, r1, p1⟩ => ?_⟩
  unfold notD at p1
  split at p1
  · cases r1
    exact ⟨_, rfl, p1.ok m1 (.bl _)⟩
  · exact p1.elim
theorem se_neg (ha : PE X a (tE X W f)) : PE X (.UnaryOp .USub a pos) (tE X W fun env s => (f env s).bind fun x s1 => negD x s1) := by
  refine (pe_un un_neg ha).weak fun sg H Q ⟨mu, env, s, em, sm, p⟩ => ?_
  refine ⟨mu, env, s, em, sm, (Pt.bind (rp := Rep X.K) p).mono fun v H1 ⟨mu1, s1, x, _, e1, m1, r1, p1⟩ => ?_⟩
  unfold negD at p1
  split at p1
  · cases r1
    exact ⟨_, rfl, p1.ok m1 (.int _)⟩
  · exact p1.elim
/-- what a test's run says -/
theorem asB_ok {r : R D} {Q : Bool → Hp → Prop} (p : Pt X W sg mu H rpI (asB r) Q) : Pt X W sg mu H (Rep X.K) r fun v H1 => ∃ k, v = .bl k ∧ Q k H1 := by
  cases r with
  | ok d s =>
    cases d with
    | bl b => exact fun v H' mu' e m r => by cases r; exact ⟨b, rfl, p b H' mu' e m rfl⟩
    | _ => exact p.elim
  | ex c fs s => exact p
  | no => exact p
/-- .. with what is left of the run -/
theorem asB_bindB {r : R D} {k : Bool → S → R D} {Q : VK} (p : Pt X W sg mu H (Rep X.K) (r.bind fun x s1 => onB x s1 (k true) (k false)) Q) :
    Pt X W sg mu H rpI (asB r) fun b H1 => ∃ mu1 s1, Ext X.K mu H mu1 H1 ∧ SM X.K mu1 H1 s1 ∧ Pt X W sg mu1 H1 (Rep X.K) (k b s1) Q := by
  cases r with
  | ok d s =>
    cases d with
    | bl b =>
      intro y H' mu' e m r
      have r' : y = b := r
      subst r'
      cases y
      · exact ⟨mu', s, e, m, Pt.shift (r := k false s) e p⟩
      · exact ⟨mu', s, e, m, Pt.shift (r := k true s) e p⟩
    | _ => exact p.elim
  | ex c fs s => exact p
  | no => exact p
theorem asB_bindT {r : R D} {k : Bool → S → R D} {Q : Bool → Hp → Prop} (p : Pt X W sg mu H rpI (asB (r.bind fun x s1 => onB x s1 (k true) (k false))) Q) :
    Pt X W sg mu H rpI (asB r) fun b H1 => ∃ mu1 s1, Ext X.K mu H mu1 H1 ∧ SM X.K mu1 H1 s1 ∧ Pt X W sg mu1 H1 rpI (asB (k b s1)) Q := by
  cases r with
  | ok d s =>
    cases d with
    | bl b =>
      intro y H' mu' e m r
      have r' : y = b := r
      subst r'
      cases y
      · exact ⟨mu', s, e, m, Pt.shift (r := asB (k false s)) e p⟩
      · exact ⟨mu', s, e, m, Pt.shift (r := asB (k true s)) e p⟩
    | _ => exact p.elim
  | ex c fs s => exact p
  | no => exact p
theorem se_ite (hc : PT X c (tT X W f)) (ha : PE X a (tE X W g)) (hb : PE X b (tE X W h)) :
    PE X (.IfExp c a b pos) (tE X W fun env s => (f env s).bind fun x s1 => onB x s1 (fun s2 => g env s2) fun s2 => h env s2) := by
  refine (pe_ifExp hc ha hb).weak fun sg H Q ⟨mu, env, s, em, sm, p⟩ => ?_
  refine ⟨mu, env, s, em, sm, (asB_bindB (k := fun b s2 => if b then g env s2 else h env s2) p).mono fun d H1 ⟨mu1, s1, e1, m1, p1⟩ => ?_⟩
  cases d with
  | true => exact ⟨mu1, env, s1, em.mono e1.toGrow, m1, p1⟩
  | false => exact ⟨mu1, env, s1, em.mono e1.toGrow, m1, p1⟩
/-- a test that is just a value -/
theorem st_val (ha : PE X a (tE X W f)) (he : ∀ whole, isTrue a X.env whole = (do let v ← whole; standAt a.pos; holding [v] (truthy v))) : PT X a (tT X W f) :=
  (pt_val ha he).weak fun sg H Q ⟨mu, env, s, em, sm, p⟩ => ⟨mu, env, s, em, sm, asB_ok p⟩
theorem st_not (ha : PT X a (tT X W f)) : PT X (.UnaryOp .Not a pos) (tT X W fun env s => (f env s).bind fun x s1 => notD x s1) := by
  refine (pt_not ha).weak fun sg H Q ⟨mu, env, s, em, sm, p⟩ => ⟨mu, env, s, em, sm, ?_⟩
  dsimp only at p
  cases q : f env s with
  | ok d s1 =>
    rw [q] at p
    cases d with
    | bl b =>
      intro y H' mu' e m r
      have r' : y = b := r
      subst r'
      exact p (!y) H' mu' e m rfl
    | _ => exact p.elim
  | ex c fs s1 => rw [q] at p; exact p
  | no => rw [q] at p; exact p
theorem sw_and1 (ha : PT X a (tT X W f)) : PW X (.BoolOp .And [a] pos) (tT X W f) := pw_and1 ha
theorem sw_or1 (ha : PT X a (tT X W f)) : PW X (.BoolOp .Or [a] pos) (tT X W f) := pw_or1 ha
theorem sw_and (ha : PT X a (tT X W f)) (hb : PW X (.BoolOp .And (b :: rest) pos) (tT X W g)) :
    PW X (.BoolOp .And (a :: b :: rest) pos) (tT X W fun env s => (f env s).bind fun x s1 => onB x s1 (fun s2 => g env s2) fun s2 => .ok (.bl false) s2) := by
  refine (pw_and ha hb).weak fun sg H Q ⟨mu, env, s, em, sm, p⟩ => ?_
  refine ⟨mu, env, s, em, sm, (asB_bindT (k := fun b s2 => if b then g env s2 else .ok (.bl false) s2) p).mono fun d H1 ⟨mu1, s1, e1, m1, p1⟩ => ?_⟩
  cases d with
  | true => exact ⟨mu1, env, s1, em.mono e1.toGrow, m1, p1⟩
  | false => exact Pt.ok (rp := rpI) p1 m1 rfl
theorem sw_or (ha : PT X a (tT X W f)) (hb : PW X (.BoolOp .Or (b :: rest) pos) (tT X W g)) :
    PW X (.BoolOp .Or (a :: b :: rest) pos) (tT X W fun env s => (f env s).bind fun x s1 => onB x s1 (fun s2 => .ok (.bl true) s2) fun s2 => g env s2) := by
  refine (pw_or ha hb).weak fun sg H Q ⟨mu, env, s, em, sm, p⟩ => ?_
  refine ⟨mu, env, s, em, sm, (asB_bindT (k := fun b s2 => if b then .ok (.bl true) s2 else g env s2) p).mono fun d H1 ⟨mu1, s1, e1, m1, p1⟩ => ?_⟩
  cases d with
  | true => exact Pt.ok (rp := rpI) p1 m1 rfl
  | false => exact ⟨mu1, env, s1, em.mono e1.toGrow, m1, p1⟩

/-! ### items, slices -/
theorem atI_rep {xs : List D} {vs : List V} {i : Int} {d : D} (r : Reps X.K mu H vs xs) (h : atI xs i = some d) : ∃ v, atI vs i = some v ∧ Rep X.K mu H v d := by
  unfold atI at *
  obtain ⟨j, h1, h2⟩ := Option.bind_eq_some_iff.mp h
  obtain ⟨v, e, rv⟩ := r.get h2
  exact ⟨v, by rw [r.length, h1]; exact e, rv⟩
theorem se_idx (hu : X.A.units + 64 < cLine) (hs : PlainIx b) (ha : PE X a (tE X W f)) (hb : PE X b (tE X W g)) :
    PE X (.Subscript a b pos) (tE X W fun env s => (f env s).bind fun x s1 => (g env s1).bind fun y s2 => okD (idxD x y s2.os) s2) := by
  refine ((pe_ix (IxR.or ix_list ix_tup) ha hb hs).or (pe_dget (by omega) ha hb hs)).weak fun sg H Q ⟨mu, env, s, em, sm, p⟩ => ?_
  -- which of the two it is, is known behind both runs
  by_cases hk : ∃ x s1 y s2 kvs, f env s = .ok x s1 ∧ g env s1 = .ok y s2 ∧ dicOf s2.os x = some kvs
  · obtain ⟨x0, s10, y0, s20, kvs, q1, q2, q3⟩ := hk
    refine .inr ⟨mu, env, s, em, sm, (Pt.bind (rp := Rep X.K) p).mono fun v H1 ⟨mu1, s1, x, k1, e1, m1, r1, p1⟩ => ?_⟩
    refine ⟨mu1, env, s1, em.mono e1.toGrow, m1, (Pt.bind (rp := Rep X.K) p1).mono fun w H2 ⟨mu2, s2, y, k2, e2, m2, r2, p2⟩ => ?_⟩
    rw [q1] at k1
    cases k1
    rw [q2] at k2
    cases k2
    unfold okD idxD at p2
    rw [q3] at p2
    dsimp only at p2
    split at p2
    · rename_i d hd
      split at hd
      · rename_i hk
        obtain ⟨a, kws, n, rfl, rfl, ha, hn, h1, r⟩ := dicOf_ok m2 (r1.mono e2.toGrow) q3
        obtain ⟨o, g, c⟩ := dget_ok (d := .non) hk r2 h1 r
        rw [hd] at c
        obtain ⟨u, rfl, ru⟩ := c
        exact ⟨a, u, rfl, g, p2.ok m2 ru⟩
      · cases hd
    · exact p2.elim
  · refine .inl ⟨mu, env, s, em, sm, (Pt.bind (rp := Rep X.K) p).mono fun v H1 ⟨mu1, s1, x, k1, e1, m1, r1, p1⟩ => ?_⟩
    refine ⟨mu1, env, s1, em.mono e1.toGrow, m1, (Pt.bind (rp := Rep X.K) p1).mono fun w H2 ⟨mu2, s2, y, k2, e2, m2, r2, p2⟩ => ?_⟩
    have nd : dicOf s2.os x = none := by
      cases q : dicOf s2.os x with
      | none => rfl
      | some kvs => exact absurd ⟨x, s1, y, s2, kvs, k1, k2, q⟩ hk
    unfold okD idxD at p2
    rw [nd] at p2
    dsimp only at p2
    split at p2
    · rename_i d hd
      split at hd
      · rename_i i
        obtain ⟨xs, h1, h2⟩ := Option.bind_eq_some_iff.mp hd
        obtain ⟨a, vs, rfl, hq, r⟩ := seqOf_ok m2 (r1.mono e2.toGrow) h1
        obtain ⟨u, hu, ru⟩ := atI_rep r h2
        cases r2
        rcases hq with hq | hq
        · exact .inl ⟨a, vs, i, u, rfl, rfl, hq, hu, p2.ok m2 ru⟩
        · exact .inr ⟨a, vs, i, u, rfl, rfl, hq, hu, p2.ok m2 ru⟩
      · cases hd
    · exact p2.elim
theorem so_none : PO X none (tO X W fun _ s => .ok none s) := po_none.weak fun sg H Q ⟨mu, env, s, em, sm, p⟩ => Pt.ok (rp := rpI) p sm rfl
theorem so_some (ha : PE X a (tE X W f)) : PO X (some a) (tO X W fun env s => (f env s).bind fun x s1 => intD x s1) := by
  refine (po_some ha).weak fun sg H Q ⟨mu, env, s, em, sm, p⟩ => ?_
  refine ⟨mu, env, s, em, sm, (Pt.bind (rp := Rep X.K) p).mono fun v H1 ⟨mu1, s1, x, _, e1, m1, r1, p1⟩ => ?_⟩
  unfold intD at p1
  split at p1
  · cases r1
    exact ⟨_, rfl, Pt.ok (rp := rpI) p1 m1 rfl⟩
  · exact p1.elim
theorem cutD_rep {xs : List D} {vs : List V} {lo hi : Option Int} (r : Reps X.K mu H vs xs) : Reps X.K mu H (cutV vs lo hi) (cutD xs lo hi) := by
  unfold cutV cutD
  rw [r.length]
  exact (r.drop _).take _
theorem se_sl {lo hi : Option Expr} {p2 : Pos} {fl fh : Env → S → R (Option Int)} (ha : PE X a (tE X W f)) (hl : PO X lo (tO X W fl)) (hh : PO X hi (tO X W fh)) :
    PE X (.Subscript a (.Slice lo hi none p2) pos) (tE X W fun env s => (f env s).bind fun x s1 => (fl env s1).bind fun l s2 => (fh env s2).bind fun h s3 => slD x l h s3) := by
  refine (pe_slice (SlR.or sl_list sl_tupA) ha hl hh).weak fun sg H Q ⟨mu, env, s, em, sm, p⟩ => ?_
  refine ⟨mu, env, s, em, sm, (Pt.bind (rp := Rep X.K) p).mono fun v H1 ⟨mu1, s1, x, k1, e1, m1, r1, p1⟩ => ?_⟩
  refine ⟨mu1, env, s1, em.mono e1.toGrow, m1, (Pt.bind (rp := rpI) p1).mono fun l H2 ⟨mu2, s2, l', _, e2, m2, el, p2⟩ => ?_⟩
  refine ⟨mu2, env, s2, (em.mono e1.toGrow).mono e2.toGrow, m2, (Pt.bind (rp := rpI) p2).mono fun h H3 ⟨mu3, s3, h', _, e3, m3, eh, p3⟩ => ?_⟩
  have el' : l = l' := el
  have eh' : h = h' := eh
  subst el' eh'
  have r3 := (r1.mono e2.toGrow).mono e3.toGrow
  unfold slD at p3
  split at p3
  · cases r3 with
    | @tup a vs xs hq r =>
      refine .inr ⟨a, vs, rfl, hq, fun z => ?_, fun _ p hp => p3.tup m3 (cutD_rep r) hp⟩
      refine p3.ok m3 ?_
      have ce : cutV vs l h = vs := by
        unfold cutV
        rw [z.1, z.2]
        simp
      have q := cutD_rep (lo := l) (hi := h) r
      rw [ce] at q
      exact .tup hq q
  · split at p3
    · rename_i xs hx
      obtain ⟨a, vs, rfl, hq, r⟩ := listOf_ok m3 r3 hx
      exact .inl ⟨a, vs, rfl, hq, fun p hp => p3.alloc m3 (cutD_rep r) hp⟩
    · exact p3.elim

/-! ### built-ins -/
/-- a call by values -/
def ClOk (X : Cx) (W : WX) (f : Value) (o : List D → S → R D) : Prop :=
  ∃ r, CallR X f r ∧ ∀ sg mu H s vs xs Q, SM X.K mu H s → Reps X.K mu H vs xs → Pt X W sg mu H (Rep X.K) (o xs s) Q → r vs H Q
theorem se_blt {id : String} {x : Str} {p : Pos} {o : List D → S → R D} (ho : ClOk X W (.builtin id) o) (hg : Gl X x) (hm : X.mg x = none) (hv : bootBuiltins x = some (.builtin id)) (ha : PA X (e :: es) (tA X W fs)) (hn : x ≠ "__name__") (hdb : (x == ("__debug__" : Str)) = false)
    (he : starEach (e :: es) X.env = (false, eval e X.env) :: starEach es X.env) (hpl : (backTo pos (starEach es X.env)).any (·.1) = false) :
    PE X (.Call (.Name x p) (e :: es) [] pos) (tE X W fun env s => (fs env s).bind fun xs s1 => o xs s1) := by
  obtain ⟨r, h1, h2⟩ := ho
  refine (pe_callB h1 hg hm hv ha hn hdb he hpl).weak fun sg H Q ⟨mu, env, s, em, sm, p⟩ => ?_
  exact ⟨mu, env, s, em, sm, (Pt.bind (rp := Reps X.K) p).mono fun vs H1 ⟨mu1, s1, xs, _, e1, m1, r1, p1⟩ => h2 sg mu1 H1 s1 vs xs Q m1 r1 p1⟩
theorem se_bltT {T : String} {x : Str} {p : Pos} {o : List D → S → R D} (ho : ClOk X W (.type T) o) (hg : Gl X x) (hm : X.mg x = none) (hv : bootBuiltins x = some (.type T)) (ha : PA X (e :: es) (tA X W fs)) (hn : x ≠ "__name__") (hdb : (x == ("__debug__" : Str)) = false)
    (he : starEach (e :: es) X.env = (false, eval e X.env) :: starEach es X.env) (hpl : (backTo pos (starEach es X.env)).any (·.1) = false) :
    PE X (.Call (.Name x p) (e :: es) [] pos) (tE X W fun env s => (fs env s).bind fun xs s1 => o xs s1) := by
  obtain ⟨r, h1, h2⟩ := ho
  refine (pe_callTy h1 hg hm hv ha hn hdb he hpl).weak fun sg H Q ⟨mu, env, s, em, sm, p⟩ => ?_
  exact ⟨mu, env, s, em, sm, (Pt.bind (rp := Reps X.K) p).mono fun vs H1 ⟨mu1, s1, xs, _, e1, m1, r1, p1⟩ => h2 sg mu1 H1 s1 vs xs Q m1 r1 p1⟩
theorem cl_len : ClOk X W (.builtin "len") (bltD .len) := by
  refine ⟨_, (call_len (X := X)).or call_lenD, fun sg mu H s vs xs Q m r p => ?_⟩
  unfold bltD at p
  split at p
  all_goals first | exact p.elim | skip
  all_goals first | (rename_i h; cases h; done) | skip
  rename_i a _ _
  cases r with
  | cons r0 rr =>
    cases rr
    split at p
    · rename_i x
      split at p
      · rename_i hl
        cases r0
        exact .inl ⟨_, _, rfl, ⟨sz hl, rfl⟩, p.ok m (.int _)⟩
      · exact p.elim
    · split at p
      · rename_i ys hy
        obtain ⟨b, ws, rfl, hq, r1⟩ := seqOf_ok m r0 hy
        refine .inl ⟨_, ws.length, rfl, ?_, ?_⟩
        · rcases hq with hq | hq
          · exact .inl ⟨ws, hq, rfl⟩
          · exact .inr ⟨ws, hq, rfl⟩
        · rw [r1.length]
          exact p.ok m (.int _)
      · split at p
        · rename_i kvs hk
          obtain ⟨b, kws, n, rfl, rfl, _, _, h1, r1⟩ := dicOf_ok m r0 hk
          refine .inr ⟨b, kws, rfl, h1, ?_⟩
          rw [r1.length]
          exact p.ok m (.int _)
        · exact p.elim
theorem bools_ok : ∀ {xs : List D} {vs : List V} {bs : List Bool}, Reps X.K mu H vs xs → bools xs = some bs → vs = bs.map V.bl
  | [], _, _, .nil, h => by cases h; rfl
  | d :: xs, _, _, .cons r0 rr, h => by
    cases d with
    | bl b =>
      have h' : (bools xs).map (b :: ·) = some _ := h
      obtain ⟨cs, h1, h2⟩ := Option.map_eq_some_iff.mp h'
      subst h2
      cases r0
      rw [bools_ok rr h1]
      rfl
    | _ => cases h
theorem reps1 {x : D} {vs : List V} (r : Reps X.K mu H vs [x]) : ∃ v, vs = [v] ∧ Rep X.K mu H v x := by
  cases r with
  | cons a b => cases b; exact ⟨_, rfl, a⟩
theorem reps2 {x y : D} {vs : List V} (r : Reps X.K mu H vs [x, y]) : ∃ v w, vs = [v, w] ∧ Rep X.K mu H v x ∧ Rep X.K mu H w y := by
  cases r with
  | cons a b =>
    obtain ⟨w, rfl, rw⟩ := reps1 b
    exact ⟨_, w, rfl, a, rw⟩
theorem cl_all (hc : X.calm = true) : ClOk X W (.builtin "all") (bltD .all) := by
  refine ⟨_, cr_all hc, fun sg mu H s vs xs Q m r p => ?_⟩
  match xs, r, p with
  | [a], r, p =>
    obtain ⟨v, rfl, r0⟩ := reps1 r
    have p : Pt X W sg mu H (Rep X.K) (match (listOf s.os a).bind bools with | some bs => .ok (.bl (bs.all id)) s | none => .no) Q := p
    split at p
    · rename_i bs hb
      obtain ⟨ys, h1, h2⟩ := Option.bind_eq_some_iff.mp hb
      obtain ⟨b, ws, rfl, hq, r1⟩ := listOf_ok m r0 h1
      rw [bools_ok r1 h2] at hq
      exact ⟨b, bs, rfl, hq, p.ok m (.bl _)⟩
    · exact p.elim
  | [], r, p => exact p.elim
  | _ :: _ :: _, r, p => exact p.elim
theorem cl_any (hc : X.calm = true) : ClOk X W (.builtin "any") (bltD .any) := by
  refine ⟨_, cr_any hc, fun sg mu H s vs xs Q m r p => ?_⟩
  match xs, r, p with
  | [a], r, p =>
    obtain ⟨v, rfl, r0⟩ := reps1 r
    have p : Pt X W sg mu H (Rep X.K) (match (listOf s.os a).bind bools with | some bs => .ok (.bl (bs.any id)) s | none => .no) Q := p
    split at p
    · rename_i bs hb
      obtain ⟨ys, h1, h2⟩ := Option.bind_eq_some_iff.mp hb
      obtain ⟨b, ws, rfl, hq, r1⟩ := listOf_ok m r0 h1
      rw [bools_ok r1 h2] at hq
      exact ⟨b, bs, rfl, hq, p.ok m (.bl _)⟩
    · exact p.elim
  | [], r, p => exact p.elim
  | _ :: _ :: _, r, p => exact p.elim
theorem cl_tuple : ClOk X W (.type "tuple") (bltD .tuple) := by
  refine ⟨_, call_tuple_of, fun sg mu H s vs xs Q m r p => ?_⟩
  match xs, r, p with
  | [a], r, p =>
    obtain ⟨v, rfl, r0⟩ := reps1 r
    have p : Pt X W sg mu H (Rep X.K) (match seqOf s.os a with | some ys => .ok (.tup ys) s | none => .no) Q := p
    split at p
    · rename_i ys hy
      obtain ⟨b, ws, rfl, hq, r1⟩ := seqOf_ok m r0 hy
      rcases hq with hq | hq
      · exact ⟨b, ws, rfl, .inl ⟨hq, fun l hl => p.tup m r1 hl⟩⟩
      · exact ⟨b, ws, rfl, .inr ⟨hq, p.ok m (.tup hq r1)⟩⟩
    · exact p.elim
  | [], r, p => exact p.elim
  | _ :: _ :: _, r, p => exact p.elim
theorem cl_list : ClOk X W (.type "list") (bltD .list) := by
  refine ⟨_, call_list_of, fun sg mu H s vs xs Q m r p => ?_⟩
  match xs, r, p with
  | [a], r, p =>
    obtain ⟨v, rfl, r0⟩ := reps1 r
    have p : Pt X W sg mu H (Rep X.K) (match seqOf s.os a with | some ys => alloc (.lst ys) s | none => .no) Q := p
    split at p
    · rename_i ys hy
      obtain ⟨b, ws, rfl, hq, r1⟩ := seqOf_ok m r0 hy
      exact ⟨b, ws, rfl, hq, fun l hl => p.alloc m r1 hl⟩
    · exact p.elim
  | [], r, p => exact p.elim
  | _ :: _ :: _, r, p => exact p.elim
theorem cl_int : ClOk X W (.type "int") (bltD .int) := by
  refine ⟨_, call_int1, fun sg mu H s vs xs Q m r p => ?_⟩
  match xs, r, p with
  | [a], r, p =>
    obtain ⟨v, rfl, r0⟩ := reps1 r
    have p : Pt X W sg mu H (Rep X.K) (int1 a s) Q := p
    unfold int1 at p
    split at p
    · cases r0
      exact .inl ⟨_, rfl, p.ok m (.int _)⟩
    · exact p.elim
  | [], r, p => exact p.elim
  | _ :: _ :: _, r, p => exact p.elim
/-- kinds -/
def Ki.name : Ki → String
  | .non => "NoneType" | .bl => "bool" | .int => "int" | .str => "str" | .lst => "list" | .tup => "tuple" | .dic => "dict"
theorem ki_ok {d : D} {v : V} {k : Ki} (m : SM X.K mu H s) (r : Rep X.K mu H v d) (h : kiOf s.os d = some k) : TyX X.K H v (.type k.name) := by
  cases r with
  | non => cases h; exact .base .non
  | bl b => cases h; exact .base (.bl b)
  | int i => cases h; exact .base (.int i)
  | str x => cases h; exact .base (.str x)
  | ty x => cases h
  | tup hq r =>
    cases h
    rcases hq with (hq | ⟨o, hq⟩) | ⟨o, _, _, hq, hc, _⟩
    · exact .base (.tup hq)
    · exact .fTuple hq
    · exact .kTuple hq hc
  | fl hq r =>
    cases h
    rcases hq with ⟨o, hq⟩ | (hq | ⟨o, hq⟩) | ⟨o, _, _, hq, hc, _⟩
    · exact .base (.frz hq)
    · cases hq
    · cases hq
    · exact .kList hq hc
  | @ref a n ha =>
    have h' : (match s.os[n]? with | some (.lst _) => some Ki.lst | some (.lck _) => some Ki.lst | some (.dic _) => some Ki.dic | none => none) = some k := h
    split at h'
    · rename_i xs e
      cases h'
      obtain ⟨vs, h1, _⟩ := m.ats n _ a e ha
      exact .base (.lst h1)
    · rename_i xs e
      cases h'
      obtain ⟨vs, h1, _⟩ := m.ats n _ a e ha
      exact .base (.lst h1)
    · rename_i xs e
      cases h'
      obtain ⟨vs, h1, _⟩ := m.ats n _ a e ha
      exact .base (.dK h1)
    · cases h'
theorem isiK_ok {k : Ki} {t : String} {b : Bool} (h : isiK k t = some b) : kitB k.name t = some b := by
  unfold isiK at h
  split at h <;> first
    | (cases h; cases k <;> decide +kernel)
    | cases h
theorem cl_isi : ClOk X W (.builtin "isinstance") (bltD .isi) := by
  refine ⟨_, call_isi, fun sg mu H s vs xs Q m r p => ?_⟩
  match xs, r, p with
  | [a, t], r, p =>
    obtain ⟨v, w, rfl, r0, r1⟩ := reps2 r
    have p : Pt X W sg mu H (Rep X.K) (isi2 a t s) Q := p
    unfold isi2 at p
    split at p
    · split at p
      · rename_i b hb
        obtain ⟨k, h1, h2⟩ := Option.bind_eq_some_iff.mp hb
        cases r1
        exact ⟨v, .ty _, .type k.name, .type _, b, rfl, .ty _, ki_ok m r0 h1, kit_ty (isiK_ok h2), p.ok m (.bl b)⟩
      · exact p.elim
    · exact p.elim
  | [], r, p => exact p.elim
  | [_], r, p => exact p.elim
  | _ :: _ :: _ :: _, r, p => exact p.elim

/-! ### append -/
theorem se_app {apos cpos : Pos} (ha : PE X a (tE X W f)) (hb : PA X [b] (tA X W fs)) (hfs : ∀ env s, fs env s = (g env s).bind fun x s1 => .ok [x] s1)
    (hbase : attributeBase a "append" X.env (eval a X.env) = eval a X.env)
    (hfew : ((backTo cpos (starEach [b] X.env)).all (fun x => !x.1) && (backToKw cpos (keywordEach [] X.env)).all (fun x => x.1.isSome) && decide ([b].length + ([] : List Keyword).length + (if ([] : List Keyword).isEmpty then 0 else 1) < 30)) = true)
    (hline : (apos.endLine == cpos.line) = true) (hs : starEach [b] X.env = (false, eval b X.env) :: starEach [] X.env) (hplain : (backTo cpos (starEach [] X.env)).any (·.1) = false) :
    PE X (.Call (.Attribute a "append" apos) [b] [] cpos) (tE X W fun env s => (f env s).bind fun x s1 => onL x s1 fun s2 => (g env s2).bind fun y s3 => appD x y s3) := by
  refine (pe_bm PySem.F.plainAttrs_list PySem.F.slot_list_append PySem.F.type_list_append mt_append ha hb hbase hfew hline hs hplain).weak fun sg H Q ⟨mu, env, s, em, sm, p⟩ => ?_
  refine ⟨mu, env, s, em, sm, (Pt.bind (rp := Rep X.K) p).mono fun v H1 ⟨mu1, s1, x, k1, e1, m1, r1, p1⟩ => ?_⟩
  obtain ⟨n0, l, vs, rfl, rfl, hl, hv, p1⟩ : ∃ n0 l vs, x = .ref n0 ∧ v = .ref l ∧ mu1[n0]? = some l ∧ H1 l = some (.lst vs) ∧ Pt X W sg mu1 H1 (Rep X.K) ((g env s1).bind fun y s3 => appD x y s3) Q := by
    unfold onL at p1
    split at p1
    · rename_i n
      cases r1 with
      | @ref l _ hl =>
        split at p1
        · rename_i xs q
          obtain ⟨vs, h1, _⟩ := m1.ats n _ l q hl
          exact ⟨n, l, vs, rfl, rfl, hl, h1, p1⟩
        · rename_i xs q
          obtain ⟨vs, h1, _⟩ := m1.ats n _ l q hl
          exact ⟨n, l, vs, rfl, rfl, hl, h1, p1⟩
        · exact p1.elim
    · exact p1.elim
  refine ⟨.inl ⟨rfl, vs, SqL.of hv⟩, ⟨mu1, env, s1, em.mono e1.toGrow, m1, ?_⟩⟩
  rw [hfs]
  have p1' : Pt X W sg mu1 H1 (Rep X.K) (((g env s1).bind fun y s2 => .ok [y] s2).bind fun (ys : List D) s2 => (match ys with | [y] => appD (.ref n0) y s2 | _ => .no)) Q := by
    cases q : g env s1 with
    | ok y s2 => rw [q] at p1; exact p1
    | ex c fs s2 => rw [q] at p1; exact p1
    | no => rw [q] at p1; exact p1
  refine (Pt.bind (rp := Reps X.K) p1').mono fun ws H2 ⟨mu2, s2, ys, k2, e2, m2, r2, p2⟩ => ?_
  split at p2
  · rename_i y
    obtain ⟨w, rfl, rw⟩ := reps1 r2
    unfold appD at p2
    dsimp only at p2
    split at p2
    · rename_i zs hz
      split at p2
      · rename_i hlen
        have hl2 : mu2[n0]? = some l := e2.pre _ _ hl
        obtain ⟨us, h1, r3⟩ := m2.ats n0 _ l hz hl2
        have ln : n0 < s2.os.length := (List.getElem?_eq_some_iff.mp hz).1
        have hm : l ∈ mu2 := List.mem_of_getElem? hl2
        refine ⟨l, us, w, rfl, rfl, h1, by rw [r3.length]; exact sz1 hlen, ?_⟩
        have ew := ext_write (o := .lst (us ++ [w])) m2 hm
        refine p2 .non _ mu2 ew (m2.write ln hl2 ⟨us ++ [w], upd_same, (r3.append (.cons rw .nil)).mono ew.toGrow⟩ fun hk => ?_) .non
        have hk' : s2.lk = false ∧ low 30 n0 y = true := by simpa using hk
        exact ⟨hk'.1, Lows.append (m2.lo hk'.1 n0 _ hz) (.cons (low_ok hk'.2) .nil)⟩
      · exact p2.elim
    · exact p2.elim
  · exact p2.elim

/-! ### a dict's display -/
/-- pairs -/
def pvRep (K : PySem.W.Frag) (mu : List Addr) (H : Hp) : List (V × V) → List (D × D) → Prop
  | [], [] => True
  | (k, v) :: r, (x, y) :: q => Rep K mu H k x ∧ Rep K mu H v y ∧ pvRep K mu H r q
  | _, _ => False
theorem pvRep.mono {K : PySem.W.Frag} {mu mu' : List Addr} {H H' : Hp} (e : Grow K mu H mu' H') : ∀ {r : List (V × V)} {q : List (D × D)}, pvRep K mu H r q → pvRep K mu' H' r q
  | [], [], _ => trivial
  | (_, _) :: _, (_, _) :: _, ⟨a, b, c⟩ => ⟨a.mono e, b.mono e, pvRep.mono e c⟩
  | [], _ :: _, h => h.elim
  | _ :: _, [], h => h.elim
/-- the readings of the pairs, from their runs -/
def trsOf (X : Cx) (W : WX) : List ((Env → S → R D) × (Env → S → R D)) → List (TE × TE)
  | [] => []
  | (f, g) :: r => (tE X W f, tE X W g) :: trsOf X W r
def evP2 : List ((Env → S → R D) × (Env → S → R D)) → Env → S → R (List (D × D))
  | [], _, s => .ok [] s
  | (f, g) :: r, env, s => (f env s).bind fun x s1 => (g env s1).bind fun y s2 => (evP2 r env s2).bind fun ps s3 => .ok ((x, y) :: ps) s3
theorem pairs_ok : ∀ (fg : List ((Env → S → R D) × (Env → S → R D))) {mu : List Addr} {H : Hp} {env : Env} {s : S} {Q : List (V × V) → Hp → Prop}, EM X.K mu H sg env → SM X.K mu H s → Pt X W sg mu H (pvRep X.K) (evP2 fg env s) Q → tPairs (trsOf X W fg) sg H Q
  | [], mu, H, env, s, Q, em, sm, p => Pt.ok (rp := pvRep X.K) (y := []) p sm trivial
  | (f, g) :: r, mu, H, env, s, Q, em, sm, p => by
    refine ⟨mu, env, s, em, sm, (Pt.bind (rp := Rep X.K) p).mono fun v H1 ⟨mu1, s1, x, _, e1, m1, r1, p1⟩ => ?_⟩
    refine ⟨mu1, env, s1, em.mono e1.toGrow, m1, (Pt.bind (rp := Rep X.K) p1).mono fun w H2 ⟨mu2, s2, y, _, e2, m2, r2, p2⟩ => ?_⟩
    refine pairs_ok r ((em.mono e1.toGrow).mono e2.toGrow) m2 ((Pt.bind (rp := pvRep X.K) p2).mono fun ps H3 ⟨mu3, s3, zs, _, e3, m3, r3, p3⟩ => ?_)
    exact Pt.ok (rp := pvRep X.K) (y := (v, w) :: ps) p3 m3 ⟨(r1.mono e2.toGrow).mono e3.toGrow, r2.mono e3.toGrow, r3⟩
theorem keys_of : ∀ {ps : List (V × V)} {qs : List (D × D)}, pvRep X.K mu H ps qs → (qs.all fun p => (keyD p.1).isSome) = true → ∃ kvs : List (Key × V), ps = kvs.map (fun kv => (kV kv.1, kv.2)) ∧ kvRep X.K mu H kvs qs
  | [], [], _, _ => ⟨[], rfl, trivial⟩
  | (k, v) :: r, (x, y) :: q, ⟨a, b, c⟩, h => by
    simp only [List.all_cons, Bool.and_eq_true] at h
    obtain ⟨kvs, e, kr⟩ := keys_of c h.2
    obtain ⟨ky, rfl, rfl⟩ := keyD_ok a h.1
    subst e
    exact ⟨(ky, v) :: kvs, rfl, rfl, b, kr⟩
  | [], _ :: _, h, _ => h.elim
  | _ :: _, [], h, _ => h.elim
theorem merge_ok : ∀ {more : List (Key × V)} {qs : List (D × D)} {kws : List (Key × V)} {kvs : List (D × D)}, kvRep X.K mu H more qs → kvRep X.K mu H kws kvs → kvRep X.K mu H (mergeK kws more) (qs.foldl (fun m p => dPut m p.1 p.2) kvs)
  | [], [], _, _, _, h => h
  | (k, v) :: r, (x, y) :: q, kws, kvs, ⟨e, rp, c⟩, h => by
    subst e
    show kvRep X.K mu H (mergeK (putK kws k v) r) (q.foldl (fun m p => dPut m p.1 p.2) (dPut kvs (dKey k) y))
    exact merge_ok c (dPut_ok h rp)
  | [], _ :: _, _, _, h, _ => h.elim
  | _ :: _, [], _, _, h, _ => h.elim
theorem se_dic {keys : List (Option Expr)} {values : List Expr} {fg : List ((Env → S → R D) × (Env → S → R D))} (h : PPs X pos keys values (trsOf X W fg)) (hall : keys.all (·.isSome) = true) (hl : keys.length = values.length) (h0 : keys ≠ []) (h15 : keys.length ≤ 15) :
    PE X (.Dict keys values pos) (tE X W fun env s => (evP2 fg env s).bind fun ps s1 => dicD ps s1) := by
  refine (pe_disp h hall hl h0 h15).weak fun sg H Q ⟨mu, env, s, em, sm, p⟩ => ?_
  intro d hd
  have e0 := ext_new (K := X.K) (mu := mu) (o := .dK []) hd
  refine pairs_ok fg (em.mono e0.toGrow) (sm.new hd) ((Pt.bind (rp := pvRep X.K) (Pt.shift (r := (evP2 fg env s).bind fun ps s1 => dicD ps s1) e0 p)).mono fun ps H2 ⟨mu2, s2, zs, kz, e2, m2, r2, _⟩ => ?_)
  obtain ⟨h2, n2⟩ := e2.fr d _ upd_same (sm.fresh hd)
  refine ⟨h2, ?_⟩
  dsimp only at p
  rw [kz] at p
  have p2 : Pt X W sg mu H (Rep X.K) (dicD zs s2) Q := p
  unfold dicD at p2
  split at p2
  · rename_i q
    rw [Bool.and_eq_true, decide_eq_true_eq] at q
    obtain ⟨kvs, rfl, kr⟩ := keys_of r2 q.1
    refine ⟨kvs, rfl, by rw [kr.length]; exact q.2, ?_⟩
    have sf : Soft H2 d := fun u hu => by rw [h2] at hu; cases hu; trivial
    have g : Grow X.K mu2 H2 (mu2 ++ [d]) (upd H2 d (.dK (mergeK [] kvs))) := (grow_upd sf).trans grow_push
    have mr := merge_ok kr (kws := []) (kvs := []) trivial
    have low : LowO s2.os.length (.dic (zs.foldl (fun m p => dPut m p.1 p.2) [])) := by rw [← m2.len]; exact mr.low
    refine p2 (.ref d) _ (mu2 ++ [d]) ⟨(e0.trans e2).toGrow.trans g, fun a u ha na => ?_⟩ (m2.push n2 sf ⟨_, upd_same, mr.mono g⟩ low) (.ref (by rw [← m2.len]; simp))
    obtain ⟨h3, n3⟩ := (e0.trans e2).fr a u ha na
    have nd : a ≠ d := ne_of_none ha hd
    exact ⟨by rw [upd_ne nd]; exact h3, by simp [n3, nd]⟩
  · exact p2.elim
end
end Wk

/-! Wk7: repr, calls of defs. -/
namespace Wk
open PySem L2 PyProof.Rows

/-! ### texts of data -/
mutual
theorem wide_ok : ∀ (p : PyData) (n : Nat), wideP p = some n → p.shown.length ≤ n ∧ p.showable = true
  | .none, n, h => by cases h; exact ⟨by decide, rfl⟩
  | .bool b, n, h => by cases h; cases b <;> exact ⟨by decide, rfl⟩
  | .int i, n, h => by
    simp only [wideP] at h
    split at h
    · rename_i q
      cases h
      refine ⟨?_, ?_⟩
      · have e := int_text_length_le10 (k := 70) (by decide) q
        show (Str.ofString (toString i)).length ≤ 72
        rw [PySem.ofString_length]
        omega
      · simp only [PyData.showable, decide_eq_true_eq]
        by_cases h0 : i.natAbs = 0
        · rw [h0]; decide
        · exact (Nat.log2_lt h0).mpr (Nat.lt_of_lt_of_le q (by decide))
    · cases h
  | .str x, n, h => by
    simp only [wideP] at h
    split at h
    · rename_i q
      cases h
      refine ⟨?_, rfl⟩
      have q' : ∀ c ∈ x.cps.toList, c < 16 ^ 8 := fun c hc => by
        have := Array.all_eq_true'.mp q c (Array.mem_def.mpr hc)
        have := of_decide_eq_true this
        omega
      exact PySem.StrLaws.reprText_len x q'
    · cases h
  | .list xs, n, h => by
    obtain ⟨h1, h2⟩ := wides_ok xs n h
    refine ⟨?_, h2⟩
    have e := listText_len_le (PyData.shownAll xs)
    have l := shownAll_length xs
    show (listText (PyData.shownAll xs)).length ≤ n
    omega
  | .tuple xs, n, h => by
    obtain ⟨h1, h2⟩ := wides_ok xs n h
    refine ⟨?_, h2⟩
    have e := tupleText_len_le (PyData.shownAll xs)
    have l := shownAll_length xs
    show (tupleText (PyData.shownAll xs)).length ≤ n
    omega
  | .dict _, n, h => by cases h
theorem wides_ok : ∀ (ps : List PyData) (n : Nat), widePs ps = some n → ((PyData.shownAll ps).map (·.length)).sum + 2 * ps.length + 3 ≤ n ∧ PyData.showableAll ps = true
  | [], n, h => by cases h; exact ⟨by decide, rfl⟩
  | p :: ps, n, h => by
    simp only [widePs] at h
    split at h
    · rename_i a b ha hb
      cases h
      obtain ⟨h1, h2⟩ := wide_ok p a ha
      obtain ⟨h3, h4⟩ := wides_ok ps b hb
      refine ⟨?_, ?_⟩
      · simp only [PyData.shownAll, List.map_cons, List.sum_cons, List.length_cons]
        omega
      · simp only [PyData.showableAll, h2, h4, Bool.and_self]
    · cases h
theorem shownAll_length : ∀ ps : List PyData, (PyData.shownAll ps).length = ps.length
  | [] => rfl
  | p :: ps => by simp only [PyData.shownAll, List.length_cons, shownAll_length ps]
end
mutual
theorem plain_noDict : ∀ p : PyData, p.plain = true → p.hasDict = false
  | .none, _ => rfl
  | .bool _, _ => rfl
  | .int _, _ => rfl
  | .str _, _ => rfl
  | .list xs, h => plains_noDict xs h
  | .tuple xs, h => plains_noDict xs h
  | .dict _, h => by cases h
theorem plains_noDict : ∀ ps : List PyData, PyData.plainAll ps = true → PyData.hasDictAll ps = false
  | [], _ => rfl
  | p :: ps, h => by
    have h' : (PyData.plain p && PyData.plainAll ps) = true := h
    rw [Bool.and_eq_true] at h'
    show (PyData.hasDict p || PyData.hasDictAll ps) = false
    rw [plain_noDict p h'.1, plains_noDict ps h'.2]
    rfl
end
mutual
theorem sameP_eq : ∀ (p q : PyData), sameP p q = true → p = q
  | .none, .none, _ => rfl
  | .bool a, .bool b, h => by
    have : (a == b) = true := h
    rw [eq_of_beq this]
  | .int i, .int j, h => by rw [show i = j from of_decide_eq_true h]
  | .str x, .str y, h => by rw [show x = y from of_decide_eq_true h]
  | .list xs, .list ys, h => by rw [samePs_eq xs ys h]
  | .tuple xs, .tuple ys, h => by rw [samePs_eq xs ys h]
  | .none, .bool _, h | .none, .int _, h | .none, .str _, h | .none, .list _, h | .none, .tuple _, h | .none, .dict _, h => by cases h
  | .bool _, .none, h | .bool _, .int _, h | .bool _, .str _, h | .bool _, .list _, h | .bool _, .tuple _, h | .bool _, .dict _, h => by cases h
  | .int _, .none, h | .int _, .bool _, h | .int _, .str _, h | .int _, .list _, h | .int _, .tuple _, h | .int _, .dict _, h => by cases h
  | .str _, .none, h | .str _, .bool _, h | .str _, .int _, h | .str _, .list _, h | .str _, .tuple _, h | .str _, .dict _, h => by cases h
  | .list _, .none, h | .list _, .bool _, h | .list _, .int _, h | .list _, .str _, h | .list _, .tuple _, h | .list _, .dict _, h => by cases h
  | .tuple _, .none, h | .tuple _, .bool _, h | .tuple _, .int _, h | .tuple _, .str _, h | .tuple _, .list _, h | .tuple _, .dict _, h => by cases h
  | .dict _, .none, h | .dict _, .bool _, h | .dict _, .int _, h | .dict _, .str _, h | .dict _, .list _, h | .dict _, .tuple _, h | .dict _, .dict _, h => by cases h
theorem samePs_eq : ∀ (ps qs : List PyData), samePs ps qs = true → ps = qs
  | [], [], _ => rfl
  | p :: ps, q :: qs, h => by
    have h' : (sameP p q && samePs ps qs) = true := h
    rw [Bool.and_eq_true] at h'
    rw [sameP_eq p q h'.1, samePs_eq ps qs h'.2]
  | [], _ :: _, h => by cases h
  | _ :: _, [], h => by cases h
end
section
variable {X : Cx} {W : WX} {sg : L2.St} {mu : List Addr} {H : Hp} {s : S} {env : Env}
variable {e a b c : Expr} {pos : Pos} {f g h : Env → S → R D} {es rest : List Expr} {fs : Env → S → R (List D)}
/-- repr of data -/
def rRepr (K : PySem.W.Frag) : List V → Hp → VK → Prop := fun xs H Q => ∃ v d, xs = [v] ∧ RdOk K H 40 v d ∧ fitP d = true ∧ Q (.str d.shown) H
theorem call_reprP (hg : X.A.guards = some []) (hu : X.A.units + 64 < cLine) : CallR X (.builtin "repr") (rRepr X.K) := by
  intro pins s σ H xs us Q I r h
  obtain ⟨v, d, rfl, ⟨h1, h2, h3⟩, h4, q⟩ := h
  obtain ⟨u, rfl, rv⟩ := vals1 r
  obtain ⟨as, rr⟩ := Dp.reads I d v u h1 rv
  have hw : d.shown.length ≤ sizeLine ∧ d.showable = true := by
    unfold fitP at h4
    split at h4
    · rename_i n hn
      obtain ⟨a1, a2⟩ := wide_ok d n hn
      have a3 := of_decide_eq_true h4
      exact ⟨Nat.le_trans (Nat.le_trans a1 a3) (by decide), a2⟩
    · cases h4
  cases rr with
  | none => exact PySem.P.repr_of_none ⟨.str _, H, I.tok _, ⟨_, rfl⟩, q⟩
  | bool b => exact PySem.P.repr_of_bool ⟨.str _, H, I.tok _, ⟨_, rfl⟩, q⟩
  | int i t => exact PySem.P.repr_of_int (of_decide_eq_true hw.2) ⟨.str _, H, I.tok _, ⟨_, rfl⟩, q⟩
  | str x t => exact PySem.P.repr_of_str ⟨.str _, H, I.tok _, ⟨_, rfl⟩, q⟩ hw.1
  | list g1 g2 g3 g4 =>
    exact repr_of_reads' (h₀ := s.heap) (Reads.list g1 g2 g3 g4) hw.2 (PyData.noDict_hsm (plain_noDict _ h2)) hg (by omega) (fun _ _ z => z) (fun h' u tk hk => ⟨.str _, H, I.kept hk, ⟨_, rfl⟩, q⟩) hw.1
  | tuple g1 g2 g3 g4 =>
    exact repr_of_reads' (h₀ := s.heap) (Reads.tuple g1 g2 g3 g4) hw.2 (PyData.noDict_hsm (plain_noDict _ h2)) hg (by omega) (fun _ _ z => z) (fun h' u tk hk => ⟨.str _, H, I.kept hk, ⟨_, rfl⟩, q⟩) hw.1
  | dict _ _ _ _ _ => cases h2
theorem rdF_ok {x : D} {v : V} {p : PyData} (m : SM X.K mu H s) (r : Rep X.K mu H v x) (h : rdF x s = some p) : RdOk X.K H 40 v p ∧ fitP p = true := by
  unfold rdF at h
  split at h
  · rename_i q hq
    split at h
    · rename_i hf
      cases h
      exact ⟨rd_ok m r hq, hf⟩
    · cases h
  · cases h
theorem one1 {ff : Env → S → R D} {gg : Env → S → R (List D)} {k : D → S → R D} {Q : VK} (hq : ∀ env s, gg env s = (ff env s).bind fun x s1 => .ok [x] s1) (p : Pt X W sg mu H (Rep X.K) ((ff env s).bind k) Q) :
    Pt X W sg mu H (Reps X.K) (gg env s) fun vs H1 => ∃ v mu1 s1 x, vs = [v] ∧ Ext X.K mu H mu1 H1 ∧ SM X.K mu1 H1 s1 ∧ Rep X.K mu1 H1 v x ∧ Pt X W sg mu1 H1 (Rep X.K) (k x s1) Q := by
  rw [hq]
  cases q : ff env s with
  | ok x s1 =>
    rw [q] at p
    intro vs H' mu' e m r
    obtain ⟨v, rfl, rv⟩ := reps1 r
    exact ⟨v, mu', s1, x, rfl, e, m, rv, Pt.shift (r := k x s1) e p⟩
  | ex c fs s1 => rw [q] at p; exact p
  | no => rw [q] at p; exact p
theorem se_repr {p1 p2 q1 q2 : Pos} {fa fb : Env → S → R (List D)} (hg : X.A.guards = some []) (hu : X.A.units + 64 < cLine) (hG : Gl X "repr") (hm : X.mg "repr" = none) (ha : PA X [a] (tA X W fa)) (hb : PA X [b] (tA X W fb))
    (hfa : ∀ env s, fa env s = (f env s).bind fun x s1 => .ok [x] s1) (hfb : ∀ env s, fb env s = (g env s).bind fun x s1 => .ok [x] s1)
    (he1 : starEach [a] X.env = (false, eval a X.env) :: starEach [] X.env) (he2 : starEach [b] X.env = (false, eval b X.env) :: starEach [] X.env) :
    PE X (.Compare (.Call (.Name "repr" p1) [a] [] q1) [.Eq] [.Call (.Name "repr" p2) [b] [] q2] pos) (tE X W fun env s => (f env s).bind fun x s1 => onP (rdF x s1) s1 fun p s2 => (g env s2).bind fun y s3 => onP (rdF y s3) s3 fun q s4 => sameD p q s4) := by
  have c1 := pe_callB (X := X) (pos := q1) (p := p1) (call_reprP hg hu) hG hm boot_repr ha (by decide) (by decide) he1 rfl
  have c2 := pe_callB (X := X) (pos := q2) (p := p2) (call_reprP hg hu) hG hm boot_repr hb (by decide) (by decide) he2 rfl
  refine (pe_cmpR op_eq c1 c2 (by rfl)).weak fun sg H Q ⟨mu, env, s, em, sm, p⟩ => ?_
  refine ⟨mu, env, s, em, sm, (one1 hfa p).mono fun vs H1 ⟨v, mu1, s1, x, hv, e1, m1, r1, p1⟩ => ?_⟩
  unfold onP at p1
  split at p1
  · rename_i d1 hd1
    obtain ⟨o1, o2⟩ := rdF_ok m1 r1 hd1
    refine ⟨v, d1, hv, o1, o2, mu1, env, s1, em.mono e1.toGrow, m1, (one1 hfb p1).mono fun ws H2 ⟨w, mu2, s2, y, hw, e2, m2, r2, p2⟩ => ?_⟩
    split at p2
    · rename_i d2 hd2
      obtain ⟨o3, o4⟩ := rdF_ok m2 r2 hd2
      refine ⟨w, d2, hw, o3, o4, rfl, ?_⟩
      unfold sameD at p2
      dsimp only at p2
      split at p2
      · rename_i hs
        have := sameP_eq d1 d2 hs
        subst this
        have q := p2.ok m2 (.bl true)
        rw [decide_eq_true rfl]
        exact q
      · exact p2.elim
    · exact p2.elim
  · exact p1.elim
end
end Wk

/-! Wb: how arguments come to parameters. -/
namespace Wk
open PySem L2 PyProof.Rows
theorem look_none {t : Type} {l : List (Str × t)} {k : Str} (h : ∀ p ∈ l, p.1 ≠ k) : l.lookup k = none := by
  induction l with
  | nil => rfl
  | cons p r ih =>
    obtain ⟨a, b⟩ := p
    have ne : a ≠ k := h (a, b) (List.mem_cons_self ..)
    have : (k == a) = false := by simpa using Ne.symm ne
    simp only [List.lookup, this]
    exact ih fun q hq => h q (List.mem_cons_of_mem _ hq)
theorem look_app {t : Type} {l r : List (Str × t)} {k : Str} : (l ++ r).lookup k = (l.lookup k).or (r.lookup k) := by
  induction l with
  | nil => simp
  | cons p l ih =>
    obtain ⟨a, b⟩ := p
    by_cases h : k = a
    · subst h
      simp [List.lookup]
    · have : (k == a) = false := by simpa using h
      simp only [List.cons_append, List.lookup, this]
      exact ih
theorem kw_loop {f : Str × Value → List (Str × Value) × List (Str × Value) → Sem (ForInStep (List (Str × Value) × List (Str × Value)))} {ps : List Str}
    (hf : ∀ k v sl ex, k ∈ ps → sl.lookup k = none → f (k, v) (sl, ex) = pure (.yield (sl ++ [(k, v)], ex))) :
    ∀ (kw sl ex : List (Str × Value)), (∀ p ∈ kw, p.1 ∈ ps) → (∀ p ∈ kw, sl.lookup p.1 = none) → (kw.map (·.1)).Nodup → (forIn kw (sl, ex) f : Sem _) = pure (sl ++ kw, ex)
  | [], sl, ex, _, _, _ => by simp
  | (k, v) :: kw, sl, ex, h1, h2, h3 => by
    rw [List.forIn_cons, hf k v sl ex (h1 (k, v) (List.mem_cons_self ..)) (h2 (k, v) (List.mem_cons_self ..))]
    simp only [pure_bind]
    have nd := List.nodup_cons.mp h3
    have h4 : ∀ p ∈ kw, (sl ++ [(k, v)]).lookup p.1 = none := fun p hp => by
      have ne : p.1 ≠ k := fun z => nd.1 (List.mem_map.mpr ⟨p, hp, z⟩)
      have : (p.1 == k) = false := by simpa using ne
      rw [look_app, h2 p (List.mem_cons_of_mem _ hp)]
      simp [List.lookup, this]
    rw [kw_loop hf kw (sl ++ [(k, v)]) ex (fun p hp => h1 p (List.mem_cons_of_mem _ hp)) h4 nd.2]
    simp
def putD (sl : List (Str × Value)) : List (Str × Value) → List (Str × Value)
  | [] => sl
  | (k, v) :: r => putD (if (sl.lookup k).isNone then sl ++ [(k, v)] else sl) r
theorem dfl_loop : ∀ (ds sl : List (Str × Value)), (forIn ds sl (fun (x : Str × Value) (sl : List (Str × Value)) => if (sl.lookup x.1).isNone = true then (pure (ForInStep.yield (sl ++ [(x.1, x.2)])) : Sem _) else pure (ForInStep.yield sl)) : Sem _) = pure (putD sl ds)
  | [], sl => by simp [putD]
  | (k, v) :: r, sl => by
    rw [List.forIn_cons]
    by_cases h : (sl.lookup k).isNone = true
    · simp only [h, if_true, pure_bind]
      rw [dfl_loop r]
      simp [putD, h]
    · simp only [h, if_false, pure_bind, Bool.false_eq_true]
      rw [dfl_loop r]
      simp [putD, h]
/-- a def with plain parameters -/
structure PlainP (fd : FuncData) (ps : List Str) : Prop where
  po : fd.params.posonlyargs = []
  ar : fd.params.args.map (·.arg) = ps
  va : fd.params.vararg = none
  ko : fd.params.kwonlyargs = []
  ka : fd.params.kwarg = none
theorem bind_looks {fd : FuncData} {ps : List Str} {us : List Value} {kw : List (Str × Value)} {its : List Value} {M : Model} {h : Heap} (P : PlainP fd ps) (hd : ∃ o, PySem.W.Looks M h (seqItems? fd.defaults) o ∧ (o.getD #[]).toList = its) (hi : its.length ≤ ps.length)
    (hl : us.length ≤ ps.length) (hk : ∀ p ∈ kw, p.1 ∈ ps) (hn : ∀ p ∈ kw, (ps.zip us).lookup p.1 = none) (nd : (kw.map (·.1)).Nodup)
    (hm : ∀ q ∈ ps.take (ps.length - its.length), ((ps.zip us ++ kw).lookup q).isNone = false) :
    PySem.W.Looks M h (bindArgs fd ⟨us, kw⟩) (ps.filterMap fun n => ((putD (ps.zip us ++ kw) ((ps.drop (ps.length - its.length)).zip its)).lookup n).map (n, ·)) := by
  obtain ⟨o, lk, ho⟩ := hd
  unfold bindArgs
  simp only [P.po, P.ar, P.va, P.ko, P.ka, List.map_nil, List.nil_append, List.append_nil]
  rw [kw_loop (ps := ps) ?_ kw (ps.zip us) [] hk hn nd]
  · simp only [pure_bind]
    refine lk.andThen ?_
    have h1 : (decide (us.length > ps.length) && (none : Option Arg).isNone) = false := by simp; omega
    have e1 : List.drop ((o.getD #[]).toList.length - ps.length) (o.getD #[]).toList = its := by
      rw [ho, show its.length - ps.length = 0 by omega]
      rfl
    have h2 : (!(List.filter (fun n => (List.lookup n (ps.zip us ++ kw)).isNone) (List.take (ps.length - its.length) ps)).isEmpty) = false := by
      rw [Bool.not_eq_false', List.isEmpty_iff, List.filter_eq_nil_iff]
      exact fun q hq => by rw [hm q hq]; decide
    simp only [h1, e1, h2, Bool.false_eq_true, if_false, dfl_loop, pure_bind, List.forIn_nil, List.isEmpty_nil, Bool.not_true]
    exact PySem.W.Looks.of_pure rfl
  · intro k v sl ex hk hs
    have : (ps.contains k || List.contains ([] : List Str) k) = true := by simp [hk]
    simp only [this, hs, if_true, Option.isSome_none, Bool.false_eq_true, if_false]
theorem zip_look {t : Type} : ∀ {ps : List Str} {l : List t} {i : Nat} {n : Str}, ps.Nodup → ps[i]? = some n → (ps.zip l).lookup n = l[i]?
  | [], _, _, _, _, h => by simp at h
  | p :: ps, [], i, n, _, h => by simp
  | p :: ps, x :: l, 0, n, nd, h => by
    simp at h
    subst h
    simp [List.lookup]
  | p :: ps, x :: l, i + 1, n, nd, h => by
    have h' : ps[i]? = some n := by simpa using h
    have nd' := List.nodup_cons.mp nd
    have ne : n ≠ p := fun z => nd'.1 (z ▸ List.mem_of_getElem? h')
    have : (n == p) = false := by simpa using ne
    simp only [List.zip_cons_cons, List.lookup, this]
    rw [zip_look nd'.2 h']
    simp
theorem zip_look_out {t : Type} {ps : List Str} {l : List t} {n : Str} (h : n ∉ ps) : (ps.zip l).lookup n = none :=
  look_none fun p hp z => h (z ▸ (List.of_mem_zip (show (p.1, p.2) ∈ ps.zip l from hp)).1)
theorem putD_look : ∀ (ds sl : List (Str × Value)) (n : Str), (putD sl ds).lookup n = (sl.lookup n).or (ds.lookup n)
  | [], sl, n => by simp [putD]
  | (k, v) :: r, sl, n => by
    unfold putD
    rw [putD_look r]
    by_cases hk : n = k
    · subst hk
      cases h : sl.lookup n with
      | none => simp [h, look_app, List.lookup]
      | some x => simp [h]
    · have e : (n == k) = false := by simpa using hk
      split
      · simp [look_app, List.lookup, e]
      · simp [List.lookup, e]
theorem kwGet_look {t : Type} : ∀ (ks : List Str) (ws : List t) (x : Str), kwGet ks ws x = (ks.zip ws).lookup x
  | [], _, _ => by simp [kwGet]
  | _ :: _, [], _ => by simp [kwGet]
  | k :: ks, w :: ws, x => by
    unfold kwGet
    by_cases h : k = x
    · subst h
      simp [List.lookup]
    · have e : (x == k) = false := by simpa using Ne.symm h
      simp only [h, if_false, List.zip_cons_cons, List.lookup, e]
      exact kwGet_look ks ws x
theorem fill_get {t : Type} {ks : List Str} {ws : List t} : ∀ {qs : List Str} {ds : List (Option t)} {r : List t}, fillG ks ws qs ds = some r → r.length = qs.length ∧ ∀ (j : Nat) (q : Str), qs[j]? = some q → ∃ d, ds[j]? = some d ∧ r[j]? = (kwGet ks ws q).or d
  | [], ds, r, h => by
    cases h
    exact ⟨rfl, fun j q e => by simp at e⟩
  | _ :: _, [], r, h => by cases h
  | q :: qs, d :: ds, r, h => by
    have go : ∀ {w : t} {r' : List t}, fillG ks ws qs ds = some r' → some w = (kwGet ks ws q).or d → r = w :: r' → r.length = (q :: qs).length ∧ ∀ (j : Nat) (q' : Str), (q :: qs)[j]? = some q' → ∃ d', (d :: ds)[j]? = some d' ∧ r[j]? = (kwGet ks ws q').or d' := fun {w r'} h1 h2 h3 => by
      obtain ⟨l, g⟩ := fill_get h1
      subst h3
      refine ⟨by simp [l], fun j q' e => ?_⟩
      cases j with
      | zero =>
        simp at e
        subst e
        exact ⟨d, rfl, by simp [h2]⟩
      | succ j =>
        obtain ⟨d', e1, e2⟩ := g j q' (by simpa using e)
        exact ⟨d', by simpa using e1, by simpa using e2⟩
    unfold fillG at h
    split at h
    · rename_i w r' h1 h2
      cases h
      exact go h2 (by simp [h1]) rfl
    · rename_i w r' h1 h3
      cases h
      exact go h3 (by simp [h1]) rfl
    · cases h
theorem filter_zip {g : Str → Option Value} : ∀ {ps : List Str} {zs : List Value}, zs.length = ps.length → (∀ (i : Nat) (n : Str), ps[i]? = some n → g n = zs[i]?) → (ps.filterMap fun n => (g n).map (n, ·)) = ps.zip zs
  | [], zs, _, _ => by simp
  | p :: ps, [], h, _ => by simp at h
  | p :: ps, z :: zs, h, hg => by
    have h0 : g p = some z := by simpa using hg 0 p rfl
    simp only [List.filterMap_cons, h0, Option.map_some, List.zip_cons_cons]
    rw [filter_zip (by simpa using h) fun i n e => by simpa using hg (i + 1) n (by simpa using e)]
/-- the arguments, put in order, are what the machine binds -/
theorem binds_ok {fd : FuncData} {ps : List Str} {us ws zs its : List Value} {ks : List Str} {s : Shared} (P : PlainP fd ps) (nd : ps.Nodup) (hd : ∀ M, ∃ o, PySem.W.Looks M s.heap (seqItems? fd.defaults) o ∧ (o.getD #[]).toList = its) (hi : its.length ≤ ps.length)
    (h : bindG ps its us ks ws = some zs) : BindsTo s fd ⟨us, ks.zip ws⟩ (ps.zip zs) ∧ zs.length = ps.length := by
  unfold bindG at h
  split at h
  · rename_i q
    simp only [Bool.and_eq_true, decide_eq_true_eq, List.all_eq_true] at q
    obtain ⟨⟨⟨hl, hkw⟩, hin⟩, knd⟩ := q
    obtain ⟨r, hr, rfl⟩ := Option.map_eq_some_iff.mp h
    obtain ⟨lr, gr⟩ := fill_get hr
    have lz : (us ++ r).length = ps.length := by
      rw [List.length_append, lr, List.length_drop]
      omega
    have inz : ∀ p ∈ ks.zip ws, p.1 ∈ ps.drop us.length := fun p hp => hin p.1 (List.of_mem_zip (show (p.1, p.2) ∈ ks.zip ws from hp)).1
    have late : ∀ n ∈ ps.drop us.length, (ps.zip us).lookup n = none := fun n hn => by
      obtain ⟨j, hj⟩ := List.getElem?_of_mem hn
      rw [List.getElem?_drop] at hj
      rw [zip_look nd hj]
      exact List.getElem?_eq_none (by omega)
    have val : ∀ (i : Nat) (n : Str), ps[i]? = some n → ((putD (ps.zip us ++ ks.zip ws) ((ps.drop (ps.length - its.length)).zip its)).lookup n) = (us ++ r)[i]? := fun i n e => by
      rw [putD_look, look_app, zip_look nd e]
      have li : i < ps.length := (List.getElem?_eq_some_iff.mp e).1
      by_cases hiu : i < us.length
      · rw [List.getElem?_append_left hiu, List.getElem?_eq_getElem hiu]
        simp
      · rw [List.getElem?_append_right (by omega), List.getElem?_eq_none (by omega : us.length ≤ i)]
        have e' : (ps.drop us.length)[i - us.length]? = some n := by
          rw [List.getElem?_drop, show us.length + (i - us.length) = i by omega]
          exact e
        obtain ⟨d, e1, e2⟩ := gr _ n e'
        rw [e2, kwGet_look]
        have ed : (((ps.drop (ps.length - its.length)).zip its).lookup n) = d := by
          rw [List.getElem?_drop, show us.length + (i - us.length) = i by omega] at e1
          by_cases him : i < ps.length - its.length
          · rw [List.getElem?_append_left (by simpa using him)] at e1
            have e1' : d = none := by
              have := List.getElem?_replicate (n := ps.length - its.length) (a := (none : Option Value)) (i := i)
              rw [this, if_pos him] at e1
              exact (Option.some.inj e1).symm
            subst e1'
            refine zip_look_out fun hm => ?_
            obtain ⟨j, hj⟩ := List.getElem?_of_mem hm
            rw [List.getElem?_drop] at hj
            have := nodup_ix nd e hj
            omega
          · rw [List.getElem?_append_right (by simpa using him)] at e1
            simp only [List.length_replicate, List.getElem?_map] at e1
            have e3 : (ps.drop (ps.length - its.length))[i - (ps.length - its.length)]? = some n := by
              rw [List.getElem?_drop, show ps.length - its.length + (i - (ps.length - its.length)) = i by omega]
              exact e
            rw [zip_look (nd.sublist (List.drop_sublist _ _)) e3]
            obtain ⟨x, hx, hy⟩ := Option.map_eq_some_iff.mp e1
            rw [hx, ← hy]
        rw [ed]
        simp
    refine ⟨fun M A E Q hQ => ?_, lz⟩
    have lk := bind_looks (kw := ks.zip ws) (us := us) P (hd M) hi hl (fun p hp => List.mem_of_mem_drop (inz p hp)) (fun p hp => late _ (inz p hp)) ?_ ?_
    · rw [filter_zip lz val] at lk
      exact lk.here hQ
    · rw [List.map_fst_zip (by omega)]
      exact knd
    · intro n hn
      obtain ⟨i, hi'⟩ := List.getElem?_of_mem hn
      have lt : i < ps.length - its.length := by
        have := (List.getElem?_eq_some_iff.mp hi').1
        rw [List.length_take] at this
        omega
      rw [List.getElem?_take_of_lt lt] at hi'
      have v := val i n hi'
      rw [putD_look] at v
      have out : (((ps.drop (ps.length - its.length)).zip its).lookup n) = none := zip_look_out fun hm => by
        obtain ⟨j, hj⟩ := List.getElem?_of_mem hm
        rw [List.getElem?_drop] at hj
        have := nodup_ix nd hi' hj
        omega
      rw [out, Option.or_none] at v
      rw [v]
      have : i < (us ++ r).length := by rw [lz]; omega
      rw [List.getElem?_eq_getElem this]
      rfl
  · cases h
end Wk

/-! Wk8: calls of defs. -/
namespace Wk
open PySem L2 PyProof.Rows
theorem kwGet_rel {t u : Type} {F : t → u → Prop} : ∀ {ks : List Str} {ws : List t} {ys : List u} {x : Str}, Paired F ws ys → match kwGet ks ws x with
    | some w => ∃ y, kwGet ks ys x = some y ∧ F w y
    | none => kwGet ks ys x = none
  | [], _, _, x, _ => by simp [kwGet]
  | _ :: _, _, _, x, .nil => by simp [kwGet]
  | k :: ks, _, _, x, .cons r t => by
    unfold kwGet
    by_cases h : k = x
    · simp only [h, if_true]
      exact ⟨_, rfl, r⟩
    · simp only [h, if_false]
      exact kwGet_rel t
def optRel {t u : Type} (F : t → u → Prop) : Option t → Option u → Prop
  | some a, some b => F a b
  | none, none => True
  | _, _ => False
theorem fillG_rel {t u : Type} {F : t → u → Prop} {ks : List Str} {ws : List t} {ys : List u} (hw : Paired F ws ys) : ∀ {qs : List Str} {ds : List (Option t)} {es : List (Option u)} {r : List t}, Paired (optRel F) ds es → fillG ks ws qs ds = some r → ∃ r', fillG ks ys qs es = some r' ∧ Paired F r r'
  | [], _, _, _, _, h => by
    cases h
    exact ⟨[], rfl, .nil⟩
  | _ :: _, _, _, _, .nil, h => by cases h
  | q :: qs, _, _, r, .cons (l₁ := ds) (l₂ := es) a b, h => by
    rename_i d e
    have k := kwGet_rel (ks := ks) (x := q) hw
    unfold fillG at h
    split at h
    · rename_i w r' h1 h2
      cases h
      obtain ⟨r2, e2, p2⟩ := fillG_rel hw b h2
      rw [h1] at k
      obtain ⟨y, ky, fy⟩ := k
      exact ⟨y :: r2, by unfold fillG; rw [ky, e2], .cons fy p2⟩
    · rename_i w r' h1 h3
      cases h
      obtain ⟨r2, e2, p2⟩ := fillG_rel hw b h3
      rw [h1] at k
      cases e with
      | none => exact a.elim
      | some y => exact ⟨y :: r2, by unfold fillG; rw [show kwGet ks ys q = none from k, e2], .cons a p2⟩
    · cases h
theorem paired_drop {t u : Type} {F : t → u → Prop} : ∀ (n : Nat) {l : List t} {r : List u}, Paired F l r → Paired F (l.drop n) (r.drop n)
  | 0, _, _, h => h
  | _ + 1, _, _, .nil => .nil
  | n + 1, _, _, .cons _ b => paired_drop n b
theorem paired_app {t u : Type} {F : t → u → Prop} : ∀ {l l' : List t} {r r' : List u}, Paired F l r → Paired F l' r' → Paired F (l ++ l') (r ++ r')
  | _, _, _, _, .nil, h => h
  | _, _, _, _, .cons a b, h => .cons a (paired_app b h)
theorem paired_len {t u : Type} {F : t → u → Prop} : ∀ {l : List t} {r : List u}, Paired F l r → l.length = r.length
  | _, _, .nil => rfl
  | _, _, .cons _ b => congrArg Nat.succ (paired_len b)
theorem paired_some {t u : Type} {F : t → u → Prop} : ∀ {l : List t} {r : List u}, Paired F l r → Paired (optRel F) (l.map some) (r.map some)
  | _, _, .nil => .nil
  | _, _, .cons a b => .cons a (paired_some b)
theorem bindG_rel {t u : Type} {F : t → u → Prop} {ps ks : List Str} {d1 v1 w1 z1 : List t} {d2 v2 w2 : List u} (hd : Paired F d1 d2) (hv : Paired F v1 v2) (hw : Paired F w1 w2) (h : bindG ps d1 v1 ks w1 = some z1) : ∃ z2, bindG ps d2 v2 ks w2 = some z2 ∧ Paired F z1 z2 := by
  unfold bindG at h ⊢
  rw [← paired_len hv, ← paired_len hw, ← paired_len hd]
  split at h
  · rename_i q
    rw [if_pos q]
    obtain ⟨r, hr, rfl⟩ := Option.map_eq_some_iff.mp h
    have dd : Paired (optRel F) ((List.replicate (ps.length - d1.length) none ++ d1.map some).drop v1.length) ((List.replicate (ps.length - d1.length) none ++ d2.map some).drop v1.length) := by
      refine paired_drop _ (paired_app ?_ ?_)
      · generalize ps.length - d1.length = n
        induction n with
        | zero => exact .nil
        | succ n ih => exact .cons trivial ih
      · exact paired_some hd
    obtain ⟨r2, e2, p2⟩ := fillG_rel hw dd hr
    exact ⟨v2 ++ r2, by rw [e2]; rfl, paired_app hv p2⟩
  · cases h
/-! ### defs -/
/-- a def keeps its promise where no repr is under way -/
structure FnG (P : Program) (w : World) (K : PySem.W.Frag) (mg : Str → Option Value) (base : Heap) (k : Nat) (f : Addr) (fd : FuncData) (ps : List Str) (sp : Sp) : Prop where
  len : ∀ vs H Q E, sp vs H Q E → vs.length = ps.length
  run : ∀ (A : Around) (outer : List PySem.Env) (s : Shared) (H : Hp) (args : Args) (us : List Value) (vs : List V) (Q : VK) (E : XK), Room k A → A.guards = some [] → Env0 P w K mg base A outer s H → BindsTo s fd args (ps.zip us) → Vals vs us → sp vs H Q E →
    codeAny (model P w) A (.call (.ref f) args) (CR (L2.CX P w) outer P w H s Q E) s
theorem fnG_of {P : Program} {w : World} {K : PySem.W.Frag} {mg : Str → Option Value} {base : Heap} {x qual : Str} {params : Arguments} {body : List Stmt} {scope : Scope} {dvs : List V} {kws : List (Str × V)} {f : Addr} {fd : FuncData} {N ps : List Str} {k : Nat} {sp : Sp}
    (F : FunD K x qual params body scope dvs kws f fd) (sc : FnScope N ps scope) (len : ∀ vs H Q E, sp vs H Q E → vs.length = ps.length)
    (hbody : ∀ (cd : Value) (A : Around) (outer : List PySem.Env) (s : Shared) (H : Hp) (vs : List V) (Q : VK) (E : XK), Room k (A.deeper (envOfC qual scope s.heap.objs.size f cd)) → (A.deeper (envOfC qual scope s.heap.objs.size f cd)).guards = some [] → sp vs H Q E →
      ∃ t, PSs (cxOf (L2.CX P w) P w K mg base N qual scope f cd A outer s H E) body t ∧ t { nx := fun _ H' => Q .non H', rt := Q } (start N vs) H) : FnG P w K mg base (k + 1) f fd ps sp := by
  obtain ⟨oc, od, dV, kV, doc, pm, an, cd, ct, osl, efd, look, code, _, _⟩ := F.ex
  subst efd
  refine ⟨len, fun A outer s H args us vs Q E room gd e0 bnd rel wish => ?_⟩
  have lens := len _ _ _ _ wish
  have inK : K.In s.heap := e0.mod.kin.keeps fun p o q => (e0.bs p o q).1
  have nolim : s.heap.NoLimit := e0.mod.nolimit.keeps fun p o q => (e0.bs p o q).1
  have kinds : ∀ y ∈ ps.zip us, scope.names.lookup y.1 = some .local ∨ (scope.names.lookup y.1 = some .cell ∧ ((cellsFrom (s.heap.objs.size + 1) scope.names []).lookup y.1).isSome = true) := by
    rintro ⟨n, v⟩ hy
    exact (sc.par n (List.of_mem_zip hy).1).imp id fun q => ⟨q, PySem.W.cellsFrom_some _ _ _ (.inl q)⟩
  refine codeAny_call_function room.depth (inK _ _ look) rfl sc.co sc.gen rfl (PySem.W.codeRec_of inK code) (bnd _ _ _ _ ?_)
  refine wpAny_newFunctionEnv_cells sc.kind kinds fun env he s1 st => ?_
  subst he
  refine ⟨nolim.keeps st.toInCall.keep, codeAny_func ?_⟩
  obtain ⟨t, ht, hq⟩ := hbody cd A outer s H vs Q E (room.deeper _) gd wish
  have I := inv_start (CX := L2.CX P w) (E := E) sc room.hd e0 lens rel st
  refine wpAny_mono (ht.run [] s1 (start N vs) H _ I hq) (fun fl s' hs => ?_) fun e s' hs => hs
  cases fl with
  | ret u =>
    obtain ⟨v, σ', H', J, rv, q⟩ := hs
    exact ⟨v, H', J.os, J.bare, J.base, J.hok, rv, q⟩
  | next =>
    obtain ⟨σ', H', J, q⟩ := hs
    exact ⟨.non, H', J.os, J.bare, J.base, J.hok, rfl, q⟩
  | brk => exact hs.elim fun _ z => z.elim fun _ z => z.2.elim
  | cont => exact hs.elim fun _ z => z.elim fun _ z => z.2.elim

section
variable {X : Cx} {W : WX} {sg : L2.St} {mu : List Addr} {H : Hp} {s : S} {env : Env}
/-- what a run promises -/
def spOf (K : PySem.W.Frag) (mg : Str → Option Value) (n : Nat) (c : List D → S → R D) : Sp := fun vs H Q E => ∃ mu s xs, vs.length = n ∧ SM K mu H s ∧ Reps K mu H vs xs ∧
  match c xs s with
  | .ok d s' => ∀ v H' mu', Ext K mu H mu' H' → SM K mu' H' s' → Rep K mu' H' v d → Q v H'
  | .ex cl fs s' => ∀ cls dd H' mu', Ext K mu H mu' H' → SM K mu' H' s' → (∃ C d fv, mg cl = some (.ref C) ∧ cls = .ref C ∧ dd = some d ∧ H' d = some (.xd fv) ∧ xfRep K mu' H' fv fs) → E cls dd H'
  | .no => False
/-- the callee runs -/
theorem run_G {k : Nat} {f : Addr} {fd : FuncData} {ps : List Str} {c : List D → S → R D} (G : FnG X.prog X.w X.K X.mg X.base k f fd ps (spOf X.K X.mg ps.length c)) (hr : Room k X.A) (hg : X.A.guards = some []) (tk : Takes X W)
    {pins : List (Addr × Obj)} {σ : L2.St} {st : Shared} {Q : VK} {us zs : List Value} {ks : List Str} {ws : List Value} {vs : List V} {xs : List D} (I : Inv X pins σ H st) (hb : BindsTo st fd ⟨us, ks.zip ws⟩ (ps.zip zs)) (hl : vs.length = ps.length) (r : Vals vs zs)
    (m : SM X.K mu H s) (rx : Reps X.K mu H vs xs) (p : Pt X W σ mu H (Rep X.K) (c xs s) Q) : wpAny (model X.prog X.w) X.A (call (.ref f) us (ks.zip ws)) (EP X pins σ Q) X.xe st := by
  have wish : spOf X.K X.mg ps.length c vs H Q (fun cls d H' => W cls d σ H') := by
    refine ⟨mu, s, xs, hl, m, rx, ?_⟩
    cases q : c xs s with
    | ok d s' => rw [q] at p; exact p
    | ex cl fs s' => rw [q] at p; exact p
    | no => rw [q] at p; exact p
  refine wpAny_call (codeAny_mono (G.run X.A X.stack st H ⟨us, ks.zip ws⟩ zs vs Q (fun cls d H' => W cls d σ H') hr hg I.env0 hb r wish) fun res s' hq => ?_)
  cases res with
  | error e => exact tk e s' (XE.of_call I (fun cls d H' z => z) hq)
  | ok fl =>
    cases fl with
    | ret u => exact I.after hq
    | next => exact hq.elim
    | brk => exact hq.elim
    | cont => exact hq.elim
/-- what is known of a def that is called -/
structure Callee (X : Cx) (T : Tb) (callee : Nat → List D → S → R D) (k : Nat) (x : Str) (f : Nat) : Prop where
  ex : ∃ (fa : Addr) (fdat : FuncData) (fd : Fd) (its : List Value) (dvs : List V), T[f]? = some fd ∧ X.mg x = some (.ref fa) ∧ PySem.W.keepIn X.K (.ref fa) = true ∧ FnG X.prog X.w X.K X.mg X.base k fa fdat fd.ps (spOf X.K X.mg fd.ps.length (callee f)) ∧
    PlainP fdat fd.ps ∧ fd.ps.Nodup ∧ its.length ≤ fd.ps.length ∧ (∀ h M, X.K.In h → ∃ o, PySem.W.Looks M h (seqItems? fdat.defaults) o ∧ (o.getD #[]).toList = its) ∧ Vals dvs its ∧ ∀ mu H, Reps X.K mu H dvs fd.dfl
/-- a value, what stands for it in the machine, in the small machine -/
def Tri (K : PySem.W.Frag) (mu : List Addr) (H : Hp) (d : D) (p : V × Value) : Prop := Rep K mu H p.1 d ∧ RelV p.1 p.2
theorem tri_of {K : PySem.W.Frag} {mu : List Addr} {H : Hp} : ∀ {xs : List D} {vs : List V} {us : List Value}, Reps K mu H vs xs → Vals vs us → Paired (Tri K mu H) xs (vs.zip us)
  | _, _, _, .nil, .nil => .nil
  | _, _, _, .cons a b, .cons c d => .cons ⟨a, c⟩ (tri_of b d)
theorem of_tri {K : PySem.W.Frag} {mu : List Addr} {H : Hp} : ∀ {xs : List D} {ps : List (V × Value)}, Paired (Tri K mu H) xs ps → Reps K mu H (ps.map (·.1)) xs ∧ Vals (ps.map (·.1)) (ps.map (·.2))
  | _, _, .nil => ⟨.nil, .nil⟩
  | _, _, .cons a b => ⟨.cons a.1 (of_tri b).1, .cons a.2 (of_tri b).2⟩
theorem paired_snd {vs : List V} : ∀ {us : List Value}, vs.length = us.length → Paired (fun (p : V × Value) (u : Value) => p.2 = u) (vs.zip us) us := by
  induction vs with
  | nil =>
    intro us h
    cases us with
    | nil => exact .nil
    | cons _ _ => cases h
  | cons v vs ih =>
    intro us h
    cases us with
    | nil => cases h
    | cons u us => exact .cons rfl (ih (Nat.succ.inj h))
theorem of_snd : ∀ {ps : List (V × Value)} {zs : List Value}, Paired (fun (p : V × Value) (u : Value) => p.2 = u) ps zs → ps.map (·.2) = zs
  | _, _, .nil => rfl
  | _, _, .cons a b => by rw [List.map_cons, a, of_snd b]
theorem call_core {T : Tb} {callee : Nat → List D → S → R D} {k f : Nat} {x : Str} {fa : Addr} (C : Callee X T callee k x f) (hm : X.mg x = some (.ref fa)) (hr : Room k X.A) (hg : X.A.guards = some []) (tk : Takes X W)
    {pins : List (Addr × Obj)} {σ : L2.St} {st : Shared} {Q : VK} {us ws : List Value} {ks : List Str} {vs vw : List V} {xs ys : List D} (I : Inv X pins σ H st) (r1 : Vals vs us) (r2 : Vals vw ws)
    (m : SM X.K mu H s) (rx : Reps X.K mu H vs xs) (ry : Reps X.K mu H vw ys) (p : Pt X W σ mu H (Rep X.K) (callD T callee f xs ks ys s) Q) : wpAny (model X.prog X.w) X.A (call (.ref fa) us (ks.zip ws)) (EP X pins σ Q) X.xe st := by
  obtain ⟨fa', fdat, fd, its, dvs, hT, hm', hk, G, PP, nd, hi, hd, rd1, rd2⟩ := C.ex
  rw [hm] at hm'
  cases hm'
  unfold callD at p
  rw [hT] at p
  dsimp only at p
  split at p
  · rename_i zs hz
    have main : ∀ {ks' : List Str} {ws' : List Value} {vw' : List V} {ys' : List D}, ks'.zip ws' = ks.zip ws → Vals vw' ws' → Reps X.K mu H vw' ys' → bindG fd.ps fd.dfl xs ks' ys' = some zs → wpAny (model X.prog X.w) X.A (call (.ref fa) us (ks.zip ws)) (EP X pins σ Q) X.xe st := fun {ks' ws' vw' ys'} e1 r2' ry' hb => by
      obtain ⟨pz, e2, p2⟩ := bindG_rel (tri_of (rd2 mu H) rd1) (tri_of rx r1) (tri_of ry' r2') hb
      obtain ⟨zu, e3, p3⟩ := bindG_rel (paired_snd rd1.length) (paired_snd r1.length) (paired_snd r2'.length) e2
      obtain ⟨q1, q2⟩ := of_tri p2
      rw [of_snd p3] at q2
      obtain ⟨b1, b2⟩ := binds_ok (s := st) PP nd (fun M => hd st.heap M I.kIn) hi e3
      rw [e1] at b1
      exact run_G G hr hg tk I b1 (by rw [q2.length]; exact b2) q2 m q1 p
    unfold bindD at hz
    split at hz
    · split at hz
      · rename_i hl
        cases hz
        refine main (ks' := []) (ws' := []) (vw' := []) (ys' := []) rfl .nil .nil ?_
        unfold bindG
        have e0 : fd.ps.drop xs.length = [] := by rw [hl]; exact List.drop_length
        simp [hl, fillG]
      · exact main rfl r2 ry hz
    · exact main rfl r2 ry hz
  · exact p.elim
/-- keywords -/
theorem _root_.L2.PK.weak {kws : List Keyword} {t t' : TA} (h : PK X kws t) (w : ∀ sg H Q, t' sg H Q → t sg H Q) : PK X kws t' := ⟨fun pos pins s σ H Q I q => h.run pos pins s σ H Q I (w _ _ _ q)⟩
theorem sk_nil : PK X [] (tA X W fun _ s => .ok [] s) := pk_nil.weak fun sg H Q ⟨mu, env, s, em, sm, p⟩ => p.ok sm .nil
theorem sk_cons {nm : Option Str} {e : Expr} {kpos : Pos} {kws : List Keyword} {f : Env → S → R D} {fs : Env → S → R (List D)} (ha : PE X e (tE X W f)) (hr : PK X kws (tA X W fs)) :
    PK X (⟨nm, e, kpos⟩ :: kws) (tA X W fun env s => (f env s).bind fun x s1 => (fs env s1).bind fun xs s2 => .ok (x :: xs) s2) := by
  refine (pk_cons ha hr).weak fun sg H Q ⟨mu, env, s, em, sm, p⟩ => ?_
  refine ⟨mu, env, s, em, sm, (Pt.bind (rp := Rep X.K) p).mono fun v H1 ⟨mu1, s1, x, _, e1, m1, r1, p1⟩ => ?_⟩
  refine ⟨mu1, env, s1, em.mono e1.toGrow, m1, (Pt.bind (rp := Reps X.K) p1).mono fun vs H2 ⟨mu2, s2, xs, _, e2, m2, r2, p2⟩ => ?_⟩
  exact p2.ok m2 (.cons (r1.mono e2.toGrow) r2)
theorem se_call {T : Tb} {callee : Nat → List D → S → R D} {k f : Nat} {x : Str} {p pos : Pos} {es : List Expr} {kws : List Keyword} {ks : List Str} {fs gs : Env → S → R (List D)} (C : Callee X T callee k x f) (hr : Room k X.A) (hg : X.A.guards = some []) (tk : Takes X W)
    (hG : Gl X x) (hdb : (x == ("__debug__" : Str)) = false) (ha : PA X es (tA X W fs)) (hkw : PK X kws (tA X W gs)) (h0 : es = [] → ∀ env s, fs env s = .ok [] s) (h1 : kws = [] → ks = [] ∧ ∀ env s, gs env s = .ok [] s)
    (he : ∀ e r, es = e :: r → starEach (e :: r) X.env = (false, eval e X.env) :: starEach r X.env) (hpl : (backTo pos (starEach es X.env)).any (·.1) = false)
    (hall : (backToKw pos (keywordEach kws X.env)).all (·.1.isSome) = true) (hks : (backToKw pos (keywordEach kws X.env)).filterMap (·.1) = ks) (hnn : (backToKw pos (keywordEach kws X.env)).any (·.1.isNone) = false) :
    PE X (.Call (.Name x p) es kws pos) (tE X W fun env s => (fs env s).bind fun xs s1 => (gs env s1).bind fun ys s2 => callD T callee f xs ks ys s2) := by
  refine ⟨fun pins st σ H Q I ⟨mu, env, s, em, sm, q⟩ => ?_⟩
  obtain ⟨fa, fdat, fd, its, dvs, hT, hm, hk, _⟩ := C.ex
  refine wpAny_Call_Name_kw (ld_glob I hG hm ?_ hdb)
  cases es with
  | nil =>
    dsimp only at q
    rw [h0 rfl] at q
    have q : Pt X W σ mu H (Rep X.K) ((gs env s).bind fun ys s2 => callD T callee f [] ks ys s2) Q := q
    cases kws with
    | nil =>
      obtain ⟨e1, e2⟩ := h1 rfl
      subst e1
      rw [e2] at q
      exact PySem.W.callWith_K0 I.kIn hk (call_core (us := []) (ws := []) (ks := []) C hm hr hg tk I .nil .nil sm .nil .nil q)
    | cons kw kws =>
      refine PySem.W.callWith_KW0 (h₀ := X.base) I.ok.mod.kin hk hall (thn (hkw.run pos pins st σ H _ I ⟨mu, env, s, em, sm, Pt.bind (rp := Reps X.K) q⟩) fun ws s2 ⟨vw, H2, I2, rz, mu2, s2', ys, _, e2, m2, r2, p2⟩ => ⟨I2.kIn, ?_⟩) (by rw [hnn]; rfl)
      rw [hks]
      exact call_core (us := []) C hm hr hg tk I2 .nil rz m2 .nil r2 p2
  | cons e es =>
    cases kws with
    | nil =>
      obtain ⟨e1, e2⟩ := h1 rfl
      subst e1
      have hpl' : (backTo pos (starEach es X.env)).any (·.1) = false := by
        rw [he e es rfl] at hpl
        have : (false || (backTo pos (starEach es X.env)).any (·.1)) = false := hpl
        simpa using this
      refine PySem.W.callWith_K (h₀ := X.base) I.ok.mod.kin hk (thn (ha.run pos pins st σ H _ I ⟨mu, env, s, em, sm, Pt.bind (rp := Reps X.K) q⟩) fun us s1 ⟨vs, H1, I1, r, mu1, s1', xs, _, e1, m1, r1, p1⟩ => ⟨I1.kIn, ?_⟩) (he e es rfl) hpl'
      rw [e2] at p1
      exact call_core (ws := []) (ks := []) C hm hr hg tk I1 r .nil m1 r1 .nil p1
    | cons kw kws =>
      refine PySem.W.callWith_KW (h₀ := X.base) I.ok.mod.kin hk hall (thn (ha.run pos pins st σ H _ I ⟨mu, env, s, em, sm, Pt.bind (rp := Reps X.K) q⟩) fun us s1 ⟨vs, H1, I1, r, mu1, s1', xs, _, e1, m1, r1, p1⟩ => ?_) (by rw [hpl, hnn]; rfl) (he e es rfl)
      refine thn (hkw.run pos pins s1 σ H1 _ I1 ⟨mu1, env, s1', em.mono e1.toGrow, m1, Pt.bind (rp := Reps X.K) p1⟩) fun ws s2 ⟨vw, H2, I2, rz, mu2, s2', ys, _, e2, m2, r2, p2⟩ => ⟨I2.kIn, ?_⟩
      rw [hks]
      exact call_core C hm hr hg tk I2 r rz m2 (r1.mono e2.toGrow) r2 p2
end
end Wk

/-! Wk9: targets, statements. -/
namespace Wk
open PySem L2 PyProof.Rows
/-- alike but at these slots -/
def Same (ix : List Nat) (sg sg' : L2.St) : Prop := sg'.length = sg.length ∧ ∀ i, i ∉ ix → sg'[i]? = sg[i]?
section
variable (X : Cx) (W : WX)
def tG (t : Tg) : TG := fun v sg H Q => ∃ mu env d, EM X.K mu H sg env ∧ Rep X.K mu H v d ∧ match asgT t d env with
  | some e1 => ∀ sg', EM X.K mu H sg' e1 → Same (ixT t) sg sg' → Q sg' H
  | none => False
def tGs (ts : List Tg) : TGs := fun vs sg H Q => ∃ mu env ds, EM X.K mu H sg env ∧ Reps X.K mu H vs ds ∧ match asgTs ts ds env with
  | some e1 => ∀ sg', EM X.K mu H sg' e1 → Same (ixTs ts) sg sg' → Q sg' H
  | none => False
def PtS (mu : List Addr) (H : Hp) (r : RS) (D : Ends) : Prop :=
  match r with
  | .nx e s => ∀ sg' H' mu', Ext X.K mu H mu' H' → SM X.K mu' H' s → EM X.K mu' H' sg' e → D.nx sg' H'
  | .ret d s => ∀ v H' mu', Ext X.K mu H mu' H' → SM X.K mu' H' s → Rep X.K mu' H' v d → D.rt v H'
  | .bk e s => ∀ sg' H' mu', Ext X.K mu H mu' H' → SM X.K mu' H' s → EM X.K mu' H' sg' e → D.bk sg' H'
  | .ct e s => ∀ sg' H' mu', Ext X.K mu H mu' H' → SM X.K mu' H' s → EM X.K mu' H' sg' e → D.ct sg' H'
  | .ex c fs e s => ∀ cls dd sg' H' mu', Ext X.K mu H mu' H' → SM X.K mu' H' s → EM X.K mu' H' sg' e → XRep X mu' H' c fs cls dd → W cls dd sg' H'
  | .no => False
def tS (f : Env → S → RS) : TS := fun D sg H => ∃ mu env s, EM X.K mu H sg env ∧ SM X.K mu H s ∧ PtS X W mu H (f env s) D
end
section
variable {X : Cx} {W : WX} {sg : L2.St} {mu : List Addr} {H : Hp} {s : S} {env : Env} {pos : Pos}
/-! ### targets -/
theorem sg_nm {i : Nat} {x : Str} (hN : X.N.Nodup) (hi : X.N[i]? = some x) (hx : Loc X.env.scope x) (hf : X.fn x = true ∨ X.env.scope.names.lookup x = some .local) : PG X (.Name x pos) (tG X (.nm i)) := by
  have h := pg_name (pos := pos) hN hi hx hf
  refine ⟨fun pins s σ H v u Q I r ⟨mu, env, d, em, rp, q⟩ => h.run pins s σ H v u Q I r ?_⟩
  show Q (σ.set i (some v)) H
  unfold asgT at q
  split at q
  · rename_i e1 he
    split at he
    · cases he
      exact q _ (em.set rp i) ⟨List.length_set, fun j hj => List.getElem?_set_ne (fun z => hj (by simp [ixT, z]))⟩
    · cases he
  · exact q.elim
theorem asgTs_len : ∀ {ts : List Tg} {xs : List D} {e e1 : Env}, asgTs ts xs e = some e1 → xs.length = ts.length
  | [], [], _, _, _ => rfl
  | t :: ts, x :: xs, e, e1, h => by
    unfold asgTs at h
    split at h
    · exact congrArg Nat.succ (asgTs_len h)
    · cases h
  | [], _ :: _, _, _, h => by cases h
  | _ :: _, [], _, _, h => by cases h
theorem sgs_nil : PGs X [] (tGs X []) := by
  refine ⟨fun pins s σ H vs us Q I r ⟨mu, env, ds, em, rp, q⟩ => pgs_nil.run pins s σ H vs us Q I r ?_⟩
  cases rp with
  | nil => exact ⟨rfl, q _ em ⟨rfl, fun _ _ => rfl⟩⟩
  | cons _ _ => exact q.elim
theorem sgs_cons {e : Expr} {es : List Expr} {t : Tg} {ts : List Tg} (h1 : PG X e (tG X t)) (h2 : PGs X es (tGs X ts)) (hs : (assignEach (e :: es) X.env).map (·.2) = assign e X.env :: (assignEach es X.env).map (·.2)) : PGs X (e :: es) (tGs X (t :: ts)) := by
  have h := pgs_cons h1 h2 hs
  refine ⟨fun pins s σ H vs us Q I r ⟨mu, env, ds, em, rp, q⟩ => h.run pins s σ H vs us Q I r ?_⟩
  cases rp with
  | nil => exact q.elim
  | @cons v x vs xs a b =>
    refine ⟨v, vs, rfl, mu, env, x, em, a, ?_⟩
    unfold asgTs at q
    split at q
    · rename_i e1 he
      split at he
      · rename_i e2 h2
        try rw [h2]
        intro sg' em' sm'
        refine ⟨mu, e2, xs, em', b, ?_⟩
        rw [he]
        exact fun sg2 em2 sm2 => q sg2 em2 ⟨sm2.1.trans sm'.1, fun i hi => by
          simp only [ixTs, List.mem_append, not_or] at hi
          exact (sm2.2 i hi.2).trans (sm'.2 i hi.1)⟩
      · cases he
    · exact q.elim
theorem sg_tup {es : List Expr} {k : Nat} {ts : List Tg} (hc : X.calm = true) (h : PGs X es (tGs X ts)) (hl : (assignEach es X.env).length = ts.length) (hst : (assignEach es X.env).findIdx? (·.1) = none) : PG X (.Tuple es k pos) (tG X (.tup ts)) := by
  have g := pg_tup (pos := pos) (k := k) hc h hl hst
  refine ⟨fun pins s σ H v u Q I r ⟨mu, env, d, em, rp, q⟩ => g.run pins s σ H v u Q I r ?_⟩
  unfold asgT at q
  cases rp with
  | @tup a vs xs hq rs =>
    refine ⟨a, vs, rfl, hq, ?_, mu, env, xs, em, rs, q⟩
    dsimp only at q
    split at q
    · rename_i e1 he
      rw [rs.length, asgTs_len he]
    · exact q.elim
  | _ => exact q.elim

/-! ### statements -/
theorem PtS.shift {mu1 : List Addr} {H1 : Hp} {r : RS} {D : Ends} (e : Ext X.K mu H mu1 H1) (p : PtS X W mu H r D) : PtS X W mu1 H1 r D := by
  cases r with
  | nx _ _ => exact fun sg' H' mu' e' => p sg' H' mu' (e.trans e')
  | ret _ _ => exact fun sg' H' mu' e' => p sg' H' mu' (e.trans e')
  | bk _ _ => exact fun sg' H' mu' e' => p sg' H' mu' (e.trans e')
  | ct _ _ => exact fun sg' H' mu' e' => p sg' H' mu' (e.trans e')
  | ex _ _ _ _ => exact fun cls dd sg' H' mu' e' => p cls dd sg' H' mu' (e.trans e')
  | no => exact p
theorem thenS_ok {r : R D} {k : D → S → RS} {E : Ends} (em : EM X.K mu H sg env) (p : PtS X W mu H (thenS r env k) E) :
    Pt X W sg mu H (Rep X.K) r fun v H1 => ∃ mu1 s1 x, r = .ok x s1 ∧ Ext X.K mu H mu1 H1 ∧ SM X.K mu1 H1 s1 ∧ Rep X.K mu1 H1 v x ∧ PtS X W mu1 H1 (k x s1) E := by
  cases r with
  | ok x s1 => exact fun v H' mu' e m r' => ⟨mu', s1, x, rfl, e, m, r', PtS.shift (r := k x s1) e p⟩
  | ex c fs s1 => exact fun cls dd H' mu' e m x => p cls dd sg H' mu' e m (em.mono e.toGrow) x
  | no => exact p
theorem thenB_ok {r : R D} {k : Bool → S → RS} {E : Ends} (em : EM X.K mu H sg env) (p : PtS X W mu H (thenS r env fun x s1 => onBS x s1 (k true) (k false)) E) :
    Pt X W sg mu H rpI (asB r) fun b H1 => ∃ mu1 s1, r = .ok (.bl b) s1 ∧ Ext X.K mu H mu1 H1 ∧ SM X.K mu1 H1 s1 ∧ PtS X W mu1 H1 (k b s1) E := by
  cases r with
  | ok x s1 =>
    cases x with
    | bl b =>
      intro b' H' mu' e m r'
      cases (show b' = b from r')
      refine ⟨mu', s1, rfl, e, m, ?_⟩
      cases b with
      | true => exact PtS.shift (r := k true s1) e p
      | false => exact PtS.shift (r := k false s1) e p
    | _ => exact p
  | ex c fs s1 => exact fun cls dd H' mu' e m x => p cls dd sg H' mu' e m (em.mono e.toGrow) x
  | no => exact p
variable {e a b c o i : Expr} {f g h : Env → S → R D}
theorem ss_nx : ∀ {E : Ends}, tS X W (fun env s => .nx env s) E sg H → tNext E sg H := fun ⟨mu, env, s, em, sm, p⟩ => p _ _ _ .refl sm em
theorem ss_pass : PS X (.Pass pos) (tS X W fun env s => .nx env s) := ps_pass.weak fun D sg H q => ss_nx q
theorem ss_doc {x j pos pos'} : PS X (.Expr (.Constant (.str x) j pos) pos') (tS X W fun env s => .nx env s) := ps_doc.weak fun D sg H q => ss_nx q
theorem ss_brk : PS X (.Break pos) (tS X W fun env s => .bk env s) := ps_break.weak fun D sg H ⟨mu, env, s, em, sm, p⟩ => p _ _ _ .refl sm em
theorem ss_cnt : PS X (.Continue pos) (tS X W fun env s => .ct env s) := ps_continue.weak fun D sg H ⟨mu, env, s, em, sm, p⟩ => p _ _ _ .refl sm em
theorem ss_no {st : Stmt} : PS X st (tS X W fun env s => .no) := ps_never.weak fun D sg H ⟨mu, env, s, em, sm, p⟩ => p
theorem ss_expr (he : PE X e (tE X W f)) (hs : swapsWith e none pos.line X.env = pure false) : PS X (.Expr e pos) (tS X W fun env s => thenS (f env s) env fun _ s1 => .nx env s1) := by
  refine (ps_expr he hs).weak fun D sg H ⟨mu, env, s, em, sm, p⟩ => ?_
  exact ⟨mu, env, s, em, sm, (thenS_ok em p).mono fun v H1 ⟨mu1, s1, x, _, e1, m1, r1, p1⟩ => p1 _ _ _ .refl m1 (em.mono e1.toGrow)⟩
theorem ss_ret (he : PE X e (tE X W f)) : PS X (.Return (some e) pos) (tS X W fun env s => thenS (f env s) env fun d s1 => .ret d s1) := by
  refine (ps_ret he).weak fun D sg H ⟨mu, env, s, em, sm, p⟩ => ?_
  exact ⟨mu, env, s, em, sm, (thenS_ok em p).mono fun v H1 ⟨mu1, s1, x, _, e1, m1, r1, p1⟩ => p1 _ _ _ .refl m1 r1⟩
theorem ss_retN : PS X (.Return none pos) (tS X W fun _ s => .ret .non s) := ps_retN.weak fun D sg H ⟨mu, env, s, em, sm, p⟩ => p _ _ _ .refl sm .non
theorem ss_if {as bs : List Stmt} {fa fb : Env → S → RS} (hc : PT X c (tT X W f)) (ha : PSs X as (tS X W fa)) (hb : PSs X bs (tS X W fb)) :
    PS X (.If c as bs pos) (tS X W fun env s => thenS (f env s) env fun x s1 => onBS x s1 (fun s2 => fa env s2) fun s2 => fb env s2) := by
  refine (ps_if hc ha hb).weak fun D sg H ⟨mu, env, s, em, sm, p⟩ => ?_
  refine ⟨mu, env, s, em, sm, (thenB_ok (k := fun b s2 => match b with | true => fa env s2 | false => fb env s2) em p).mono fun b H1 ⟨mu1, s1, _, e1, m1, p1⟩ => ?_⟩
  cases b with
  | true => rw [if_pos rfl]; exact ⟨mu1, env, s1, em.mono e1.toGrow, m1, p1⟩
  | false => rw [if_neg Bool.false_ne_true]; exact ⟨mu1, env, s1, em.mono e1.toGrow, m1, p1⟩
/-- what a store wants -/
theorem nxO_ok {t : Tg} {v : V} {d : D} {E : Ends} (em : EM X.K mu H sg env) (sm : SM X.K mu H s) (r : Rep X.K mu H v d) (p : PtS X W mu H (nxO (asgT t d env) s) E) : tG X t v sg H E.nx := by
  refine ⟨mu, env, d, em, r, ?_⟩
  cases q : asgT t d env with
  | none => rw [q] at p; exact p
  | some e1 => rw [q] at p; exact fun sg' em' _ => p sg' H mu .refl sm em'
theorem ss_asg {tg : Expr} {t : Tg} (he : PE X e (tE X W f)) (hg : PG X tg (tG X t)) (hs : swapsWithSole [tg] e pos.line X.env = pure false) (hw : swappedStores [tg] e X.env = pure none) (h1 : (assignEach [tg] X.env).map (·.2) = [assign tg X.env]) :
    PS X (.Assign [tg] e pos) (tS X W fun env s => thenS (f env s) env fun d s1 => nxO (asgT t d env) s1) := by
  refine (ps_asg he hg hs hw h1).weak fun D sg H ⟨mu, env, s, em, sm, p⟩ => ?_
  exact ⟨mu, env, s, em, sm, (thenS_ok em p).mono fun v H1 ⟨mu1, s1, x, _, e1, m1, r1, p1⟩ => nxO_ok (em.mono e1.toGrow) m1 r1 p1⟩
/-- a list or a dict is set at a place -/
theorem pset_or {t u : TSet} (h1 : PSet X t) (h2 : PSet X u) : PSet X fun o i v H Q => t o i v H Q ∨ u o i v H Q := fun pins s σ H o i v ov iv uv Q I r1 r2 r3 h => h.elim (h1 pins s σ H o i v ov iv uv Q I r1 r2 r3) (h2 pins s σ H o i v ov iv uv Q I r1 r2 r3)
theorem putI_ok {x k d : D} {s1 : S} {vo vi v : V} (sm : SM X.K mu H s) (ro : Rep X.K mu H vo x) (ri : Rep X.K mu H vi k) (rv : Rep X.K mu H v d) (h : putI x k d s = some s1) {Q : Hp → Prop} (q : ∀ H', Ext X.K mu H mu H' → SM X.K mu H' s1 → Q H') :
    rSetL vo vi v H Q ∨ rSetD vo vi v H Q := by
  unfold putI at h
  split at h
  · rename_i n
    cases ro with
    | @ref l _ hl =>
      have hm : l ∈ mu := List.mem_of_getElem? hl
      split at h
      · rename_i kvs hk
        split at h
        · rename_i hc
          cases h
          simp only [Bool.and_eq_true, decide_eq_true_eq] at hc
          obtain ⟨kws, h1, r3⟩ := sm.ats n _ l hk hl
          obtain ⟨key, rfl, rfl⟩ := keyD_ok ri hc.1
          have ln : n < s.os.length := (List.getElem?_eq_some_iff.mp hk).1
          have ew := ext_write (o := .dK (putK kws key v)) sm hm
          refine .inr ⟨l, _, rfl, DPut.k h1 (by rw [r3.length]; exact sz1 hc.2), q _ ew (sm.write ln hl ⟨_, upd_same, kvRep.mono ew.toGrow (dPut_ok r3 rv)⟩ fun hlk => ?_)⟩
          have hk' : s.lk = false ∧ low 30 n d = true := by simpa using hlk
          refine ⟨hk'.1, ?_⟩
          have old := sm.lo hk'.1 n _ hk
          have lk : Low n (dKey key) := by cases key <;> constructor
          intro p hp
          unfold dPut at hp
          split at hp
          · obtain ⟨p0, h0, rfl⟩ := List.mem_map.mp hp
            split
            · exact ⟨(old p0 h0).1, low_ok hk'.2⟩
            · exact old p0 h0
          · rcases List.mem_append.mp hp with z | z
            · exact old p z
            · simp at z
              subst z
              exact ⟨lk, low_ok hk'.2⟩
        · cases h
      · rename_i xs hx
        split at h
        · rename_i j
          split at h
          · rename_i q0 hq0
            cases h
            cases ri with
            | int _ =>
              obtain ⟨vs, h1, r3⟩ := sm.ats n _ l hx hl
              have ln : n < s.os.length := (List.getElem?_eq_some_iff.mp hx).1
              have ew := ext_write (o := .lst (vs.set q0 v)) sm hm
              refine .inl ⟨l, vs, j, q0, rfl, rfl, h1, by rw [r3.length]; exact hq0, q _ ew (sm.write ln hl ⟨_, upd_same, (r3.set rv q0).mono ew.toGrow⟩ fun hlk => ?_)⟩
              have hk' : s.lk = false ∧ low 30 n d = true := by simpa using hlk
              refine ⟨hk'.1, lows_of fun x hx' => ?_⟩
              have old := sm.lo hk'.1 n _ hx
              rcases List.mem_or_eq_of_mem_set hx' with z | z
              · exact old.mem x z
              · rw [z]; exact low_ok hk'.2
          · cases h
        · cases h
      · cases h
  · cases h
theorem ss_setI {pos' : Pos} (hu : X.A.units + 1 < cLine) (ho : PE X o (tE X W f)) (hi : PE X i (tE X W g)) (hv : PE X e (tE X W h)) (hs : swapsWithSole [.Subscript o i pos'] e pos.line X.env = pure false) (hw : swappedStores [.Subscript o i pos'] e X.env = pure none)
    (ha : ∀ v, assign (.Subscript o i pos') X.env v = (do
      let ov ← holding [v] (eval o X.env)
      let iv ← holding [v, ov] (eval i X.env)
      standAt pos'
      holding [v, ov, iv] (setItem ov iv v)
      release [v, ov, iv] [])) :
    PS X (.Assign [.Subscript o i pos'] e pos) (tS X W fun env s => thenS (h env s) env fun d s1 => thenS (f env s1) env fun x s2 => thenS (g env s2) env fun k s3 => nxS env (putI x k d s3)) := by
  refine (ps_asg hv (pg_sub ho hi (pset_or set_list (set_dict hu)) ha) hs hw rfl).weak fun D sg H ⟨mu, env, s, em, sm, p⟩ => ?_
  refine ⟨mu, env, s, em, sm, (thenS_ok em p).mono fun v H1 ⟨mu1, s1, x, _, e1, m1, r1, p1⟩ => ?_⟩
  refine ⟨mu1, env, s1, em.mono e1.toGrow, m1, (thenS_ok (em.mono e1.toGrow) p1).mono fun vo H2 ⟨mu2, s2, xo, _, e2, m2, r2, p2⟩ => ?_⟩
  refine ⟨mu2, env, s2, em.mono (e1.trans e2).toGrow, m2, (thenS_ok (em.mono (e1.trans e2).toGrow) p2).mono fun vi H3 ⟨mu3, s3, xi, _, e3, m3, r3, p3⟩ => ?_⟩
  cases q : putI xo xi x s3 with
  | none => rw [q] at p3; exact p3.elim
  | some s4 =>
    rw [q] at p3
    refine putI_ok m3 (r2.mono e3.toGrow) r3 (r1.mono (e2.trans e3).toGrow) q fun H' e4 m4 => ?_
    exact p3 _ _ _ e4 m4 (em.mono (((e1.trans e2).trans e3).trans e4).toGrow)
/-! ### blocks -/
theorem sss_nil {F : Sm → Env → S → RS} : PSs X [] (tS X W (Wk.execs F [])) := pss_nil.weak fun D sg H q => ss_nx q
theorem sss_cons {st : Stmt} {rest : List Stmt} {F : Sm → Env → S → RS} {m : Sm} {ms : List Sm} (h1 : PS X st (tS X W (F m))) (h2 : PSs X rest (tS X W (Wk.execs F ms))) : PSs X (st :: rest) (tS X W (Wk.execs F (m :: ms))) := by
  refine (pss_cons h1 h2).weak fun D sg H ⟨mu, env, s, em, sm, p⟩ => ?_
  refine ⟨mu, env, s, em, sm, ?_⟩
  have p : PtS X W mu H (match F m env s with
    | .nx e1 s1 => Wk.execs F ms e1 s1
    | q => q) D := p
  cases q : F m env s with
  | nx e1 s1 =>
    rw [q] at p
    exact fun sg' H' mu' e m' em' => ⟨mu', e1, s1, em', m', PtS.shift (r := Wk.execs F ms e1 s1) e p⟩
  | ret _ _ => rw [q] at p; exact p
  | bk _ _ => rw [q] at p; exact p
  | ct _ _ => rw [q] at p; exact p
  | ex _ _ _ _ => rw [q] at p; exact p
  | no => rw [q] at p; exact p
/-! ### while -/
theorem ss_while {body : List Stmt} {n : Nat} {fc : Nat → Env → S → R D} {fb fw : Nat → Env → S → RS} (hp : PassesOwn (model X.prog X.w) X.A X.env X.xe) (hc : ∀ m, m < n → PT X c (tT X W (fc m))) (hb : ∀ m, m < n → PSs X body (tS X W (fb m)))
    (h0 : ∀ env s, fw 0 env s = .no) (hw : ∀ m env s, fw (m + 1) env s = thenS (fc m env s) env fun x s1 => onBS x s1 (fun s2 => whlS (fb m env s2) fun e3 s3 => fw m e3 s3) fun s2 => .nx env s2) :
    PS X (.While c body [] pos) (tS X W (fw n)) := by
  have hc' : PT X c (fun sg H Q => ∃ m, m < n ∧ tT X W (fc m) sg H Q) := ⟨fun pins s σ H Q I ⟨m, hm, q⟩ => (hc m hm).run pins s σ H Q I q⟩
  have hb' : PSs X body (fun D sg H => ∃ m, m < n ∧ tS X W (fb m) D sg H) := ⟨fun pins s σ H D I ⟨m, hm, q⟩ => (hb m hm).run pins s σ H D I q⟩
  refine (ps_while hp hc' hb').weak fun D sg H ⟨mu, env, s, em, sm, p⟩ => ?_
  refine ⟨fun m sg H => m ≤ n ∧ tS X W (fw m) D sg H, ⟨n, Nat.le_refl _, mu, env, s, em, sm, p⟩, fun m sg H ⟨hm, mu, env, s, em, sm, p⟩ => ?_⟩
  cases m with
  | zero => rw [h0] at p; exact p.elim
  | succ m =>
    rw [hw] at p
    refine ⟨m, hm, mu, env, s, em, sm, (thenB_ok (k := fun b s2 => match b with | true => whlS (fb m env s2) (fun e3 s3 => fw m e3 s3) | false => .nx env s2) em p).mono fun b H1 ⟨mu1, s1, _, e1, m1, p1⟩ => ?_⟩
    cases b with
    | false =>
      rw [if_neg Bool.false_ne_true]
      exact p1 _ _ _ .refl m1 (em.mono e1.toGrow)
    | true =>
      rw [if_pos rfl]
      refine ⟨fun sg' H' => tS X W (fw m) D sg' H', fun sg' H' q => ⟨m, Nat.lt_succ_self _, by omega, q⟩, m, hm, mu1, env, s1, em.mono e1.toGrow, m1, ?_⟩
      have p1 : PtS X W mu1 H1 (whlS (fb m env s1) fun e3 s3 => fw m e3 s3) D := p1
      cases q : fb m env s1 with
      | nx e2 s2 => rw [q] at p1; exact fun sg' H' mu' e m' em' => ⟨mu', e2, s2, em', m', PtS.shift (r := fw m e2 s2) e p1⟩
      | ct e2 s2 => rw [q] at p1; exact fun sg' H' mu' e m' em' => ⟨mu', e2, s2, em', m', PtS.shift (r := fw m e2 s2) e p1⟩
      | bk e2 s2 => rw [q] at p1; exact p1
      | ret _ _ => rw [q] at p1; exact p1
      | ex _ _ _ _ => rw [q] at p1; exact p1
      | no => rw [q] at p1; exact p1
end
end Wk

/-! Wk10: walks, for. -/
namespace Wk
open PySem L2 PyProof.Rows
/-! ### enumerate(tuple) -/
section
open AutoSeq1 (wpAny_loadPart')
theorem enumT_new (ta : Addr) (zs : Array Value) :
    Meets (Builtin.«enumerate.__new__» ⟨[.type "enumerate", .ref ta], []⟩) (fun _ R s => s.heap.IsTuple ta zs ∧
      R (.ok (.ret (.ref (s.heap.push { cls := .type "tuple_iterator", data := .fields #[.ref ta, .int 0 0] }).objs.size)))
        { s with heap := (s.heap.push { cls := .type "tuple_iterator", data := .fields #[.ref ta, .int 0 0] }).push { cls := .type "enumerate", data := .fields #[.none, .bool false, .ref s.heap.objs.size, rawInt 0, .none, .none] } }) :=
  .of_wp fun prog w A R s0 ⟨hT, hR⟩ => by
    obtain ⟨hp, g, d, tk, os⟩ := s0
    have hsb := sub_enumerate
    obtain ⟨ot, hot, hct, nt, hdt⟩ := id hT
    wp_walk using wpAny_loadPart' hot
    refine wpAny_stack_any fun sk => wpAny_pure ?_
    split
    · rename_i cc _ _ _ _ _
      cases (cc == Value.type "enumerate")
      · wp_walk using wpAny_loadPart' hot, wpAny_pyIter_tuple hT
        exact ⟨_, rfl, hR⟩
      · wp_walk using wpAny_loadPart' hot, wpAny_pyIter_tuple hT
        exact ⟨_, rfl, hR⟩
    · wp_walk using wpAny_loadPart' hot, wpAny_pyIter_tuple hT
      exact ⟨_, rfl, hR⟩
theorem enumT_call {prog : Program} {w : World} {A : Around} {E : Value → Shared → Prop} {s : Shared} {ta : Addr} {zs : Array Value} {Q : Value → Shared → Prop} (hT : s.heap.IsTuple ta zs)
    (h : ∀ h', IsEnum h' (s.heap.objs.size + 1) s.heap.objs.size 0 .none → h'.IsTupleIter s.heap.objs.size ta 0 → (∀ b o, s.heap.get? b = some o → h'.get? b = some o) → Q (.ref (s.heap.objs.size + 1)) { s with heap := h' }) :
    wpAny (model prog w) A (call (.type "enumerate") [.ref ta]) Q E s := by
  refine callType_new F.called_enumerate (by decide) (F.typeCall_enumerate_1 _) (F.newCall_enumerate_1 _) (fun ob => F.args_object_init_2 ob _) F.entry_enumerate_new (enumT_new ta zs) ⟨hT, ?_⟩
  have hz : (s.heap.push { cls := .type "tuple_iterator", data := .fields #[.ref ta, .int 0 0] }).objs.size = s.heap.objs.size + 1 := Heap.size_push ..
  show _ ∧ _
  rw [hz]
  have he : IsEnum ((s.heap.push { cls := .type "tuple_iterator", data := .fields #[.ref ta, .int 0 0] }).push { cls := .type "enumerate", data := .fields #[.none, .bool false, .ref s.heap.objs.size, rawInt 0, .none, .none] }) (s.heap.objs.size + 1) s.heap.objs.size 0 .none := by
    have q := Heap.get?_push_size (s.heap.push { cls := .type "tuple_iterator", data := .fields #[.ref ta, .int 0 0] }) (o := { cls := .type "enumerate", data := .fields #[.none, .bool false, .ref s.heap.objs.size, rawInt 0, .none, .none] }) rfl
    rw [hz] at q
    exact q
  exact ⟨⟨_, he, rfl⟩, h _ he ⟨_, Heap.get?_push_of_some _ (Heap.get?_push_size _ rfl), rfl, rfl⟩ fun b o x => Heap.get?_push_of_some _ (Heap.get?_push_of_some _ x)⟩
end
/-- the tuple at a, each item in a new pair -/
def IteT (K : PySem.W.Frag) (a : Addr) : It :=
  ⟨fun i H => ∃ (xs : List V) (x : V), SqT K H a xs ∧ xs[i]? = some x, fun i H v H' => ∃ T x, v = .ref T ∧ H T = none ∧ H' = upd H T (.tup [.int (i : Nat), x]) ∧ ∀ xs, SqT K H a xs → xs[i]? = some x, fun i H => ∃ xs : List V, SqT K H a xs ∧ xs.length = i⟩
theorem enumT_turn {P : Program} {w : World} {K : PySem.W.Frag} {elts : List Expr} {kk : Nat} {tpos : Pos} (a e it : Addr) :
    Turn P w K (.Tuple elts kk tpos) (IteT K a) [e, it] e (fun i h => (∃ old, IsEnum h e it ((i : Nat) : Int) old) ∧ h.IsTupleIter it a i ∧ e ≠ it ∧ a ≠ it ∧ a ≠ e) where
  mem := by simp
  obj := fun i h st b hb => by
    obtain ⟨⟨old, he⟩, ⟨o, ho, hc, hd⟩, _⟩ := st
    rcases (show b = e ∨ b = it by simpa using hb) with z | z
    · rw [z]; exact ⟨_, he, fun v q => nomatch q⟩
    · rw [z]; exact ⟨o, ho, fun v q => by rw [hd] at q; cases q⟩
  keep := fun i h h' st k => let ⟨⟨old, he⟩, hi, ne⟩ := st; ⟨⟨old, k e (by simp) _ he⟩, hi.at fun o q => k it (by simp) o q, ne⟩
  item := by
    intro X hP hw hK hc i pins s σ H E I hf st hg
    subst hP hw hK
    obtain ⟨⟨old, he⟩, hit, ne1, ne2, ne3⟩ := st
    obtain ⟨xs, x, hq, hx⟩ := hg
    obtain ⟨its, rv, pt, _⟩ := I.tuple hq
    obtain ⟨u0, hu, ru⟩ := rv.get hx
    have hel : e < s.heap.objs.size := Heap.lt_size he
    have hil : it < s.heap.objs.size := by obtain ⟨_, q, _⟩ := hit; exact Heap.lt_size q
    have hlt : i < its.toArray.size := by
      have := (List.getElem?_eq_some_iff.mp hu).1
      simpa using this
    have pt' : s.heap.IsTuple a its.toArray := pt
    refine wpAny_pyNext_enum_itemD (Draws.tuple (show X.A.in1.handled = none from I.ok.hd hc) it a ne2 its.toArray) he ⟨hit, pt'⟩ hlt ne1 (by simp [ne1, Ne.symm ne3]) fun u h' tk hPx ho hst' hT hsz hk => ?_
    have eu : u = u0 := by
      have h2 : its[i]? = some u := by simpa using hPx
      rw [hu] at h2; cases h2; rfl
    subst eu
    refine ⟨_, rfl, wpAny_letOwnedTupleGo_enum (s := { s with heap := h', toks := tk + 1 }) ho fun h'' he' sb => ?_⟩
    have hT2 : h''.get? s.heap.objs.size = some { cls := .type "tuple", data := .seq #[.int i tk, u] } := (sb.2 _ (Nat.ne_of_gt hel)).trans hT
    have nw : ObjOk X.prog X.w (upd H s.heap.objs.size (.tup [.int (i : Nat), x])) h'' s.heap.objs.size (.tup [.int (i : Nat), x]) :=
      ⟨by show 2 ≤ sizeLine; decide, [.int i tk, u], .cons ⟨_, rfl⟩ (.cons ru .nil), ⟨_, hT2, rfl, _, rfl⟩⟩
    have I1 : Inv X pins σ (upd H s.heap.objs.size (.tup [.int (i : Nat), x])) { s with heap := h'', toks := tk + 1 } :=
      I.turnedNew (ch := [e, it]) (fun b ob hb q => (sb.2 b (fun z => hb (by simp [z]))).trans (hk b ob (fun z => hb (by simp [z])) (fun z => hb (by simp [z])) q)) hf (Nat.le_refl _) nw
    refine ⟨.ref s.heap.objs.size, _, I1, rfl, ⟨_, x, rfl, I.hok.fresh (Nat.le_refl _), rfl, fun ys hy => by rw [I.tuple_inj hy hq]; exact hx⟩, ⟨⟨u, ?_⟩, hst'.1.at fun o q => (sb.2 it (Ne.symm ne1)).trans q, ne1, ne2, ne3⟩, fun b hb => ?_⟩
    · rw [show ((i + 1 : Nat) : Int) = (i : Int) + 1 by omega]
      exact he'
    · have hb' : b < s.heap.objs.size := by
        rcases (show b = e ∨ b = it by simpa using hb) with z | z
        · rw [z]; exact hel
        · rw [z]; exact hil
      rw [upd_ne (Nat.ne_of_lt hb')]
      exact (hf b hb).1
  done := by
    intro X hP hw hK hc i pins s σ H E I hf st hg
    subst hP hw hK
    obtain ⟨⟨old, he⟩, hit, ne1, ne2, ne3⟩ := st
    obtain ⟨xs, hq, hx⟩ := hg
    obtain ⟨its, rv, pt, _⟩ := I.tuple hq
    obtain ⟨f0, f1, f2, f3, f4, f5⟩ := hf it (by simp)
    have hl := rv.length
    have pt' : s.heap.IsTuple a its.toArray := pt
    have hi : its.toArray.size = i := by simp; omega
    subst hi
    exact wpAny_pyNext_enum_endD (Draws.tuple (show X.A.in1.handled = none from I.ok.hd hc) it a ne2 its.toArray) he ⟨hit, pt'⟩ fun h' eb => ⟨rfl, I.turned (t' := s.toks) (fun b o hb q => eb b o hb q) f0 f1 f3 f4 f5⟩
  self := fun A i s Q E st h => let ⟨⟨_, he⟩, _⟩ := st; wpAny_pyIter_enum he h
/-- enumerate of a list or a tuple -/
def iEnumT (K : PySem.W.Frag) (ta : TA) : TI := fun σ H R => ta σ H fun vs H1 => ∃ a xs, vs = [.ref a] ∧ SqT K H1 a xs ∧ R (IteT K a) H1
theorem pi_enumT {X : Cx} {e : Expr} {ta : TA} {p pos tpos : Pos} {elts : List Expr} {kk : Nat} (hg : Gl X "enumerate") (hm : X.mg "enumerate" = none) (ha : PA X [e] ta) (hs : starEach [e] X.env = [(false, eval e X.env)]) :
    PI X (.Tuple elts kk tpos) (.Call (.Name "enumerate" p) [e] [] pos) (iEnumT X.K ta) := by
  refine ⟨fun pins s σ H R I h => ?_⟩
  refine Call_ (ld_blt I hg hm boot_enumerate (PyProof.Rows.callWith_type1 (thn (ha.run pos pins s σ H _ I h) fun us s1 ⟨vs, H1, I1, r1, q1⟩ => ?_) hs rfl))
  obtain ⟨a, xs, ex, hq, q⟩ := q1
  subst ex
  cases r1 with
  | cons r rr =>
    cases rr
    cases r
    obtain ⟨its, rv, pt, _⟩ := I1.tuple hq
    have pt' : s1.heap.IsTuple a its.toArray := pt
    have al : a < s1.heap.objs.size := by obtain ⟨o, ho, _⟩ := pt'; exact Heap.lt_size ho
    refine enumT_call pt' fun h' he hit hk => wpAny_pyIter_enum he ?_
    have I2 : Inv X pins σ H1 { s1 with heap := h' } := I1.kept (t' := s1.toks) hk
    refine ⟨s1.heap.objs.size + 1, [s1.heap.objs.size + 1, s1.heap.objs.size], _, _, H1, rfl, I2, enumT_turn a (s1.heap.objs.size + 1) s1.heap.objs.size, ⟨⟨.none, he⟩, hit, Nat.succ_ne_self _, Nat.ne_of_lt al, Nat.ne_of_lt (Nat.lt_succ_of_lt al)⟩, fun b hb => ?_, q⟩
    have hle : s1.heap.objs.size ≤ b := by
      rcases (show b = s1.heap.objs.size + 1 ∨ b = s1.heap.objs.size by simpa using hb) with z | z
      · rw [z]; exact Nat.le_add_right _ _
      · rw [z]; exact Nat.le_refl _
    exact I1.fpOk hle (I1.hok.fresh hle)

/-! ### walks -/
section
variable (X : Cx) (W : WX)
/-- the iterator J gives what the walk w tells, as long as what is locked stays -/
structure Wlk (K : PySem.W.Frag) (mu : List Addr) (H : Hp) (s : S) (J : It) (w : Wk) : Prop where
  lk : Lk s w.lock
  go : ∀ mu' H' s' i x, Grow K mu H mu' H' → Kept s s' → SM K mu' H' s' → w.xs[i]? = some x → J.go i H' ∧ ∀ v H2, J.yld i H' v H2 → Ext K mu' H' mu' H2 ∧ SM K mu' H2 s' ∧ Rep K mu' H2 v x
  stop : ∀ mu' H' s', Grow K mu H mu' H' → Kept s s' → SM K mu' H' s' → J.stop w.xs.length H'
def PtW (sg : L2.St) (mu : List Addr) (H : Hp) (r : R Wk) (Q : It → Hp → Prop) : Prop :=
  match r with
  | .ok w s => ∀ J H' mu', Ext X.K mu H mu' H' → SM X.K mu' H' s → Wlk X.K mu' H' s J w → Q J H'
  | .ex c fs s => ∀ cls dd H' mu', Ext X.K mu H mu' H' → SM X.K mu' H' s → XRep X mu' H' c fs cls dd → W cls dd sg H'
  | .no => False
def tI (f : Env → S → R Wk) : TI := fun sg H Q => ∃ mu env s, EM X.K mu H sg env ∧ SM X.K mu H s ∧ PtW X W sg mu H (f env s) Q
end
section
variable {X : Cx} {W : WX} {sg : L2.St} {mu : List Addr} {H : Hp} {s : S} {env : Env} {pos : Pos}
theorem PtW.shift {mu1 : List Addr} {H1 : Hp} {r : R Wk} {Q : It → Hp → Prop} (e : Ext X.K mu H mu1 H1) (p : PtW X W sg mu H r Q) : PtW X W sg mu1 H1 r Q := by
  cases r with
  | ok _ _ => exact fun J H' mu' e' => p J H' mu' (e.trans e')
  | ex _ _ _ => exact fun cls dd H' mu' e' => p cls dd H' mu' (e.trans e')
  | no => exact p
theorem PtW.bind {t u : Type} {rp : List Addr → Hp → u → t → Prop} {r : R t} {k : t → S → R Wk} {Q : It → Hp → Prop} (p : PtW X W sg mu H (r.bind k) Q) :
    Pt X W sg mu H rp r fun y H1 => ∃ mu1 s1 x, r = .ok x s1 ∧ Ext X.K mu H mu1 H1 ∧ SM X.K mu1 H1 s1 ∧ rp mu1 H1 y x ∧ PtW X W sg mu1 H1 (k x s1) Q := by
  cases r with
  | ok x s => exact fun y H' mu' e m r' => ⟨mu', s, x, rfl, e, m, r', PtW.shift (r := k x s) e p⟩
  | ex c fs s => exact p
  | no => exact p
theorem _root_.L2.PI.weak {tg it : Expr} {t t' : TI} (h : PI X tg it t) (w : ∀ sg H Q, t' sg H Q → t sg H Q) : PI X tg it t' := ⟨fun pins s σ H Q I q => h.run pins s σ H Q I (w _ _ _ q)⟩
theorem _root_.L2.PI.or {tg it : Expr} {t t' : TI} (h : PI X tg it t) (h' : PI X tg it t') : PI X tg it (fun sg H Q => t sg H Q ∨ t' sg H Q) := ⟨fun pins s σ H Q I q => q.elim (h.run pins s σ H Q I) (h'.run pins s σ H Q I)⟩
/-- a list, locked -/
theorem SM.lock {n : Nat} {xs : List D} (m : SM X.K mu H s) (h : s.os[n]? = some (.lst xs)) : SM X.K mu H (lockS s (some (n, xs))) := m.same h (fun a q => q) fun q => q
theorem SM.free {n : Nat} {xs : List D} (m : SM X.K mu H s) (h : s.os[n]? = some (.lck xs)) : SM X.K mu H (freeS s (some (n, xs))) := m.same h (fun a q => q) fun q => q
theorem SM.frees {l : Option (Nat × List D)} (m : SM X.K mu H s) (h : Lk s l) : SM X.K mu H (freeS s l) := by
  cases l with
  | none => exact m
  | some p => exact m.free h
theorem wlk_lck {n : Nat} {a : Addr} {xs : List D} {l : Option (Nat × List D)} (ha : mu[n]? = some a) (h : s.os[n]? = some (.lck xs)) (hl : Lk s l) : Wlk X.K mu H s (Itl X.K a) ⟨xs, l⟩ := by
  have at_ : ∀ mu' H' s', Grow X.K mu H mu' H' → Kept s s' → SM X.K mu' H' s' → ∃ vs, SqL X.K H' a vs ∧ Reps X.K mu' H' vs xs := fun mu' H' s' g k m => by
    obtain ⟨vs, h1, r⟩ := m.ats n _ a (k n xs h) (g.pre _ _ ha)
    exact ⟨vs, SqL.of h1, r⟩
  refine ⟨hl, fun mu' H' s' i x g k m hx => ?_, fun mu' H' s' g k m => ?_⟩
  · obtain ⟨vs, q, r⟩ := at_ mu' H' s' g k m
    obtain ⟨v, hv, rv⟩ := r.get hx
    refine ⟨⟨vs, v, q, hv⟩, fun v2 H2 ⟨e, y⟩ => ?_⟩
    subst e
    have e2 := y vs q
    rw [hv] at e2
    cases e2
    exact ⟨.refl, m, rv⟩
  · obtain ⟨vs, q, r⟩ := at_ mu' H' s' g k m
    exact ⟨vs, q, by rw [r.length]; exact Nat.le_refl _⟩
theorem wlk_fl {a : Addr} {vs : List V} {xs : List D} (h : Fz X.K H a vs) (r : Reps X.K mu H vs xs) : Wlk X.K mu H s (Itl X.K a) ⟨xs, none⟩ := by
  refine ⟨trivial, fun mu' H' s' i x g k m hx => ?_, fun mu' H' s' g k m => ⟨vs, (g.fzs _ _ h).sq, by rw [r.length]; exact Nat.le_refl _⟩⟩
  obtain ⟨v, hv, rv⟩ := (r.mono g).get hx
  have q := (g.fzs _ _ h).sq
  refine ⟨⟨vs, v, q, hv⟩, fun v2 H2 ⟨e, y⟩ => ?_⟩
  subst e
  have e2 := y vs q
  rw [hv] at e2
  cases e2
  exact ⟨.refl, m, rv⟩
theorem wlk_tup {a : Addr} {vs : List V} {xs : List D} (h : SqT X.K H a vs) (r : Reps X.K mu H vs xs) : Wlk X.K mu H s (Itt X.K a) ⟨xs, none⟩ := by
  refine ⟨trivial, fun mu' H' s' i x g k m hx => ?_, fun mu' H' s' g k m => ⟨vs, g.tups _ _ h, by rw [r.length]; exact Nat.le_refl _⟩⟩
  obtain ⟨v, hv, rv⟩ := (r.mono g).get hx
  have q := g.tups _ _ h
  refine ⟨⟨vs, v, q, hv⟩, fun v2 H2 ⟨e, y⟩ => ?_⟩
  subst e
  have e2 := y vs q
  rw [hv] at e2
  cases e2
  exact ⟨.refl, m, rv⟩
theorem rngI_len (lo : Int) (n : Nat) : (rngI lo n).length = n := by simp [rngI]
theorem wlk_rng {lo : Int} {n : Nat} : Wlk X.K mu H s (Itr lo n) ⟨rngI lo n, none⟩ := by
  refine ⟨trivial, fun mu' H' s' i x g k m hx => ?_, fun mu' H' s' g k m => by show n ≤ _; rw [rngI_len]; exact Nat.le_refl _⟩
  have hi : i < n := by
    have := (List.getElem?_eq_some_iff.mp hx).1
    rwa [rngI_len] at this
  refine ⟨hi, fun v2 H2 ⟨e, y⟩ => ?_⟩
  subst e y
  have e3 : (rngI lo n)[i]? = some (.int (lo + i)) := by simp [rngI, hi]
  have hx' : (rngI lo n)[i]? = some x := hx
  rw [e3] at hx'
  cases hx'
  exact ⟨.refl, m, .int _⟩
theorem enumD_get : ∀ (xs : List D) (k i : Nat), (enumD k xs)[i]? = (xs[i]?).map fun x => .tup [.int ((k + i : Nat) : Int), x]
  | [], k, i => by simp [enumD]
  | x :: xs, k, 0 => by simp [enumD]
  | x :: xs, k, i + 1 => by
    rw [enumD, List.getElem?_cons_succ, List.getElem?_cons_succ, enumD_get xs (k + 1) i]
    rw [show k + 1 + i = k + (i + 1) by omega]
theorem enumD_len : ∀ (xs : List D) (k : Nat), (enumD k xs).length = xs.length
  | [], k => rfl
  | x :: xs, k => congrArg Nat.succ (enumD_len xs (k + 1))
theorem zipD_get : ∀ (xs ys : List D) (i : Nat) (d : D), (zipD xs ys)[i]? = some d → ∃ x y, xs[i]? = some x ∧ ys[i]? = some y ∧ d = .tup [x, y]
  | x :: xs, y :: ys, 0, d, h => by
    simp [zipD] at h
    exact ⟨x, y, rfl, rfl, h.symm⟩
  | x :: xs, y :: ys, i + 1, d, h => by
    rw [zipD, List.getElem?_cons_succ] at h
    obtain ⟨a, b, h1, h2, h3⟩ := zipD_get xs ys i d h
    exact ⟨a, b, by simpa using h1, by simpa using h2, h3⟩
  | [], _, _, _, h => by simp [zipD] at h
  | _ :: _, [], _, _, h => by simp [zipD] at h
theorem zipD_len : ∀ (xs ys : List D), xs.length ≤ (zipD xs ys).length ∨ ys.length ≤ (zipD xs ys).length
  | [], _ => .inl (Nat.zero_le _)
  | _ :: _, [] => .inr (Nat.zero_le _)
  | x :: xs, y :: ys => by
    have := zipD_len xs ys
    simp only [zipD, List.length_cons]
    omega
/-- a new pair -/
theorem new_pair {T : Addr} {v1 v2 : V} {x1 x2 : D} (m : SM X.K mu H s) (hT : H T = none) (r1 : Rep X.K mu H v1 x1) (r2 : Rep X.K mu H v2 x2) : Ext X.K mu H mu (upd H T (.tup [v1, v2])) ∧ SM X.K mu (upd H T (.tup [v1, v2])) s ∧ Rep X.K mu (upd H T (.tup [v1, v2])) (.ref T) (.tup [x1, x2]) :=
  ⟨ext_new hT, m.new hT, .tup (.inl (.inl upd_same)) (.cons (r1.mono (ext_new hT).toGrow) (.cons (r2.mono (ext_new hT).toGrow) .nil))⟩
theorem wlk_enumL {a : Addr} {xs : List D} {l : Option (Nat × List D)} (hl : Lk s l) (at_ : ∀ mu' H' s', Grow X.K mu H mu' H' → Kept s s' → SM X.K mu' H' s' → ∃ vs, SqL X.K H' a vs ∧ Reps X.K mu' H' vs xs) : Wlk X.K mu H s (Ite X.K a) ⟨enumD 0 xs, l⟩ := by
  refine ⟨hl, fun mu' H' s' i x g k m hx => ?_, fun mu' H' s' g k m => ?_⟩
  · obtain ⟨vs, q, r⟩ := at_ mu' H' s' g k m
    have hx' : (enumD 0 xs)[i]? = some x := hx
    rw [enumD_get, Nat.zero_add] at hx'
    obtain ⟨y, hy, rfl⟩ := Option.map_eq_some_iff.mp hx'
    obtain ⟨v, hv, rv⟩ := r.get hy
    refine ⟨⟨vs, v, q, hv⟩, fun v2 H2 ⟨T, w, e1, hT, e2, z⟩ => ?_⟩
    subst e1 e2
    have e3 := z vs q
    rw [hv] at e3
    cases e3
    exact new_pair m hT (.int _) rv
  · obtain ⟨vs, q, r⟩ := at_ mu' H' s' g k m
    exact ⟨vs, q, by rw [r.length]; show xs.length ≤ (enumD 0 xs).length; rw [enumD_len]; exact Nat.le_refl _⟩
theorem wlk_enumT {a : Addr} {vs : List V} {xs : List D} (h : SqT X.K H a vs) (r : Reps X.K mu H vs xs) : Wlk X.K mu H s (IteT X.K a) ⟨enumD 0 xs, none⟩ := by
  refine ⟨trivial, fun mu' H' s' i x g k m hx => ?_, fun mu' H' s' g k m => ⟨vs, g.tups _ _ h, by rw [r.length]; show xs.length = (enumD 0 xs).length; rw [enumD_len]⟩⟩
  have hx' : (enumD 0 xs)[i]? = some x := hx
  rw [enumD_get, Nat.zero_add] at hx'
  obtain ⟨y, hy, rfl⟩ := Option.map_eq_some_iff.mp hx'
  obtain ⟨v, hv, rv⟩ := (r.mono g).get hy
  have q := g.tups _ _ h
  refine ⟨⟨vs, v, q, hv⟩, fun v2 H2 ⟨T, w, e1, hT, e2, z⟩ => ?_⟩
  subst e1 e2
  have e3 := z vs q
  rw [hv] at e3
  cases e3
  exact new_pair m hT (.int _) rv
theorem wlk_zip {a b : Addr} {vs ws : List V} {xs ys : List D} (h : SqT X.K H a vs) (r : Reps X.K mu H vs xs) (h2 : SqT X.K H b ws) (r2 : Reps X.K mu H ws ys) : Wlk X.K mu H s (RZ.ItzT X.K a b) ⟨zipD xs ys, none⟩ := by
  refine ⟨trivial, fun mu' H' s' i x g k m hx => ?_, fun mu' H' s' g k m => ⟨vs, ws, g.tups _ _ h, g.tups _ _ h2, by rw [r.length, r2.length]; exact zipD_len xs ys⟩⟩
  obtain ⟨x1, x2, hx1, hx2, rfl⟩ := zipD_get xs ys i x hx
  obtain ⟨v1, hv1, rv1⟩ := (r.mono g).get hx1
  obtain ⟨v2, hv2, rv2⟩ := (r2.mono g).get hx2
  have q := g.tups _ _ h
  have q2 := g.tups _ _ h2
  refine ⟨⟨vs, ws, v1, v2, q, q2, hv1, hv2⟩, fun v3 H2 ⟨T, w1, w2, e1, hT, e2, z1, z2⟩ => ?_⟩
  subst e1 e2
  have e3 := z1 vs q
  rw [hv1] at e3
  cases e3
  have e4 := z2 ws q2
  rw [hv2] at e4
  cases e4
  exact new_pair m hT rv1 rv2
variable {e a b c o i it tg : Expr} {f g h : Env → S → R D}
/-- over a tuple, a list -/
theorem si_seq (he : PE X it (tE X W f)) : PI X tg it (tI X W fun env s => (f env s).bind fun d s1 => walkOf d s1) := by
  refine ((pi_list he).or (pi_tup he)).weak fun sg H Q ⟨mu, env, s, em, sm, p⟩ => ?_
  have b := PtW.bind (rp := Rep X.K) p
  by_cases ht : ∃ xs s1, f env s = .ok (.tup xs) s1
  · obtain ⟨xs, s1, hx⟩ := ht
    refine .inr ⟨mu, env, s, em, sm, b.mono fun v H1 ⟨mu1, s2, x, k, e1, m1, r1, p1⟩ => ?_⟩
    rw [hx] at k
    cases k
    cases r1 with
    | tup hq r => exact ⟨_, rfl, ⟨_, hq⟩, p1 _ _ _ .refl m1 (wlk_tup hq r)⟩
  · refine .inl ⟨mu, env, s, em, sm, b.mono fun v H1 ⟨mu1, s2, x, k, e1, m1, r1, p1⟩ => ?_⟩
    unfold walkOf at p1
    split at p1
    · exact (ht ⟨_, _, k⟩).elim
    · cases r1 with
      | fl hq r => exact ⟨_, rfl, ⟨_, hq.sq⟩, p1 _ _ _ .refl m1 (wlk_fl hq r)⟩
    · rename_i n
      cases r1 with
      | @ref a0 _ ha =>
        split at p1
        · rename_i xs hx
          obtain ⟨vs, h1, r⟩ := m1.ats n _ a0 hx ha
          have hz : (lockS s2 (some (n, xs))).os[n]? = some (.lck xs) := by
            show (s2.os.set n _)[n]? = _
            rw [List.getElem?_set_self (List.getElem?_eq_some_iff.mp hx).1]
          exact ⟨a0, rfl, ⟨vs, SqL.of h1⟩, p1 _ _ _ .refl (m1.lock hx) (wlk_lck ha hz hz)⟩
        · rename_i xs hx
          obtain ⟨vs, h1, r⟩ := m1.ats n _ a0 hx ha
          exact ⟨a0, rfl, ⟨vs, SqL.of h1⟩, p1 _ _ _ .refl m1 (wlk_lck ha hx trivial)⟩
        · exact p1.elim
    · exact p1.elim
theorem si_rng1 {p : Pos} {fs : Env → S → R (List D)} (hg : Gl X "range") (hm : X.mg "range" = none) (ha : PA X [a] (tA X W fs)) (h1 : ∀ env s xs s1, fs env s = .ok xs s1 → xs.length = 1) (hs : starEach [a] X.env = [(false, eval a X.env)]) : PI X tg (.Call (.Name "range" p) [a] [] pos) (tI X W fun env s => (fs env s).bind fun xs s1 => rngW xs s1) := by
  refine (pi_range1 hg hm ha hs).weak fun sg H Q ⟨mu, env, s, em, sm, p⟩ => ?_
  refine ⟨mu, env, s, em, sm, (PtW.bind (rp := Reps X.K) p).mono fun vs H1 ⟨mu1, s1, xs, k, e1, m1, r1, p1⟩ => ?_⟩
  have hl := h1 _ _ _ _ k
  unfold rngW at p1
  split at p1
  · obtain ⟨v, rfl, rv⟩ := reps1 r1
    split at p1
    · rename_i hj
      cases rv with
      | int _ => exact ⟨_, rfl, by omega, by omega, p1 _ _ _ .refl m1 wlk_rng⟩
    · exact p1.elim
  · cases hl
  · exact p1.elim
theorem si_rng2 {p : Pos} {fs : Env → S → R (List D)} (hg : Gl X "range") (hm : X.mg "range" = none) (ha : PA X [a, b] (tA X W fs)) (h1 : ∀ env s xs s1, fs env s = .ok xs s1 → xs.length = 2) (hs : starEach [a, b] X.env = [(false, eval a X.env), (false, eval b X.env)]) (hs2 : starEach [b] X.env = [(false, eval b X.env)]) :
    PI X tg (.Call (.Name "range" p) [a, b] [] pos) (tI X W fun env s => (fs env s).bind fun xs s1 => rngW xs s1) := by
  refine (pi_range2 hg hm ha hs hs2).weak fun sg H Q ⟨mu, env, s, em, sm, p⟩ => ?_
  refine ⟨mu, env, s, em, sm, (PtW.bind (rp := Reps X.K) p).mono fun vs H1 ⟨mu1, s1, xs, k, e1, m1, r1, p1⟩ => ?_⟩
  have hl := h1 _ _ _ _ k
  unfold rngW at p1
  split at p1
  · cases hl
  · obtain ⟨v, w, rfl, rv, rw⟩ := reps2 r1
    split at p1
    · rename_i hj
      cases rv with
      | int _ =>
        cases rw with
        | int _ => exact ⟨_, _, rfl, by omega, p1 _ _ _ .refl m1 wlk_rng⟩
    · exact p1.elim
  · exact p1.elim
/-- enumerate -/
theorem si_enum {p tpos : Pos} {elts : List Expr} {kk : Nat} {fs : Env → S → R (List D)} (hg : Gl X "enumerate") (hm : X.mg "enumerate" = none) (ha : PA X [a] (tA X W fs)) (hq : ∀ env s, fs env s = (f env s).bind fun x s1 => .ok [x] s1) (hs : starEach [a] X.env = [(false, eval a X.env)]) :
    PI X (.Tuple elts kk tpos) (.Call (.Name "enumerate" p) [a] [] pos) (tI X W fun env s => (f env s).bind fun d s1 => enumW d s1) := by
  refine ((pi_enum hg hm ha hs).or (pi_enumT hg hm ha hs)).weak fun sg H Q ⟨mu, env, s, em, sm, p⟩ => ?_
  have p2 : PtW X W sg mu H ((fs env s).bind fun ys s1 => (match ys with | [y] => enumW y s1 | _ => .no)) Q := by
    rw [hq]
    dsimp only at p
    cases q : f env s with
    | ok y s2 => rw [q] at p; exact p
    | ex c fs s2 => rw [q] at p; exact p
    | no => rw [q] at p; exact p
  have b := PtW.bind (rp := Reps X.K) p2
  have at_ : ∀ {xs s1}, fs env s = .ok xs s1 → ∃ x, xs = [x] ∧ f env s = .ok x s1 := fun {xs s1} k => by
    rw [hq] at k
    cases q : f env s with
    | ok y s2 => rw [q] at k; cases k; exact ⟨y, rfl, rfl⟩
    | ex c fs s2 => rw [q] at k; cases k
    | no => rw [q] at k; cases k
  by_cases ht : ∃ xs s1, f env s = .ok (.tup xs) s1
  · obtain ⟨xs, s1, hx⟩ := ht
    refine .inr ⟨mu, env, s, em, sm, b.mono fun vs H1 ⟨mu1, s2, ys, k, e1, m1, r1, p1⟩ => ?_⟩
    obtain ⟨x, rfl, k2⟩ := at_ k
    rw [hx] at k2
    cases k2
    obtain ⟨v, rfl, rv⟩ := reps1 r1
    cases rv with
    | tup hq r => exact ⟨_, _, rfl, hq, p1 _ _ _ .refl m1 (wlk_enumT hq r)⟩
  · refine .inl ⟨mu, env, s, em, sm, b.mono fun vs H1 ⟨mu1, s2, ys, k, e1, m1, r1, p1⟩ => ?_⟩
    obtain ⟨x, rfl, k2⟩ := at_ k
    obtain ⟨v, rfl, rv⟩ := reps1 r1
    have p1 : PtW X W sg mu1 H1 (enumW x s2) Q := p1
    unfold enumW at p1
    split at p1
    · rename_i xs hx
      unfold walkOf at p1
      split at p1
      · rename_i w s3 hw
        split at hw
        · exact (ht ⟨_, _, k2⟩).elim
        · cases hw
          cases hx
          cases rv with
          | fl hq r => exact ⟨_, _, rfl, hq.sq, p1 _ _ _ .refl m1 (wlk_enumL trivial fun mu' H' s' g k m => ⟨_, (g.fzs _ _ hq).sq, r.mono g⟩)⟩
        · rename_i n
          cases rv with
          | @ref a0 _ h0 =>
            split at hw
            · rename_i zs hz
              cases hw
              have ez : zs = xs := by
                unfold seqOf listOf at hx
                simp only [hz] at hx
                cases hx
                rfl
              subst ez
              obtain ⟨us, h1, r⟩ := m1.ats n _ a0 hz h0
              have hy : (lockS s2 (some (n, zs))).os[n]? = some (.lck zs) := by
                show (s2.os.set n _)[n]? = _
                rw [List.getElem?_set_self (List.getElem?_eq_some_iff.mp hz).1]
              refine ⟨a0, us, rfl, SqL.of h1, p1 _ _ _ .refl (m1.lock hz) (wlk_enumL hy fun mu' H' s' g k m => ?_)⟩
              obtain ⟨ws, h2, r2⟩ := m.ats n _ a0 (k n _ hy) (g.pre _ _ h0)
              exact ⟨ws, SqL.of h2, r2⟩
            · rename_i zs hz
              cases hw
              have ez : zs = xs := by
                unfold seqOf listOf at hx
                simp only [hz] at hx
                cases hx
                rfl
              subst ez
              obtain ⟨us, h1, r⟩ := m1.ats n _ a0 hz h0
              refine ⟨a0, us, rfl, SqL.of h1, p1 _ _ _ .refl m1 (wlk_enumL trivial fun mu' H' s' g k m => ?_)⟩
              obtain ⟨ws, h2, r2⟩ := m.ats n _ a0 (k n _ hz) (g.pre _ _ h0)
              exact ⟨ws, SqL.of h2, r2⟩
            · cases hw
        · cases hw
      · exact p1.elim
    · exact p1.elim
theorem si_zip {p tpos : Pos} {elts : List Expr} {kk : Nat} {fs : Env → S → R (List D)} (hg : Gl X "zip") (hm : X.mg "zip" = none) (ha : PA X [a, b] (tA X W fs)) (hq : ∀ env s, fs env s = (f env s).bind fun x s1 => (g env s1).bind fun y s2 => .ok [x, y] s2)
    (hs : starEach [a, b] X.env = (false, eval a X.env) :: starEach [b] X.env) (hpl : (backTo pos (starEach [b] X.env)).any (·.1) = false) :
    PI X (.Tuple elts kk tpos) (.Call (.Name "zip" p) [a, b] [] pos) (tI X W fun env s => (f env s).bind fun d s1 => (g env s1).bind fun d2 s2 => zipW d d2 s2) := by
  refine (RZ.pi_zipA hg hm ha hs hpl).weak fun sg H Q ⟨mu, env, s, em, sm, p⟩ => ?_
  have p2 : PtW X W sg mu H ((fs env s).bind fun ys s1 => (match ys with | [y, z] => zipW y z s1 | _ => .no)) Q := by
    rw [hq]
    dsimp only at p
    cases q : f env s with
    | ok y s2 =>
      rw [q] at p
      have p : PtW X W sg mu H ((g env s2).bind fun d2 s2 => zipW y d2 s2) Q := p
      show PtW X W sg mu H (((g env s2).bind fun z s3 => .ok [y, z] s3).bind _) Q
      cases q2 : g env s2 with
      | ok z s3 => rw [q2] at p; exact p
      | ex c fs s2 => rw [q2] at p; exact p
      | no => rw [q2] at p; exact p
    | ex c fs s2 => rw [q] at p; exact p
    | no => rw [q] at p; exact p
  refine ⟨mu, env, s, em, sm, (PtW.bind (rp := Reps X.K) p2).mono fun vs H1 ⟨mu1, s1, xs, k, e1, m1, r1, p1⟩ => ?_⟩
  split at p1
  · obtain ⟨v, w, rfl, rv, rw⟩ := reps2 r1
    unfold zipW at p1
    split at p1
    · cases rv with
      | tup hq r =>
        cases rw with
        | tup hq2 r2 => exact ⟨_, _, _, _, rfl, .inr ⟨hq, hq2, p1 _ _ _ .refl m1 (wlk_zip hq r hq2 r2)⟩⟩
    · exact p1.elim
  · exact p1.elim
/-! ### for -/
theorem lk_kept {s1 : S} {l : Option (Nat × List D)} (h : Lk s l) (k : Kept s s1) : Lk s1 l := h.kept k
theorem ss_for {body : List Stmt} {fi : Env → S → R Wk} {fb : Env → S → RS} {t : Tg} (hp : PassesOwn (model X.prog X.w) X.A X.env X.xe) (hc : X.calm = true) (hi : PI X tg it (tI X W fi)) (hg : PG X tg (tG X t)) (hb : PSs X body (tS X W fb))
    (hk : ∀ env s, KS s (fb env s)) (hs : ∀ x, foldedSetIterable it X.env x = pure x) :
    PS X (.For tg it body [] pos) (tS X W fun env s => walkS (fi env s) env fun w s1 => (forL fb t w.xs env s1).free w.lock) := by
  refine (ps_for hp hc hi hg hb hs).weak fun D sg H ⟨mu, env, s, em, sm, p⟩ => ?_
  refine ⟨mu, env, s, em, sm, ?_⟩
  dsimp only at p
  cases q : fi env s with
  | no => rw [q] at p; exact p
  | ex c fs s1 => rw [q] at p; exact fun cls dd H' mu' e m x => p cls dd sg H' mu' e m (em.mono e.toGrow) x
  | ok w s1 =>
    rw [q] at p
    have p : PtS X W mu H ((forL fb t w.xs env s1).free w.lock) D := p
    intro J H1 mu1 e1 m1 wk
    refine ⟨fun i m sg H => m = w.xs.length - i ∧ i ≤ w.xs.length ∧ ∃ mu2 env s, EM X.K mu2 H sg env ∧ SM X.K mu2 H s ∧ Grow X.K mu1 H1 mu2 H ∧ Kept s1 s ∧ PtS X W mu2 H ((forL fb t (w.xs.drop i) env s).free w.lock) D,
      ⟨w.xs.length, rfl, Nat.zero_le _, mu1, env, s1, em.mono e1.toGrow, m1, .refl, .refl _, PtS.shift e1 p⟩, ?_⟩
    rintro i m sg H ⟨rfl, hi, mu2, env, s, em, m2, g2, k2, p2⟩
    by_cases hlt : i < w.xs.length
    · refine .inr ?_
      have hx : w.xs[i]? = some w.xs[i] := List.getElem?_eq_getElem hlt
      obtain ⟨go, yl⟩ := wk.go mu2 H s i _ g2 k2 m2 hx
      rw [List.drop_eq_getElem_cons hlt] at p2
      unfold forL at p2
      refine ⟨go, fun sg' H' => ∃ mu3 env s, EM X.K mu3 H' sg' env ∧ SM X.K mu3 H' s ∧ Grow X.K mu1 H1 mu3 H' ∧ Kept s1 s ∧ PtS X W mu3 H' ((forL fb t (w.xs.drop (i + 1)) env s).free w.lock) D, fun sg' H' z => ⟨w.xs.length - (i + 1), by omega, rfl, hlt, z⟩, fun v H' y => ?_⟩
      obtain ⟨e3, m3, r3⟩ := yl v H' y
      refine ⟨mu2, env, _, em.mono e3.toGrow, r3, ?_⟩
      cases qa : asgT t w.xs[i] env with
      | none => rw [qa] at p2; exact p2.elim
      | some en1 =>
        rw [qa] at p2
        dsimp only at p2
        intro sg' em' _
        refine ⟨mu2, en1, s, em', m3, ?_⟩
        have kb := hk en1 s
        cases qb : fb en1 s with
        | no => rw [qb] at p2; exact p2.elim
        | nx en2 s2 =>
          rw [qb] at p2 kb
          exact fun sg2 H2 mu4 e4 m4 em4 => ⟨mu4, en2, s2, em4, m4, g2.trans (e3.trans e4).toGrow, k2.trans kb, PtS.shift (e3.trans e4) p2⟩
        | ct en2 s2 =>
          rw [qb] at p2 kb
          exact fun sg2 H2 mu4 e4 m4 em4 => ⟨mu4, en2, s2, em4, m4, g2.trans (e3.trans e4).toGrow, k2.trans kb, PtS.shift (e3.trans e4) p2⟩
        | bk en2 s2 =>
          rw [qb] at p2 kb
          exact fun sg2 H2 mu4 e4 m4 em4 => p2 sg2 H2 mu4 (e3.trans e4) (m4.frees (lk_kept wk.lk (k2.trans kb))) em4
        | ret d s2 =>
          rw [qb] at p2 kb
          exact fun v2 H2 mu4 e4 m4 rv => p2 v2 H2 mu4 (e3.trans e4) (m4.frees (lk_kept wk.lk (k2.trans kb))) rv
        | ex c fs en2 s2 =>
          rw [qb] at p2 kb
          exact fun cls dd sg2 H2 mu4 e4 m4 em4 x => p2 cls dd sg2 H2 mu4 (e3.trans e4) (m4.frees (lk_kept wk.lk (k2.trans kb))) em4 x
    · have ei : i = w.xs.length := by omega
      subst ei
      refine .inl ⟨wk.stop mu2 H s g2 k2 m2, ?_⟩
      rw [List.drop_length] at p2
      exact p2 sg H mu2 .refl (m2.frees (lk_kept wk.lk k2)) em
/-! ### a, b = x, y -/
theorem ss_par {i j : Nat} {x y : Str} {px py pt : Pos} {kt k2 pt2} {fs : Env → S → R (List D)} (hc : X.calm = true) (hN : X.N.Nodup) (hi : X.N[i]? = some x) (hj : X.N[j]? = some y) (hij : i ≠ j)
    (hx : X.env.scope.names.lookup x = some .local) (hy : X.env.scope.names.lookup y = some .local) (ha : PA X [a, b] (tA X W fs))
    (hw : swappedStores [.Tuple [.Name x px, .Name y py] kt pt] (.Tuple [a, b] k2 pt2) X.env = pure (some [x, y])) (hs : swapsWithSole [.Tuple [.Name x px, .Name y py] kt pt] (.Tuple [a, b] k2 pt2) pos.line X.env = pure false) :
    PS X (.Assign [.Tuple [.Name x px, .Name y py] kt pt] (.Tuple [a, b] k2 pt2) pos) (tS X W fun env s => thenS ((fs env s).bind fun xs s1 => .ok (.tup xs) s1) env fun d s1 => nxO (asgT (.tup [.nm i, .nm j]) d env) s1) := by
  refine (ps_par hc hN hi hj hij hx hy ha hw hs).weak fun D sg H ⟨mu, env, s, em, sm, p⟩ => ?_
  refine ⟨mu, env, s, em, sm, ?_⟩
  dsimp only at p
  cases q : fs env s with
  | no => rw [q] at p; exact p
  | ex c fs s1 => rw [q] at p; exact fun cls dd H' mu' e m x => p cls dd sg H' mu' e m (em.mono e.toGrow) x
  | ok xs s1 =>
    rw [q] at p
    intro vs H1 mu1 e1 m1 r1
    have p5 : PtS X W mu H (nxO (asgTs [.nm i, .nm j] xs env) s1) D := p
    cases qa : asgTs [.nm i, .nm j] xs env with
    | none => rw [qa] at p5; exact p5.elim
    | some en =>
      rw [qa] at p5
      have hl := asgTs_len qa
      obtain ⟨x1, x2, rfl⟩ : ∃ x1 x2, xs = [x1, x2] := by
        match xs, hl with
        | [x1, x2], _ => exact ⟨x1, x2, rfl⟩
      obtain ⟨v, w, rfl, rv, rw⟩ := reps2 r1
      refine ⟨v, w, rfl, p5 _ _ _ e1 m1 ?_⟩
      unfold asgTs asgT at qa
      split at qa
      · rename_i en1 h1
        split at h1
        · cases h1
          unfold asgTs asgT at qa
          split at qa
          · rename_i en2 h2
            split at h2
            · cases h2
              unfold asgTs at qa
              cases qa
              exact ((em.mono e1.toGrow).set rv i).set rw j
            · cases h2
          · cases qa
        · cases h1
      · cases qa
end
end Wk

/-! Wk11: comprehensions. -/
namespace Wk
open PySem L2 PyProof.Rows
theorem upd_self {H : Hp} {a : Addr} {o : HO} (h : H a = some o) : upd H a o = H := by
  funext b
  by_cases e : b = a
  · subst e; rw [upd_same, h]
  · rw [upd_ne e]
section
variable {X : Cx} {W : WX} {sg : L2.St} {mu : List Addr} {H : Hp} {s : S} {env : Env} {pos : Pos}
theorem EM.wipe (h : EM X.K mu H sg env) : ∀ vs : List Nat, EM X.K mu H (L2.wipe sg vs) (wipeE env vs)
  | [] => h
  | v :: vs => by
    have ih := EM.wipe h vs
    unfold L2.wipe wipeE
    refine ⟨by simp [ih.len], fun i d q => ?_⟩
    by_cases hv : v = i
    · subst hv
      by_cases hl : v < (wipeE env vs).length
      · rw [List.getElem?_set_self hl] at q; cases q
      · rw [List.getElem?_eq_none (by simpa using hl)] at q; cases q
    · rw [List.getElem?_set_ne hv] at q
      obtain ⟨w, e, r⟩ := ih.ats i d q
      exact ⟨w, by rw [List.getElem?_set_ne hv]; exact e, r⟩
theorem wipe_in {sg : L2.St} {i : Nat} : ∀ {vs : List Nat}, i ∈ vs → i < sg.length → (L2.wipe sg vs)[i]? = some none
  | v :: vs, h, hl => by
    unfold L2.wipe
    by_cases e : v = i
    · subst e
      rw [List.getElem?_set_self (by rw [wipe_length]; exact hl)]
    · rw [List.getElem?_set_ne e]
      exact wipe_in ((List.mem_cons.mp h).resolve_left fun z => e z.symm) hl
theorem wipe_same {sg sg' : L2.St} {ix vs : List Nat} (h : Same ix (L2.wipe sg vs) sg') (hv : ∀ i ∈ ix, i ∈ vs) : L2.wipe sg' vs = L2.wipe sg vs := by
  apply List.ext_getElem?
  intro i
  have hlen : sg'.length = sg.length := by rw [h.1, wipe_length]
  by_cases hi : i ∈ vs
  · by_cases hl : i < sg.length
    · rw [wipe_in hi hl, wipe_in hi (by rw [hlen]; exact hl)]
    · rw [List.getElem?_eq_none (by rw [wipe_length]; omega), List.getElem?_eq_none (by rw [wipe_length]; omega)]
  · rw [wipe_out hi]
    exact h.2 i fun z => hi (hv i z)
/-- beside the store -/
theorem SM.side {L : Addr} {o : HO} (m : SM X.K mu H s) (hD : L ∉ mu) (hs : Soft H L) : SM X.K mu (upd H L o) s :=
  ⟨m.len, m.nd, fun n q a h1 h2 => (m.ats n q a h1 h2).keep (grow_upd hs) fun u z => by rw [upd_ne (fun (e : a = L) => hD (by rw [← e]; exact List.mem_of_getElem? h2))]; exact z, m.lo⟩
theorem ext_over {mu0 : List Addr} {H0 : Hp} {L : Addr} {o : HO} (hD : H0 L = none) (hs : Soft H L) (e : Ext X.K mu0 H0 mu H) : Ext X.K mu0 H0 mu (upd H L o) :=
  ⟨e.toGrow.trans (grow_upd hs), fun a u h q => by
    obtain ⟨h1, q1⟩ := e.fr a u h q
    exact ⟨by rw [upd_ne (ne_of_none h hD)]; exact h1, q1⟩⟩
theorem soft_lst {L : Addr} {vs : List V} (h : H L = some (.lst vs)) : Soft H L := fun u q => by
  rw [h] at q; cases q; trivial
/-- nothing is let out -/
def W0 : WX := fun _ _ _ _ => False
/-- the loop of a comprehension -/
theorem comp_loop {mu0 : List Addr} {H0 : Hp} {L : Addr} {J : It} {w : Wk} {fe ft : Env → S → R D} {t : Tg} {ys acc0 : List D} {s2 : S} {vacc0 : List V} {Nx : Hp → Prop} {vs : List Nat} (wk : Wlk X.K mu H s J w) (e0 : Ext X.K mu0 H0 mu H) (hD0 : H0 L = none)
    (em : EM X.K mu H (L2.wipe sg vs) env) (m : SM X.K mu H s) (hD : L ∉ mu) (hv : H L = some (.lst vacc0)) (rv : Reps X.K mu H vacc0 acc0) (hq : compL fe ft t env w.xs s = .ok ys s2) (hlen : (acc0 ++ ys).length ≤ 100000) (hix : ∀ i ∈ ixT t, i ∈ vs)
    (hke : ∀ e s, KR s (fe e s)) (hkt : ∀ e s, KR s (ft e s))
    (fin : ∀ mu' H' vs', Ext X.K mu0 H0 mu' H' → SM X.K mu' H' s2 → Kept s s2 → L ∉ mu' → H' L = some (.lst vs') → Reps X.K mu' H' vs' (acc0 ++ ys) → Nx H') :
    ∃ W : Nat → Nat → Hp → Prop, (∃ m, W 0 m H) ∧ ∀ i m H, W i m H → (J.stop i H ∧ Nx H) ∨ (J.go i H ∧ ∃ Nx1 : Hp → Prop, (∀ H', Nx1 H' → ∃ m', m' < m ∧ W (i + 1) m' H') ∧ ∀ x H', J.yld i H x H' → tG X t x (L2.wipe sg vs) H' fun σ3 H5 => L2.wipe σ3 vs = L2.wipe sg vs ∧ tT X W0 ft σ3 H5 fun b H6 =>
      if b = true then tE X W0 fe σ3 H6 fun y H7 => ∃ acc, H7 L = some (.lst acc) ∧ acc.length < sizeLine ∧ Nx1 (upd H7 L (.lst (acc ++ [y]))) else Nx1 H6) := by
  refine ⟨fun i n H' => n = w.xs.length - i ∧ i ≤ w.xs.length ∧ ∃ mu1 s1 acc zs vacc, SM X.K mu1 H' s1 ∧ Ext X.K mu0 H0 mu1 H' ∧ Grow X.K mu H mu1 H' ∧ Kept s s1 ∧ L ∉ mu1 ∧ H' L = some (.lst vacc) ∧ Reps X.K mu1 H' vacc acc ∧ compL fe ft t env (w.xs.drop i) s1 = .ok zs s2 ∧ acc ++ zs = acc0 ++ ys,
    ⟨w.xs.length, rfl, Nat.zero_le _, mu, s, acc0, ys, vacc0, m, e0, .refl, .refl _, hD, hv, rv, hq, rfl⟩, ?_⟩
  rintro i n H' ⟨rfl, hi, mu1, s1, acc, zs, vacc, m1, e1, g1, k1, hD1, hv1, rv1, hq1, ha⟩
  by_cases hlt : i < w.xs.length
  · refine .inr ?_
    have hx : w.xs[i]? = some w.xs[i] := List.getElem?_eq_getElem hlt
    obtain ⟨go, yl⟩ := wk.go mu1 H' s1 i _ g1 k1 m1 hx
    rw [List.drop_eq_getElem_cons hlt] at hq1
    unfold compL at hq1
    refine ⟨go, fun H2 => ∃ mu1 s1 acc zs vacc, SM X.K mu1 H2 s1 ∧ Ext X.K mu0 H0 mu1 H2 ∧ Grow X.K mu H mu1 H2 ∧ Kept s s1 ∧ L ∉ mu1 ∧ H2 L = some (.lst vacc) ∧ Reps X.K mu1 H2 vacc acc ∧ compL fe ft t env (w.xs.drop (i + 1)) s1 = .ok zs s2 ∧ acc ++ zs = acc0 ++ ys,
      fun H2 z => ⟨w.xs.length - (i + 1), by omega, rfl, hlt, z⟩, fun v H2 y => ?_⟩
    obtain ⟨e3, m3, r3⟩ := yl v H2 y
    refine ⟨mu1, env, w.xs[i], em.mono (g1.trans e3.toGrow), r3, ?_⟩
    cases qa : asgT t w.xs[i] env with
    | none => rw [qa] at hq1; cases hq1
    | some en1 =>
      rw [qa] at hq1
      dsimp only at hq1
      intro sg' em' sm'
      refine ⟨wipe_same sm' hix, mu1, en1, s1, em', m3, ?_⟩
      have kt := hkt en1 s1
      split at hq1
      · rename_i s3 ht
        rw [ht]
        rw [ht] at kt
        intro b H4 mu4 e4 m4 hb
        cases (show b = true from hb)
        rw [if_pos rfl]
        refine ⟨mu4, en1, s3, em'.mono e4.toGrow, m4, ?_⟩
        have ke := hke en1 s3
        split at hq1
        · rename_i d s4 hel
          rw [hel]
          rw [hel] at ke
          intro yv H5 mu5 e5 m5 r5
          split at hq1
          · rename_i us s5 hr
            cases hq1
            have e15 : Ext X.K mu1 H' mu5 H5 := e3.trans (e4.trans e5)
            obtain ⟨hv5, hD5⟩ := e15.fr L _ hv1 hD1
            have sf : Soft H5 L := soft_lst hv5
            refine ⟨vacc, hv5, ?_, ?_⟩
            · have l1 := rv1.length
              have l2 : acc.length + (us.length + 1) ≤ 100000 := by
                rw [← ha] at hlen
                simpa using hlen
              exact sz1 (by omega)
            · refine ⟨mu5, s4, acc ++ [d], us, vacc ++ [yv], m5.side hD5 sf, ext_over hD0 sf (e1.trans e15), (g1.trans e15.toGrow).trans (grow_upd sf), (k1.trans kt).trans ke, hD5, upd_same, ?_, hr, ?_⟩
              · exact ((rv1.mono e15.toGrow).append (.cons r5 .nil)).mono (grow_upd sf)
              · rw [List.append_assoc]; exact ha
          · cases hq1
        · cases hq1
      · rename_i s3 ht
        rw [ht]
        rw [ht] at kt
        intro b H4 mu4 e4 m4 hb
        cases (show b = false from hb)
        rw [if_neg Bool.false_ne_true]
        have e15 : Ext X.K mu1 H' mu4 H4 := e3.trans e4
        obtain ⟨hv5, hD5⟩ := e15.fr L _ hv1 hD1
        exact ⟨mu4, s3, acc, zs, vacc, m4, e1.trans e15, g1.trans e15.toGrow, k1.trans kt, hD5, hv5, rv1.mono e15.toGrow, hq1, ha⟩
      · cases hq1
  · have ei : i = w.xs.length := by omega
    subst ei
    rw [List.drop_length] at hq1
    unfold compL at hq1
    cases hq1
    rw [List.append_nil] at ha
    rw [← ha] at fin
    exact .inl ⟨wk.stop mu1 H' _ g1 k1 m1, fin mu1 H' vacc e1 m1 k1 hD1 hv1 rv1⟩
variable {e a b c o i it tg elt iter tg1 iter1 : Expr} {f g h : Env → S → R D} {fe ft : Env → S → R D}
/-- the new list, taken into the store -/
theorem done_ok {mu0 : List Addr} {H0 : Hp} {L : Addr} {ys : List D} {l : Option (Nat × List D)} {vs : List V} {Q : VK} (hD0 : H0 L = none) (e : Ext X.K mu0 H0 mu H) (m : SM X.K mu H s) (hl : Lk s l) (hD : L ∉ mu) (hv : H L = some (.lst vs)) (r : Reps X.K mu H vs ys)
    (p : Pt X W sg mu0 H0 (Rep X.K) (alloc (.lst ys) (freeS s l)) Q) : Q (.ref L) H := by
  have m2 := m.frees hl
  have g : Grow X.K mu H (mu ++ [L]) H := grow_push
  refine p (.ref L) H (mu ++ [L]) ⟨e.toGrow.trans g, fun a u h q => ?_⟩ ?_ (.ref (by rw [← m2.len]; simp))
  · obtain ⟨h1, q1⟩ := e.fr a u h q
    exact ⟨h1, by simp [q1, ne_of_none h hD0]⟩
  · have z := m2.push (o := .lst vs) (q := .lst ys) hD (soft_lst hv) ⟨vs, upd_same, (r.mono g).mono (grow_upd (soft_lst hv))⟩ (by rw [← m2.len]; exact r.low)
    rw [upd_self hv] at z
    exact z
def compF (fi : Env → S → R Wk) (fe ft : Env → S → R D) (t : Tg) (vs : List Nat) (env : Env) (s : S) : R D :=
  (fi env s).bind fun w s1 => doneL w.lock (compL fe ft t (wipeE env vs) w.xs s1)
theorem lc_read {fi : Env → S → R Wk} {t : Tg} {vs : List Nat} {Q : VK} (hix : ∀ i ∈ ixT t, i ∈ vs) (hke : ∀ e s, KR s (fe e s)) (hkt : ∀ e s, KR s (ft e s)) :
    tE X W (compF fi fe ft t vs) sg H Q → tLc (tI X W fi) (tG X t) (tT X W0 ft) (tE X W0 fe) vs sg H Q := by
  intro ⟨mu, env, s, em, sm, p⟩
  unfold compF at p
  refine ⟨mu, env, s, em, sm, ?_⟩
  cases q : fi env s with
  | no => rw [q] at p; exact p
  | ex c fs s1 => rw [q] at p; exact p
  | ok w s1 =>
    rw [q] at p
    dsimp only [R.bind] at p
    intro J H1 mu1 e1 m1 wk L hD
    cases qc : compL fe ft t (wipeE env vs) w.xs s1 with
    | ex c fs s2 => rw [qc] at p; exact p.elim
    | no => rw [qc] at p; exact p.elim
    | ok ys s2 =>
      rw [qc] at p
      unfold doneL at p
      dsimp only at p
      split at p
      · rename_i hlen
        have hf := m1.fresh hD
        have e2 : Ext X.K mu1 H1 mu1 (upd H1 L (.lst [])) := ext_new hD
        have wk2 : Wlk X.K mu1 (upd H1 L (.lst [])) s1 J w := ⟨wk.lk, fun mu' H' s' i x g k m hx => wk.go mu' H' s' i x (e2.toGrow.trans g) k m hx, fun mu' H' s' g k m => wk.stop mu' H' s' (e2.toGrow.trans g) k m⟩
        refine comp_loop (acc0 := []) (vacc0 := []) wk2 e2 hD ((em.mono (e1.trans e2).toGrow).wipe vs) (m1.new hD) hf upd_same .nil qc hlen hix hke hkt fun mu' H' vs' e3 m3 k3 hD3 hv3 r3 => ?_
        exact done_ok hD e3 m3 (wk.lk.kept k3) hD3 hv3 r3 (Pt.shift (r := alloc _ _) e1 p)
      · exact p.elim
theorem se_comp {ifs : List Expr} {scope : Scope} {own : List (Str × Nat)} {fi : Env → S → R Wk} {t : Tg} {vs : List Nat} (hc : X.calm = true) (hN : X.N.Nodup) (hi : PI X tg iter (tI X W fi)) (ok : BlkOk X.N X.env.scope scope own) (hvs : own.map (·.2) = vs)
    (hg : ∀ (s : Shared) (H : Hp) (C : Addr) (cl : List (Str × Addr)) (fp : List Addr), PG (X.blk s H scope (compEnvC scope cl C X.env) fp) tg (tG X t)) (ht : ∀ (s : Shared) (H : Hp) (C : Addr) (cl : List (Str × Addr)) (fp : List Addr), PTs (X.blk s H scope (compEnvC scope cl C X.env) fp) ifs (tT X W0 ft))
    (he : ∀ (s : Shared) (H : Hp) (C : Addr) (cl : List (Str × Addr)) (fp : List Addr), PE (X.blk s H scope (compEnvC scope cl C X.env) fp) elt (tE X W0 fe)) (hs : ∀ x, foldedSetIterable iter X.env x = pure x)
    (hix : ∀ i ∈ ixT t, i ∈ vs) (hke : ∀ e s, KR s (fe e s)) (hkt : ∀ e s, KR s (ft e s)) :
    PE X (.ListComp elt [⟨tg, iter, ifs, 0⟩] scope pos) (tE X W (compF fi fe ft t vs)) := by
  subst hvs
  exact (pe_lc hc hN hi ok hg ht he hs).weak fun sg H Q q => lc_read hix hke hkt q
/-- what is stored -/
theorem set_read {F : Env → S → R D} {i : Nat} {D : Ends} {te : TE} (h : ∀ Q : VK, tE X W F sg H Q → te sg H Q) (q : tS X W (fun env s => thenS (F env s) env fun d s1 => nxO (asgT (.nm i) d env) s1) D sg H) : tAsg te (gName i) D sg H := by
  obtain ⟨mu, env, s, em, sm, p⟩ := q
  refine h _ ⟨mu, env, s, em, sm, (thenS_ok em p).mono fun v H1 ⟨mu1, s1, x, _, e1, m1, r1, p1⟩ => ?_⟩
  show D.nx (sg.set i (some v)) H1
  unfold asgT at p1
  split at p1
  · exact p1 _ _ _ .refl m1 ((em.mono e1.toGrow).set r1 i)
  · exact p1.elim
theorem ss_comp {i : Nat} {y : Str} {py spos : Pos} {ifs : List Expr} {scope : Scope} {own : List (Str × Nat)} {fi : Env → S → R Wk} {t : Tg} {vs : List Nat} (hy : X.N[i]? = some y) (hyl : X.env.scope.names.lookup y = some .local)
    (hsw : swapsWith (.ListComp elt [⟨tg, iter, ifs, 0⟩] scope pos) (some (.Name y py)) spos.line X.env = pure true) (hc : X.calm = true) (hN : X.N.Nodup) (hi : PI X tg iter (tI X W fi)) (ok : BlkOk X.N X.env.scope scope own) (hvs : own.map (·.2) = vs)
    (hg : ∀ (s : Shared) (H : Hp) (C : Addr) (cl : List (Str × Addr)) (fp : List Addr), PG (X.blk s H scope (compEnvC scope cl C X.env) fp) tg (tG X t)) (ht : ∀ (s : Shared) (H : Hp) (C : Addr) (cl : List (Str × Addr)) (fp : List Addr), PTs (X.blk s H scope (compEnvC scope cl C X.env) fp) ifs (tT X W0 ft))
    (he : ∀ (s : Shared) (H : Hp) (C : Addr) (cl : List (Str × Addr)) (fp : List Addr), PE (X.blk s H scope (compEnvC scope cl C X.env) fp) elt (tE X W0 fe)) (hs : ∀ x, foldedSetIterable iter X.env x = pure x)
    (hix : ∀ i ∈ ixT t, i ∈ vs) (hke : ∀ e s, KR s (fe e s)) (hkt : ∀ e s, KR s (ft e s)) :
    PS X (.Assign [.Name y py] (.ListComp elt [⟨tg, iter, ifs, 0⟩] scope pos) spos) (tS X W fun env s => thenS (compF fi fe ft t vs env s) env fun d s1 => nxO (asgT (.nm i) d env) s1) := by
  subst hvs
  exact (ps_setLc hc hN hy hyl hsw hi ok hg ht he hs).weak fun D sg H q => set_read (fun Q z => lc_read hix hke hkt z) q
def comp2F (fi fi1 : Env → S → R Wk) (fe ft1 : Env → S → R D) (t t1 : Tg) (vs : List Nat) (env : Env) (s : S) : R D :=
  (fi env s).bind fun w s1 => doneL w.lock (compL2 (innerF fi1 fe ft1 t1) t (wipeE env vs) w.xs s1)
theorem lc2_read {fi fi1 : Env → S → R Wk} {t t1 : Tg} {vs : List Nat} {Q : VK} (hix : ∀ i ∈ ixT t, i ∈ vs) (hke : ∀ e s, KR s (fe e s)) (hkt : ∀ e s, KR s (ft e s)) (hki : ∀ e s, KW s (fi1 e s)) :
    tE X W (comp2F fi fi1 fe ft t t1 vs) sg H Q → tLc2 (tI X W fi) (tG X t) tYes (tI X W0 fi1) (tG X t1) (tT X W0 ft) (tE X W0 fe) vs (ixT t1) sg H Q := by
  intro ⟨mu, env, s, em, sm, p⟩
  unfold comp2F at p
  refine ⟨mu, env, s, em, sm, ?_⟩
  cases q : fi env s with
  | no => rw [q] at p; exact p
  | ex c fs s1 => rw [q] at p; exact p
  | ok w s0 =>
    rw [q] at p
    dsimp only [R.bind] at p
    intro J H0 mu0 e0 m0 wk L hL
    cases qc : compL2 (innerF fi1 fe ft t1) t (wipeE env vs) w.xs s0 with
    | ex c fs s2 => rw [qc] at p; exact p.elim
    | no => rw [qc] at p; exact p.elim
    | ok ys s2 =>
      rw [qc] at p
      unfold doneL at p
      dsimp only at p
      split at p
      · rename_i hlen
        have hf := m0.fresh hL
        have en : Ext X.K mu0 H0 mu0 (upd H0 L (.lst [])) := ext_new hL
        refine ⟨fun i n H' => n = w.xs.length - i ∧ i ≤ w.xs.length ∧ ∃ mu1 s1 acc zs vacc, SM X.K mu1 H' s1 ∧ Ext X.K mu0 H0 mu1 H' ∧ Kept s0 s1 ∧ L ∉ mu1 ∧ H' L = some (.lst vacc) ∧ Reps X.K mu1 H' vacc acc ∧ compL2 (innerF fi1 fe ft t1) t (wipeE env vs) (w.xs.drop i) s1 = .ok zs s2 ∧ acc ++ zs = ys,
          ⟨w.xs.length, rfl, Nat.zero_le _, mu0, s0, [], ys, [], m0.new hL, en, .refl _, hf, upd_same, .nil, qc, rfl⟩, ?_⟩
        rintro i n H' ⟨rfl, hi', mu1, s1, acc, zs, vacc, m1, e1, k1, hD1, hv1, rv1, hq1, ha⟩
        by_cases hlt : i < w.xs.length
        · refine .inr ?_
          have hx : w.xs[i]? = some w.xs[i] := List.getElem?_eq_getElem hlt
          obtain ⟨go, yl⟩ := wk.go mu1 H' s1 i _ e1.toGrow k1 m1 hx
          rw [List.drop_eq_getElem_cons hlt] at hq1
          unfold compL2 at hq1
          refine ⟨go, fun H2 => ∃ mu1 s1 acc zs vacc, SM X.K mu1 H2 s1 ∧ Ext X.K mu0 H0 mu1 H2 ∧ Kept s0 s1 ∧ L ∉ mu1 ∧ H2 L = some (.lst vacc) ∧ Reps X.K mu1 H2 vacc acc ∧ compL2 (innerF fi1 fe ft t1) t (wipeE env vs) (w.xs.drop (i + 1)) s1 = .ok zs s2 ∧ acc ++ zs = ys,
            fun H2 z => ⟨w.xs.length - (i + 1), by omega, rfl, hlt, z⟩, fun v H2 y => ?_⟩
          obtain ⟨e3, m3, r3⟩ := yl v H2 y
          have emw : EM X.K mu1 H2 (L2.wipe sg vs) (wipeE env vs) := (em.mono (e0.toGrow.trans (e1.toGrow.trans e3.toGrow))).wipe vs
          refine ⟨mu1, wipeE env vs, w.xs[i], emw, r3, ?_⟩
          cases qa : asgT t w.xs[i] (wipeE env vs) with
          | none => rw [qa] at hq1; cases hq1
          | some en1 =>
            rw [qa] at hq1
            dsimp only at hq1
            intro sg' em' sm'
            refine ⟨wipe_same sm' hix, ?_⟩
            unfold tYes
            dsimp only
            rw [if_pos rfl]
            split at hq1
            · rename_i us s4 hin
              split at hq1
              · rename_i vs4 s5 hr
                cases hq1
                unfold innerF at hin
                refine ⟨mu1, en1, s1, em', m3, ?_⟩
                have kw := hki en1 s1
                split at hin
                · rename_i w1 s6 hfi
                  rw [hfi]
                  rw [hfi] at kw
                  intro J1 H4 mu4 e4 m4 wk1
                  split at hin
                  · rename_i us2 s7 hcl
                    cases hin
                    obtain ⟨hv4, hD4⟩ := (e3.trans e4).fr L _ hv1 hD1
                    have hlen1 : (acc ++ us).length ≤ 100000 := by
                      rw [← ha] at hlen
                      simp at hlen ⊢
                      omega
                    refine comp_loop wk1 (e1.trans (e3.trans e4)) hL ((em'.mono e4.toGrow).wipe (ixT t1)) m4 hD4 hv4 (rv1.mono (e3.trans e4).toGrow) hcl hlen1 (fun _ z => z) hke hkt fun mu' H5 vs5 e5 m5 k5 hD5 hv5 r5 => ?_
                    exact ⟨mu', _, acc ++ us, vs4, vs5, m5.frees (wk1.lk.kept k5), e5, k1.trans (Lkd.free kw k5), hD5, hv5, r5, hr, by rw [List.append_assoc]; exact ha⟩
                  · cases hin
                · cases hin
              · cases hq1
            · cases hq1
        · have ei : i = w.xs.length := by omega
          subst ei
          rw [List.drop_length] at hq1
          unfold compL2 at hq1
          cases hq1
          rw [List.append_nil] at ha
          subst ha
          refine .inl ⟨wk.stop mu1 H' _ e1.toGrow k1 m1, ?_⟩
          exact done_ok hL e1 m1 (wk.lk.kept k1) hD1 hv1 rv1 (Pt.shift (r := alloc _ _) e0 p)
      · exact p.elim
theorem se_comp2 {ifs1 : List Expr} {scope : Scope} {own : List (Str × Nat)} {fi fi1 : Env → S → R Wk} {t t1 : Tg} {vs : List Nat} (hc : X.calm = true) (hN : X.N.Nodup) (hi : PI X tg iter (tI X W fi)) (ok : BlkOk X.N X.env.scope scope own) (hvs : own.map (·.2) = vs)
    (hg : ∀ (s : Shared) (H : Hp) (C : Addr) (cl : List (Str × Addr)) (fp : List Addr), PG (X.blk s H scope (compEnvC scope cl C X.env) fp) tg (tG X t))
    (hi1 : ∀ (s : Shared) (H : Hp) (C : Addr) (cl : List (Str × Addr)) (fp : List Addr), PI (X.blk s H scope (compEnvC scope cl C X.env) fp) tg1 iter1 (tI X W0 fi1))
    (hg1 : ∀ (s : Shared) (H : Hp) (C : Addr) (cl : List (Str × Addr)) (fp : List Addr), PG (X.blk s H scope (compEnvC scope cl C X.env) fp) tg1 (tG X t1)) (ht1 : ∀ (s : Shared) (H : Hp) (C : Addr) (cl : List (Str × Addr)) (fp : List Addr), PTs (X.blk s H scope (compEnvC scope cl C X.env) fp) ifs1 (tT X W0 ft))
    (he : ∀ (s : Shared) (H : Hp) (C : Addr) (cl : List (Str × Addr)) (fp : List Addr), PE (X.blk s H scope (compEnvC scope cl C X.env) fp) elt (tE X W0 fe)) (hs : ∀ x, foldedSetIterable iter X.env x = pure x) (hs1 : ∀ env x, foldedSetIterable iter1 env x = pure x)
    (hix : ∀ i ∈ ixT t, i ∈ vs) (hix1 : ∀ i ∈ ixT t1, i ∈ vs) (hke : ∀ e s, KR s (fe e s)) (hkt : ∀ e s, KR s (ft e s)) (hki : ∀ e s, KW s (fi1 e s)) :
    PE X (.ListComp elt [⟨tg, iter, [], 0⟩, ⟨tg1, iter1, ifs1, 0⟩] scope pos) (tE X W (comp2F fi fi1 fe ft t t1 vs)) := by
  subst hvs
  exact (pe_lc2 (vs1 := ixT t1) hc hN hi ok hix1 hg (fun s H C cl fp => pts_nil) hi1 hg1 ht1 he hs hs1).weak fun sg H Q q => lc2_read hix hke hkt hki q
theorem ss_comp2 {i : Nat} {y : Str} {py spos : Pos} {ifs1 : List Expr} {scope : Scope} {own : List (Str × Nat)} {fi fi1 : Env → S → R Wk} {t t1 : Tg} {vs : List Nat} (hy : X.N[i]? = some y) (hyl : X.env.scope.names.lookup y = some .local)
    (hsw : swapsWith (.ListComp elt [⟨tg, iter, [], 0⟩, ⟨tg1, iter1, ifs1, 0⟩] scope pos) (some (.Name y py)) spos.line X.env = pure true) (hc : X.calm = true) (hN : X.N.Nodup) (hi : PI X tg iter (tI X W fi)) (ok : BlkOk X.N X.env.scope scope own) (hvs : own.map (·.2) = vs)
    (hg : ∀ (s : Shared) (H : Hp) (C : Addr) (cl : List (Str × Addr)) (fp : List Addr), PG (X.blk s H scope (compEnvC scope cl C X.env) fp) tg (tG X t))
    (hi1 : ∀ (s : Shared) (H : Hp) (C : Addr) (cl : List (Str × Addr)) (fp : List Addr), PI (X.blk s H scope (compEnvC scope cl C X.env) fp) tg1 iter1 (tI X W0 fi1))
    (hg1 : ∀ (s : Shared) (H : Hp) (C : Addr) (cl : List (Str × Addr)) (fp : List Addr), PG (X.blk s H scope (compEnvC scope cl C X.env) fp) tg1 (tG X t1)) (ht1 : ∀ (s : Shared) (H : Hp) (C : Addr) (cl : List (Str × Addr)) (fp : List Addr), PTs (X.blk s H scope (compEnvC scope cl C X.env) fp) ifs1 (tT X W0 ft))
    (he : ∀ (s : Shared) (H : Hp) (C : Addr) (cl : List (Str × Addr)) (fp : List Addr), PE (X.blk s H scope (compEnvC scope cl C X.env) fp) elt (tE X W0 fe)) (hs : ∀ x, foldedSetIterable iter X.env x = pure x) (hs1 : ∀ env x, foldedSetIterable iter1 env x = pure x)
    (hix : ∀ i ∈ ixT t, i ∈ vs) (hix1 : ∀ i ∈ ixT t1, i ∈ vs) (hke : ∀ e s, KR s (fe e s)) (hkt : ∀ e s, KR s (ft e s)) (hki : ∀ e s, KW s (fi1 e s)) :
    PS X (.Assign [.Name y py] (.ListComp elt [⟨tg, iter, [], 0⟩, ⟨tg1, iter1, ifs1, 0⟩] scope pos) spos) (tS X W fun env s => thenS (comp2F fi fi1 fe ft t t1 vs env s) env fun d s1 => nxO (asgT (.nm i) d env) s1) := by
  subst hvs
  exact (ps_setLc2 (vs1 := ixT t1) hc hN hy hyl hsw hi ok hix1 hg (fun s H C cl fp => pts_nil) hi1 hg1 ht1 he hs hs1).weak fun D sg H q => set_read (fun Q z => lc2_read hix hke hkt hki z) q
end
end Wk

/-! Wk12: from the text to the small machine's terms. -/
namespace Wk
open PySem L2 PyProof.Rows
/-- what a term is made against: the slots, the scope, the names that may be stored though captured, the defs, the constants -/
structure Cg where
  N : List Str
  sc : Scope
  fn : Str → Bool
  fs : List Str
  cs : List (Str × D)
def ixOf (x : Str) : List Str → Option Nat
  | [] => none
  | y :: r => if y = x then some 0 else (ixOf x r).map (· + 1)
def isLoc (c : Cg) (x : Str) : Bool :=
  match c.sc.names.lookup x with
  | some .local => true
  | some .cell => c.fn x
  | _ => false
def isVis (c : Cg) (x : Str) : Bool :=
  match c.sc.names.lookup x with
  | some .local => true
  | some .cell => true
  | some .free => true
  | _ => false
def isGl (c : Cg) (x : Str) : Bool :=
  (match c.sc.names.lookup x with
  | some .globalImplicit => true
  | _ => false) && !(x == ("__debug__" : Str))
def okN (x : Str) : Bool := !(x == ("__debug__" : Str)) && !(x == ("__classdict__" : Str))
def dead : Ex := .rng []
def noStar : Expr → Bool
  | .Starred .. => false
  | _ => true
def noSlice : Expr → Bool
  | .Slice .. => false
  | _ => true
def noSet : Expr → Bool
  | .Set .. => false
  | _ => true
def noCall : Expr → Bool
  | .Call .. => false
  | _ => true
def isTupE : Expr → Bool
  | .Tuple .. => true
  | _ => false
/-! ### targets -/
def allO (f : Expr → Option Tg) : List Expr → Option (List Tg)
  | [] => some []
  | e :: r => match noStar e, f e, allO f r with
    | true, some t, some ts => some (t :: ts)
    | _, _, _ => none
def cT : Nat → Cg → Expr → Option Tg
  | 0, _, _ => none
  | n + 1, c, e => match e with
    | .Name x _ => if isLoc c x then (ixOf x c.N).map .nm else none
    | .Tuple es _ _ => (allO (cT n c) es).map .tup
    | _ => none
/-! ### expressions -/
def cK : Const → Ex
  | .int i => .cst (.int i)
  | .bool b => .cst (.bl b)
  | .none => .cst .non
  | .str x => .cst (.str x)
  | _ => dead
def tyOf (x : Str) : Option String :=
  if x = ("int" : Str) then some "int" else if x = ("bool" : Str) then some "bool" else if x = ("tuple" : Str) then some "tuple" else if x = ("str" : Str) then some "str" else if x = ("list" : Str) then some "list" else none
def cN (c : Cg) (x : Str) : Ex :=
  if isVis c x && okN x then (match ixOf x c.N with
    | some i => .var i
    | none => dead)
  else if isGl c x then (match c.cs.lookup x with
    | some d => .cst d
    | none => match tyOf x with
      | some t => .cst (.ty t)
      | none => dead)
  else dead
def reprOf (c : Cg) : Expr → Option Expr
  | .Call (.Name x _) [a] [] _ => if x = ("repr" : Str) && isGl c x && noStar a then some a else none
  | _ => none
def isEq : CmpOp → Bool
  | .Eq => true
  | _ => false
def cCmp (c : Cg) (r : Expr → Ex) (a : Expr) (op : CmpOp) (b : Expr) : Ex :=
  match isEq op, reprOf c a, reprOf c b with
  | true, some x, some y => .reprEq (r x) (r y)
  | _, _, _ => if behindInMarks op b then dead else .cmp op (r a) (r b)
def bltOf (x : Str) : Option Blt :=
  if x = ("len" : Str) then some .len else if x = ("all" : Str) then some .all else if x = ("any" : Str) then some .any else if x = ("tuple" : Str) then some .tuple else if x = ("list" : Str) then some .list
  else if x = ("int" : Str) then some .int else if x = ("isinstance" : Str) then some .isi else none
def kwNames (kws : List Keyword) : List Str := kws.filterMap (·.arg)
def cCall (c : Cg) (r : Expr → Ex) (x : Str) (es : List Expr) (kws : List Keyword) : Ex :=
  if isGl c x && es.all noStar && kws.all (·.arg.isSome) then (match ixOf x c.fs with
    | some f => .call f (es.map r) (kwNames kws) (kws.map fun k => r k.value)
    | none => match bltOf x, es, kws with
      | some b, _ :: _, [] => .blt b (es.map r)
      | _, _, _ => dead)
  else dead
def wkB : Ex → Bool
  | .rng _ => true
  | .enum _ => true
  | .zip _ _ => true
  | _ => false
def plainI (e : Ex) : Ex := if wkB e then dead else e
/-- in a for's place -/
def cI (c : Cg) (r : Expr → Ex) (tg it : Expr) : Ex :=
  match it with
  | .Call (.Name x _) [a] [] _ => if isGl c x && noStar a && decide (x = ("range" : Str)) then .rng [r a] else if isGl c x && noStar a && decide (x = ("enumerate" : Str)) && isTupE tg then .enum (r a) else plainI (r it)
  | .Call (.Name x _) [a, b] [] _ => if isGl c x && noStar a && noStar b && decide (x = ("range" : Str)) then .rng [r a, r b] else if isGl c x && noStar a && noStar b && decide (x = ("zip" : Str)) && isTupE tg then .zip (r a) (r b) else plainI (r it)
  | _ => plainI (r it)
def blkCg (c : Cg) (scope : Scope) : Cg := { c with sc := relS scope c.sc, fn := fun x => scope.names.lookup x == some .cell }
def ownN (scope : Scope) : List Str → Nat → List (Str × Nat)
  | [], _ => []
  | x :: r, i => match scope.names.lookup x with
    | some .local => (x, i) :: ownN scope r (i + 1)
    | some .cell => (x, i) :: ownN scope r (i + 1)
    | _ => ownN scope r (i + 1)
def subI (xs ys : List Nat) : Bool := xs.all fun i => ys.contains i
def cComp (c : Cg) (r : Cg → Expr → Ex) (rt : Cg → Expr → Ex) (elt : Expr) (gens : List Comprehension) (scope : Scope) : Ex :=
  if blkC c.N c.sc scope (ownN scope c.N 0) then (match gens with
    | [⟨tg, it, ifs, ia⟩] => match cT 20 (blkCg c scope) tg with
      | some t => if decide (ia = 0) && subI (ixT t) ((ownN scope c.N 0).map (·.2)) && noSet it then (match ifs with
          | [] => .comp (r (blkCg c scope) elt) t (cI c (r c) tg it) none ((ownN scope c.N 0).map (·.2))
          | [i] => .comp (r (blkCg c scope) elt) t (cI c (r c) tg it) (some (rt (blkCg c scope) i)) ((ownN scope c.N 0).map (·.2))
          | _ => dead) else dead
      | none => dead
    | [⟨tg, it, [], ia⟩, ⟨tg1, it1, ifs1, ia1⟩] => match cT 20 (blkCg c scope) tg, cT 20 (blkCg c scope) tg1 with
      | some t, some t1 => if decide (ia = 0) && decide (ia1 = 0) && subI (ixT t) ((ownN scope c.N 0).map (·.2)) && subI (ixT t1) ((ownN scope c.N 0).map (·.2)) && noSet it && noSet it1 then (match ifs1 with
          | [] => .comp2 (r (blkCg c scope) elt) t (cI c (r c) tg it) t1 (cI (blkCg c scope) (r (blkCg c scope)) tg1 it1) none ((ownN scope c.N 0).map (·.2))
          | [i] => .comp2 (r (blkCg c scope) elt) t (cI c (r c) tg it) t1 (cI (blkCg c scope) (r (blkCg c scope)) tg1 it1) (some (rt (blkCg c scope) i)) ((ownN scope c.N 0).map (·.2))
          | _ => dead) else dead
      | _, _ => dead
    | _ => dead)
  else dead
def cDic (r : Expr → Ex) : List (Option Expr) → List Expr → Option (List (Ex × Ex))
  | [], [] => some []
  | some k :: ks, v :: vs => (cDic r ks vs).map ((r k, r v) :: ·)
  | _, _ => none
/-- may it stand as a test -/
def okT : Nat → Cg → Expr → Bool
  | 0, _, _ => true
  | n + 1, c, e => match e with
    | .UnaryOp .Not a _ => okT n c a
    | .BoolOp _ [a] _ => okT n c a
    | .BoolOp op (a :: b :: rest) pos => okT n c a && okT n c (.BoolOp op (b :: rest) pos)
    | .IfExp .. => false
    | .Compare a [op] [b] _ => !(isEq op && (reprOf c a).isSome && (reprOf c b).isSome)
    | _ => true
def cE : Nat → Cg → Expr → Ex
  | 0, _, _ => dead
  | n + 1, c, e => match e with
    | .Constant v _ _ => cK v
    | .Name x _ => cN c x
    | .Tuple es _ _ => if es.all noStar && decide (es.length ≤ 100000) then .tup (es.map (cE n c)) else dead
    | .List es _ => if es.all noStar && decide (es.length ≤ 100000) then .lst (es.map (cE n c)) else dead
    | .BinOp a op b _ => .bin op (cE n c a) (cE n c b)
    | .Compare a [op] [b] _ => cCmp c (cE n c) a op b
    | .BoolOp _ [a] _ => cE n c a
    | .BoolOp .And (a :: b :: rest) pos => .and (cE n c a) (cE n c (.BoolOp .And (b :: rest) pos))
    | .BoolOp .Or (a :: b :: rest) pos => .or (cE n c a) (cE n c (.BoolOp .Or (b :: rest) pos))
    | .UnaryOp .Not a _ => .not (cE n c a)
    | .UnaryOp .USub a _ => .neg (cE n c a)
    | .IfExp t a b _ => if okT n c t then .ite (cE n c t) (cE n c a) (cE n c b) else dead
    | .Subscript a (.Slice lo hi none _) _ => .sl (cE n c a) (lo.map (cE n c)) (hi.map (cE n c))
    | .Subscript a b _ => if noSlice b then .idx (cE n c a) (cE n c b) else dead
    | .Call (.Name x _) es kws _ => cCall c (cE n c) x es kws
    | .Call (.Attribute a x apos) [b] [] cpos => if decide (x = ("append" : Str)) && noCall a && noStar b && (apos.endLine == cpos.line) then .app (cE n c a) (cE n c b) else dead
    | .ListComp elt gens scope _ => cComp c (cE n) (fun c e => if okT n c e then cE n c e else dead) elt gens scope
    | .Dict ks vs _ => if decide (ks ≠ []) && decide (ks.length ≤ 15) then (match cDic (cE n c) ks vs with
        | some l => .dic l
        | none => dead) else dead
    | _ => dead
end Wk

/-! Wk13: what the terms do is what the text does: expressions. -/
namespace Wk
open PySem L2 PyProof.Rows
theorem ixOf_ok : ∀ {l : List Str} {x : Str} {i : Nat}, ixOf x l = some i → l[i]? = some x
  | [], _, _, h => by cases h
  | y :: r, x, i, h => by
    unfold ixOf at h
    split at h
    · rename_i e
      cases h
      rw [e]
      rfl
    · obtain ⟨j, hj, rfl⟩ := Option.map_eq_some_iff.mp h
      simpa using ixOf_ok hj
def bnames : List Str := ["range", "enumerate", "zip", "repr", "len", "all", "any", "tuple", "list", "int", "isinstance", "bool", "str"]
structure Cxt (T : Tb) (callee : Nat → List D → S → R D) (k : Nat) (c : Cg) (X : Cx) (W : WX) : Prop where
  N : X.N = c.N
  nd : X.N.Nodup
  sc : X.env.scope = c.sc
  fn : ∀ x, c.fn x = true → X.fn x = true
  calm : X.calm = true
  kind : X.env.scope.kind = .function
  room : Room k X.A
  gd : X.A.guards = some []
  tk : Takes X W
  hp : PassesOwn (model X.prog X.w) X.A X.env X.xe
  bl : ∀ x ∈ bnames, X.mg x = none
  cal : ∀ f x, c.fs[f]? = some x → Callee X T callee k x f
  cst : ∀ x d, c.cs.lookup x = some d → ∃ v u, X.mg x = some u ∧ RelV v u ∧ ∀ mu H, Rep X.K mu H v d
  kept : ∀ f xs s, KR s (callee f xs s)
section
variable {T : Tb} {callee : Nat → List D → S → R D} {k : Nat} {c : Cg} {X : Cx} {W : WX}
theorem Cxt.hu (h : Cxt T callee k c X W) : X.A.units + 64 < cLine := by have := h.room.un; omega
theorem Cxt.gl (h : Cxt T callee k c X W) {x : Str} (q : isGl c x = true) : Gl X x ∧ (x == ("__debug__" : Str)) = false := by
  unfold isGl at q
  simp only [Bool.and_eq_true, Bool.not_eq_true'] at q
  refine ⟨?_, q.2⟩
  show X.env.scope.names.lookup x = some .globalImplicit
  rw [h.sc]
  have q1 := q.1
  split at q1
  · assumption
  · cases q1
theorem Cxt.vis (h : Cxt T callee k c X W) {x : Str} (q : isVis c x = true) : Vis X.env.scope x := by
  unfold isVis at q
  unfold Vis
  rw [h.sc]
  split at q
  · exact .inl (by assumption)
  · exact .inr (.inl (by assumption))
  · exact .inr (.inr (by assumption))
  · cases q
theorem Cxt.loc (h : Cxt T callee k c X W) {x : Str} (q : isLoc c x = true) : L2.Loc X.env.scope x ∧ (X.fn x = true ∨ X.env.scope.names.lookup x = some .local) := by
  unfold isLoc at q
  unfold L2.Loc
  rw [h.sc]
  split at q
  · exact ⟨.inl (by assumption), .inr (by assumption)⟩
  · exact ⟨.inr (by assumption), .inl (h.fn x q)⟩
  · cases q
theorem Cxt.blk (h : Cxt T callee k c X W) {scope : Scope} (hk : scope.kind = .function) (s : Shared) (H : Hp) (C : Addr) (cl : List (Str × Addr)) (fp : List Addr) : Cxt T callee k (blkCg c scope) (X.blk s H scope (compEnvC scope cl C X.env) fp) W0 where
  N := h.N
  nd := h.nd
  sc := by
    show relabel scope X.env = relS scope c.sc
    rw [← h.sc]
    rfl
  fn := fun x hx => hx
  calm := h.calm
  kind := hk
  room := h.room
  gd := h.gd
  tk := fun u s' ⟨_, _, _, _, _, _, _, _, _, _, _, _, _, _, _, _, w⟩ => w.elim
  hp := PassesOwn.never
  bl := h.bl
  cal := fun f x e => ⟨(h.cal f x e).ex⟩
  cst := h.cst
  kept := h.kept
/-! ### nothing -/
theorem se_no {e : Expr} : PE X e (tE X W fun _ _ => .no) := ⟨fun _ _ _ _ _ _ ⟨_, _, _, _, _, p⟩ => p.elim⟩
theorem st_no {e : Expr} : PT X e (tT X W fun _ _ => .no) := ⟨fun _ _ _ _ _ _ ⟨_, _, _, _, _, p⟩ => p.elim⟩
theorem sw_no {e : Expr} : PW X e (tT X W fun _ _ => .no) := ⟨fun _ _ _ _ _ _ _ ⟨_, _, _, _, _, p⟩ => p.elim⟩
theorem si_no {tg it : Expr} : PI X tg it (tI X W fun _ _ => .no) := ⟨fun _ _ _ _ _ _ ⟨_, _, _, _, _, p⟩ => p.elim⟩
/-! ### lists of expressions -/
theorem star_cons {e : Expr} {es : List Expr} {env : PySem.Env} (h : noStar e = true) : starEach (e :: es) env = (false, eval e env) :: starEach es env := by
  cases e <;> first | rfl | cases h
theorem star_any : ∀ {es : List Expr} {env : PySem.Env} {pos : Pos}, es.all noStar = true → (backTo pos (starEach es env)).any (·.1) = false
  | [], _, _, _ => rfl
  | e :: es, env, pos, h => by
    simp only [List.all_cons, Bool.and_eq_true] at h
    rw [star_cons h.1]
    have ih := star_any (env := env) (pos := pos) h.2
    unfold backTo at ih ⊢
    simp only [List.map_cons, List.any_cons, Bool.false_or]
    exact ih
theorem kw_ok : ∀ {kws : List Keyword} {env : PySem.Env} {pos : Pos}, kws.all (·.arg.isSome) = true → (backToKw pos (keywordEach kws env)).all (·.1.isSome) = true ∧ (backToKw pos (keywordEach kws env)).filterMap (·.1) = kwNames kws ∧ (backToKw pos (keywordEach kws env)).any (·.1.isNone) = false
  | [], _, _, _ => ⟨rfl, rfl, rfl⟩
  | ⟨nm, v, p⟩ :: kws, env, pos, h => by
    simp only [List.all_cons, Bool.and_eq_true] at h
    obtain ⟨h1, h2, h3⟩ := kw_ok (env := env) (pos := pos) h.2
    cases nm with
    | none => cases h.1
    | some x =>
      refine ⟨?_, ?_, ?_⟩
      · show (true && (backToKw pos (keywordEach kws env)).all _) = true
        rw [h1]; rfl
      · show x :: (backToKw pos (keywordEach kws env)).filterMap _ = x :: kwNames kws
        rw [h2]
      · show (false || (backToKw pos (keywordEach kws env)).any _) = false
        rw [h3]; rfl
variable {r : Expr → Ex} {F : Ex → Env → S → R D}
theorem pa_map (h : ∀ e, PE X e (tE X W fun env s => F (r e) env s)) : ∀ {es : List Expr}, es.all noStar = true → PA X es (tA X W fun env s => evs (fun e s => F e env s) (es.map r) s)
  | [], _ => sa_nil
  | e :: es, q => by
    simp only [List.all_cons, Bool.and_eq_true] at q
    exact sa_cons (h e) (pa_map h q.2) (star_cons q.1)
theorem pk_map (h : ∀ e, PE X e (tE X W fun env s => F (r e) env s)) : ∀ (kws : List Keyword), PK X kws (tA X W fun env s => evs (fun e s => F e env s) (kws.map fun k => r k.value) s)
  | [] => sk_nil
  | ⟨nm, v, p⟩ :: kws => sk_cons (h v) (pk_map h kws)
theorem evs_len {f : Ex → S → R D} : ∀ {es : List Ex} {s : S} {xs : List D} {s1 : S}, evs f es s = .ok xs s1 → xs.length = es.length
  | [], _, _, _, h => by cases h; rfl
  | e :: es, s, xs, s1, h => by
    unfold evs at h
    cases q : f e s with
    | ok x s2 =>
      rw [q] at h
      have h : (evs f es s2).bind (fun xs s2 => R.ok (x :: xs) s2) = .ok xs s1 := h
      cases q2 : evs f es s2 with
      | ok ys s3 =>
        rw [q2] at h
        cases h
        exact congrArg Nat.succ (evs_len q2)
      | ex _ _ _ => rw [q2] at h; cases h
      | no => rw [q2] at h; cases h
    | ex _ _ _ => rw [q] at h; cases h
    | no => rw [q] at h; cases h
/-! ### targets -/
theorem cT_ok (C : Cxt T callee k c X W) : ∀ {n : Nat} {e : Expr} {t : Tg}, cT n c e = some t → PG X e (tG X t)
  | 0, _, _, h => by cases h
  | n + 1, e, t, h => by
    have each : ∀ (es : List Expr) (ts : List Tg), allO (cT n c) es = some ts → PGs X es (tGs X ts) ∧ (assignEach es X.env).length = ts.length ∧ (assignEach es X.env).findIdx? (·.1) = none := by
      intro es
      induction es with
      | nil =>
        intro ts q
        cases q
        exact ⟨sgs_nil, rfl, rfl⟩
      | cons e1 es ih =>
        intro ts q
        unfold allO at q
        split at q
        · rename_i t1 ts1 h1 h2 h3
          cases q
          obtain ⟨i1, i2, i3⟩ := ih ts1 h3
          have e0 : assignEach (e1 :: es) X.env = (false, assign e1 X.env) :: assignEach es X.env := by
            cases e1 <;> first | rfl | cases h1
          refine ⟨sgs_cons (cT_ok C h2) i1 (by rw [e0]; rfl), ?_, ?_⟩
          · rw [e0, List.length_cons, List.length_cons, i2]
          · rw [e0, List.findIdx?_cons]
            simp [i3]
        · cases q
    unfold cT at h
    split at h
    · rename_i x p
      split at h
      · rename_i hl
        obtain ⟨i, hi, rfl⟩ := Option.map_eq_some_iff.mp h
        obtain ⟨l1, l2⟩ := C.loc hl
        exact sg_nm C.nd (by rw [C.N]; exact ixOf_ok hi) l1 l2
      · cases h
    · rename_i es kk p
      obtain ⟨ts, hts, rfl⟩ := Option.map_eq_some_iff.mp h
      obtain ⟨g1, g2, g3⟩ := each es ts hts
      exact sg_tup C.calm g1 g2 g3
    · cases h
/-! ### names, constants -/
theorem cK_ok {m : Nat} {v : Const} {j : Nat} {pos : Pos} : PE X (.Constant v j pos) (tE X W fun env s => (lv T callee (m + 1)).ex (cK v) env s) := by
  cases v <;> first
    | exact se_con pe_int fun _ _ => .int _
    | exact se_con pe_bl fun _ _ => .bl _
    | exact se_con pe_non fun _ _ => .non
    | exact se_con pe_str fun _ _ => .str _
    | exact se_no
theorem tyOf_ok {x : Str} {t : String} (h : tyOf x = some t) : x ∈ bnames ∧ bootBuiltins x = some (.type t) ∧ x ≠ "__name__" := by
  unfold tyOf at h
  repeat' split at h
  all_goals first | cases h | skip
  all_goals (rename_i e; subst e; exact ⟨by decide, by decide +kernel, by decide⟩)
theorem cN_ok (C : Cxt T callee k c X W) {m : Nat} {x : Str} {pos : Pos} : PE X (.Name x pos) (tE X W fun env s => (lv T callee (m + 1)).ex (cN c x) env s) := by
  unfold cN
  split
  · rename_i h
    simp only [Bool.and_eq_true, okN, Bool.not_eq_true'] at h
    split
    · rename_i i hi
      exact se_var (by rw [C.N]; exact ixOf_ok hi) (C.vis h.1) h.2.1 h.2.2
    · exact se_no
  · split
    · rename_i hg
      obtain ⟨g1, g2⟩ := C.gl hg
      split
      · rename_i d hd
        obtain ⟨v, u, h1, h2, h3⟩ := C.cst x d hd
        exact se_con (pe_glob g1 h1 h2 g2) h3
      · split
        · rename_i t ht
          obtain ⟨b1, b2, b3⟩ := tyOf_ok ht
          exact se_con (pe_bltn (v := .ty t) g1 (C.bl x b1) b2 rfl b3 g2) fun _ _ => .ty t
        · exact se_no
    · exact se_no
/-! ### calls -/
theorem bltOf_ok {x : Str} {b : Blt} (h : bltOf x = some b) : x ∈ bnames ∧ x ≠ "__name__" ∧ ((bootBuiltins x = some (.builtin "len") ∧ b = .len) ∨ (bootBuiltins x = some (.builtin "all") ∧ b = .all) ∨ (bootBuiltins x = some (.builtin "any") ∧ b = .any) ∨
    (bootBuiltins x = some (.type "tuple") ∧ b = .tuple) ∨ (bootBuiltins x = some (.type "list") ∧ b = .list) ∨ (bootBuiltins x = some (.type "int") ∧ b = .int) ∨ (bootBuiltins x = some (.builtin "isinstance") ∧ b = .isi)) := by
  unfold bltOf at h
  split at h
  · rename_i e; cases h; subst e; exact ⟨by decide, by decide, .inl ⟨by decide +kernel, rfl⟩⟩
  split at h
  · rename_i e; cases h; subst e; exact ⟨by decide, by decide, .inr (.inl ⟨by decide +kernel, rfl⟩)⟩
  split at h
  · rename_i e; cases h; subst e; exact ⟨by decide, by decide, .inr (.inr (.inl ⟨by decide +kernel, rfl⟩))⟩
  split at h
  · rename_i e; cases h; subst e; exact ⟨by decide, by decide, .inr (.inr (.inr (.inl ⟨by decide +kernel, rfl⟩)))⟩
  split at h
  · rename_i e; cases h; subst e; exact ⟨by decide, by decide, .inr (.inr (.inr (.inr (.inl ⟨by decide +kernel, rfl⟩))))⟩
  split at h
  · rename_i e; cases h; subst e; exact ⟨by decide, by decide, .inr (.inr (.inr (.inr (.inr (.inl ⟨by decide +kernel, rfl⟩)))))⟩
  split at h
  · rename_i e; cases h; subst e; exact ⟨by decide, by decide, .inr (.inr (.inr (.inr (.inr (.inr ⟨by decide +kernel, rfl⟩)))))⟩
  · cases h
theorem cCall_ok (C : Cxt T callee k c X W) {m : Nat} {x : Str} {p pos : Pos} {es : List Expr} {kws : List Keyword} (h : ∀ e, PE X e (tE X W fun env s => (lv T callee m).ex (r e) env s)) :
    PE X (.Call (.Name x p) es kws pos) (tE X W fun env s => (lv T callee (m + 1)).ex (cCall c r x es kws) env s) := by
  unfold cCall
  split
  · rename_i hc
    simp only [Bool.and_eq_true] at hc
    obtain ⟨⟨h1, h2⟩, h3⟩ := hc
    obtain ⟨g1, g2⟩ := C.gl h1
    have ha := pa_map (F := fun e env s => (lv T callee m).ex e env s) h h2
    split
    · rename_i f hf
      obtain ⟨k1, k2, k3⟩ := kw_ok (env := X.env) (pos := pos) h3
      refine se_call (C.cal f x (ixOf_ok hf)) C.room C.gd C.tk g1 g2 ha (pk_map (F := fun e env s => (lv T callee m).ex e env s) h kws) (fun e => by subst e; intro env s; rfl) (fun e => by subst e; exact ⟨rfl, fun env s => rfl⟩) (fun e r' q => ?_) (star_any h2) k1 k2 k3
      subst q
      simp only [List.all_cons, Bool.and_eq_true] at h2
      exact star_cons h2.1
    · split
      · rename_i b e0 es0 hb
        obtain ⟨b1, b2, b3⟩ := bltOf_ok hb
        have hs := h2
        simp only [List.all_cons, Bool.and_eq_true] at hs
        have hm := C.bl x b1
        rcases b3 with ⟨hv, rfl⟩ | ⟨hv, rfl⟩ | ⟨hv, rfl⟩ | ⟨hv, rfl⟩ | ⟨hv, rfl⟩ | ⟨hv, rfl⟩ | ⟨hv, rfl⟩
        · exact se_blt cl_len g1 hm hv ha b2 g2 (star_cons hs.1) (star_any hs.2)
        · exact se_blt (cl_all C.calm) g1 hm hv ha b2 g2 (star_cons hs.1) (star_any hs.2)
        · exact se_blt (cl_any C.calm) g1 hm hv ha b2 g2 (star_cons hs.1) (star_any hs.2)
        · exact se_bltT cl_tuple g1 hm hv ha b2 g2 (star_cons hs.1) (star_any hs.2)
        · exact se_bltT cl_list g1 hm hv ha b2 g2 (star_cons hs.1) (star_any hs.2)
        · exact se_bltT cl_int g1 hm hv ha b2 g2 (star_cons hs.1) (star_any hs.2)
        · exact se_blt cl_isi g1 hm hv ha b2 g2 (star_cons hs.1) (star_any hs.2)
      · exact se_no
  · exact se_no
/-! ### walks -/
theorem plainI_ok {m : Nat} {tg it : Expr} (h : PE X it (tE X W fun env s => (lv T callee m).ex (r it) env s)) : PI X tg it (tI X W fun env s => walkE (fun e s => (lv T callee m).ex e env s) (plainI (r it)) s) := by
  unfold plainI
  split
  · exact si_no
  · rename_i hw
    have e0 : (fun (env : Env) (s : S) => walkE (fun e s => (lv T callee m).ex e env s) (r it) s) = fun env s => ((lv T callee m).ex (r it) env s).bind fun d s1 => walkOf d s1 := by
      funext env s
      cases q : r it <;> first | rfl | (rw [q] at hw; exact absurd rfl hw)
    rw [e0]
    exact si_seq h
theorem cI_ok (C : Cxt T callee k c X W) {m : Nat} {tg it : Expr} (h : ∀ e, PE X e (tE X W fun env s => (lv T callee m).ex (r e) env s)) : PI X tg it (tI X W fun env s => walkE (fun e s => (lv T callee m).ex e env s) (cI c r tg it) s) := by
  unfold cI
  split
  · rename_i x p a pos
    split
    · rename_i hc
      simp only [Bool.and_eq_true, decide_eq_true_eq] at hc
      obtain ⟨⟨h1, h2⟩, rfl⟩ := hc
      have ha := pa_map (F := fun e env s => (lv T callee m).ex e env s) h (es := [a]) (by simp [h2])
      exact si_rng1 (C.gl h1).1 (C.bl _ (by decide)) ha (fun env s xs s1 q => evs_len q) (star_cons h2)
    · split
      · rename_i hc
        simp only [Bool.and_eq_true, decide_eq_true_eq] at hc
        obtain ⟨⟨⟨h1, h2⟩, rfl⟩, h4⟩ := hc
        have ha := pa_map (F := fun e env s => (lv T callee m).ex e env s) h (es := [a]) (by simp [h2])
        cases tg <;> first
          | exact si_enum (C.gl h1).1 (C.bl _ (by decide)) ha (fun env s => rfl) (star_cons h2)
          | cases h4
      · exact plainI_ok (h _)
  · rename_i x p a b pos
    split
    · rename_i hc
      simp only [Bool.and_eq_true, decide_eq_true_eq] at hc
      obtain ⟨⟨⟨h1, h2⟩, h3⟩, rfl⟩ := hc
      have ha := pa_map (F := fun e env s => (lv T callee m).ex e env s) h (es := [a, b]) (by simp [h2, h3])
      exact si_rng2 (C.gl h1).1 (C.bl _ (by decide)) ha (fun env s xs s1 q => evs_len q) (by rw [star_cons h2, star_cons h3]; rfl) (star_cons h3)
    · split
      · rename_i hc
        simp only [Bool.and_eq_true, decide_eq_true_eq] at hc
        obtain ⟨⟨⟨⟨h1, h2⟩, h3⟩, rfl⟩, h4⟩ := hc
        have ha := pa_map (F := fun e env s => (lv T callee m).ex e env s) h (es := [a, b]) (by simp [h2, h3])
        have eq2 : ∀ env s, evs (fun e s => (lv T callee m).ex e env s) ([a, b].map r) s = ((lv T callee m).ex (r a) env s).bind fun x s1 => ((lv T callee m).ex (r b) env s1).bind fun y s2 => .ok [x, y] s2 := fun env s => by
          show ((lv T callee m).ex (r a) env s).bind _ = _
          congr 1
          funext x s1
          show (((lv T callee m).ex (r b) env s1).bind _).bind _ = _
          cases (lv T callee m).ex (r b) env s1 <;> rfl
        cases tg <;> first
          | exact si_zip (C.gl h1).1 (C.bl _ (by decide)) ha eq2 (star_cons h2) (star_any (by simp [h3]))
          | cases h4
      · exact plainI_ok (h _)
  · exact plainI_ok (h _)
end
end Wk

/-! Wk14: every expression. -/
namespace Wk
open PySem L2 PyProof.Rows
def isBo : Expr → Bool
  | .BoolOp .. => true
  | _ => false
section
variable {T : Tb} {callee : Nat → List D → S → R D} {k : Nat}
/-- what is known of an expression at a depth -/
structure Gd (T : Tb) (callee : Nat → List D → S → R D) (m n : Nat) (c : Cg) (X : Cx) (W : WX) (e : Expr) : Prop where
  pe : PE X e (tE X W fun env s => (lv T callee m).ex (cE n c e) env s)
  pt : okT n c e = true → PT X e (tT X W fun env s => (lv T callee m).ex (cE n c e) env s)
  pw : okT n c e = true → isBo e = true → PW X e (tT X W fun env s => (lv T callee m).ex (cE n c e) env s)
variable {X : Cx} {W : WX} {c : Cg}
/-- a test that is a value -/
theorem Gd.val {m n : Nat} {e : Expr} (h : PE X e (tE X W fun env s => (lv T callee m).ex (cE n c e) env s)) (ht : ∀ whole, isTrue e X.env whole = (do let v ← whole; standAt e.pos; holding [v] (truthy v))) (hb : isBo e = false) : Gd T callee m n c X W e :=
  ⟨h, fun _ => st_val h ht, fun _ q => by rw [hb] at q; cases q⟩
theorem Gd.none {m n : Nat} {e : Expr} (h : ∀ env s, (lv T callee m).ex (cE n c e) env s = .no) : Gd T callee m n c X W e := by
  have q : (fun env s => (lv T callee m).ex (cE n c e) env s) = fun _ _ => .no := by
    funext env s
    exact h env s
  exact ⟨by rw [q]; exact se_no, fun _ => by rw [q]; exact st_no, fun _ _ => by rw [q]; exact sw_no⟩
theorem dead_no {m : Nat} {env : Env} {s : S} : (lv T callee m).ex dead env s = .no := by
  cases m <;> rfl
theorem lv_kr (hc : ∀ f xs s, KR s (callee f xs s)) (m : Nat) (e : Ex) (env : Env) (s : S) : KR s ((lv T callee m).ex e env s) := (lv_kept hc m).1 e env s
theorem lv_ks (hc : ∀ f xs s, KR s (callee f xs s)) (m : Nat) (st : Sm) (env : Env) (s : S) : KS s ((lv T callee m).st st env s) := (lv_kept hc m).2 st env s
theorem cDic_ok {r : Expr → Ex} {F : Ex → Env → S → R D} (h : ∀ e, PE X e (tE X W fun env s => F (r e) env s)) {pos : Pos} : ∀ {ks : List (Option Expr)} {vs : List Expr} {l : List (Ex × Ex)}, cDic r ks vs = some l →
    ∃ fg, PPs X pos ks vs (trsOf X W fg) ∧ (∀ env s, evP2 fg env s = evP (fun e s => F e env s) l s) ∧ ks.all (·.isSome) = true ∧ ks.length = vs.length
  | [], [], l, q => by
    cases q
    exact ⟨[], pps_nil, fun _ _ => rfl, rfl, rfl⟩
  | some kx :: ks, v :: vs, l, q => by
    unfold cDic at q
    obtain ⟨l1, h1, rfl⟩ := Option.map_eq_some_iff.mp q
    obtain ⟨fg, a1, a2, a3, a4⟩ := cDic_ok h (pos := pos) h1
    refine ⟨(fun env s => F (r kx) env s, fun env s => F (r v) env s) :: fg, pps_cons (h kx) (h v) a1, fun env s => ?_, by simpa using a3, by simp [a4]⟩
    show ((F (r kx) env s).bind _) = ((F (r kx) env s).bind _)
    congr 1
    funext x s1
    show ((F (r v) env s1).bind _) = ((F (r v) env s1).bind _)
    congr 1
    funext y s2
    rw [a2]
  | none :: _, _ :: _, _, q => by cases q
  | none :: _, [], _, q => by cases q
  | some _ :: _, [], _, q => by cases q
  | [], _ :: _, _, q => by cases q
/-- own names' slots -/
theorem own_map {scope : Scope} {N : List Str} : (ownN scope N 0).map (·.2) = (ownN scope N 0).map (·.2) := rfl
theorem subI_ok {xs ys : List Nat} (h : subI xs ys = true) : ∀ i ∈ xs, i ∈ ys := fun i hi => by
  have := List.all_eq_true.mp h i hi
  simpa using this
theorem noSet_ok {it : Expr} {env : PySem.Env} (h : noSet it = true) : ∀ x, foldedSetIterable it env x = pure x := fun x => by
  cases it <;> first | rfl | cases h
theorem tst_none {F : Ex → Env → S → R D} {scope : Scope} (s : Shared) (H : Hp) (C : Addr) (cl : List (Str × Addr)) (fp : List Addr) : PTs (X.blk s H scope (compEnvC scope cl C X.env) fp) [] (tT X W0 fun env s => tstOf F none env s) :=
  ⟨fun pins st σ H2 Q I ⟨mu, env, s2, em, sm, p⟩ => pts_nil.run pins st σ H2 Q I (Pt.ok (rp := rpI) (y := true) p sm rfl)⟩
theorem comp_ok {m n : Nat} (C : Cxt T callee k c X W) (ih : ∀ X W c, Cxt T callee k c X W → ∀ e, Gd T callee m n c X W e) {elt : Expr} {gens : List Comprehension} {scope : Scope} {pos : Pos} :
    PE X (.ListComp elt gens scope pos) (tE X W fun env s => (lv T callee (m + 1)).ex (cComp c (cE n) (fun c e => if okT n c e then cE n c e else dead) elt gens scope) env s) := by
  unfold cComp
  split
  · rename_i hb
    have ok : BlkOk X.N X.env.scope scope (ownN scope c.N 0) := by
      rw [C.N, C.sc]
      exact blkOk_by hb
    have CB := fun s H Cc cl fp => C.blk (scope := scope) ok.kind s H Cc cl fp
    have tests : ∀ (i : Expr) (s : Shared) (H : Hp) (Cc : Addr) (cl : List (Str × Addr)) (fp : List Addr), PTs (X.blk s H scope (compEnvC scope cl Cc X.env) fp) [i] (tT X W0 fun env s => tstOf (lv T callee m).ex (some (if okT n (blkCg c scope) i then cE n (blkCg c scope) i else dead)) env s) := fun i s H Cc cl fp => by
      split
      · rename_i hok
        exact pts_one ((ih _ _ _ (CB s H Cc cl fp) i).pt hok)
      · refine ⟨fun pins st σ H2 Q I ⟨mu, env, s2, em, sm, p⟩ => ?_⟩
        have e0 : tstOf (lv T callee m).ex (some dead) env s2 = .no := dead_no
        dsimp only at p
        rw [e0] at p
        exact p.elim
    have kt : ∀ (cc : Option Ex) (e : Env) (s : S), KR s (tstOf (lv T callee m).ex cc e s) := fun cc e s => kr_tst (lv_kr C.kept m) cc e s
    split
    · rename_i tg it ifs ia
      split
      · rename_i t ht
        split
        · rename_i hc
          simp only [Bool.and_eq_true, decide_eq_true_eq] at hc
          obtain ⟨⟨rfl, h2⟩, h3⟩ := hc
          have hi := cI_ok C (tg := tg) (it := it) fun e => (ih X W c C e).pe
          split
          · exact se_comp (ft := fun env s => tstOf (lv T callee m).ex none env s) C.calm C.nd hi ok rfl (fun s H Cc cl fp => cT_ok (CB s H Cc cl fp) ht) tst_none (fun s H Cc cl fp => (ih _ _ _ (CB s H Cc cl fp) elt).pe) (noSet_ok h3) (subI_ok h2) (lv_kr C.kept m _) (kt none)
          · exact se_comp C.calm C.nd hi ok rfl (fun s H Cc cl fp => cT_ok (CB s H Cc cl fp) ht) (tests _) (fun s H Cc cl fp => (ih _ _ _ (CB s H Cc cl fp) elt).pe) (noSet_ok h3) (subI_ok h2) (lv_kr C.kept m _) (kt _)
          · exact se_no
        · exact se_no
      · exact se_no
    · rename_i tg it ia tg1 it1 ifs1 ia1
      split
      · rename_i t t1 ht ht1
        split
        · rename_i hc
          simp only [Bool.and_eq_true, decide_eq_true_eq] at hc
          obtain ⟨⟨⟨⟨⟨rfl, rfl⟩, h2⟩, h3⟩, h4⟩, h5⟩ := hc
          have hi := cI_ok C (tg := tg) (it := it) fun e => (ih X W c C e).pe
          have hi1 := fun s H Cc cl fp => cI_ok (CB s H Cc cl fp) (tg := tg1) (it := it1) fun e => (ih _ _ _ (CB s H Cc cl fp) e).pe
          have kw : ∀ (x : Ex) (e : Env) (s : S), KW s (walkE (fun z s => (lv T callee m).ex z e s) x s) := fun x e s => kw_walkE (fun z s => lv_kr C.kept m z e s) x s
          split
          · exact se_comp2 (ft := fun env s => tstOf (lv T callee m).ex none env s) C.calm C.nd hi ok rfl (fun s H Cc cl fp => cT_ok (CB s H Cc cl fp) ht) hi1 (fun s H Cc cl fp => cT_ok (CB s H Cc cl fp) ht1) tst_none (fun s H Cc cl fp => (ih _ _ _ (CB s H Cc cl fp) elt).pe) (noSet_ok h4) (fun env => noSet_ok h5) (subI_ok h2) (subI_ok h3) (lv_kr C.kept m _) (kt none) (kw _)
          · exact se_comp2 C.calm C.nd hi ok rfl (fun s H Cc cl fp => cT_ok (CB s H Cc cl fp) ht) hi1 (fun s H Cc cl fp => cT_ok (CB s H Cc cl fp) ht1) (tests _) (fun s H Cc cl fp => (ih _ _ _ (CB s H Cc cl fp) elt).pe) (noSet_ok h4) (fun env => noSet_ok h5) (subI_ok h2) (subI_ok h3) (lv_kr C.kept m _) (kt _) (kw _)
          · exact se_no
        · exact se_no
      · exact se_no
    · exact se_no
  · exact se_no
theorem ex_ok : ∀ (m n : Nat) (X : Cx) (W : WX) (c : Cg), Cxt T callee k c X W → ∀ e, Gd T callee m n c X W e := by
  intro m
  induction m with
  | zero => exact fun n X W c C e => Gd.none fun _ _ => rfl
  | succ m ihm =>
    intro n
    induction n with
    | zero => exact fun X W c C e => Gd.none fun _ _ => rfl
    | succ n ihn =>
      intro X W c C e
      have P : ∀ e, PE X e (tE X W fun env s => (lv T callee m).ex (cE n c e) env s) := fun e => (ihm n X W c C e).pe
      have PL : ∀ {es : List Expr}, es.all noStar = true → PA X es (tA X W fun env s => evs (fun e s => (lv T callee m).ex e env s) (es.map (cE n c)) s) := fun q => pa_map (F := fun e env s => (lv T callee m).ex e env s) P q
      cases e with
      | Constant v j pos => exact Gd.val cK_ok (fun _ => rfl) rfl
      | Name x pos => exact Gd.val (cN_ok C) (fun _ => rfl) rfl
      | Tuple es kk pos =>
        refine Gd.val ?_ (fun _ => rfl) rfl
        show PE X _ (tE X W fun env s => (lv T callee (m + 1)).ex (if es.all noStar && decide (es.length ≤ 100000) then .tup (es.map (cE n c)) else dead) env s)
        split
        · rename_i hc
          simp only [Bool.and_eq_true, decide_eq_true_eq] at hc
          exact se_tup (fun env s xs s1 q => by rw [evs_len q, List.length_map]; exact hc.2) (PL hc.1)
        · exact se_no
      | List es pos =>
        refine Gd.val ?_ (fun _ => rfl) rfl
        show PE X _ (tE X W fun env s => (lv T callee (m + 1)).ex (if es.all noStar && decide (es.length ≤ 100000) then .lst (es.map (cE n c)) else dead) env s)
        split
        · rename_i hc
          simp only [Bool.and_eq_true, decide_eq_true_eq] at hc
          exact se_lst (fun env s xs s1 q => by rw [evs_len q, List.length_map]; exact hc.2) (PL hc.1)
        · exact se_no
      | BinOp a op b pos => exact Gd.val (se_bin (bin_ok op) (P a) (P b)) (fun _ => rfl) rfl
      | Compare a ops bs pos =>
        match ops, bs with
        | [op], [b] =>
          by_cases hr : ∃ x y, isEq op = true ∧ reprOf c a = some x ∧ reprOf c b = some y
          · obtain ⟨x, y, h1, h2, h3⟩ := hr
            refine ⟨?_, fun q => ?_, fun _ q => by cases q⟩
            · show PE X _ (tE X W fun env s => (lv T callee (m + 1)).ex (cCmp c (cE n c) a op b) env s)
              unfold cCmp
              rw [h1, h2, h3]
              have eo : op = .Eq := by cases op <;> first | rfl | cases h1
              subst eo
              unfold reprOf at h2 h3
              split at h2
              · split at h2
                · rename_i x1 p1 a1 q1 hc1
                  split at h3
                  · split at h3
                    · rename_i x2 p2 a2 q2 hc2
                      cases h2
                      cases h3
                      simp only [Bool.and_eq_true, decide_eq_true_eq] at hc1 hc2
                      obtain ⟨⟨rfl, g1⟩, s1⟩ := hc1
                      obtain ⟨⟨rfl, g2⟩, s2⟩ := hc2
                      exact se_repr C.gd C.hu (C.gl g1).1 (C.bl _ (by decide)) (PL (es := [x]) (by simp [s1])) (PL (es := [y]) (by simp [s2])) (fun env s => rfl) (fun env s => rfl) (star_cons s1) (star_cons s2)
                    · cases h3
                  · cases h3
                · cases h2
              · cases h2
            · exact absurd q (by simp [okT, h1, h2, h3])
          · have e0 : cCmp c (cE n c) a op b = if behindInMarks op b then dead else .cmp op (cE n c a) (cE n c b) := by
              unfold cCmp
              split
              · rename_i x y h1 h2 h3
                exact absurd ⟨x, y, h1, h2, h3⟩ hr
              · rfl
            refine ⟨?_, fun _ => ?_, fun _ q => by cases q⟩
            · show PE X _ (tE X W fun env s => (lv T callee (m + 1)).ex (cCmp c (cE n c) a op b) env s)
              rw [e0]
              split
              · exact se_no
              · rename_i hm
                exact se_cmp (cm_all C.hu op) (by simpa using hm) (P a) (P b)
            · show PT X _ (tT X W fun env s => (lv T callee (m + 1)).ex (cCmp c (cE n c) a op b) env s)
              rw [e0]
              split
              · exact st_no
              · rename_i hm
                exact st_cmp (cm_all C.hu op) (by simpa using hm) (P a) (P b)
        | [], _ => exact Gd.none fun _ _ => rfl
        | _ :: _ :: _, _ => exact Gd.none fun _ _ => rfl
        | [_], [] => exact Gd.none fun _ _ => rfl
        | [_], _ :: _ :: _ => exact Gd.none fun _ _ => rfl
      | BoolOp op es pos =>
        match op, es with
        | op, [] => cases op <;> exact Gd.none fun _ _ => rfl
        | .And, [a] =>
          have g := ihn X W c C a
          exact ⟨pe_one g.pe, fun q => (sw_and1 (g.pt q)).pt, fun q _ => sw_and1 (g.pt q)⟩
        | .Or, [a] =>
          have g := ihn X W c C a
          exact ⟨pe_one g.pe, fun q => (sw_or1 (g.pt q)).pt, fun q _ => sw_or1 (g.pt q)⟩
        | .And, a :: b :: rest =>
          have ga := ihm n X W c C a
          have gb := ihm n X W c C (.BoolOp .And (b :: rest) pos)
          have w : okT (n + 1) c (.BoolOp .And (a :: b :: rest) pos) = true → PW X (.BoolOp .And (a :: b :: rest) pos) (tT X W fun env s => (lv T callee (m + 1)).ex (cE (n + 1) c (.BoolOp .And (a :: b :: rest) pos)) env s) := fun q => by
            have q : (okT n c a && okT n c (.BoolOp .And (b :: rest) pos)) = true := q
            simp only [Bool.and_eq_true] at q
            exact sw_and (ga.pt q.1) (gb.pw q.2 rfl)
          exact ⟨se_and ga.pe gb.pe, fun q => (w q).pt, fun q _ => w q⟩
        | .Or, a :: b :: rest =>
          have ga := ihm n X W c C a
          have gb := ihm n X W c C (.BoolOp .Or (b :: rest) pos)
          have w : okT (n + 1) c (.BoolOp .Or (a :: b :: rest) pos) = true → PW X (.BoolOp .Or (a :: b :: rest) pos) (tT X W fun env s => (lv T callee (m + 1)).ex (cE (n + 1) c (.BoolOp .Or (a :: b :: rest) pos)) env s) := fun q => by
            have q : (okT n c a && okT n c (.BoolOp .Or (b :: rest) pos)) = true := q
            simp only [Bool.and_eq_true] at q
            exact sw_or (ga.pt q.1) (gb.pw q.2 rfl)
          exact ⟨se_or ga.pe gb.pe, fun q => (w q).pt, fun q _ => w q⟩
      | UnaryOp op a pos =>
        cases op with
        | Not => exact ⟨se_not (P a), fun q => st_not ((ihm n X W c C a).pt q), fun _ q => by cases q⟩
        | USub => exact Gd.val (se_neg (P a)) (fun _ => rfl) rfl
        | _ => exact Gd.none fun _ _ => rfl
      | IfExp t a b pos =>
        refine ⟨?_, fun q => (by cases q), fun _ q => (by cases q)⟩
        show PE X _ (tE X W fun env s => (lv T callee (m + 1)).ex (if okT n c t then .ite (cE n c t) (cE n c a) (cE n c b) else dead) env s)
        split
        · rename_i ht
          exact se_ite ((ihm n X W c C t).pt ht) (P a) (P b)
        · exact se_no
      | Subscript a b pos =>
        cases b with
        | Slice lo hi st p2 =>
          cases st with
          | some st => exact Gd.none fun _ _ => rfl
          | none =>
            refine Gd.val ?_ (fun _ => rfl) rfl
            cases lo with
            | none =>
              cases hi with
              | none => exact se_sl (P a) so_none so_none
              | some h => exact se_sl (P a) so_none (so_some (P h))
            | some l =>
              cases hi with
              | none => exact se_sl (P a) (so_some (P l)) so_none
              | some h => exact se_sl (P a) (so_some (P l)) (so_some (P h))
        | _ => exact Gd.val (se_idx C.hu (fun _ _ => rfl) (P a) (P _)) (fun _ => rfl) rfl
      | Call f es kws pos =>
        cases f with
        | Name x p => exact Gd.val (cCall_ok C P) (fun _ => rfl) rfl
        | Attribute a x apos =>
          match es, kws with
          | [b], [] =>
            refine Gd.val ?_ (fun _ => rfl) rfl
            show PE X _ (tE X W fun env s => (lv T callee (m + 1)).ex (if decide (x = ("append" : Str)) && noCall a && noStar b && (apos.endLine == pos.line) then .app (cE n c a) (cE n c b) else dead) env s)
            split
            · rename_i hc
              simp only [Bool.and_eq_true, decide_eq_true_eq] at hc
              obtain ⟨⟨⟨rfl, h2⟩, h3⟩, h4⟩ := hc
              refine se_app (P a) (PL (es := [b]) (by simp [h3])) (fun env s => rfl) ?_ ?_ h4 (star_cons h3) rfl
              · cases a <;> first | rfl | cases h2
              · rw [star_cons h3]; rfl
            · exact se_no
          | [], _ => exact Gd.none fun _ _ => rfl
          | _ :: _ :: _, _ => exact Gd.none fun _ _ => rfl
          | [_], _ :: _ => exact Gd.none fun _ _ => rfl
        | _ => exact Gd.none fun _ _ => rfl
      | ListComp elt gens scope pos => exact Gd.val (comp_ok C (ihm n)) (fun _ => rfl) rfl
      | Dict ks vs pos =>
        refine Gd.val ?_ (fun _ => rfl) rfl
        show PE X _ (tE X W fun env s => (lv T callee (m + 1)).ex (if decide (ks ≠ []) && decide (ks.length ≤ 15) then (match cDic (cE n c) ks vs with
          | some l => .dic l
          | none => dead) else dead) env s)
        split
        · rename_i hc
          simp only [Bool.and_eq_true, decide_eq_true_eq] at hc
          split
          · rename_i l hl
            obtain ⟨fg, a1, a2, a3, a4⟩ := cDic_ok (F := fun e env s => (lv T callee m).ex e env s) P (pos := pos) hl
            have z := se_dic a1 a3 a4 hc.1 hc.2
            simp only [a2] at z
            exact z
          · exact se_no
        · exact se_no
      | _ => exact Gd.none fun _ _ => rfl
end
end Wk

/-! Wk15: every statement. -/
namespace Wk
open PySem L2 PyProof.Rows
def isComp : Expr → Bool
  | .ListComp .. => true
  | .SetComp .. => true
  | .DictComp .. => true
  | _ => false
def isStr : Expr → Bool
  | .Constant (.str _) _ _ => true
  | _ => false
/-- is name = [..] stored the other way -/
def swB (sc scope : Scope) (t : Str) (tp vp : Pos) : Bool := (sc.names.lookup t == some .local) && (tp.line == vp.line) && !(scope.names.any fun (n, k) => n == t && (k == .local || k == .cell))
theorem swB_ok {elt : Expr} {gs : List Comprehension} {scope : Scope} {vp tp : Pos} {t : Str} {l : Nat} {env : PySem.Env} (hk : env.scope.kind = .function) : swapsWith (.ListComp elt gs scope vp) (some (.Name t tp)) l env = pure (swB env.scope scope t tp vp) := by
  have hb : env.blockKind = .function := by unfold PySem.Env.blockKind; rw [hk]; rfl
  unfold swapsWith swB
  simp only [hb, Expr.pos]
  rfl
/-- the names that are stored from the right; none: it is not known -/
def swN (sc : Scope) (ts vs : List Expr) : Option (Option (List Str)) :=
  if !(ts.length == 2 || ts.length == 3) || vs.length != ts.length then some none
  else if vs.any fun | .Starred .. => true | _ => false then some none
  else if (ts.filterMap fun
    | .Name id pos => if sc.names.lookup id == some .local && pos.line == (ts.head?.map (·.pos.line)).getD 0 then some id else none
    | _ => none).length != ts.length || (ts.filterMap fun
    | .Name id pos => if sc.names.lookup id == some .local && pos.line == (ts.head?.map (·.pos.line)).getD 0 then some id else none
    | _ => none).eraseDups.length != (ts.filterMap fun
    | .Name id pos => if sc.names.lookup id == some .local && pos.line == (ts.head?.map (·.pos.line)).getD 0 then some id else none
    | _ => none).length then some none
  else if vs.all (foldedForSure 8) then some none
  else if vs.all (constantsAlone 8) then none
  else some (some (ts.filterMap fun
    | .Name id pos => if sc.names.lookup id == some .local && pos.line == (ts.head?.map (·.pos.line)).getD 0 then some id else none
    | _ => none))
theorem swN_ok {env : PySem.Env} (hk : env.scope.kind = .function) {ts vs : List Expr} {k1 k2 : Nat} {p1 p2 : Pos} {o : Option (List Str)} (h : swN env.scope ts vs = some o) : swappedStores [.Tuple ts k1 p1] (.Tuple vs k2 p2) env = pure o := by
  have hb : env.blockKind = .function := by unfold PySem.Env.blockKind; rw [hk]; rfl
  have hbb : (env.blockKind != ScopeKind.function) = false := by rw [hb]; rfl
  unfold swN at h
  unfold swappedStores
  simp only [hbb, Bool.or_false]
  split at h
  · rename_i q
    cases h
    exact if_pos q
  rename_i q1
  split at h
  · rename_i q
    cases h
    exact (if_neg q1).trans (if_pos q)
  rename_i q2
  split at h
  · rename_i q
    cases h
    exact (if_neg q1).trans ((if_neg q2).trans (if_pos q))
  rename_i q3
  split at h
  · rename_i q
    cases h
    exact (if_neg q1).trans ((if_neg q2).trans ((if_neg q3).trans (if_pos q)))
  rename_i q4
  split at h
  · cases h
  rename_i q5
  cases h
  exact (if_neg q1).trans ((if_neg q2).trans ((if_neg q3).trans ((if_neg q4).trans (if_neg q5))))
/-! ### what is stored -/
def cOne (c : Cg) (tg : Expr) (e : Ex) : Sm :=
  match cT 20 c tg with
  | some t => .asg t e
  | none => .dead
def isL (sc : Scope) (x : Str) : Bool :=
  match sc.names.lookup x with
  | some .local => true
  | _ => false
def cPar (c : Cg) (ts vs : List Expr) (names : List Str) (e : Ex) : Sm :=
  match ts, vs, names with
  | [.Name x _, .Name y _], [a, b], [x1, y1] => match ixOf x c.N, ixOf y c.N with
    | some i, some j => if decide (x = x1) && decide (y = y1) && decide (i ≠ j) && isL c.sc x && isL c.sc y && noStar a && noStar b then .asg (.tup [.nm i, .nm j]) e else .dead
    | _, _ => .dead
  | [.Name x _, .Name y _, .Name z _], [a, b, d], [x1, y1, z1] => match ixOf x c.N, ixOf y c.N, ixOf z c.N with
    | some i, some j, some l => if decide (x = x1) && decide (y = y1) && decide (z = z1) && decide (i ≠ j) && decide (i ≠ l) && decide (j ≠ l) && isL c.sc x && isL c.sc y && isL c.sc z && noStar a && noStar b && noStar d then .asg (.tup [.nm i, .nm j, .nm l]) e else .dead
    | _, _, _ => .dead
  | _, _, _ => .dead
def cAsg (c : Cg) (r : Expr → Ex) (tg e : Expr) : Sm :=
  match tg with
  | .Subscript o i _ => if noSlice i then .setI (r o) (r i) (r e) else .dead
  | .Name .. => cOne c tg (r e)
  | .Tuple ts _ _ => match e with
    | .Tuple vs _ _ => match swN c.sc ts vs with
      | some none => cOne c tg (r e)
      | some (some names) => cPar c ts vs names (r e)
      | none => .dead
    | _ => cOne c tg (r e)
  | _ => .dead
def cS : Nat → Cg → Stmt → Sm
  | 0, _, _ => .dead
  | n + 1, c, st => match st with
    | .Assign [tg] e _ => cAsg c (cE n c) tg e
    | .Expr e _ => if isStr e then .pass else if isComp e then .dead else .expr (cE n c e)
    | .Return (some e) _ => .ret (cE n c e)
    | .Return none _ => .retN
    | .If t a b _ => if okT n c t then .ite (cE n c t) (a.map (cS n c)) (b.map (cS n c)) else .dead
    | .For tg it body [] _ => match cT 20 c tg with
      | some t => if noSet it then .for_ t (cI c (cE n c) tg it) (body.map (cS n c)) else .dead
      | none => .dead
    | .While t body [] _ => if okT n c t then .whl (cE n c t) (body.map (cS n c)) else .dead
    | .Break _ => .brk
    | .Continue _ => .cnt
    | .Pass _ => .pass
    | _ => .dead
section
variable {T : Tb} {callee : Nat → List D → S → R D} {k : Nat} {X : Cx} {W : WX} {c : Cg}
theorem ss_then0 {st : Stmt} {K : Env → D → S → RS} : PS X st (tS X W fun env s => thenS .no env (K env)) := ⟨fun _ _ _ _ _ _ ⟨_, _, _, _, _, p⟩ => p.elim⟩
theorem ss_thenN {st : Stmt} {F : Env → S → R D} {K : Env → D → S → RS} (h : ∀ env s, F env s = .no) : PS X st (tS X W fun env s => thenS (F env s) env (K env)) := ⟨fun _ _ _ _ _ _ ⟨_, _, _, _, _, p⟩ => by
  dsimp only at p
  rw [h] at p
  exact p.elim⟩
theorem comp_okS {m n i : Nat} {y : Str} {py spos : Pos} (C : Cxt T callee k c X W) (ih : ∀ X W c, Cxt T callee k c X W → ∀ e, Gd T callee m n c X W e) {elt : Expr} {gens : List Comprehension} {scope : Scope} {pos : Pos} (hy : X.N[i]? = some y) (hyl : X.env.scope.names.lookup y = some .local) (hsw : swapsWith (.ListComp elt gens scope pos) (some (.Name y py)) spos.line X.env = pure true) :
    PS X (.Assign [.Name y py] (.ListComp elt gens scope pos) spos) (tS X W fun env s => thenS ((lv T callee (m + 1)).ex (cComp c (cE n) (fun c e => if okT n c e then cE n c e else dead) elt gens scope) env s) env fun d s1 => nxO (asgT (.nm i) d env) s1) := by
  unfold cComp
  split
  · rename_i hb
    have ok : BlkOk X.N X.env.scope scope (ownN scope c.N 0) := by
      rw [C.N, C.sc]
      exact blkOk_by hb
    have CB := fun s H Cc cl fp => C.blk (scope := scope) ok.kind s H Cc cl fp
    have tests : ∀ (i : Expr) (s : Shared) (H : Hp) (Cc : Addr) (cl : List (Str × Addr)) (fp : List Addr), PTs (X.blk s H scope (compEnvC scope cl Cc X.env) fp) [i] (tT X W0 fun env s => tstOf (lv T callee m).ex (some (if okT n (blkCg c scope) i then cE n (blkCg c scope) i else dead)) env s) := fun i s H Cc cl fp => by
      split
      · rename_i hok
        exact pts_one ((ih _ _ _ (CB s H Cc cl fp) i).pt hok)
      · refine ⟨fun pins st σ H2 Q I ⟨mu, env, s2, em, sm, p⟩ => ?_⟩
        have e0 : tstOf (lv T callee m).ex (some dead) env s2 = .no := dead_no
        dsimp only at p
        rw [e0] at p
        exact p.elim
    have kt : ∀ (cc : Option Ex) (e : Env) (s : S), KR s (tstOf (lv T callee m).ex cc e s) := fun cc e s => kr_tst (lv_kr C.kept m) cc e s
    split
    · rename_i tg it ifs ia
      split
      · rename_i t ht
        split
        · rename_i hc
          simp only [Bool.and_eq_true, decide_eq_true_eq] at hc
          obtain ⟨⟨rfl, h2⟩, h3⟩ := hc
          have hi := cI_ok C (tg := tg) (it := it) fun e => (ih X W c C e).pe
          split
          · exact ss_comp hy hyl hsw (ft := fun env s => tstOf (lv T callee m).ex none env s) C.calm C.nd hi ok rfl (fun s H Cc cl fp => cT_ok (CB s H Cc cl fp) ht) tst_none (fun s H Cc cl fp => (ih _ _ _ (CB s H Cc cl fp) elt).pe) (noSet_ok h3) (subI_ok h2) (lv_kr C.kept m _) (kt none)
          · exact ss_comp hy hyl hsw C.calm C.nd hi ok rfl (fun s H Cc cl fp => cT_ok (CB s H Cc cl fp) ht) (tests _) (fun s H Cc cl fp => (ih _ _ _ (CB s H Cc cl fp) elt).pe) (noSet_ok h3) (subI_ok h2) (lv_kr C.kept m _) (kt _)
          · exact ss_then0
        · exact ss_then0
      · exact ss_then0
    · rename_i tg it ia tg1 it1 ifs1 ia1
      split
      · rename_i t t1 ht ht1
        split
        · rename_i hc
          simp only [Bool.and_eq_true, decide_eq_true_eq] at hc
          obtain ⟨⟨⟨⟨⟨rfl, rfl⟩, h2⟩, h3⟩, h4⟩, h5⟩ := hc
          have hi := cI_ok C (tg := tg) (it := it) fun e => (ih X W c C e).pe
          have hi1 := fun s H Cc cl fp => cI_ok (CB s H Cc cl fp) (tg := tg1) (it := it1) fun e => (ih _ _ _ (CB s H Cc cl fp) e).pe
          have kw : ∀ (x : Ex) (e : Env) (s : S), KW s (walkE (fun z s => (lv T callee m).ex z e s) x s) := fun x e s => kw_walkE (fun z s => lv_kr C.kept m z e s) x s
          split
          · exact ss_comp2 hy hyl hsw (ft := fun env s => tstOf (lv T callee m).ex none env s) C.calm C.nd hi ok rfl (fun s H Cc cl fp => cT_ok (CB s H Cc cl fp) ht) hi1 (fun s H Cc cl fp => cT_ok (CB s H Cc cl fp) ht1) tst_none (fun s H Cc cl fp => (ih _ _ _ (CB s H Cc cl fp) elt).pe) (noSet_ok h4) (fun env => noSet_ok h5) (subI_ok h2) (subI_ok h3) (lv_kr C.kept m _) (kt none) (kw _)
          · exact ss_comp2 hy hyl hsw C.calm C.nd hi ok rfl (fun s H Cc cl fp => cT_ok (CB s H Cc cl fp) ht) hi1 (fun s H Cc cl fp => cT_ok (CB s H Cc cl fp) ht1) (tests _) (fun s H Cc cl fp => (ih _ _ _ (CB s H Cc cl fp) elt).pe) (noSet_ok h4) (fun env => noSet_ok h5) (subI_ok h2) (subI_ok h3) (lv_kr C.kept m _) (kt _) (kw _)
          · exact ss_then0
        · exact ss_then0
      · exact ss_then0
    · exact ss_then0
  · exact ss_then0

theorem isL_ok (C : Cxt T callee k c X W) {x : Str} (h : isL c.sc x = true) : X.env.scope.names.lookup x = some .local := by
  unfold isL at h
  rw [C.sc]
  split at h
  · assumption
  · cases h
theorem dead_st {m : Nat} {env : Env} {s : S} : (lv T callee m).st .dead env s = .no := by
  cases m <;> rfl
theorem ss_dead {st : Stmt} {m : Nat} : PS X st (tS X W fun env s => (lv T callee m).st .dead env s) := ⟨fun _ _ _ _ _ _ ⟨_, _, _, _, _, p⟩ => by
  dsimp only at p
  rw [dead_st] at p
  exact p.elim⟩
theorem par3_ok {i j l : Nat} {x y z : Str} {a b d : Expr} {px py pz pt pos : Pos} {kt k2 pt2} {fs : Env → S → R (List D)} (hc : X.calm = true) (hN : X.N.Nodup) (hi : X.N[i]? = some x) (hj : X.N[j]? = some y) (hl : X.N[l]? = some z) (hij : i ≠ j) (hil : i ≠ l) (hjl : j ≠ l)
    (hx : X.env.scope.names.lookup x = some .local) (hy : X.env.scope.names.lookup y = some .local) (hz : X.env.scope.names.lookup z = some .local) (ha : PA X [a, b, d] (tA X W fs))
    (hw : swappedStores [.Tuple [.Name x px, .Name y py, .Name z pz] kt pt] (.Tuple [a, b, d] k2 pt2) X.env = pure (some [x, y, z])) (hs : swapsWithSole [.Tuple [.Name x px, .Name y py, .Name z pz] kt pt] (.Tuple [a, b, d] k2 pt2) pos.line X.env = pure false) :
    PS X (.Assign [.Tuple [.Name x px, .Name y py, .Name z pz] kt pt] (.Tuple [a, b, d] k2 pt2) pos) (tS X W fun env s => thenS ((fs env s).bind fun xs s1 => .ok (.tup xs) s1) env fun d s1 => nxO (asgT (.tup [.nm i, .nm j, .nm l]) d env) s1) := by
  refine (ps_par3 hc hN hi hj hl hij hil hjl hx hy hz ha hw hs).weak fun D sg H ⟨mu, env, s, em, sm, p⟩ => ?_
  refine ⟨mu, env, s, em, sm, ?_⟩
  dsimp only at p
  cases q : fs env s with
  | no => rw [q] at p; exact p
  | ex c fs s1 => rw [q] at p; exact fun cls dd H' mu' e m x => p cls dd sg H' mu' e m (em.mono e.toGrow) x
  | ok xs s1 =>
    rw [q] at p
    intro vs H1 mu1 e1 m1 r1
    have p5 : PtS X W mu H (nxO (asgTs [.nm i, .nm j, .nm l] xs env) s1) D := p
    cases qa : asgTs [.nm i, .nm j, .nm l] xs env with
    | none => rw [qa] at p5; exact p5.elim
    | some en =>
      rw [qa] at p5
      have hl := asgTs_len qa
      obtain ⟨x1, x2, x3, rfl⟩ : ∃ x1 x2 x3, xs = [x1, x2, x3] := by
        match xs, hl with
        | [x1, x2, x3], _ => exact ⟨x1, x2, x3, rfl⟩
      cases r1 with
      | cons rv r1 =>
        cases r1 with
        | cons rw r1 =>
          cases r1 with
          | cons ru r1 =>
            cases r1
            refine ⟨_, _, _, rfl, p5 _ _ _ e1 m1 ?_⟩
            unfold asgTs asgT at qa
            split at qa
            · rename_i en1 h1
              split at h1
              · cases h1
                unfold asgTs asgT at qa
                split at qa
                · rename_i en2 h2
                  split at h2
                  · cases h2
                    unfold asgTs asgT at qa
                    split at qa
                    · rename_i en3 h3
                      split at h3
                      · cases h3
                        unfold asgTs at qa
                        cases qa
                        exact (((em.mono e1.toGrow).set rv i).set rw j).set ru l
                      · cases h3
                    · cases qa
                  · cases h2
                · cases qa
              · cases h1
            · cases qa
theorem tup_eq {n : Nat} {es : List Expr} {kk : Nat} {p : Pos} (h : es.all noStar = true) (hl : es.length ≤ 100000) : cE (n + 1) c (.Tuple es kk p) = .tup (es.map (cE n c)) := by
  show (if es.all noStar && decide (es.length ≤ 100000) then Ex.tup (es.map (cE n c)) else dead) = _
  rw [if_pos (by simp only [h, decide_eq_true hl]; rfl)]
theorem cE_zero {m : Nat} {e : Expr} {env : Env} {s : S} : (lv T callee m).ex (cE 0 c e) env s = .no := dead_no
theorem cOne_ok {m n : Nat} (C : Cxt T callee k c X W) {tg e : Expr} {pos : Pos} (hs : swapsWithSole [tg] e pos.line X.env = pure false) (hw : swappedStores [tg] e X.env = pure none) (h1 : (assignEach [tg] X.env).map (·.2) = [assign tg X.env]) :
    PS X (.Assign [tg] e pos) (tS X W fun env s => (lv T callee (m + 1)).st (cOne c tg (cE n c e)) env s) := by
  unfold cOne
  split
  · rename_i t ht
    exact ss_asg (ex_ok m n X W c C e).pe (cT_ok C ht) hs hw h1
  · exact ss_dead
theorem cPar_ok {m n : Nat} (C : Cxt T callee k c X W) {ts vs : List Expr} {k1 k2 : Nat} {p1 p2 pos : Pos} {names : List Str} (hw : swappedStores [.Tuple ts k1 p1] (.Tuple vs k2 p2) X.env = pure (some names)) :
    PS X (.Assign [.Tuple ts k1 p1] (.Tuple vs k2 p2) pos) (tS X W fun env s => (lv T callee (m + 1)).st (cPar c ts vs names (cE n c (.Tuple vs k2 p2))) env s) := by
  unfold cPar
  split
  · rename_i x px y py a b x1 y1
    split
    · rename_i i j hi hj
      split
      · rename_i hc
        simp only [Bool.and_eq_true, decide_eq_true_eq] at hc
        obtain ⟨⟨⟨⟨⟨⟨rfl, rfl⟩, hij⟩, lx⟩, ly⟩, sa⟩, sb⟩ := hc
        have hst : ([a, b] : List Expr).all noStar = true := by simp [sa, sb]
        cases m with
        | zero => exact ss_no
        | succ m =>
          cases n with
          | zero => exact ss_no
          | succ n =>
            have PL := pa_map (F := fun e env s => (lv T callee m).ex e env s) (fun e => (ex_ok m n X W c C e).pe) hst
            rw [tup_eq hst (by simp)]
            exact ss_par C.calm C.nd (by rw [C.N]; exact ixOf_ok hi) (by rw [C.N]; exact ixOf_ok hj) hij (isL_ok C lx) (isL_ok C ly) PL hw rfl
      · exact ss_dead
    · exact ss_dead
  · rename_i x px y py z pz a b d x1 y1 z1
    split
    · rename_i i j l hi hj hl
      split
      · rename_i hc
        simp only [Bool.and_eq_true, decide_eq_true_eq] at hc
        obtain ⟨⟨⟨⟨⟨⟨⟨⟨⟨⟨⟨rfl, rfl⟩, rfl⟩, hij⟩, hil⟩, hjl⟩, lx⟩, ly⟩, lz⟩, sa⟩, sb⟩, sd⟩ := hc
        have hst : ([a, b, d] : List Expr).all noStar = true := by simp [sa, sb, sd]
        cases m with
        | zero => exact ss_no
        | succ m =>
          cases n with
          | zero => exact ss_no
          | succ n =>
            have PL := pa_map (F := fun e env s => (lv T callee m).ex e env s) (fun e => (ex_ok m n X W c C e).pe) hst
            rw [tup_eq hst (by simp)]
            exact par3_ok C.calm C.nd (by rw [C.N]; exact ixOf_ok hi) (by rw [C.N]; exact ixOf_ok hj) (by rw [C.N]; exact ixOf_ok hl) hij hil hjl (isL_ok C lx) (isL_ok C ly) (isL_ok C lz) PL hw rfl
      · exact ss_dead
    · exact ss_dead
  · exact ss_dead
theorem cAsg_ok {m n : Nat} (C : Cxt T callee k c X W) {tg e : Expr} {pos : Pos} : PS X (.Assign [tg] e pos) (tS X W fun env s => (lv T callee (m + 1)).st (cAsg c (cE n c) tg e) env s) := by
  have P := fun e => (ex_ok m n X W c C e).pe
  cases tg with
  | Subscript o i p =>
    show PS X _ (tS X W fun env s => (lv T callee (m + 1)).st (if noSlice i then .setI (cE n c o) (cE n c i) (cE n c e) else .dead) env s)
    split
    · rename_i hi
      refine ss_setI (by have := C.hu; omega) (P o) (P i) (P e) ?_ ?_ ?_
      · cases e <;> rfl
      · cases e <;> rfl
      · intro v
        cases i <;> first | rfl | cases hi
    · exact ss_dead
  | Name x p =>
    by_cases hc : isComp e = false
    · refine cOne_ok C ?_ ?_ rfl
      · cases e <;> first | rfl | cases hc
      · cases e <;> rfl
    · cases e with
      | ListComp elt gens scope vp =>
        have sw := swB_ok (elt := elt) (gs := gens) (scope := scope) (vp := vp) (tp := p) (t := x) (l := pos.line) C.kind
        cases hb : swB X.env.scope scope x p vp with
        | false =>
          rw [hb] at sw
          exact cOne_ok C sw rfl rfl
        | true =>
          rw [hb] at sw
          show PS X _ (tS X W fun env s => (lv T callee (m + 1)).st (cOne c (.Name x p) (cE n c (.ListComp elt gens scope vp))) env s)
          unfold cOne
          split
          · rename_i t ht
            have ht' : (if isLoc c x then (ixOf x c.N).map Tg.nm else none) = some t := ht
            split at ht'
            · obtain ⟨i, hi, rfl⟩ := Option.map_eq_some_iff.mp ht'
              have hl : X.env.scope.names.lookup x = some .local := by
                unfold swB at hb
                simp only [Bool.and_eq_true] at hb
                have := hb.1.1
                simpa using this
              cases m with
              | zero => exact ss_no
              | succ m =>
                cases n with
                | zero => exact ss_no
                | succ n => exact comp_okS C (ex_ok m n) (by rw [C.N]; exact ixOf_ok hi) hl sw
            · cases ht'
          · exact ss_dead
      | SetComp elt gens scope vp =>
        show PS X _ (tS X W fun env s => (lv T callee (m + 1)).st (cOne c (.Name x p) (cE n c (.SetComp elt gens scope vp))) env s)
        unfold cOne
        split
        · exact ss_thenN fun _ _ => by cases n <;> exact dead_no
        · exact ss_dead
      | DictComp k1 v1 gens scope vp =>
        show PS X _ (tS X W fun env s => (lv T callee (m + 1)).st (cOne c (.Name x p) (cE n c (.DictComp k1 v1 gens scope vp))) env s)
        unfold cOne
        split
        · exact ss_thenN fun _ _ => by cases n <;> exact dead_no
        · exact ss_dead
      | _ => exact absurd rfl hc
  | Tuple ts k1 p1 =>
    cases e with
    | Tuple vs k2 p2 =>
      show PS X _ (tS X W fun env s => (lv T callee (m + 1)).st (match swN c.sc ts vs with
        | some none => cOne c (.Tuple ts k1 p1) (cE n c (.Tuple vs k2 p2))
        | some (some names) => cPar c ts vs names (cE n c (.Tuple vs k2 p2))
        | none => .dead) env s)
      split
      · rename_i hn
        rw [← C.sc] at hn
        exact cOne_ok C rfl (swN_ok C.kind hn) rfl
      · rename_i names hn
        rw [← C.sc] at hn
        exact cPar_ok C (swN_ok C.kind hn)
      · exact ss_dead
    | _ => exact cOne_ok C rfl rfl rfl
  | _ => exact ss_dead
theorem map_ok {m n : Nat} (h : ∀ st, PS X st (tS X W fun env s => (lv T callee m).st (cS n c st) env s)) : ∀ sts : List Stmt, PSs X sts (tS X W fun env s => Wk.execs (lv T callee m).st (sts.map (cS n c)) env s)
  | [] => sss_nil
  | st :: sts => sss_cons (h st) (map_ok h sts)
theorem st_ok : ∀ (m n : Nat) (X : Cx) (W : WX) (c : Cg), Cxt T callee k c X W → ∀ st, PS X st (tS X W fun env s => (lv T callee m).st (cS n c st) env s) := by
  intro m
  induction m using Nat.strongRecOn with
  | ind m ih =>
    intro n X W c C st
    cases n with
    | zero => exact ss_dead
    | succ n =>
      cases m with
      | zero => exact ss_no
      | succ m =>
        have P := fun e => (ex_ok m n X W c C e).pe
        have B := map_ok (fun st => ih m (Nat.lt_succ_self _) n X W c C st)
        cases st with
        | Assign tgs e pos =>
          match tgs with
          | [tg] => exact cAsg_ok C
          | [] => exact ss_dead
          | _ :: _ :: _ => exact ss_dead
        | Expr e pos =>
          show PS X _ (tS X W fun env s => (lv T callee (m + 1)).st (if isStr e then .pass else if isComp e then .dead else .expr (cE n c e)) env s)
          split
          · rename_i h
            cases e with
            | Constant v j p =>
              cases v <;> first | exact ss_doc | cases h
            | _ => cases h
          · split
            · exact ss_dead
            · rename_i h
              refine ss_expr (P e) ?_
              cases e <;> first | rfl | exact absurd rfl h
        | Return v pos =>
          cases v with
          | none => exact ss_retN
          | some e => exact ss_ret (P e)
        | If t a b pos =>
          show PS X _ (tS X W fun env s => (lv T callee (m + 1)).st (if okT n c t then .ite (cE n c t) (a.map (cS n c)) (b.map (cS n c)) else .dead) env s)
          split
          · rename_i h
            exact ss_if ((ex_ok m n X W c C t).pt h) (B a) (B b)
          · exact ss_dead
        | For tg it body els pos =>
          match els with
          | [] =>
            show PS X _ (tS X W fun env s => (lv T callee (m + 1)).st (match cT 20 c tg with
              | some t => if noSet it then .for_ t (cI c (cE n c) tg it) (body.map (cS n c)) else .dead
              | none => .dead) env s)
            split
            · rename_i t ht
              split
              · rename_i h
                exact ss_for C.hp C.calm (cI_ok C P) (cT_ok C ht) (B body) (fun env s => ks_execs (lv_ks C.kept m) _ env s) (noSet_ok h)
              · exact ss_dead
            · exact ss_dead
          | _ :: _ => exact ss_dead
        | While t body els pos =>
          match els with
          | [] =>
            show PS X _ (tS X W fun env s => (lv T callee (m + 1)).st (if okT n c t then .whl (cE n c t) (body.map (cS n c)) else .dead) env s)
            split
            · rename_i h
              exact ss_while (n := m + 1) (fc := fun j env s => (lv T callee j).ex (cE n c t) env s) (fb := fun j env s => Wk.execs (lv T callee j).st (body.map (cS n c)) env s) (fw := fun j env s => (lv T callee j).st (.whl (cE n c t) (body.map (cS n c))) env s) C.hp
                (fun j hj => (ex_ok j n X W c C t).pt h) (fun j hj => map_ok (fun st => ih j hj n X W c C st) body) (fun _ _ => rfl) (fun _ _ _ => rfl)
            · exact ss_dead
          | _ :: _ => exact ss_dead
        | Break pos => exact ss_brk
        | Continue pos => exact ss_cnt
        | Pass pos => exact ss_pass
        | _ => exact ss_dead
theorem sts_ok {m n : Nat} (C : Cxt T callee k c X W) (sts : List Stmt) : PSs X sts (tS X W fun env s => Wk.execs (lv T callee m).st (sts.map (cS n c)) env s) := map_ok (fun st => st_ok m n X W c C st) sts
end
end Wk

/-! Wk16: every def. -/
namespace Wk
open PySem L2 PyProof.Rows
/-! ### what a call leaves -/
section
variable {K : PySem.W.Frag} {mu mu1 : List Addr} {H H1 : Hp} {s s1 : S}
theorem Ext.len_le (e : Ext K mu H mu1 H1) : mu.length ≤ mu1.length := by
  cases hn : mu.length with
  | zero => exact Nat.zero_le _
  | succ n =>
    have hl : n < mu.length := by omega
    have q := e.pre n _ (List.getElem?_eq_getElem hl)
    have := (List.getElem?_eq_some_iff.mp q).1
    omega
theorem ext_take (e : Ext K mu H mu1 H1) : Ext K mu H (mu1.take mu.length) H1 :=
  ⟨⟨fun n a h => by rw [List.getElem?_take_of_lt (List.getElem?_eq_some_iff.mp h).1]; exact e.pre n a h, e.tups, e.fzs⟩, fun a u h q => ⟨(e.fr a u h q).1, fun z => (e.fr a u h q).2 (List.mem_of_mem_take z)⟩⟩
theorem back_ok {v : V} {d d' : D} {s2 : S} (e : Ext K mu H mu1 H1) (m : SM K mu1 H1 s1) (r : Rep K mu1 H1 v d) (h : back mu.length d s1 = .ok d' s2) : ∃ mu2, Ext K mu H mu2 H1 ∧ SM K mu2 H1 s2 ∧ Rep K mu2 H1 v d' := by
  unfold back at h
  split at h
  · cases h
    exact ⟨mu1, e, m, r⟩
  rename_i hlk
  have lows : ∀ (n : Nat) (o : O), n < mu.length → s1.os[n]? = some o → LowO n o := fun n o hn ho => by
    cases hk : s1.lk with
    | false => exact m.lo hk n o ho
    | true =>
      have hc : chk 0 (s1.os.take mu.length) = true := by
        rw [hk] at hlk
        simpa using hlk
      have := chk_ok hc n o (by rw [List.getElem?_take_of_lt hn]; exact ho)
      rwa [Nat.zero_add] at this
  have mt := m.take lows
  split at h
  · rename_i hl
    cases h
    exact ⟨_, ext_take e, mt, r.cut (low_ok hl)⟩
  rename_i hl
  split at h
  · rename_i n
    split at h
    · rename_i xs hx
      split at h
      · rename_i ha
        cases h
        cases r with
        | @ref a _ hr =>
          obtain ⟨vs, h1, rv⟩ := m.ats n _ a hx hr
          have hn : mu.length ≤ n := by
            have : ¬ n < mu.length := fun z => hl (by simp [low, z])
            omega
          have lw : Lows mu.length xs := lows_of fun x hx' => low_ok (List.all_eq_true.mp ha x hx')
          have nin : a ∉ mu1.take mu.length := fun z => by
            obtain ⟨i, hi, ei⟩ := List.getElem_of_mem z
            have hi' : i < mu.length := by rw [List.length_take] at hi; omega
            have e1 : mu1[i]? = some a := by
              rw [← List.getElem?_take_of_lt hi', List.getElem?_eq_getElem hi, ei]
            obtain ⟨l1, q1⟩ := List.getElem?_eq_some_iff.mp e1
            obtain ⟨l2, q2⟩ := List.getElem?_eq_some_iff.mp hr
            have := (List.getElem_inj m.nd).mp (q1.trans q2.symm)
            omega
          have lt : (mu1.take mu.length).length = mu.length := by rw [List.length_take]; have := e.len_le; omega
          have lo : (s1.os.take mu.length).length = mu.length := by rw [List.length_take, ← m.len]; have := e.len_le; omega
          have z := mt.push (o := .lst vs) (q := .lst xs) nin (fun u q => by rw [h1] at q; cases q; trivial) ⟨vs, upd_same, ((rv.cut lw).mono grow_push).mono (grow_upd (fun u q => by rw [h1] at q; cases q; trivial))⟩ (by show Lows (s1.os.take mu.length).length xs; rw [lo]; exact lw)
          rw [upd_self h1] at z
          refine ⟨mu1.take mu.length ++ [a], ⟨(ext_take e).toGrow.trans grow_push, fun b u hb q => ?_⟩, z, .ref (by rw [List.getElem?_append_right (by omega), lt]; simp)⟩
          obtain ⟨b1, b2⟩ := (ext_take e).fr b u hb q
          have b3 := (e.fr b u hb q).2
          exact ⟨b1, by simp only [List.mem_append, List.mem_singleton, not_or]; exact ⟨b2, fun z => b3 (z ▸ List.mem_of_getElem? hr)⟩⟩
      · cases h
        exact ⟨mu1, e, m, r⟩
    · cases h
      exact ⟨mu1, e, m, r⟩
  · cases h
    exact ⟨mu1, e, m, r⟩
theorem back_yes {m : Nat} {d : D} {s : S} : ∃ d' s', back m d s = .ok d' s' := by
  unfold back
  split
  · exact ⟨_, _, rfl⟩
  split
  · exact ⟨_, _, rfl⟩
  split
  · split
    · split
      · exact ⟨_, _, rfl⟩
      · exact ⟨_, _, rfl⟩
    · exact ⟨_, _, rfl⟩
  · exact ⟨_, _, rfl⟩
end
/-! ### defs -/
/-- a constant -/
def simpD : D → Bool
  | .non => true
  | .bl _ => true
  | .int _ => true
  | .str _ => true
  | _ => false
def vOf : D → V
  | .bl b => .bl b
  | .int i => .int i
  | .str x => .str x
  | _ => .non
theorem rep_simp {K : PySem.W.Frag} {mu : List Addr} {H : Hp} : ∀ {d : D}, simpD d = true → Rep K mu H (vOf d) d
  | .non, _ => .non
  | .bl b, _ => .bl b
  | .int i, _ => .int i
  | .str x, _ => .str x
theorem reps_simp {K : PySem.W.Frag} {mu : List Addr} {H : Hp} : ∀ {xs : List D}, xs.all simpD = true → Reps K mu H (xs.map vOf) xs
  | [], _ => .nil
  | x :: xs, h => by
    simp only [List.all_cons, Bool.and_eq_true] at h
    exact .cons (rep_simp h.1) (reps_simp h.2)
/-- a def of the text: its name, its row, its slots, its term -/
structure Df where
  x : Str
  st : Stmt
  N : List Str
  fd : Fd
/-- what is made against -/
def cgOf (fs : List Str) (cs : List (Str × D)) (d : Df) : Cg := ⟨d.N, defScope d.st, fun _ => true, fs, cs⟩
def fnScB (N ps : List Str) (sc : Scope) : Bool :=
  (match sc.kind with | .function => true | _ => false) && !sc.isCoroutine && !sc.isGenerator && decide N.Nodup && decide (N.take ps.length = ps) &&
    (ps.all fun x => match sc.names.lookup x with | some .local => true | some .cell => true | _ => false) && sc.names.all fun y => match y.2 with | .free => false | _ => true
theorem fnSc_by {N ps : List Str} {sc : Scope} (h : fnScB N ps sc = true) : FnScope N ps sc := by
  unfold fnScB at h
  simp only [Bool.and_eq_true, List.all_eq_true, decide_eq_true_eq, Bool.not_eq_true'] at h
  obtain ⟨⟨⟨⟨⟨⟨h1, h2⟩, h3⟩, h4⟩, h5⟩, h6⟩, h7⟩ := h
  refine ⟨?_, h2, h3, h4, h5, fun x hx => ?_, fun y hy e => ?_⟩
  · split at h1
    · assumption
    · cases h1
  · have q := h6 x hx
    split at q
    · exact .inl (by assumption)
    · exact .inr (by assumption)
    · cases q
  · have q := h7 y hy
    rw [e] at q
    cases q
/-- the plain part of a def's check -/
def dfB (d : Df) : Bool :=
  (defArgs d.st).posonlyargs.isEmpty && decide ((defArgs d.st).args.map (·.arg) = d.fd.ps) && (defArgs d.st).vararg.isNone && (defArgs d.st).kwonlyargs.isEmpty && (defArgs d.st).kwarg.isNone &&
    fnScB d.N d.fd.ps (defScope d.st) && decide (d.fd.dfl.length ≤ d.fd.ps.length) && d.fd.dfl.all simpD && decide (d.fd.n = d.N.length)
structure DfOk (fs : List Str) (cs : List (Str × D)) (d : Df) : Prop where
  b : dfB d = true
  body : d.fd.body = (defBody d.st).map (cS 100 (cgOf fs cs d))
/-- a def's function object -/
abbrev FnD (K : PySem.W.Frag) (d : Df) (f : Addr) (fdat : FuncData) : Prop := FunD K d.x d.x (defArgs d.st) (defBody d.st) (defScope d.st) (d.fd.dfl.map vOf) [] f fdat
theorem dfl_looks {K : PySem.W.Frag} {d : Df} {f : Addr} {fdat : FuncData} (F : FnD K d f fdat) : ∃ its, Vals (d.fd.dfl.map vOf) its ∧ ∀ h M, K.In h → ∃ o, PySem.W.Looks M h (seqItems? fdat.defaults) o ∧ (o.getD #[]).toList = its := by
  obtain ⟨oc, od, dV, kV, doc, pm, an, cd, ct, osl, efd, look, code, hd, _⟩ := F.ex
  subst efd
  rcases hd with ⟨h1, h2⟩ | ⟨h1, t, o, its, n, h2, h3, h4, h5⟩
  · refine ⟨[], by rw [h1]; exact .nil, fun h M X => ⟨none, ?_, rfl⟩⟩
    show PySem.W.Looks M h (seqItems? dV) none
    rw [h2]
    exact PySem.W.Looks.of_pure rfl
  · refine ⟨its, h5, fun h M X => ⟨some its.toArray, ?_, by simp⟩⟩
    show PySem.W.Looks M h (seqItems? dV) (some its.toArray)
    rw [h2]
    exact fun A Q E s kp q => wpAny_seqItems (kp _ _ (X _ _ h3)) h4 q
theorem em_start {K : PySem.W.Frag} {mu : List Addr} {H : Hp} {vs : List V} {xs : List D} {N : List Str} (r : Reps K mu H vs xs) : EM K mu H (start N vs) (xs.map some ++ List.replicate (N.length - xs.length) none) := by
  have hl := r.length
  refine ⟨by simp [L2.start, hl], fun i d q => ?_⟩
  by_cases hi : i < xs.length
  · rw [List.getElem?_append_left (by simpa using hi), List.getElem?_map] at q
    obtain ⟨x, hx, e⟩ := Option.map_eq_some_iff.mp q
    cases e
    obtain ⟨v, hv, rv⟩ := r.get hx
    exact ⟨v, by unfold L2.start; rw [List.getElem?_append_left (by simp; omega), List.getElem?_map, hv]; rfl, rv⟩
  · rw [List.getElem?_append_right (by simp; omega)] at q
    have := List.mem_of_getElem? q
    have := List.eq_of_mem_replicate this
    cases this
theorem nodup_take {N ps : List Str} (h : N.Nodup) (e : N.take ps.length = ps) : ps.Nodup := by
  rw [← e]
  exact h.sublist (List.take_sublist _ _)
section
variable {P : Program} {w : World} {K : PySem.W.Frag} {mg : Str → Option Value} {base : Heap} {ds : List Df} {cs : List (Str × D)} {fs : List Str} {T : Tb} {F : Nat}
theorem fns_ok (hfs : ds.map (·.x) = fs) (hT : ds.map (·.fd) = T) (hd : ∀ d ∈ ds, DfOk fs cs d) (hF : ∀ d ∈ ds, ∃ f fdat, FnD K d f fdat ∧ mg d.x = some (.ref f)) (hbl : ∀ x ∈ bnames, mg x = none)
    (hcs : ∀ x d, cs.lookup x = some d → ∃ v u, mg x = some u ∧ RelV v u ∧ ∀ mu H, Rep K mu H v d) :
    ∀ (k i : Nat) (d : Df) (f : Addr) (fdat : FuncData), ds[i]? = some d → FnD K d f fdat → mg d.x = some (.ref f) → FnG P w K mg base k f fdat d.fd.ps (spOf K mg d.fd.ps.length (callK T F k i)) := by
  intro k
  induction k with
  | zero =>
    intro i d f fdat _ _ _
    exact ⟨fun vs H Q E ⟨_, _, _, h, _⟩ => h, fun A outer s H args us vs Q E _ _ _ _ _ ⟨_, _, _, _, _, _, h⟩ => h.elim⟩
  | succ k ih =>
    intro i d f fdat hi Fd hm
    have hdi := hd d (List.mem_of_getElem? hi)
    have hb := hdi.b
    unfold dfB at hb
    simp only [Bool.and_eq_true, decide_eq_true_eq] at hb
    obtain ⟨⟨⟨⟨⟨⟨⟨⟨b1, b2⟩, b3⟩, b4⟩, b5⟩, b6⟩, b7⟩, b8⟩, b9⟩ := hb
    have sc := fnSc_by b6
    have hTi : T[i]? = some d.fd := by rw [← hT, List.getElem?_map, hi]; rfl
    refine fnG_of Fd sc (fun vs H Q E ⟨_, _, _, h, _⟩ => h) fun cd A outer s H vs Q E room gd ⟨mu, s0, xs, hl, sm, rs, wish⟩ => ?_
    have C : Cxt T (callK T F k) k (cgOf fs cs d) (cxOf (L2.CX P w) P w K mg base d.N d.x (defScope d.st) f cd A outer s H E) (fun cls dd _ H => E cls dd H) := {
      N := rfl
      nd := sc.nd
      sc := rfl
      fn := fun _ _ => rfl
      calm := rfl
      kind := sc.kind
      room := room
      gd := gd
      tk := takes_of rfl rfl rfl rfl
      hp := passes_of rfl
      bl := hbl
      cal := fun g x hx => by
        have hx' : fs[g]? = some x := hx
        rw [← hfs, List.getElem?_map] at hx'
        obtain ⟨d2, h2, rfl⟩ := Option.map_eq_some_iff.mp hx'
        have hm2 := List.mem_of_getElem? h2
        obtain ⟨f2, fdat2, F2, m2⟩ := hF d2 hm2
        obtain ⟨its, iv, il⟩ := dfl_looks F2
        have hb2 := (hd d2 hm2).b
        unfold dfB at hb2
        simp only [Bool.and_eq_true, decide_eq_true_eq] at hb2
        obtain ⟨⟨⟨⟨⟨⟨⟨⟨c1, c2⟩, c3⟩, c4⟩, c5⟩, c6⟩, c7⟩, c8⟩, c9⟩ := hb2
        have sc2 := fnSc_by c6
        refine ⟨f2, fdat2, d2.fd, its, d2.fd.dfl.map vOf, by rw [← hT, List.getElem?_map, h2]; rfl, m2, F2.kp, ih g d2 f2 fdat2 h2 F2 m2, ?_, nodup_take sc2.nd sc2.pre, ?_, il, iv, fun mu H => reps_simp c8⟩
        · obtain ⟨oc, od, dV, kV, doc, pm, an, cd2, ct, osl, efd, _⟩ := F2.ex
          subst efd
          exact ⟨by simpa using c1, c2, by simpa using c3, by simpa using c4, by simpa using c5⟩
        · have := iv.length
          rw [List.length_map] at this
          omega
      cst := hcs
      kept := fun g ys st => callK_kept T F k g ys st }
    refine ⟨_, sts_ok (m := F) (n := 100) C (defBody d.st), mu, xs.map some ++ List.replicate (d.N.length - xs.length) none, s0, em_start rs, sm, ?_⟩
    rw [show (defBody d.st).map (cS 100 (cgOf fs cs d)) = d.fd.body from hdi.body.symm]
    have hxl : xs.length = d.fd.ps.length := by rw [← rs.length]; exact hl
    have ec : callK T F (k + 1) i xs s0 = runB T (callK T F k) F d.fd xs s0 := by
      show (match T[i]? with | some fd => if xs.length = fd.ps.length then runB T (callK T F k) F fd xs s0 else R.no | none => R.no) = _
      rw [hTi]
      dsimp only
      rw [if_pos hxl]
    rw [ec] at wish
    unfold runB at wish
    rw [b9] at wish
    show PtS _ _ mu H (Wk.execs (lv T (callK T F k) F).st d.fd.body (xs.map some ++ List.replicate (d.N.length - xs.length) none) s0) _
    cases q : Wk.execs (lv T (callK T F k) F).st d.fd.body (xs.map some ++ List.replicate (d.N.length - xs.length) none) s0 with
    | no => rw [q] at wish; exact wish
    | bk _ _ => rw [q] at wish; exact wish.elim
    | ct _ _ => rw [q] at wish; exact wish.elim
    | nx e1 s1 =>
      rw [q] at wish
      dsimp only at wish
      rw [← sm.len] at wish
      intro sg' H' mu' e m em
      obtain ⟨d', s2, hb'⟩ := back_yes (m := mu.length) (d := .non) (s := s1)
      rw [hb'] at wish
      obtain ⟨mu2, e2, m2, r2⟩ := back_ok e m .non hb'
      exact wish .non H' mu2 e2 m2 r2
    | ret dd s1 =>
      rw [q] at wish
      dsimp only at wish
      rw [← sm.len] at wish
      intro v H' mu' e m r
      obtain ⟨d', s2, hb'⟩ := back_yes (m := mu.length) (d := dd) (s := s1)
      rw [hb'] at wish
      obtain ⟨mu2, e2, m2, r2⟩ := back_ok e m r hb'
      exact wish v H' mu2 e2 m2 r2
    | ex cc xf e1 s1 =>
      rw [q] at wish
      exact fun cls dd sg' H' mu' e m em x => wish cls dd H' mu' e m x
end
end Wk

/-! Wk17: a law's end. -/
namespace Wk
open PySem L2 PyProof.Rows
/-- what is wanted behind the law's call -/
abbrev Fine (s1 : Shared) (r : Result) (s2 : Shared) : Prop := r = .ok (.ret (.bool true)) ∧ OldK s1.heap s2.heap ∧ s2.os = s1.os ∧ AllBare s2.gens
section
variable {P : Program} {w : World} {K : PySem.W.Frag} {mg mb : Str → Option Value} {k : Nat} {fa a : Addr} {fd : FuncData} {x : Str} {sp : Sp} {s1 : Shared} {vs : List Value} {ns : List Int}
/-- from one abstract heap, of the script alone -/
theorem call_from (KX : K.In s1.heap) (hg : s1.heap.Ns mainGlobals mg) (hb : s1.heap.Ns builtinsNs mb) (hbb : ∀ x : Str, x ≠ "__name__" → mb x = bootBuiltins x) (hm : s1.heap.NoLimit) (h0 : s1.gens = #[]) (ha : s1.heap.get? a = some { cls := .type "list", data := .seq vs.toArray }) (room : Room k callerA)
    (G : ∀ bs : Heap, K.In bs → bs.Ns mainGlobals mg → FnG P w K mg bs k fa fd [x] sp) (bnd : ∀ (s : Shared) (u : Value), BindsTo s fd ⟨[u], []⟩ [(x, u)])
    {H : Hp} (only : Only H) (wish : sp [.ref a] H (fun v _ => v = .bl true) fun _ _ _ => False) (ok : HOk P w H s1.heap) (at_ : ∀ b, H b ≠ none → b = a) (out : H a ≠ none → K.lookup a = none) :
    codeAny (model P w) callerA (.call (.ref fa) ⟨[.ref a], []⟩) (Fine s1) s1 := by
  have dicts : ∀ {b : Addr} {ob : Obj} {es : Array DictEntry} {ep : Nat}, s1.heap.get? b = some ob → ob.data = .dict es ep → H b = none := fun {b ob es ep} e1 e2 => by
    by_cases hq : H b = none
    · exact hq
    · have eb := at_ b hq
      subst eb
      rw [ha] at e1
      cases e1
      exact nomatch (show Data.seq vs.toArray _ = Data.dict es ep from e2)
  have spaces : ∀ {b : Addr} {m : Str → Option Value}, s1.heap.Ns b m → (hidT s1.heap H).Ns b m := fun {b m} z => by
    obtain ⟨ob, es, ep, e1, e2, e3⟩ := z
    exact ⟨ob, es, ep, hidT_get e1 (dicts e1 e2), e2, e3⟩
  have inB : K.In (hidT s1.heap H) := fun b ob e1 => by
    refine hidT_get (KX b ob e1) ?_
    by_cases hq : H b = none
    · exact hq
    · have eb := at_ b hq
      subst eb
      rw [out hq] at e1
      cases e1
  obtain ⟨mc, l1, l2⟩ := hm
  have en : Env0 P w K mg (hidT s1.heap H) callerA [] s1 H := ⟨rfl, ⟨inB, spaces hg, ⟨mb, spaces hb, hbb⟩, ⟨mc, spaces l1, l2⟩⟩, fun _ _ e1 => of_hidT e1, Nat.le_of_eq (hidT_size _ _), trivial, fun _ z => absurd z List.not_mem_nil, ok, .of_eq h0⟩
  have run := (G _ inB (spaces hg)).run callerA [] s1 H ⟨[.ref a], []⟩ [.ref a] [.ref a] _ _ room rfl en (bnd s1 (.ref a)) (.cons rfl .nil) wish
  refine codeAny_mono run fun res s2 z => ?_
  match res, z with
  | .error _, z =>
    obtain ⟨_, _, _, _, _, _, _, _, _, _, _, _, no⟩ := z
    exact no.elim
  | .ok (.ret u), z =>
    obtain ⟨v, H2, os, bare, un, ok2, rel, ev⟩ := z
    have ev : v = .bl true := ev
    subst ev
    obtain rfl : u = Value.bool true := rel
    refine ⟨rfl, OldK.of_keep fun b ob e1 => ?_, os, bare⟩
    rcases only b with z | ⟨ob2, xs, z⟩
    · exact un.keep b ob e1 z (fun y => absurd y List.not_mem_nil) (by simp)
    · obtain ⟨f1, _⟩ := ok b _ z
      obtain ⟨f2, _⟩ := ok2 b _ (un.frzs b ob2 _ z)
      rw [e1] at f1
      cases f1
      exact f2
  | .ok .next, z => exact False.elim z
  | .ok .brk, z => exact False.elim z
  | .ok .cont, z => exact False.elim z
theorem call_law (KX : K.In s1.heap) (hg : s1.heap.Ns mainGlobals mg) (hb : s1.heap.Ns builtinsNs mb) (hbb : ∀ x : Str, x ≠ "__name__" → mb x = bootBuiltins x) (hm : s1.heap.NoLimit) (h0 : s1.gens = #[]) (ha : s1.heap.get? a = some { cls := .type "list", data := .seq vs.toArray }) (hi : IntsAre vs ns) (hz : ns.length ≤ sizeLine) (room : Room k callerA)
    (G : ∀ bs : Heap, K.In bs → bs.Ns mainGlobals mg → FnG P w K mg bs k fa fd [x] sp) (bnd : ∀ (s : Shared) (u : Value), BindsTo s fd ⟨[u], []⟩ [(x, u)])
    (wish : ∀ H : Hp, Fz K H a (ns.map V.int) → sp [.ref a] H (fun v _ => v = .bl true) fun _ _ _ => False) : codeAny (model P w) callerA (.call (.ref fa) ⟨[.ref a], []⟩) (Fine s1) s1 := by
  have rel := vals_ints hi
  cases hk : K.lookup a with
  | some ob =>
    have e1 := KX a ob hk
    rw [ha] at e1
    cases e1
    refine call_from (H := fun _ => none) KX hg hb hbb hm h0 ha room G bnd (fun _ => .inl rfl) (wish _ (.inr (.inr ⟨_, vs.toArray, _, hk, rfl, rfl, rfl, ?_, by simpa using rel⟩))) (fun _ _ z => nomatch z) (fun _ z => absurd rfl z) fun z => absurd rfl z
    rw [List.size_toArray, hi.length]
    exact hz
  | none =>
    have one : ∀ b, (upd (fun _ => none) a (.frz { cls := .type "list", data := .seq vs.toArray } (.lst (ns.map V.int))) : Hp) b ≠ none → b = a := fun b z => by
      by_cases eb : b = a
      · exact eb
      · rw [upd_ne eb] at z
        exact absurd rfl z
    refine call_from (H := upd (fun _ => none) a (.frz { cls := .type "list", data := .seq vs.toArray } (.lst (ns.map V.int)))) KX hg hb hbb hm h0 ha room G bnd (fun b => ?_) (wish _ (.inl ⟨_, upd_same⟩)) (fun b u z => ?_) one fun _ => hk
    · by_cases eb : b = a
      · subst eb
        exact .inr ⟨_, _, upd_same⟩
      · exact .inl (upd_ne eb)
    · by_cases eb : b = a
      · subst eb
        rw [upd_same] at z
        cases z
        exact ⟨ha, by rw [List.length_map]; exact hz, vs, _, rel, ha⟩
      · rw [upd_ne eb] at z
        cases z
end
/-- the goal that the head leaves, from the small machine's run -/
theorem law_walk {l : PySem.W.OpenLaw} {n k : Nat} {q : Program} {loose : List Str} {XP : (Str → Option Value) → Heap → Prop} {YP : World → Heap → Prop} {d : DefRec} {x : Str} (hn : l.most = some n) (hz : n ≤ sizeLine) (hd0 : d.params.defaults = []) (room : Room k callerA)
    (G : ∀ (w : World) (mg : Str → Option Value) (fa : Addr) (h : Heap), YP w h → h.Ns mainGlobals mg → mg d.name = some (.ref fa) → ∃ (K : PySem.W.Frag) (fd : FuncData) (c : List D → S → R D), K.In h ∧ (∀ (s : Shared) (u : Value), BindsTo s fd ⟨[u], []⟩ [(x, u)]) ∧
      (∀ ns : List Int, ns.length ≤ n → ∃ s', c [.fl (ns.map .int)] ⟨[], false⟩ = .ok (.bl true) s') ∧ ∀ bs : Heap, K.In bs → bs.Ns mainGlobals mg → FnG l.prog w K mg bs k fa fd [x] (spOf K mg 1 c)) :
    PySem.W.WalkO q loose XP YP l.row.toRowW d [] (fun f vs => PySem.call f vs) := by
  refine Att.attach_call hn hd0 fun w s0 s1 mg mb fa o pm cd doc a vs ns T Y ho hd hcd hmg hobj hints hlen hg => ?_
  obtain ⟨K, fd, c, KX, bnd, law, hG⟩ := G w mg fa _ Y T.T.g hmg
  refine call_law KX T.T.g T.T.b T.T.builtins T.T.nolimit hg hobj hints (Nat.le_trans hlen hz) room hG bnd fun H fz => ?_
  obtain ⟨s', e⟩ := law ns hlen
  have allInt : ∀ zs : List Int, Reps K [] H (zs.map V.int) (zs.map D.int) := fun zs => by
    induction zs with
    | nil => exact .nil
    | cons z zs ih => exact .cons (.int z) ih
  refine ⟨[], ⟨[], false⟩, [.fl (ns.map .int)], rfl, ⟨rfl, List.nodup_nil, fun i o a h => by simp at h, fun _ i o h => by simp at h⟩, .cons (.fl fz (allInt ns)) .nil, ?_⟩
  rw [e]
  intro v H' mu' _ _ r
  cases r
  rfl
end Wk

/-! Wk18: from the head's facts. -/
namespace Wk
open PySem L2 PyProof.Rows
def dvOf : D → He.Dv
  | .bl b => .bl b
  | .int i => .int i
  | .str x => .str x
  | _ => .non
theorem dvOf_v {K : PySem.W.Frag} (d : D) : (dvOf d).v K = vOf d := by
  cases d <;> rfl
def fnOf (ds : List Df) : List He.DefD := ds.map fun d => ⟨(d.x, none), d.x, d.x, defArgs d.st, defBody d.st, defScope d.st, d.fd.dfl.map dvOf, []⟩
def faC (p : Str × D) : He.Fa :=
  match p.2 with
  | .int i => .int p.1 i
  | .str z => .str p.1 z
  | _ => .free p.1
def faOf (fs : List Str) (cs : List (Str × D)) : List He.Fa := fs.map .glo ++ (bnames.map .free ++ cs.map faC)
def csB (cs : List (Str × D)) : Bool := cs.all fun p => match p.2 with
  | .int _ => true
  | .str _ => true
  | _ => false
theorem says_fact {fa : List He.Fa} {fn : List He.DefD} {K : PySem.W.Frag} (c : He.SaysD fa fn K) {f : He.Fa} (h : f ∈ fa) : f.ok K = true := by
  obtain ⟨i, hi, e⟩ := List.getElem_of_mem h
  exact c.fact i (by rw [List.getElem?_eq_getElem hi, e])
theorem lookup_mem {x : Str} {d : D} : ∀ {cs : List (Str × D)}, cs.lookup x = some d → (x, d) ∈ cs
  | [], h => by cases h
  | (y, e) :: cs, h => by
    rw [List.lookup_cons] at h
    split at h
    · rename_i q
      have q : x = y := by simpa using q
      cases h
      rw [q]
      exact List.mem_cons_self ..
    · exact List.mem_cons_of_mem _ (lookup_mem h)
section
variable {l : PySem.W.OpenLaw} {n m k iL F : Nat} {ds : List Df} {fs : List Str} {cs : List (Str × D)} {T : Tb} {d : Df} {x : Str}
theorem law_facts (hfs : ds.map (·.x) = fs) (hT : ds.map (·.fd) = T) (hd : ∀ d ∈ ds, DfOk fs cs d) (hcs : csB cs = true) (hi : ds[iL]? = some d) (hps : d.fd.ps = [x]) (hdf : d.fd.dfl = [])
    (law : ∀ ns : List Int, ns.length ≤ n → ∃ s', callK T F k iL [.fl (ns.map .int)] ⟨[], false⟩ = .ok (.bl true) s') (w : World) (mg : Str → Option Value) (fa : Addr) (h : Heap) (Y : (He.hookD m (faOf fs cs) (fnOf ds)).says w h) (G : h.Ns mainGlobals mg) (hm : mg d.x = some (.ref fa)) :
    ∃ (K : PySem.W.Frag) (fd : FuncData) (c : List D → S → R D), K.In h ∧ (∀ (s : Shared) (u : Value), BindsTo s fd ⟨[u], []⟩ [(x, u)]) ∧
      (∀ ns : List Int, ns.length ≤ n → ∃ s', c [.fl (ns.map .int)] ⟨[], false⟩ = .ok (.bl true) s') ∧ ∀ bs : Heap, K.In bs → bs.Ns mainGlobals mg → FnG l.prog w K mg bs k fa fd [x] (spOf K mg 1 c) := by
  obtain ⟨K, KX, c⟩ := Y
  have each : ∀ (j : Nat) (e : Df), ds[j]? = some e → ∃ fdat, FnD K e (He.ga K e.x) fdat := fun j e he => by
    obtain ⟨fdat, z⟩ := c.def_ j (d := ⟨(e.x, none), e.x, e.x, defArgs e.st, defBody e.st, defScope e.st, e.fd.dfl.map dvOf, []⟩) (by unfold fnOf; rw [List.getElem?_map, he]; rfl)
    refine ⟨fdat, ?_⟩
    have ev : He.DefD.dvs K ⟨(e.x, none), e.x, e.x, defArgs e.st, defBody e.st, defScope e.st, e.fd.dfl.map dvOf, []⟩ = e.fd.dfl.map vOf := by
      show (e.fd.dfl.map dvOf).map (He.Dv.v K) = _
      rw [List.map_map]
      exact List.map_congr_left fun y _ => dvOf_v y
    rw [ev] at z
    exact z
  have glo : ∀ (j : Nat) (e : Df), ds[j]? = some e → mg e.x = some (.ref (He.ga K e.x)) := fun j e he => He.glo_ok KX G (says_fact c (by
    unfold faOf
    refine List.mem_append_left _ (List.mem_map.mpr ⟨e.x, ?_, rfl⟩)
    rw [← hfs]
    exact List.mem_map.mpr ⟨e, List.mem_of_getElem? he, rfl⟩))
  have free : ∀ y ∈ bnames, mg y = none := fun y hy => He.free_ok KX G (says_fact c (by
    unfold faOf
    exact List.mem_append_right _ (List.mem_append_left _ (List.mem_map.mpr ⟨y, hy, rfl⟩))))
  have cons : ∀ y e, cs.lookup y = some e → ∃ v u, mg y = some u ∧ RelV v u ∧ ∀ mu H, Rep K mu H v e := fun y e hy => by
    have hmem := lookup_mem hy
    have hf := says_fact c (f := faC (y, e)) (by
      unfold faOf
      exact List.mem_append_right _ (List.mem_append_right _ (List.mem_map.mpr ⟨_, hmem, rfl⟩)))
    have hb := List.all_eq_true.mp hcs _ hmem
    cases e with
    | int i =>
      obtain ⟨t, z⟩ := He.int_ok KX G hf
      exact ⟨.int i, _, z, ⟨t, rfl⟩, fun _ _ => .int i⟩
    | str i =>
      obtain ⟨t, z⟩ := He.str_ok KX G hf
      exact ⟨.str i, _, z, ⟨t, rfl⟩, fun _ _ => .str i⟩
    | _ => cases hb
  obtain ⟨fdat, Fl⟩ := each iL d hi
  have efa := hm.symm.trans (glo iL d hi)
  cases efa
  have ok := hd d (List.mem_of_getElem? hi)
  refine ⟨K, fdat, callK T F k iL, KX, fun s u => ?_, law, fun bs hK hG => ?_⟩
  · have hb := ok.b
    unfold dfB at hb
    simp only [Bool.and_eq_true, decide_eq_true_eq] at hb
    obtain ⟨⟨⟨⟨⟨⟨⟨⟨b1, b2⟩, b3⟩, b4⟩, b5⟩, b6⟩, b7⟩, b8⟩, b9⟩ := hb
    obtain ⟨oc, od, dV, kV, doc, pm, an, cd, ct, osl, efd, look, code, hD, _⟩ := Fl.ex
    subst efd
    have e0 : dV = .none := by
      rcases hD with ⟨_, z⟩ | ⟨z, _⟩
      · exact z
      · rw [hdf] at z
        exact absurd rfl z
    subst e0
    have z := binds_ok (fd := PySem.W.fnOf d.x d.x (defArgs d.st) (defBody d.st) (defScope d.st) .none kV doc pm an cd ct) (ps := d.fd.ps) (us := [u]) (ws := []) (zs := [u]) (its := []) (ks := []) (s := s) ⟨by simpa using b1, b2, by simpa using b3, by simpa using b4, by simpa using b5⟩ (nodup_take (fnSc_by b6).nd (fnSc_by b6).pre) (fun M => ⟨none, PySem.W.Looks.of_pure rfl, rfl⟩) (Nat.zero_le _)
      (by rw [hps]; simp [bindG, fillG])
    rw [hps] at z
    exact z.1
  · have z := fns_ok (P := l.prog) (w := w) (base := bs) (F := F) hfs hT hd (fun e he => by
      obtain ⟨j, hj, ej⟩ := List.getElem_of_mem he
      have hje : ds[j]? = some e := by rw [List.getElem?_eq_getElem hj, ej]
      obtain ⟨fe, z⟩ := each j e hje
      exact ⟨_, fe, z, glo j e hje⟩) free cons k iL d _ fdat hi Fl (glo iL d hi)
    rw [hps] at z
    exact z
end
end Wk

/-! Wk19: the small machine's steps as equations. -/
namespace Wk
section
variable {T : Tb} {c : Nat → List D → S → R D} {n : Nat} {env : Env} {s : S}
theorem x_var {i} : (lv T c (n + 1)).ex (.var i) env s = varD env i s := rfl
theorem x_cst {d} : (lv T c (n + 1)).ex (.cst d) env s = .ok d s := rfl
theorem x_tup {es} : (lv T c (n + 1)).ex (.tup es) env s = (evs (fun e s => (lv T c n).ex e env s) es s).bind fun xs s1 => .ok (.tup xs) s1 := rfl
theorem x_lst {es} : (lv T c (n + 1)).ex (.lst es) env s = (evs (fun e s => (lv T c n).ex e env s) es s).bind fun xs s1 => alloc (.lst xs) s1 := rfl
theorem x_bin {op a b} : (lv T c (n + 1)).ex (.bin op a b) env s = ((lv T c n).ex a env s).bind fun x s1 => ((lv T c n).ex b env s1).bind fun y s2 => binD op x y s2 := rfl
theorem x_cmp {op a b} : (lv T c (n + 1)).ex (.cmp op a b) env s = ((lv T c n).ex a env s).bind fun x s1 => ((lv T c n).ex b env s1).bind fun y s2 => okB (cmpD op x y s2.os) s2 := rfl
theorem x_and {a b} : (lv T c (n + 1)).ex (.and a b) env s = ((lv T c n).ex a env s).bind fun x s1 => onB x s1 (fun s2 => (lv T c n).ex b env s2) fun s2 => .ok (.bl false) s2 := rfl
theorem x_or {a b} : (lv T c (n + 1)).ex (.or a b) env s = ((lv T c n).ex a env s).bind fun x s1 => onB x s1 (fun s2 => .ok (.bl true) s2) fun s2 => (lv T c n).ex b env s2 := rfl
theorem x_not {a} : (lv T c (n + 1)).ex (.not a) env s = ((lv T c n).ex a env s).bind fun x s1 => notD x s1 := rfl
theorem x_ite {t a b} : (lv T c (n + 1)).ex (.ite t a b) env s = ((lv T c n).ex t env s).bind fun x s1 => onB x s1 (fun s2 => (lv T c n).ex a env s2) fun s2 => (lv T c n).ex b env s2 := rfl
theorem x_idx {a b} : (lv T c (n + 1)).ex (.idx a b) env s = ((lv T c n).ex a env s).bind fun x s1 => ((lv T c n).ex b env s1).bind fun y s2 => okD (idxD x y s2.os) s2 := rfl
theorem x_sl {a lo hi} : (lv T c (n + 1)).ex (.sl a lo hi) env s = ((lv T c n).ex a env s).bind fun x s1 => (evI (fun e s => (lv T c n).ex e env s) lo s1).bind fun l s2 => (evI (fun e s => (lv T c n).ex e env s) hi s2).bind fun h s3 => slD x l h s3 := rfl
theorem x_call {f es ks ws} : (lv T c (n + 1)).ex (.call f es ks ws) env s = (evs (fun e s => (lv T c n).ex e env s) es s).bind fun xs s1 => (evs (fun e s => (lv T c n).ex e env s) ws s1).bind fun ys s2 => callD T c f xs ks ys s2 := rfl
theorem x_blt {f es} : (lv T c (n + 1)).ex (.blt f es) env s = (evs (fun e s => (lv T c n).ex e env s) es s).bind fun xs s1 => bltD f xs s1 := rfl
theorem x_comp {e t it q own} : (lv T c (n + 1)).ex (.comp e t it q own) env s = (walkE (fun e s => (lv T c n).ex e env s) it s).bind fun w s1 => doneL w.lock (compL (fun env s => (lv T c n).ex e env s) (fun env s => tstOf (lv T c n).ex q env s) t (wipeE env own) w.xs s1) := rfl
theorem x_dic {kvs} : (lv T c (n + 1)).ex (.dic kvs) env s = (evP (fun e s => (lv T c n).ex e env s) kvs s).bind fun ps s1 => dicD ps s1 := rfl
theorem y_asg {t e} : (lv T c (n + 1)).st (.asg t e) env s = thenS ((lv T c n).ex e env s) env fun d s1 => nxO (asgT t d env) s1 := rfl
theorem y_setI {o i e} : (lv T c (n + 1)).st (.setI o i e) env s = thenS ((lv T c n).ex e env s) env fun d s1 => thenS ((lv T c n).ex o env s1) env fun x s2 => thenS ((lv T c n).ex i env s2) env fun k s3 => nxS env (putI x k d s3) := rfl
theorem y_ret {e} : (lv T c (n + 1)).st (.ret e) env s = thenS ((lv T c n).ex e env s) env fun d s1 => .ret d s1 := rfl
theorem y_ite {t a b} : (lv T c (n + 1)).st (.ite t a b) env s = thenS ((lv T c n).ex t env s) env fun x s1 => onBS x s1 (fun s2 => execs (lv T c n).st a env s2) fun s2 => execs (lv T c n).st b env s2 := rfl
end
theorem callK_go {T : Tb} {F k f : Nat} {fd : Fd} {xs : List D} {s : S} (hT : T[f]? = some fd) (hl : xs.length = fd.ps.length) : callK T F (k + 1) f xs s = runB T (callK T F k) F fd xs s := by
  show (match T[f]? with | some fd => if xs.length = fd.ps.length then runB T (callK T F k) F fd xs s else R.no | none => R.no) = _
  rw [hT]
  exact if_pos hl
def isT : R D → Bool
  | .ok (.bl true) _ => true
  | _ => false
theorem isT_ok {r : R D} (h : isT r = true) : ∃ s, r = .ok (.bl true) s := by
  unfold isT at h
  split at h
  · exact ⟨_, rfl⟩
  · cases h
/-- a list of ints, read -/
theorem rd_ints {os : List O} {n : Nat} : ∀ ns : List Int, allM (rd (n + 1) os) (ns.map .int) = some (ns.map .int)
  | [] => rfl
  | z :: ns => by
    show (match rd (n + 1) os (.int z), allM (rd (n + 1) os) (ns.map .int) with | some p, some ps => some (p :: ps) | _, _ => none) = _
    rw [rd_ints ns]
    rfl
end Wk

/-! Wk20: the script's source in the store: a dict at 2, its cells at 1. -/
namespace Wk
def srcO (sp rs tn : Int) : O := .dic [(.str "cells", .ref 1), (.str "spot", .int sp), (.str "rest", .int rs), (.str "turn", .int tn)]
/-- a store with the source -/
def srcS (x0 : O) (ns : List Int) (sp rs tn : Int) (more : List O) : S := ⟨x0 :: .lst (ns.map .int) :: srcO sp rs tn :: more, false⟩
section
variable {x0 : O} {ns : List Int} {sp rs tn v : Int} {more : List O}
theorem src_cells : idxD (.ref 2) (.str "cells") (srcS x0 ns sp rs tn more).os = some (.ref 1) := rfl
theorem src_spot : idxD (.ref 2) (.str "spot") (srcS x0 ns sp rs tn more).os = some (.int sp) := rfl
theorem src_rest : idxD (.ref 2) (.str "rest") (srcS x0 ns sp rs tn more).os = some (.int rs) := rfl
theorem src_turn : idxD (.ref 2) (.str "turn") (srcS x0 ns sp rs tn more).os = some (.int tn) := rfl
theorem put_spot : putI (.ref 2) (.str "spot") (.int v) (srcS x0 ns sp rs tn more) = some (srcS x0 ns v rs tn more) := rfl
theorem put_rest : putI (.ref 2) (.str "rest") (.int v) (srcS x0 ns sp rs tn more) = some (srcS x0 ns sp v tn more) := rfl
theorem put_turn : putI (.ref 2) (.str "turn") (.int v) (srcS x0 ns sp rs tn more) = some (srcS x0 ns sp rs v more) := rfl
theorem src_new : alloc (.lst []) (srcS x0 ns sp rs tn more) = .ok (.ref (more.length + 3)) (srcS x0 ns sp rs tn (more ++ [.lst []])) := rfl
theorem src_len : bltD .len [.ref 1] (srcS x0 ns sp rs tn more) = .ok (.int (ns.length : Int)) (srcS x0 ns sp rs tn more) := by
  show R.ok (D.int ((ns.map D.int).length : Int)) _ = _
  rw [List.length_map]
theorem src_ne : cmpD .NotEq (.ref 1) (.ref (more.length + 3)) (srcS x0 ns sp rs tn (more ++ [.lst []])).os = some (!ns.isEmpty) := by
  have h1 : rd 40 (srcS x0 ns sp rs tn (more ++ [.lst []])).os (.ref 1) = some (.list (ns.map .int)) := by
    show (allM (rd 39 _) (ns.map .int)).map PySem.PyData.list = _
    rw [rd_ints]
    rfl
  have h2 : (srcS x0 ns sp rs tn (more ++ [.lst []])).os[more.length + 3]? = some (.lst []) := by
    show (x0 :: O.lst (ns.map .int) :: srcO sp rs tn :: (more ++ [.lst []]))[more.length + 3]? = _
    simp
  have h3 : rd 40 (srcS x0 ns sp rs tn (more ++ [.lst []])).os (.ref (more.length + 3)) = some (.list []) := by
    show (match (srcS x0 ns sp rs tn (more ++ [.lst []])).os[more.length + 3]? with
      | some (.lst xs) => (allM (rd 39 _) xs).map PySem.PyData.list
      | some (.lck xs) => (allM (rd 39 _) xs).map PySem.PyData.list
      | _ => none) = _
    rw [h2]
    rfl
  show (eqD _ _ _).map _ = _
  unfold eqD
  rw [h1, h3]
  cases ns with
  | nil => rfl
  | cons z zs => rfl
theorem src_at {i : Int} (h0 : 0 ≤ i) (h1 : i < ns.length) : ∃ z : Int, idxD (.ref 1) (.int i) (srcS x0 ns sp rs tn more).os = some (.int z) := by
  obtain ⟨j, rfl⟩ : ∃ j : Nat, i = j := ⟨i.toNat, by omega⟩
  have hj : j < ns.length := by omega
  refine ⟨ns[j], ?_⟩
  show L2.atI (ns.map D.int) (j : Int) = _
  unfold L2.atI L2.ixN
  rw [List.length_map, if_pos (by omega), if_pos (by omega)]
  simp [hj]
theorem src_back {z : Int} {extra : List O} : back (more.length + 3) (.int z) (srcS x0 ns sp rs tn (more ++ extra)) = .ok (.int z) (srcS x0 ns sp rs tn more) := by
  show R.ok (D.int z) { os := (x0 :: O.lst (ns.map .int) :: srcO sp rs tn :: (more ++ extra)).take (more.length + 3), lk := false } = _
  simp [srcS]
theorem src_back0 {z : Int} : back (more.length + 3) (.int z) (srcS x0 ns sp rs tn more) = .ok (.int z) (srcS x0 ns sp rs tn more) := by
  have := src_back (x0 := x0) (ns := ns) (sp := sp) (rs := rs) (tn := tn) (more := more) (z := z) (extra := [])
  rwa [List.append_nil] at this
theorem bin_mod {i j : Int} {s : S} (h : 0 < j) : binD .Mod (.int i) (.int j) s = .ok (.int (i % j)) s := by
  show (match (if decide (0 < j) then some (i % j) else none) with | some k => R.ok (D.int k) s | none => R.no) = _
  rw [if_pos (decide_eq_true h)]
theorem bin_div {i j : Int} {s : S} (h : 0 < j) (h2 : j < 1073741824) : binD .FloorDiv (.int i) (.int j) s = .ok (.int (i / j)) s := by
  show (match (if decide (0 < j ∧ j < 1073741824) then some (i / j) else none) with | some k => R.ok (D.int k) s | none => R.no) = _
  rw [if_pos (decide_eq_true ⟨h, h2⟩)]
theorem bin_mul {i j : Int} {s : S} (h : 0 ≤ i) (h2 : i < 18446744073709551616) : binD .Mult (.int i) (.int j) s = .ok (.int (i * j)) s := by
  show (match (if decide (-(2 ^ 64) < i ∧ i < 2 ^ 64) || decide (-(2 ^ 64) < j ∧ j < 2 ^ 64) then some (i * j) else none) with | some k => R.ok (D.int k) s | none => R.no) = _
  rw [if_pos (by rw [decide_eq_true (show -(2 ^ 64) < i ∧ i < 2 ^ 64 by omega)]; rfl)]
theorem bin_add {i j : Int} {s : S} : binD .Add (.int i) (.int j) s = .ok (.int (i + j)) s := rfl
theorem bin_pow {s : S} : binD .Pow (.int 10) (.int 18) s = .ok (.int 1000000000000000000) s := rfl
theorem b_int {i : Int} {s : S} : bltD .int [.int i] s = .ok (.int i) s := rfl
theorem cmp_gt {i j : Int} {os : List O} : cmpD .Gt (.int i) (.int j) os = some (decide (j < i)) := rfl
theorem cmp_ge {i j : Int} {os : List O} : cmpD .GtE (.int i) (.int j) os = some (decide (j ≤ i)) := rfl
theorem cmp_lt {i j : Int} {os : List O} : cmpD .Lt (.int i) (.int j) os = some (decide (i < j)) := rfl
end
/-- how a run ends a call -/
def finB (m : Nat) : RS → R D
  | .nx _ s1 => back m .non s1
  | .ret d s1 => back m d s1
  | .ex c fs _ s1 => .ex c fs s1
  | _ => .no
theorem runB_eq {T : Tb} {c : Nat → List D → S → R D} {F : Nat} {fd : Fd} {xs : List D} {s : S} : runB T c F fd xs s = finB s.os.length (execs (lv T c F).st fd.body (xs.map some ++ List.replicate (fd.n - xs.length) none) s) := by
  unfold runB finB
  rfl
/-- one statement behind another -/
theorem go_nx {f : Sm → Env → S → RS} {st : Sm} {r : List Sm} {e e1 : Env} {s s1 : S} (h : f st e s = .nx e1 s1) : execs f (st :: r) e s = execs f r e1 s1 := by
  show (match f st e s with | .nx e1 s1 => execs f r e1 s1 | q => q) = _
  rw [h]
theorem go_ret {f : Sm → Env → S → RS} {st : Sm} {r : List Sm} {e : Env} {d : D} {s s1 : S} (h : f st e s = .ret d s1) : execs f (st :: r) e s = .ret d s1 := by
  show (match f st e s with | .nx e1 s1 => execs f r e1 s1 | q => q) = _
  rw [h]
/-! ### one way of drawing -/
def drawB (z p1 c1 d1 p2 c2 d2 p3 c3 p4 q : Int) : List Sm := [(.setI (.var 0) (.cst (.str "turn")) (.bin .Add (.idx (.var 0) (.cst (.str "turn"))) (.cst (.int 1)))),
  (.ite (.cmp .Gt (.idx (.var 0) (.cst (.str "rest"))) (.cst (.int 0))) [(.asg (.nm 6) (.bin .Mod (.blt .int [(.idx (.var 0) (.cst (.str "rest")))]) (.var 1))), (.setI (.var 0) (.cst (.str "rest")) (.bin .FloorDiv (.idx (.var 0) (.cst (.str "rest"))) (.var 1))), (.ret (.var 6))] []),
  (.asg (.tup [(.nm 2), (.nm 3)]) (.tup [(.idx (.var 0) (.cst (.str "cells"))), (.idx (.var 0) (.cst (.str "spot")))])),
  (.setI (.var 0) (.cst (.str "spot")) (.bin .Add (.var 3) (.cst (.int 1)))),
  (.asg (.nm 4) (.ite (.cmp .NotEq (.var 2) (.lst [])) (.idx (.var 2) (.bin .Mod (.blt .int [(.var 3)]) (.blt .len [(.var 2)]))) (.cst (.int z)))),
  (.ite (.and (.cmp .GtE (.var 4) (.bin .Pow (.cst (.int 10)) (.cst (.int 18)))) (.cmp .Lt (.var 3) (.blt .len [(.var 2)]))) [(.setI (.var 0) (.cst (.str "rest")) (.bin .FloorDiv (.var 4) (.var 1))), (.ret (.bin .Mod (.blt .int [(.var 4)]) (.var 1)))] []),
  (.asg (.nm 5) (.bin .Mod (.blt .int [(.bin .Add (.bin .Add (.bin .Mod (.blt .int [(.var 4)]) (.cst (.int p1))) (.bin .Mult (.cst (.int c1)) (.idx (.var 0) (.cst (.str "turn"))))) (.cst (.int d1)))]) (.cst (.int p2)))),
  (.asg (.nm 5) (.bin .Mod (.blt .int [(.bin .Add (.bin .Add (.bin .Mult (.var 5) (.var 5)) (.bin .Mult (.cst (.int c2)) (.idx (.var 0) (.cst (.str "turn"))))) (.cst (.int d2)))]) (.cst (.int p3)))),
  (.ret (.bin .Mod (.blt .int [(.bin .FloorDiv (.bin .Mod (.blt .int [(.bin .Add (.bin .Mult (.var 5) (.var 5)) (.bin .Mult (.cst (.int c3)) (.var 5)))]) (.cst (.int p4))) (.cst (.int q)))]) (.var 1)))]
section
variable {T : Tb} {c : Nat → List D → S → R D} {n : Nat} {x0 : O} {ns : List Int} {sp rs tn m : Int} {more : List O}
theorem drawB_ok {fd : Fd} {z p1 c1 d1 p2 c2 d2 p3 c3 p4 q : Int} (hb : fd.body = drawB z p1 c1 d1 p2 c2 d2 p3 c3 p4 q) (hn : fd.n = 7) (h1 : 0 < p1) (h2 : 0 < p2 ∧ p2 < 10000000000) (h3 : 0 < p3 ∧ p3 < 10000000000) (h4 : 0 < p4) (hq : 0 < q ∧ q < 1000000) (g1 : 0 ≤ c1 ∧ c1 < 10000000000) (g2 : 0 ≤ c2 ∧ c2 < 10000000000) (g3 : 0 ≤ c3 ∧ c3 < 10000000000)
    (hm : 0 < m ∧ m < 1000000) (h0 : 0 ≤ sp) :
    ∃ v sp' rs' tn' : Int, (0 ≤ v ∧ v < m) ∧ 0 ≤ sp' ∧ runB T c (n + 20) fd [.ref 2, .int m] (srcS x0 ns sp rs tn more) = .ok (.int v) (srcS x0 ns sp' rs' tn' more) := by
  have hlen : (srcS x0 ns sp rs tn more).os.length = more.length + 3 := rfl
  rw [runB_eq, hb, hn, hlen]
  have env0 : ([D.ref 2, D.int m].map some ++ List.replicate (7 - [D.ref 2, D.int m].length) none : Env) = [some (.ref 2), some (.int m), none, none, none, none, none] := rfl
  rw [env0]
  unfold drawB
  rw [go_nx (e1 := [some (.ref 2), some (.int m), none, none, none, none, none]) (s1 := srcS x0 ns sp rs (tn + 1) more) (by
    simp only [y_setI, x_bin, x_idx, x_var, x_cst, varD, R.bind, List.getElem?_cons_zero, src_turn, okD, bin_add, thenS, put_turn, nxS])]
  by_cases hr : 0 < rs
  · refine ⟨rs % m, sp, rs / m, tn + 1, ⟨Int.emod_nonneg _ (by omega), Int.emod_lt_of_pos _ hm.1⟩, h0, ?_⟩
    rw [go_ret (d := .int (rs % m)) (s1 := srcS x0 ns sp (rs / m) (tn + 1) more) (by
      simp only [y_ite, x_cmp, x_idx, x_var, x_cst, varD, R.bind, List.getElem?_cons_zero, List.getElem?_cons_succ, src_rest, okD, cmp_gt, okB, thenS, decide_eq_true hr, onBS]
      rw [go_nx (e1 := [some (.ref 2), some (.int m), none, none, none, none, some (.int (rs % m))]) (s1 := srcS x0 ns sp rs (tn + 1) more) (by
        simp only [y_asg, x_bin, x_blt, evs, x_idx, x_var, x_cst, varD, R.bind, List.getElem?_cons_zero, List.getElem?_cons_succ, src_rest, okD, b_int, bin_mod hm.1, thenS, asgT]
        rfl)]
      rw [go_nx (e1 := [some (.ref 2), some (.int m), none, none, none, none, some (.int (rs % m))]) (s1 := srcS x0 ns sp (rs / m) (tn + 1) more) (by
        simp only [y_setI, x_bin, x_idx, x_var, x_cst, varD, R.bind, List.getElem?_cons_zero, List.getElem?_cons_succ, src_rest, okD, bin_div hm.1 (show m < 1073741824 by omega), thenS, put_rest, nxS])]
      exact go_ret (by simp only [y_ret, x_var, varD, List.getElem?_cons_zero, List.getElem?_cons_succ, thenS]))]
    exact src_back0
  · have hr' : decide (0 < rs) = false := decide_eq_false hr
    rw [go_nx (e1 := [some (.ref 2), some (.int m), none, none, none, none, none]) (s1 := srcS x0 ns sp rs (tn + 1) more) (by
      simp only [y_ite, x_cmp, x_idx, x_var, x_cst, varD, R.bind, List.getElem?_cons_zero, List.getElem?_cons_succ, src_rest, okD, cmp_gt, okB, thenS, hr', onBS]
      rfl)]
    rw [go_nx (e1 := [some (.ref 2), some (.int m), some (.ref 1), some (.int sp), none, none, none]) (s1 := srcS x0 ns sp rs (tn + 1) more) (by
      simp only [y_asg, x_tup, evs, x_idx, x_var, x_cst, varD, R.bind, List.getElem?_cons_zero, List.getElem?_cons_succ, src_cells, src_spot, okD, thenS, asgT]
      rfl)]
    rw [go_nx (e1 := [some (.ref 2), some (.int m), some (.ref 1), some (.int sp), none, none, none]) (s1 := srcS x0 ns (sp + 1) rs (tn + 1) more) (by
      simp only [y_setI, x_bin, x_idx, x_var, x_cst, varD, R.bind, List.getElem?_cons_zero, List.getElem?_cons_succ, okD, bin_add, thenS, put_spot, nxS])]
    -- the number
    obtain ⟨w, hw⟩ : ∃ w : Int, (lv T c (n + 20)).st (.asg (.nm 4) (.ite (.cmp .NotEq (.var 2) (.lst [])) (.idx (.var 2) (.bin .Mod (.blt .int [(.var 3)]) (.blt .len [(.var 2)]))) (.cst (.int z)))) [some (.ref 2), some (.int m), some (.ref 1), some (.int sp), none, none, none] (srcS x0 ns (sp + 1) rs (tn + 1) more)
        = .nx [some (.ref 2), some (.int m), some (.ref 1), some (.int sp), some (.int w), none, none] (srcS x0 ns (sp + 1) rs (tn + 1) (more ++ [.lst []])) := by
      by_cases hns : ns = []
      · subst hns
        refine ⟨z, ?_⟩
        simp only [y_asg, x_ite, x_cmp, x_lst, evs, x_var, x_cst, varD, R.bind, List.getElem?_cons_zero, List.getElem?_cons_succ, src_new, src_ne, okB, List.isEmpty_nil, Bool.not_true, onB, thenS, asgT]
        rfl
      · have hpos : 0 < ns.length := (by cases ns with | nil => exact absurd rfl hns | cons _ _ => exact Nat.succ_pos _)
        have he : ns.isEmpty = false := by cases ns with | nil => exact absurd rfl hns | cons _ _ => rfl
        obtain ⟨w, hw⟩ := src_at (x0 := x0) (ns := ns) (sp := sp + 1) (rs := rs) (tn := tn + 1) (more := more ++ [.lst []]) (i := sp % (ns.length : Int)) (Int.emod_nonneg _ (by omega)) (Int.emod_lt_of_pos _ (by omega))
        refine ⟨w, ?_⟩
        simp only [y_asg, x_ite, x_cmp, x_lst, evs, x_var, x_cst, x_idx, x_bin, x_blt, varD, R.bind, List.getElem?_cons_zero, List.getElem?_cons_succ, src_new, src_ne, okB, he, Bool.not_false, onB, b_int, src_len, bin_mod (show (0 : Int) < (ns.length : Int) by omega), hw, okD, thenS, asgT]
        rfl
    rw [go_nx hw]
    by_cases hbig : (1000000000000000000 : Int) ≤ w ∧ sp < (ns.length : Int)
    · refine ⟨w % m, sp + 1, w / m, tn + 1, ⟨Int.emod_nonneg _ (by omega), Int.emod_lt_of_pos _ hm.1⟩, by omega, ?_⟩
      rw [go_ret (d := .int (w % m)) (s1 := srcS x0 ns (sp + 1) (w / m) (tn + 1) (more ++ [.lst []])) (by
        simp only [y_ite, x_and, x_cmp, x_bin, x_blt, evs, x_var, x_cst, varD, R.bind, List.getElem?_cons_zero, List.getElem?_cons_succ, bin_pow, cmp_ge, cmp_lt, okB, decide_eq_true hbig.1, decide_eq_true hbig.2, onB, src_len, thenS, onBS]
        rw [go_nx (e1 := [some (.ref 2), some (.int m), some (.ref 1), some (.int sp), some (.int w), none, none]) (s1 := srcS x0 ns (sp + 1) (w / m) (tn + 1) (more ++ [.lst []])) (by
          simp only [y_setI, x_bin, x_idx, x_var, x_cst, varD, R.bind, List.getElem?_cons_zero, List.getElem?_cons_succ, bin_div hm.1 (show m < 1073741824 by omega), thenS, put_rest, nxS])]
        exact go_ret (by simp only [y_ret, x_bin, x_blt, evs, x_var, varD, R.bind, List.getElem?_cons_zero, List.getElem?_cons_succ, b_int, bin_mod hm.1, thenS]))]
      exact src_back
    · have step : (lv T c (n + 20)).st (.ite (.and (.cmp .GtE (.var 4) (.bin .Pow (.cst (.int 10)) (.cst (.int 18)))) (.cmp .Lt (.var 3) (.blt .len [(.var 2)]))) [(.setI (.var 0) (.cst (.str "rest")) (.bin .FloorDiv (.var 4) (.var 1))), (.ret (.bin .Mod (.blt .int [(.var 4)]) (.var 1)))] []) [some (.ref 2), some (.int m), some (.ref 1), some (.int sp), some (.int w), none, none] (srcS x0 ns (sp + 1) rs (tn + 1) (more ++ [.lst []]))
          = .nx [some (.ref 2), some (.int m), some (.ref 1), some (.int sp), some (.int w), none, none] (srcS x0 ns (sp + 1) rs (tn + 1) (more ++ [.lst []])) := by
        by_cases hw1 : (1000000000000000000 : Int) ≤ w
        · have hw2 : decide (sp < (ns.length : Int)) = false := decide_eq_false fun h => hbig ⟨hw1, h⟩
          simp only [y_ite, x_and, x_cmp, x_bin, x_blt, evs, x_var, x_cst, varD, R.bind, List.getElem?_cons_zero, List.getElem?_cons_succ, bin_pow, cmp_ge, cmp_lt, okB, decide_eq_true hw1, hw2, onB, src_len, thenS, onBS]
          rfl
        · have hw2 : decide ((1000000000000000000 : Int) ≤ w) = false := decide_eq_false hw1
          simp only [y_ite, x_and, x_cmp, x_bin, x_blt, evs, x_var, x_cst, varD, R.bind, List.getElem?_cons_zero, List.getElem?_cons_succ, bin_pow, cmp_ge, cmp_lt, okB, hw2, onB, src_len, thenS, onBS]
          rfl
      rw [go_nx step]
      have u1 := Int.emod_nonneg (w % p1 + c1 * (tn + 1) + d1) (show p2 ≠ 0 by omega)
      have u2 := Int.emod_lt_of_pos (w % p1 + c1 * (tn + 1) + d1) h2.1
      rw [go_nx (e1 := [some (.ref 2), some (.int m), some (.ref 1), some (.int sp), some (.int w), some (.int ((w % p1 + c1 * (tn + 1) + d1) % p2)), none]) (s1 := srcS x0 ns (sp + 1) rs (tn + 1) (more ++ [.lst []])) (by
        simp only [y_asg, x_bin, x_blt, evs, x_idx, x_var, x_cst, varD, R.bind, List.getElem?_cons_zero, List.getElem?_cons_succ, src_turn, okD, b_int, bin_mod h1, bin_mod h2.1, bin_mul g1.1 (show c1 < 18446744073709551616 by omega), bin_add, thenS, asgT]
        rfl)]
      generalize (w % p1 + c1 * (tn + 1) + d1) % p2 = y1 at u1 u2
      have u3 := Int.emod_nonneg (y1 * y1 + c2 * (tn + 1) + d2) (show p3 ≠ 0 by omega)
      have u4 := Int.emod_lt_of_pos (y1 * y1 + c2 * (tn + 1) + d2) h3.1
      rw [go_nx (e1 := [some (.ref 2), some (.int m), some (.ref 1), some (.int sp), some (.int w), some (.int ((y1 * y1 + c2 * (tn + 1) + d2) % p3)), none]) (s1 := srcS x0 ns (sp + 1) rs (tn + 1) (more ++ [.lst []])) (by
        simp only [y_asg, x_bin, x_blt, evs, x_idx, x_var, x_cst, varD, R.bind, List.getElem?_cons_zero, List.getElem?_cons_succ, src_turn, okD, b_int, bin_mod h3.1, bin_mul g2.1 (show c2 < 18446744073709551616 by omega), bin_mul u1 (show y1 < 18446744073709551616 by omega), bin_add, thenS, asgT]
        rfl)]
      generalize (y1 * y1 + c2 * (tn + 1) + d2) % p3 = y2 at u3 u4
      refine ⟨(y2 * y2 + c3 * y2) % p4 / q % m, sp + 1, rs, tn + 1, ⟨Int.emod_nonneg _ (by omega), Int.emod_lt_of_pos _ hm.1⟩, by omega, ?_⟩
      rw [go_ret (d := .int ((y2 * y2 + c3 * y2) % p4 / q % m)) (s1 := srcS x0 ns (sp + 1) rs (tn + 1) (more ++ [.lst []])) (by
        simp only [y_ret, x_bin, x_blt, evs, x_idx, x_var, x_cst, varD, R.bind, List.getElem?_cons_zero, List.getElem?_cons_succ, b_int, bin_mod h4, bin_mod hm.1, bin_div hq.1 (show q < 1073741824 by omega), bin_mul g3.1 (show c3 < 18446744073709551616 by omega), bin_mul u3 (show y2 < 18446744073709551616 by omega), bin_add, thenS])]
      exact src_back
/-- the way of feeding that goes with it -/
def feedB : List Sm := [(.ret (.dic [((.cst (.str "cells")), (.comp (.blt .int [(.var 1)]) (.nm 1) (.sl (.var 0) none (some (.cst (.int 63)))) none [1])), ((.cst (.str "spot")), (.cst (.int 0))), ((.cst (.str "rest")), (.cst (.int 0))), ((.cst (.str "turn")), (.cst (.int 0)))]))]
theorem cut63 {ns : List Int} (h : ns.length ≤ 63) : cutD (ns.map D.int) none (some 63) = ns.map D.int := by
  unfold cutD
  have e1 : HT.sIx (ns.map D.int).length 0 none = 0 := rfl
  have e2 : HT.sIx (ns.map D.int).length (ns.map D.int).length (some 63) = ns.length := by
    show (if (63 : Int) < 0 then ((63 : Int) + ((ns.map D.int).length : Int)).toNat else min (63 : Int).toNat (ns.map D.int).length) = _
    rw [if_neg (by omega), List.length_map]
    show min 63 ns.length = _
    omega
  rw [e1, e2, List.drop_zero, Nat.sub_zero]
  exact List.take_of_length_le (by rw [List.length_map]; exact Nat.le_refl _)
theorem loopB {e0 : Option D} : ∀ (zs : List Int) (s : S), compL (fun env s => (lv T c (n + 2)).ex (.blt .int [.var 1]) env s) (fun env s => tstOf (lv T c (n + 2)).ex none env s) (.nm 1) [e0, none] (zs.map .int) s = .ok (zs.map .int) s
  | [], s => rfl
  | z :: zs, s => by
    show (match compL (fun env s => (lv T c (n + 2)).ex (.blt .int [.var 1]) env s) (fun env s => tstOf (lv T c (n + 2)).ex none env s) (.nm 1) [e0, none] (zs.map .int) s with
      | .ok ys s3 => R.ok (D.int z :: ys) s3
      | _ => .no) = _
    rw [loopB zs s]
    rfl
theorem feedB_ok {fd : Fd} (hb : fd.body = feedB) (hn : fd.n = 2) (h : ns.length ≤ 63) : runB T c (n + 20) fd [.fl (ns.map .int)] ⟨[], false⟩ = .ok (.ref 2) (srcS (.lst (ns.map .int)) ns 0 0 0 []) := by
  rw [runB_eq, hb, hn]
  have cmp : (lv T c (n + 18)).ex (.comp (.blt .int [(.var 1)]) (.nm 1) (.sl (.var 0) none (some (.cst (.int 63)))) none [1]) [some (.fl (ns.map .int)), none] ⟨[], false⟩ = .ok (.ref 1) ⟨[.lst (ns.map .int), .lst (ns.map .int)], false⟩ := by
    have w1 : walkE (fun e s => (lv T c (n + 17)).ex e [some (.fl (ns.map .int)), none] s) (.sl (.var 0) none (some (.cst (.int 63)))) ⟨[], false⟩ = .ok ⟨ns.map .int, some (0, ns.map .int)⟩ ⟨[.lck (ns.map .int)], false⟩ := by
      have sl1 : (lv T c (n + 17)).ex (.sl (.var 0) none (some (.cst (.int 63)))) [some (.fl (ns.map .int)), none] ⟨[], false⟩ = .ok (.ref 0) ⟨[.lst (ns.map .int)], false⟩ := by
        rw [x_sl]
        simp only [x_var, varD, List.getElem?_cons_zero, R.bind, evI, x_cst, intD, slD, listOf, cut63 h]
        rfl
      show R.bind ((lv T c (n + 17)).ex (.sl (.var 0) none (some (.cst (.int 63)))) [some (.fl (ns.map .int)), none] ⟨[], false⟩) (fun d s1 => walkOf d s1) = _
      rw [sl1]
      rfl
    rw [x_comp, w1]
    show doneL (some (0, ns.map .int)) (compL (fun env s => (lv T c (n + 17)).ex (.blt .int [.var 1]) env s) (fun env s => tstOf (lv T c (n + 17)).ex none env s) (.nm 1) [some (.fl (ns.map .int)), none] (ns.map .int) ⟨[.lck (ns.map .int)], false⟩) = _
    rw [loopB (n := n + 15)]
    show (if (ns.map D.int).length ≤ 100000 then alloc (.lst (ns.map .int)) (freeS ⟨[.lck (ns.map .int)], false⟩ (some (0, ns.map .int))) else R.no) = _
    rw [if_pos (by rw [List.length_map]; omega)]
    rfl
  show finB 0 (execs (lv T c (n + 20)).st feedB [some (.fl (ns.map .int)), none] ⟨[], false⟩) = _
  unfold feedB
  rw [go_ret (d := .ref 2) (s1 := srcS (.lst (ns.map .int)) ns 0 0 0 []) (by
    rw [y_ret, x_dic]
    unfold evP
    rw [show (lv T c (n + 18)).ex (.cst (.str "cells")) [some (.fl (ns.map .int)), none] ⟨[], false⟩ = .ok (.str "cells") ⟨[], false⟩ from rfl]
    show thenS (R.bind (R.bind ((lv T c (n + 18)).ex (.comp (.blt .int [(.var 1)]) (.nm 1) (.sl (.var 0) none (some (.cst (.int 63)))) none [1]) [some (.fl (ns.map .int)), none] ⟨[], false⟩) _) _) _ _ = _
    rw [cmp]
    rfl)]
  rfl
end
end Wk

namespace Lw
open PySem L2 PyProof.Rows Wk
def top (i : Nat) : Stmt := PySem.Challenge.pw_wokeas_k45_behind_and_beside_told.main.body.getD i (.Pass ⟨0, 0, 0, 0⟩)
def f_is_integer : Fd := ⟨1, ["thing"], [], [(.ret (.and (.blt .isi [(.var 0), (.cst (.ty "int"))]) (.not (.blt .isi [(.var 0), (.cst (.ty "bool"))]))))]⟩
def f_is_number : Fd := ⟨1, ["thing"], [], [(.ret (.and (.call 0 [(.var 0)] [] []) (.cmp .GtE (.var 0) (.cst (.int 0)))))]⟩
def f_is_pair : Fd := ⟨1, ["thing"], [], [(.ret (.and (.blt .isi [(.var 0), (.cst (.ty "tuple"))]) (.cmp .Eq (.blt .len [(.var 0)]) (.cst (.int 2)))))]⟩
def f_is_by_form : Fd := ⟨2, ["thing"], [], [(.ite (.or (.not (.blt .isi [(.var 0), (.cst (.ty "tuple"))])) (.cmp .Eq (.blt .len [(.var 0)]) (.cst (.int 0)))) [(.ret (.cst (.bl false)))] []), (.ret (.blt .all [(.comp (.and (.call 2 [(.var 1)] [] []) (.and (.call 1 [(.idx (.var 1) (.cst (.int 0)))] [] []) (.call 1 [(.idx (.var 1) (.cst (.int 1)))] [] []))) (.nm 1) (.var 0) none [1])]))]⟩
def f_machine_fault : Fd := ⟨6, ["thing"], [], [(.ite (.or (.not (.blt .isi [(.var 0), (.cst (.ty "tuple"))])) (.cmp .Eq (.blt .len [(.var 0)]) (.cst (.int 0)))) [(.ret (.tup [(.cst (.str "shape")), (.neg (.cst (.int 1)))]))] []), (.for_ (.tup [(.nm 1), (.nm 2)]) (.enum (.var 0)) [(.ite (.not (.call 3 [(.var 2)] [] [])) [(.ret (.tup [(.cst (.str "standing")), (.var 1)]))] []), (.ite (.cmp .NotEq (.blt .len [(.var 2)]) (.blt .len [(.idx (.var 0) (.cst (.int 0)))])) [(.ret (.tup [(.cst (.str "letters")), (.var 1)]))] [])]), (.for_ (.tup [(.nm 1), (.nm 2)]) (.enum (.var 0)) [(.for_ (.tup [(.nm 3), (.tup [(.nm 4), (.nm 5)])]) (.enum (.var 2)) [(.ite (.cmp .GtE (.var 4) (.blt .len [(.var 0)])) [(.ret (.tup [(.cst (.str "next")), (.tup [(.var 1), (.var 3)])]))] [])])]), (.ret (.cst .non))]⟩
def f_is_machine : Fd := ⟨1, ["thing"], [], [(.ret (.cmp .Is (.call 4 [(.var 0)] [] []) (.cst .non)))]⟩
def f_want : Fd := ⟨3, ["is_right", "word", "at"], [(.int (-1))], [(.ite (.not (.var 0)) [.dead] [])]⟩
def f_want_machine : Fd := ⟨2, ["machine", "word"], [(.str "machine")], [(.expr (.call 6 [(.call 5 [(.var 0)] [] []), (.var 1)] [] []))]⟩
def f_answers_within : Fd := ⟨5, ["machine", "many"], [], [(.ret (.blt .all [(.comp2 (.cmp .Lt (.var 4) (.var 1)) (.nm 2) (.var 0) (.tup [(.nm 3), (.nm 4)]) (.var 2) none [2, 3, 4])]))]⟩
def f_behind_at : Fd := ⟨9, ["other", "here", "first"], [], [(.asg (.tup [(.nm 3), (.nm 4)]) (.tup [(.blt .len [(.var 0)]), (.lst [])])), (.for_ (.tup [(.nm 5), (.nm 6)]) (.var 2) [(.asg (.tup [(.nm 7), (.nm 8)]) (.idx (.idx (.var 0) (.var 1)) (.var 6))), (.expr (.app (.var 4) (.tup [(.bin .Add (.bin .Mult (.var 5) (.var 3)) (.var 7)), (.var 8)])))]), (.ret (.blt .tuple [(.var 4)]))]⟩
def f_behind : Fd := ⟨4, ["one", "other"], [], [(.expr (.call 7 [(.var 0), (.cst (.str "one"))] [] [])), (.expr (.call 7 [(.var 1), (.cst (.str "other"))] [] [])), (.expr (.call 6 [(.call 8 [(.var 0), (.blt .len [(.idx (.var 1) (.cst (.int 0)))])] [] []), (.cst (.str "other"))] [] [])), (.ret (.blt .tuple [(.comp2 (.call 9 [(.var 1), (.var 3), (.var 2)] [] []) (.nm 2) (.var 0) (.nm 3) (.rng [(.blt .len [(.var 1)])]) none [2, 3])]))]⟩
def f_beside_at : Fd := ⟨8, ["first", "second", "many"], [], [(.asg (.nm 3) (.lst [])), (.for_ (.tup [(.tup [(.nm 4), (.nm 5)]), (.tup [(.nm 6), (.nm 7)])]) (.zip (.var 0) (.var 1)) [(.expr (.app (.var 3) (.tup [(.bin .Add (.bin .Mult (.var 4) (.var 2)) (.var 6)), (.bin .Add (.bin .Mult (.var 5) (.cst (.int 10))) (.var 7))])))]), (.ret (.blt .tuple [(.var 3)]))]⟩
def f_beside : Fd := ⟨4, ["one", "other"], [], [(.expr (.call 6 [(.and (.call 5 [(.var 0)] [] []) (.call 8 [(.var 0), (.cst (.int 10))] [] [])), (.cst (.str "one"))] [] [])), (.expr (.call 6 [(.and (.call 5 [(.var 1)] [] []) (.and (.call 8 [(.var 1), (.cst (.int 10))] [] []) (.cmp .Eq (.blt .len [(.idx (.var 0) (.cst (.int 0)))]) (.blt .len [(.idx (.var 1) (.cst (.int 0)))])))), (.cst (.str "other"))] [] [])), (.ret (.blt .tuple [(.comp2 (.call 11 [(.var 2), (.var 3), (.blt .len [(.var 1)])] [] []) (.nm 2) (.var 0) (.nm 3) (.var 1) none [2, 3])]))]⟩
def f__law_feed : Fd := ⟨2, ["_law_script"], [], [(.ret (.dic [((.cst (.str "cells")), (.comp (.blt .int [(.var 1)]) (.nm 1) (.sl (.var 0) none (some (.cst (.int 63)))) none [1])), ((.cst (.str "spot")), (.cst (.int 0))), ((.cst (.str "rest")), (.cst (.int 0))), ((.cst (.str "turn")), (.cst (.int 0)))]))]⟩
def f__law_draw : Fd := ⟨7, ["_law_src", "_law_much"], [], [(.setI (.var 0) (.cst (.str "turn")) (.bin .Add (.idx (.var 0) (.cst (.str "turn"))) (.cst (.int 1)))), (.ite (.cmp .Gt (.idx (.var 0) (.cst (.str "rest"))) (.cst (.int 0))) [(.asg (.nm 6) (.bin .Mod (.blt .int [(.idx (.var 0) (.cst (.str "rest")))]) (.var 1))), (.setI (.var 0) (.cst (.str "rest")) (.bin .FloorDiv (.idx (.var 0) (.cst (.str "rest"))) (.var 1))), (.ret (.var 6))] []), (.asg (.tup [(.nm 2), (.nm 3)]) (.tup [(.idx (.var 0) (.cst (.str "cells"))), (.idx (.var 0) (.cst (.str "spot")))])), (.setI (.var 0) (.cst (.str "spot")) (.bin .Add (.var 3) (.cst (.int 1)))), (.asg (.nm 4) (.ite (.cmp .NotEq (.var 2) (.lst [])) (.idx (.var 2) (.bin .Mod (.blt .int [(.var 3)]) (.blt .len [(.var 2)]))) (.cst (.int 4021)))), (.ite (.and (.cmp .GtE (.var 4) (.bin .Pow (.cst (.int 10)) (.cst (.int 18)))) (.cmp .Lt (.var 3) (.blt .len [(.var 2)]))) [(.setI (.var 0) (.cst (.str "rest")) (.bin .FloorDiv (.var 4) (.var 1))), (.ret (.bin .Mod (.blt .int [(.var 4)]) (.var 1)))] []), (.asg (.nm 5) (.bin .Mod (.blt .int [(.bin .Add (.bin .Add (.bin .Mod (.blt .int [(.var 4)]) (.cst (.int 1000001011))) (.bin .Mult (.cst (.int 92003)) (.idx (.var 0) (.cst (.str "turn"))))) (.cst (.int 511)))]) (.cst (.int 2147483399)))), (.asg (.nm 5) (.bin .Mod (.blt .int [(.bin .Add (.bin .Add (.bin .Mult (.var 5) (.var 5)) (.bin .Mult (.cst (.int 5410021)) (.idx (.var 0) (.cst (.str "turn"))))) (.cst (.int 1009)))]) (.cst (.int 2147483353)))), (.ret (.bin .Mod (.blt .int [(.bin .FloorDiv (.bin .Mod (.blt .int [(.bin .Add (.bin .Mult (.var 5) (.var 5)) (.bin .Mult (.cst (.int 811)) (.var 5)))]) (.cst (.int 2147483323))) (.cst (.int 16)))]) (.var 1)))]⟩
def f__law_scenes : Fd := ⟨3, [], [], [(.asg (.tup [(.nm 0), (.nm 1), (.nm 2)]) (.tup [(.tup [(.tup [(.tup [(.cst (.int 1)), (.cst (.int 0))])]), (.tup [(.tup [(.cst (.int 0)), (.cst (.int 1))])])]), (.tup [(.tup [(.tup [(.cst (.int 0)), (.cst (.int 0))])])]), (.tup [(.tup [(.tup [(.cst (.int 0)), (.cst (.int 0))])]), (.tup [(.tup [(.cst (.int 0)), (.cst (.int 1))])])])])), (.ret (.tup [(.var 0), (.var 1), (.var 2), (.tup [(.tup [(.tup [(.cst (.int 0)), (.cst (.int 0))]), (.tup [(.cst (.int 1)), (.cst (.int 0))])]), (.tup [(.tup [(.cst (.int 1)), (.cst (.int 1))]), (.tup [(.cst (.int 0)), (.cst (.int 1))])])]), (.tup [(.tup [(.tup [(.cst (.int 0)), (.cst (.int 9))])]), (.tup [(.tup [(.cst (.int 0)), (.cst (.int 3))])])])]))]⟩
def f__law_are_behind : Fd := ⟨7, [], [], [(.asg (.tup [(.nm 0), (.nm 1), (.nm 2), (.nm 3), (.nm 4)]) (.call 15 [] [] [])), (.asg (.nm 5) (.lst [(.call 10 [(.var 0), (.var 3)] [] []), (.call 10 [(.var 1), (.var 3)] [] []), (.call 10 [] ["other", "one"] [(.var 3), (.var 3)]), (.call 10 [(.var 2), (.var 3)] [] [])])), (.asg (.nm 6) (.lst [(.tup [(.tup [(.tup [(.cst (.int 2)), (.cst (.int 0))])]), (.tup [(.tup [(.cst (.int 3)), (.cst (.int 1))])]), (.tup [(.tup [(.cst (.int 1)), (.cst (.int 0))])]), (.tup [(.tup [(.cst (.int 0)), (.cst (.int 1))])])]), (.tup [(.tup [(.tup [(.cst (.int 0)), (.cst (.int 0))])]), (.tup [(.tup [(.cst (.int 1)), (.cst (.int 1))])])])])), (.expr (.app (.var 6) (.tup [(.tup [(.tup [(.cst (.int 0)), (.cst (.int 0))]), (.tup [(.cst (.int 2)), (.cst (.int 0))])]), (.tup [(.tup [(.cst (.int 1)), (.cst (.int 1))]), (.tup [(.cst (.int 3)), (.cst (.int 1))])]), (.tup [(.tup [(.cst (.int 3)), (.cst (.int 0))]), (.tup [(.cst (.int 1)), (.cst (.int 0))])]), (.tup [(.tup [(.cst (.int 2)), (.cst (.int 1))]), (.tup [(.cst (.int 0)), (.cst (.int 1))])])]))), (.expr (.app (.var 6) (.tup [(.tup [(.tup [(.cst (.int 0)), (.cst (.int 0))])]), (.tup [(.tup [(.cst (.int 1)), (.cst (.int 1))])]), (.tup [(.tup [(.cst (.int 1)), (.cst (.int 0))])]), (.tup [(.tup [(.cst (.int 0)), (.cst (.int 1))])])]))), (.ret (.reprEq (.var 5) (.var 6)))]⟩
def f__law_are_beside : Fd := ⟨7, [], [], [(.asg (.tup [(.nm 0), (.nm 1), (.nm 2), (.nm 3), (.nm 4)]) (.call 15 [] [] [])), (.asg (.nm 5) (.lst [(.call 12 [(.var 0), (.var 2)] [] []), (.call 12 [] ["other", "one"] [(.var 1), (.var 0)]), (.call 12 [(.var 4), (.var 4)] [] []), (.idx (.call 12 [(.var 3), (.var 3)] [] []) (.cst (.int 1))), (.call 12 [(.var 4), (.var 1)] [] [])])), (.asg (.nm 6) (.lst [(.tup [(.tup [(.tup [(.cst (.int 2)), (.cst (.int 0))])]), (.tup [(.tup [(.cst (.int 2)), (.cst (.int 1))])]), (.tup [(.tup [(.cst (.int 0)), (.cst (.int 10))])]), (.tup [(.tup [(.cst (.int 0)), (.cst (.int 11))])])]), (.tup [(.tup [(.tup [(.cst (.int 1)), (.cst (.int 0))])]), (.tup [(.tup [(.cst (.int 0)), (.cst (.int 10))])])])])), (.asg (.nm 6) (.bin .Add (.var 6) (.lst [(.tup [(.tup [(.tup [(.cst (.int 0)), (.cst (.int 99))])]), (.tup [(.tup [(.cst (.int 0)), (.cst (.int 93))])]), (.tup [(.tup [(.cst (.int 0)), (.cst (.int 39))])]), (.tup [(.tup [(.cst (.int 0)), (.cst (.int 33))])])]), (.tup [(.tup [(.cst (.int 1)), (.cst (.int 1))]), (.tup [(.cst (.int 2)), (.cst (.int 1))])]), (.tup [(.tup [(.tup [(.cst (.int 0)), (.cst (.int 90))])]), (.tup [(.tup [(.cst (.int 0)), (.cst (.int 30))])])])]))), (.ret (.reprEq (.var 5) (.var 6)))]⟩
def f_law : Fd := ⟨4, ["_law_script"], [], [(.asg (.nm 1) (.call 13 [(.var 0)] [] [])), (.asg (.nm 2) (.call 14 [(.var 1), (.cst (.int 2))] [] [])), (.for_ (.nm 3) (.rng [(.cst (.int 2))]) [(.ite (.and (.cmp .Eq (.bin .Mod (.blt .int [(.bin .Add (.var 2) (.var 3))]) (.cst (.int 2))) (.cst (.int 0))) (.not (.call 16 [] [] []))) [(.ret (.cst (.bl false)))] []), (.ite (.and (.cmp .Eq (.bin .Mod (.blt .int [(.bin .Add (.var 2) (.var 3))]) (.cst (.int 2))) (.cst (.int 1))) (.not (.call 17 [] [] []))) [(.ret (.cst (.bl false)))] [])]), (.ret (.cst (.bl true)))]⟩
def d_is_integer : Df := ⟨"is_integer", top 5, ["thing"], f_is_integer⟩
def d_is_number : Df := ⟨"is_number", top 6, ["thing"], f_is_number⟩
def d_is_pair : Df := ⟨"is_pair", top 7, ["thing"], f_is_pair⟩
def d_is_by_form : Df := ⟨"is_by_form", top 9, ["thing", "one"], f_is_by_form⟩
def d_machine_fault : Df := ⟨"machine_fault", top 10, ["thing", "k", "standing", "x", "late", "answer"], f_machine_fault⟩
def d_is_machine : Df := ⟨"is_machine", top 11, ["thing"], f_is_machine⟩
def d_want : Df := ⟨"want", top 13, ["is_right", "word", "at"], f_want⟩
def d_want_machine : Df := ⟨"want_machine", top 14, ["machine", "word"], f_want_machine⟩
def d_answers_within : Df := ⟨"answers_within", top 17, ["machine", "many", "standing", "late", "answer"], f_answers_within⟩
def d_behind_at : Df := ⟨"behind_at", top 18, ["other", "here", "first", "many", "found", "late", "answer", "goal", "told"], f_behind_at⟩
def d_behind : Df := ⟨"behind", top 19, ["one", "other", "standing", "here"], f_behind⟩
def d_beside_at : Df := ⟨"beside_at", top 20, ["first", "second", "many", "found", "late", "answer", "goal", "told"], f_beside_at⟩
def d_beside : Df := ⟨"beside", top 21, ["one", "other", "first", "second"], f_beside⟩
def d__law_feed : Df := ⟨"_law_feed", top 23, ["_law_script", "_law_cell"], f__law_feed⟩
def d__law_draw : Df := ⟨"_law_draw", top 24, ["_law_src", "_law_much", "_law_nums", "_law_spot", "_law_num", "_law_mixed", "_law_digit"], f__law_draw⟩
def d__law_scenes : Df := ⟨"_law_scenes", top 25, ["_law_flip", "_law_hold", "_law_once"], f__law_scenes⟩
def d__law_are_behind : Df := ⟨"_law_are_behind", top 26, ["_law_flip", "_law_hold", "_law_once", "_law_lamp", "_law_nine", "_law_told", "_law_due"], f__law_are_behind⟩
def d__law_are_beside : Df := ⟨"_law_are_beside", top 27, ["_law_flip", "_law_hold", "_law_once", "_law_lamp", "_law_nine", "_law_told", "_law_due"], f__law_are_beside⟩
def d_law : Df := ⟨"law", top 28, ["_law_script", "_law_src", "_law_begin", "_law_k"], f_law⟩
def ds0 : List Df := [d_is_integer, d_is_number, d_is_pair, d_is_by_form, d_machine_fault, d_is_machine, d_want, d_want_machine, d_answers_within, d_behind_at, d_behind, d_beside_at, d_beside, d__law_feed, d__law_draw, d__law_scenes, d__law_are_behind, d__law_are_beside, d_law]
def ds : List Df := ds0
def fs0 : List Str := ["is_integer", "is_number", "is_pair", "is_by_form", "machine_fault", "is_machine", "want", "want_machine", "answers_within", "behind_at", "behind", "beside_at", "beside", "_law_feed", "_law_draw", "_law_scenes", "_law_are_behind", "_law_are_beside", "law"]
def fs : List Str := fs0
def T0 : List Fd := [f_is_integer, f_is_number, f_is_pair, f_is_by_form, f_machine_fault, f_is_machine, f_want, f_want_machine, f_answers_within, f_behind_at, f_behind, f_beside_at, f_beside, f__law_feed, f__law_draw, f__law_scenes, f__law_are_behind, f__law_are_beside, f_law]
def T : List Fd := T0
def cs : List (Str × D) := [("WIDTH", (.int 10))]
def loose0 : List Str := ["WakeError", "MachineError", "NotUsable", "is_integer", "is_number", "is_pair", "is_by_form", "machine_fault", "is_machine", "want", "want_machine", "WIDTH", "answers_within", "behind_at", "behind", "beside_at", "beside", "_law_feed", "_law_draw", "_law_scenes", "_law_are_behind", "_law_are_beside"]
def loose : List Str := loose0
theorem ok_b : ds.all dfB = true := by kernel_rfl
theorem ok_body : (ds.map fun d => d.fd.body) = ds.map fun d => (defBody d.st).map (cS 100 (cgOf fs cs d)) := by kernel_rfl
theorem ok_d : ∀ d ∈ ds, DfOk fs cs d := fun d hd => ⟨List.all_eq_true.mp ok_b d hd, List.map_inj_left.mp ok_body d hd⟩
abbrev hk : PySem.W.Hook := He.hookD 4 (faOf fs cs) (fnOf ds)
def ob (s : PySem.W.SharedT) : He.AlD := He.obsDG 4 (faOf fs cs) (fnOf ds) (HandSHeadRun.getT s)
theorem ob_eq (s : PySem.W.SharedT) : ob s = hk.obs s.abs := He.obsDG_eq (HandSHeadRun.getT_eq s)
theorem top_run (w : World) : HandSHeadRun.RunEq (PySem.W.OpenLaw.row PySem.Challenge.rw_wokeas_k45_behind_and_beside_told) (PySem.W.view (PySem.W.OpenLaw.row PySem.Challenge.rw_wokeas_k45_behind_and_beside_told).prog [28]) hk ob 6000 loose w := by
  intro os
  kernel_rfl
end Lw
namespace Lw
open Wk
def F : Nat := 400
theorem feed_is (ns : List Int) (h : ns.length ≤ 63) : callK T F 199 13 [.fl (ns.map .int)] ⟨[], false⟩ = .ok (.ref 2) (srcS (.lst (ns.map .int)) ns 0 0 0 []) := by
  rw [callK_go (k := 198) (fd := f__law_feed) rfl rfl]
  exact feedB_ok (n := 380) rfl rfl h
theorem draw_is (x0 : O) (ns : List Int) (sp rs tn m : Int) (more : List O) (hm : 0 < m ∧ m < 1000000) (h0 : 0 ≤ sp) : ∃ v sp' rs' tn' : Int, (0 ≤ v ∧ v < m) ∧ 0 ≤ sp' ∧ callK T F 199 14 [.ref 2, .int m] (srcS x0 ns sp rs tn more) = .ok (.int v) (srcS x0 ns sp' rs' tn' more) := by
  rw [callK_go (k := 198) (fd := f__law_draw) rfl rfl]
  exact drawB_ok (n := 380) rfl rfl (by decide) (by decide) (by decide) (by decide) (by decide) (by decide) (by decide) (by decide) hm h0
theorem rest_is (v : Int) (hv : 0 ≤ v ∧ v < 2) (a x0 x1 x2 : O) (d : D) : isT (finB 0 (execs (lv T (callK T F 199) F).st (f_law.body.drop 2) [some d, some (.ref 2), some (.int v), none] ⟨[x0, x1, x2], false⟩)) = true := by
  obtain rfl | rfl : v = 0 ∨ v = 1 := by omega
  · kernel_rfl
  · kernel_rfl
theorem law_is : ∀ ns : List Int, ns.length ≤ 63 → ∃ s', callK T F 200 18 [.fl (ns.map .int)] ⟨[], false⟩ = .ok (.bl true) s' := by
  intro ns h
  rw [callK_go (k := 199) (fd := f_law) rfl rfl, runB_eq]
  apply isT_ok
  obtain ⟨v, sp', rs', tn', hv, _, e⟩ := draw_is (.lst (ns.map .int)) ns 0 0 0 2 [] (by decide) (by decide)
  have body : f_law.body = (.asg (.nm 1) (.call 13 [(.var 0)] [] [])) :: (.asg (.nm 2) (.call 14 [(.var 1), (.cst (.int 2))] [] [])) :: f_law.body.drop 2 := rfl
  rw [body]
  show isT (finB 0 (execs (lv T (callK T F 199) F).st _ [some (.fl (ns.map .int)), none, none, none] ⟨[], false⟩)) = true
  rw [go_nx (e1 := [some (.fl (ns.map .int)), some (.ref 2), none, none]) (s1 := srcS (.lst (ns.map .int)) ns 0 0 0 []) (by
    show thenS (callK T F 199 13 [.fl (ns.map .int)] ⟨[], false⟩) _ _ = _
    rw [feed_is ns h]
    rfl)]
  rw [go_nx (e1 := [some (.fl (ns.map .int)), some (.ref 2), some (.int v), none]) (s1 := srcS (.lst (ns.map .int)) ns sp' rs' tn' []) (by
    show thenS (callK T F 199 14 [.ref 2, .int 2] (srcS (.lst (ns.map .int)) ns 0 0 0 [])) _ _ = _
    rw [e]
    rfl)]
  exact rest_is v hv (.lst []) _ _ _ _
end Lw
open PySem PySem.W PySem.Calls PyProof.Rows
theorem PySem.Challenge.cw_wokeas_k45_behind_and_beside_told_holds : PySem.Challenge.rw_wokeas_k45_behind_and_beside_told.Holds := by
  w_on; o_law
  refine HandSHeadRun.head_any (r := OpenLaw.row PySem.Challenge.rw_wokeas_k45_behind_and_beside_told) (q := view (OpenLaw.row PySem.Challenge.rw_wokeas_k45_behind_and_beside_told).prog [28]) (H := Lw.hk) (ob := Lw.ob) (M := 6000) (loose := Lw.loose) (d := HandSHeadRun.topDef (OpenLaw.row PySem.Challenge.rw_wokeas_k45_behind_and_beside_told).prog 28) (kwd := []) Lw.ob_eq
    (by kernel_rfl) (fun s => by kernel_rfl) Lw.top_run (by kernel_rfl) (by kernel_rfl) (by kernel_rfl) (by rfl) (by first | assumption | decide +kernel) (by decide +kernel) ⟨rfl, rfl, rfl, rfl, rfl, by decide +kernel⟩ ?hw ?hc
  case hw => w_witness2
  case hc =>
    refine Wk.law_walk (l := PySem.Challenge.rw_wokeas_k45_behind_and_beside_told) (n := 63) (k := 200) (x := "_law_script") rfl (by decide) (by kernel_rfl) ⟨rfl, by decide, by decide⟩ ?G
    intro w mg fa h Y G hm
    have en : (HandSHeadRun.topDef (OpenLaw.row PySem.Challenge.rw_wokeas_k45_behind_and_beside_told).prog 28).name = Lw.d_law.x := by kernel_rfl
    rw [en] at hm
    exact Wk.law_facts (l := PySem.Challenge.rw_wokeas_k45_behind_and_beside_told) (iL := 18) (F := Lw.F) (d := Lw.d_law) (by kernel_rfl) (by kernel_rfl) Lw.ok_d (by kernel_rfl) (by kernel_rfl) rfl rfl Lw.law_is w mg fa h Y G hm
