import PyProof.Rows.All
import Wide.All
import OpenK.AllK
import Wide.FinOn
import HandS.Defaults
import HandS.ForMost
import KE.SortUse
import KE.KDictKeyed
import KE.DataEq
import KE.DataIsa
import HandS.TupAny
import HandS.Style
import PyProof.Rows.SeqMore
import HandS.SetKeys
import KE.KDictCopyH
import KE.KDictList
import KE.KDictWalk
import HandS.Conv
import KE.SortData
import KE.DataFind
import KE.KDictPairs
import KE.GoesMore
import KE.GoesEnum
import HandS.Zip
import HandS.Words
import PyProof.Rows.SeqGen
import PyProof.FactsLen
import HandS.EndBits
import PyProof.TableCode
import PySem.Challenge.RW_leastsaid_k74_any_event_that_can_be
set_option Elab.async false
set_option linter.all false
set_option maxRecDepth 100000
section
/-! ZA: a functional reading of a part of Python over plain data. Lists and dicts that one slot alone holds are values; shared ones stand in a store. -/
namespace Z
open PySem

/-- data: what a value is worth. ref l i: the i-th shared object that the call at level l made -/
inductive D where
  | non | bl (b : Bool) | int (i : Int) | str (x : Str)
  | tup (ds : List D) | lst (ds : List D) | dic (ks vs : List D) | ref (l i : Nat)
  deriving Inhabited

/-- fz: nobody will change it; fr: new, known to nobody else; vw: a slot's own, looked at -/
inductive K3 where | fz | fr | vw
  deriving DecidableEq, Inhabited

abbrev Env := List (Option (D × Bool))
/-- the shared objects, by the level of the call that made them, the innermost first -/
abbrev Sto := List (Nat × List D)

inductive Out (α : Type) where
  | ok (a : α) | ex (c : Nat) (d : D) (s : Sto) | no

def Out.bind {α β : Type} : Out α → (α → Out β) → Out β
  | .ok a, f => f a
  | .ex c d s, _ => .ex c d s
  | .no, _ => .no
@[simp] theorem Out.bind_ok {α β : Type} (a : α) (f : α → Out β) : Out.bind (.ok a) f = f a := rfl
@[simp] theorem Out.bind_no {α β : Type} (f : α → Out β) : Out.bind (.no) f = .no := rfl
def Out.of {α : Type} : Option α → Out α
  | some a => .ok a
  | none => .no
@[simp] theorem Out.of_some {α : Type} (a : α) : Out.of (some a) = .ok a := rfl
@[simp] theorem Out.of_none {α : Type} : Out.of (none : Option α) = .no := rfl

/-! ### data: form, ==, order -/
mutual
/-- no shared object, no dict within; at most n deep -/
def D.okN : Nat → D → Bool
  | _, .non | _, .bl _ | _, .int _ | _, .str _ => true
  | 0, .tup _ | 0, .lst _ => false
  | n + 1, .tup ds => D.okNL n ds
  | n + 1, .lst ds => D.okNL n ds
  | _, .dic _ _ => false
  | _, .ref _ _ => false
def D.okNL : Nat → List D → Bool
  | _, [] => true
  | n, d :: ds => D.okN n d && D.okNL n ds
end
mutual
def D.eqv : D → D → Bool
  | .non, .non => true
  | .bl a, .bl b => a == b
  | .bl a, .int j => (if a then 1 else 0) == j
  | .int i, .bl b => i == (if b then 1 else 0)
  | .int i, .int j => i == j
  | .str x, .str y => x == y
  | .lst xs, .lst ys => D.eqvL xs ys
  | .tup xs, .tup ys => D.eqvL xs ys
  | _, _ => false
def D.eqvL : List D → List D → Bool
  | [], [] => true
  | x :: xs, y :: ys => D.eqv x y && D.eqvL xs ys
  | _, _ => false
end
mutual
def D.alike : D → D → Bool
  | .non, .non => true
  | .bl _, .bl _ => true
  | .int _, .int _ => true
  | .str _, .str _ => true
  | .lst xs, .lst ys => D.alikeL xs ys
  | .tup xs, .tup ys => D.alikeL xs ys
  | _, _ => false
def D.alikeL : List D → List D → Bool
  | x :: xs, y :: ys => D.alike x y && D.alikeL xs ys
  | [], _ => true
  | _ :: _, [] => true
end
def natsLt : List Nat → List Nat → Bool
  | [], [] => false
  | [], _ :: _ => true
  | _ :: _, [] => false
  | a :: as, b :: bs => if a = b then natsLt as bs else decide (a < b)
mutual
/-- x < y, of alike data -/
def D.lt : D → D → Bool
  | .bl a, .bl b => !a && b
  | .int i, .int j => decide (i < j)
  | .str x, .str y => natsLt x.cps.toList y.cps.toList
  | .lst xs, .lst ys => D.ltL xs ys
  | .tup xs, .tup ys => D.ltL xs ys
  | _, _ => false
def D.ltL : List D → List D → Bool
  | [], [] => false
  | [], _ :: _ => true
  | _ :: _, [] => false
  | x :: xs, y :: ys => if D.eqv x y then D.ltL xs ys else D.lt x y
end
/-- depth allowed where == is asked -/
abbrev deep : Nat := 60
def D.ok (d : D) : Bool := D.okN deep d

/-- == -/
def eqO : D → D → Out Bool
  | .int i, .int j => .ok (decide (i = j))
  | .str x, .str y => .ok (decide (x = y))
  | .bl a, .bl b => .ok (a == b)
  | a, b => if a.ok && b.ok then .ok (D.eqv a b) else .no
def insD (d : D) : List D → List D
  | [] => [d]
  | e :: es => if D.lt e d then e :: insD d es else d :: e :: es
/-- stable: an element goes ahead of those that are not less -/
def sortD : List D → List D
  | [] => []
  | d :: ds => insD d (sortD ds)
def alikeAllD (ds : List D) : Bool := ds.all fun a => ds.all fun b => D.alike a b
def D.isTup1 : D → Bool
  | .tup (_ :: _) => true
  | _ => false
def D.isTup : D → Bool
  | .tup _ => true
  | _ => false
def D.isNon : D → Bool
  | .non => true
  | _ => false
def D.intsOf : List D → Option (List Int)
  | [] => some []
  | .int i :: ds => (D.intsOf ds).map (i :: ·)
  | _ => none
def D.blsOf : List D → Option (List Bool)
  | [] => some []
  | .bl b :: ds => (D.blsOf ds).map (b :: ·)
  | _ => none
/-- tuples, the first one empty -/
def D.empty1 : List D → Bool
  | .tup [] :: ds => ds.all D.isTup
  | _ => false
abbrev line : Nat := 16777216
def sortO (ds : List D) : Out D :=
  if decide (ds.length ≤ line) && alikeAllD ds && ds.all D.ok && (ds.all D.isTup1 || ds.all (fun d => !d.isNon && !d.isTup) || D.empty1 ds) then .ok (.lst (sortD ds)) else .no

/-! ### dicts -/

mutual
def D.keyN : Nat → D → Bool
  | _, .non | _, .bl _ | _, .int _ | _, .str _ => true
  | n + 1, .tup ds => D.keyNL n ds
  | _, _ => false
def D.keyNL : Nat → List D → Bool
  | _, [] => true
  | n, d :: ds => D.keyN n d && D.keyNL n ds
end
def D.flatKey : D → Bool
  | .int _ | .str _ => true
  | _ => false
def D.tupKey (d : D) : Bool := d.isTup && D.keyN 8 d
def dicOk (k : D) (ks : List D) : Bool := (k.flatKey && ks.all D.flatKey) || (k.tupKey && ks.all D.tupKey)
def dGet (k : D) : List D → List D → Option D
  | j :: ks, v :: vs => if D.eqv j k then some v else dGet k ks vs
  | _, _ => none
def dPut (k v : D) : List D → List D → List D × List D
  | j :: ks, w :: vs => if D.eqv j k then (j :: ks, v :: vs) else ((j :: (dPut k v ks vs).1), (w :: (dPut k v ks vs).2))
  | _, _ => ([k], [v])

/-! ### operators -/
inductive BOp where | add | sub | mul | fdiv | mod | pow
  deriving DecidableEq, Inhabited
inductive COp where | eq | ne | lt | le | gt | ge | is | isn | inn | nin
  deriving DecidableEq, Inhabited
inductive P1 where | len | int | abs | tuple | list | sorted | any | all | sum | max | min | dict
  deriving DecidableEq, Inhabited
inductive P2 where | min | max
  deriving DecidableEq, Inhabited
inductive Ty where | tuple | int | bool | str | list
  deriving DecidableEq, Inhabited

def look : Sto → Nat → Nat → Option D
  | [], _, _ => none
  | r :: S, l, i => if l = r.1 then r.2[i]? else look S l i
def put : Sto → Nat → Nat → D → Sto
  | [], _, _, _ => []
  | r :: S, l, i, d => if l = r.1 then (r.1, r.2.set i d) :: S else r :: put S l i d
mutual
/-- the shared objects within are of level l or more -/
def D.lev (l : Nat) : D → Bool
  | .non | .bl _ | .int _ | .str _ => true
  | .tup ds | .lst ds => D.levL l ds
  | .dic ks vs => D.levL l ks && D.levL l vs
  | .ref m _ => decide (l ≤ m)
def D.levL (l : Nat) : List D → Bool
  | [] => true
  | d :: ds => D.lev l d && D.levL l ds
end
/-- a shared object changed; one of an outer call holds nothing of an inner one -/
def wr (S : Sto) (l i : Nat) (d : D) : Out Sto := match S with
  | [] => .no
  | r :: S' => if l = r.1 then .ok (put (r :: S') l i d) else if d.lev l then .ok (put (r :: S') l i d) else .no
/-- what a value holds: a shared one's content -/
def deref (S : Sto) : D → Option D
  | .ref l i => look S l i
  | d => some d

def intO (f : Int → Int → Out Int) (a b : D) : Out (D × K3) :=
  match a, b with
  | .int i, .int j => (f i j).bind fun k => .ok (.int k, .fz)
  | _, _ => .no
def addO (a b : D) : Out (D × K3) :=
  match a, b with
  | .int i, .int j => .ok (.int (i + j), .fz)
  | .str x, .str y => if x.length + y.length ≤ line then .ok (.str (x ++ y), .fz) else .no
  | .tup xs, .tup ys => if xs.length + ys.length ≤ line then .ok (.tup (xs ++ ys), .fz) else .no
  | .lst xs, .lst ys => if xs.length + ys.length ≤ line then .ok (.lst (xs ++ ys), .fr) else .no
  | _, _ => .no
def mulI (i j : Int) : Out Int := if (decide (-(2 ^ 64) < i) && decide (i < 2 ^ 64)) || (decide (-(2 ^ 64) < j) && decide (j < 2 ^ 64)) then .ok (i * j) else .no
def fdivI (i j : Int) : Out Int := if decide (0 < j) && decide (j < 1073741824) then .ok (i / j) else .no
def modI (i j : Int) : Out Int := if decide (0 < j) then .ok (i % j) else .no
def powI (i j : Int) : Out Int := if decide (0 ≤ j) && decide (j ≤ 1000000) && decide (i.natAbs < 2 ^ 64) then .ok (i ^ j.toNat) else .no
def binO (o : BOp) (a b : D) : Out (D × K3) :=
  match o with
  | .add => addO a b
  | .sub => intO (fun i j => .ok (i - j)) a b
  | .mul => intO mulI a b
  | .fdiv => intO fdivI a b
  | .mod => intO modI a b
  | .pow => intO powI a b

def inO (k c : D) : Out Bool :=
  match c with
  | .lst ds | .tup ds => if k.ok && ds.all D.ok then .ok (ds.any fun d => D.eqv d k) else .no
  | .dic ks vs => if dicOk k ks then .ok (dGet k ks vs).isSome else .no
  | _ => .no
def isO (a b : D) : Out Bool :=
  match b with
  | .non => .ok a.isNon
  | .bl c => .ok (match a with | .bl d => d == c | _ => false)
  | _ => .no
def cmpO (o : COp) (a b : D) : Out Bool :=
  match o with
  | .eq => eqO a b
  | .ne => (eqO a b).bind fun c => .ok (!c)
  | .lt => match a, b with | .int i, .int j => .ok (decide (i < j)) | _, _ => .no
  | .le => match a, b with | .int i, .int j => .ok (decide (i ≤ j)) | _, _ => .no
  | .gt => match a, b with | .int i, .int j => .ok (decide (j < i)) | _, _ => .no
  | .ge => match a, b with | .int i, .int j => .ok (decide (j ≤ i)) | _, _ => .no
  | .is => isO a b
  | .isn => (isO a b).bind fun c => .ok (!c)
  | .inn => inO a b
  | .nin => (inO a b).bind fun c => .ok (!c)

def idxO (a i : D) : Out D :=
  match a with
  | .tup ds | .lst ds => match i with
    | .int i => Out.of (L2.atI ds i)
    | _ => .no
  | .dic ks vs => if dicOk i ks then Out.of (dGet i ks vs) else .no
  | _ => .no
def cutL (ds : List D) (lo hi : Option Int) : List D :=
  (ds.drop (HT.sIx ds.length 0 lo)).take (HT.sIx ds.length ds.length hi - HT.sIx ds.length 0 lo)
def cutO (a : D) (lo hi : Option Int) : Out (D × K3) :=
  match a with
  | .tup ds => .ok (.tup (cutL ds lo hi), .fz)
  | .lst ds => .ok (.lst (cutL ds lo hi), .fr)
  | _ => .no
def sumI : List Int → Int
  | [] => 0
  | i :: is => i + sumI is
def maxI (i : Int) : List Int → Int
  | [] => i
  | j :: js => maxI (if j > i then j else i) js
def minI (i : Int) : List Int → Int
  | [] => i
  | j :: js => minI (if j < i then j else i) js
def pairsOf : List D → Option (List D × List D)
  | [] => some ([], [])
  | .tup [k, v] :: ds => (pairsOf ds).map fun p => (k :: p.1, v :: p.2)
  | _ => none
def putAll : List D → List D → List D → List D → List D × List D
  | ks, vs, k :: ms, v :: ws => putAll (dPut k v ks vs).1 (dPut k v ks vs).2 ms ws
  | ks, vs, _, _ => (ks, vs)
def p1O (p : P1) (a : D) : Out (D × K3) :=
  match p, a with
  | .len, .tup ds => .ok (.int ds.length, .fz)
  | .len, .lst ds => .ok (.int ds.length, .fz)
  | .len, .dic ks _ => .ok (.int ks.length, .fz)
  | .len, .str x => if x.length ≤ line then .ok (.int x.length, .fz) else .no
  | .int, .int i => .ok (.int i, .fz)
  | .int, .bl b => .ok (.int (if b then 1 else 0), .fz)
  | .abs, .int i => .ok (.int (if i < 0 then -i else i), .fz)
  | .tuple, .tup ds => .ok (.tup ds, .fz)
  | .tuple, .lst ds => .ok (.tup ds, .fz)
  | .list, .tup ds => .ok (.lst ds, .fr)
  | .list, .lst ds => .ok (.lst ds, .fr)
  | .list, .dic ks _ => .ok (.lst ks, .fr)
  | .sorted, .lst ds => (sortO ds).bind fun d => .ok (d, .fr)
  | .any, .lst ds => match D.blsOf ds with | some bs => .ok (.bl (bs.any id), .fz) | none => .no
  | .all, .lst ds => match D.blsOf ds with | some bs => .ok (.bl (bs.all id), .fz) | none => .no
  | .sum, .lst ds => match D.intsOf ds with | some is => .ok (.int (sumI is), .fz) | none => .no
  | .max, .lst ds => match D.intsOf ds with | some (i :: is) => .ok (.int (maxI i is), .fz) | _ => .no
  | .min, .lst ds => match D.intsOf ds with | some (i :: is) => .ok (.int (minI i is), .fz) | _ => .no
  | .dict, .lst ds => match pairsOf ds with
    | some (ks, vs) => if !ds.isEmpty && ks.all D.tupKey && decide (ds.length ≤ line) then .ok (.dic (putAll [] [] ks vs).1 (putAll [] [] ks vs).2, .fr) else .no
    | none => .no
  | _, _ => .no
def p2O (p : P2) (a b : D) : Out (D × K3) :=
  match p, a, b with
  | .max, .int i, .int j => .ok (.int (if j > i then j else i), .fz)
  | .min, .int i, .int j => .ok (.int (if j < i then j else i), .fz)
  | _, _, _ => .no
def isaO (t : Ty) (a : D) : Out Bool :=
  match t, a with
  | _, .ref _ _ => .no
  | _, .dic _ _ => .no
  | .tuple, .tup _ => .ok true
  | .int, .int _ => .ok true
  | .int, .bl _ => .ok true
  | .bool, .bl _ => .ok true
  | .str, .str _ => .ok true
  | .list, .lst _ => .ok true
  | _, _ => .ok false
def findD (k : D) : Nat → List D → Option Nat
  | _, [] => none
  | n, d :: ds => if D.eqv d k then some n else findD k (n + 1) ds
/-- xs.index(k), where it is -/
def indexO (a k : D) : Out D :=
  match a with
  | .lst ds => if k.ok && ds.all D.ok then Out.of ((findD k 0 ds).map fun (n : Nat) => D.int (n : Int)) else .no
  | _ => .no
/-- truth -/
def truO (a : D) : Out Bool :=
  match a with
  | .bl b => .ok b
  | .non => .ok false
  | .int i => .ok (i != 0)
  | .tup ds | .lst ds => .ok (!ds.isEmpty)
  | _ => .no

/-! ### the syntax -/
inductive Tg where
  | nm (i : Nat) | tu (is : List Nat)
  deriving Inhabited
mutual
inductive E where
  | cst (d : D) | var (i : Nat)
  | tup (es : List E) | lst (es : List E) | dic0 | dic1 (k v : E)
  | bin (o : BOp) (a b : E) | neg (a : E) | notv (a : E) | andv (a b : E) | orv (a b : E)
  | cmp (o : COp) (a b : E)
  | ifx (t : T) (a b : E)
  | idx (a b : E) | cut (a : E) (lo hi : Option E)
  | call (f : Nat) (es : List E)
  | p1 (p : P1) (a : E) | p2 (p : P2) (a b : E) | isa (t : Ty) (a : E)
  | index (a b : E)
  | comp (elt : E) (tg : Tg) (it : It) (ifs : Option T) (own : List Nat)
inductive T where
  | val (e : E) | cmp (o : COp) (a b : E) | and (a b : T) | or (a b : T) | not (a : T) | ifx (t a b : T)
inductive It where
  | seq (e : E) | rng (a b : E) | enum (e : E) | zip (a b : E)
end
instance : Inhabited E := ⟨.cst .non⟩
inductive St where
  | pre (is : List Nat) (s : St)
  | set (i : Nat) (e : E) | setSh (i : Nat) (e : E)
  | setTu (is : List Nat) (e : E) | par (is : List Nat) (es : List E)
  | setIx (i : Nat) (k v : E)
  | app (i : Nat) (e : E) | appPop (i j : Nat) (e : E) | appSd (i j : Nat) (k e : E)
  | setSd (r i : Nat) (k : E)
  | ife (t : T) (a b : List St)
  | for_ (tg : Tg) (it : It) (body : List St)
  | wh (is : List Nat) (t : T) (body : List St)
  | ret (e : E) | retV (i : Nat) | exp (e : E)
instance : Inhabited St := ⟨.exp (.cst .non)⟩

/-! ### the reading -/
abbrev Res := D × K3 × Sto
abbrev Cal := Nat → List D → Sto → Out (D × K3 × Sto)
/-- a value that is kept in something -/
def kept (r : Res) : Out (D × Sto) := match r.2.1 with
  | .vw => .no
  | _ => .ok (r.1, r.2.2)
def varO (env : Env) (i : Nat) : Out (D × K3) := match env[i]? with
  | some (some (d, m)) => .ok (d, if m then .vw else .fz)
  | _ => .no
def wipeE (env : Env) : List Nat → Env
  | [] => env
  | i :: is => (wipeE env is).set i none
def bindTu : List Nat → List D → Env → Out Env
  | [], [], env => .ok env
  | i :: is, d :: ds, env => bindTu is ds (env.set i (some (d, false)))
  | _, _, _ => .no
def bindO (t : Tg) (d : D) (env : Env) : Out Env := match t with
  | .nm i => .ok (env.set i (some (d, false)))
  | .tu is => match d with
    | .tup ds | .lst ds => bindTu is ds env
    | _ => .no
def rangeD (lo : Int) (n : Nat) : List D := (List.range n).map fun i => .int (lo + (i : Nat))
def enumD (n : Nat) : List D → List D
  | [] => []
  | d :: ds => .tup [.int n, d] :: enumD (n + 1) ds
def zipD : List D → List D → List D
  | a :: as, b :: bs => .tup [a, b] :: zipD as bs
  | _, _ => []
def seqO (d : D) : Out (List D) := match d with
  | .tup ds | .lst ds => .ok ds
  | .dic ks _ => .ok ks
  | _ => .no
def seq2O (d : D) : Out (List D) := match d with
  | .tup ds | .lst ds => .ok ds
  | _ => .no
/-- two lists, or two tuples, side by side -/
def zipO (a b : D) : Out (List D) := match a, b with
  | .lst as, .lst bs => .ok (zipD as bs)
  | .tup as, .tup bs => .ok (zipD as bs)
  | _, _ => .no
/-- what is walked: is it looked at only? -/
def srcO (r : Res) : Out (D × Bool × Sto) := match r.2.1 with
  | .vw => .ok (r.1, true, r.2.2)
  | _ => .ok (r.1, false, r.2.2)
/-- the turns of a comprehension -/
def loopC (b : D → Sto → Out (Option D × Sto)) : List D → Sto → List D → Out (List D × Sto)
  | [], S, acc => .ok (acc, S)
  | d :: ds, S, acc => (b d S).bind fun r => match r.1 with
    | none => loopC b ds r.2 acc
    | some x => if acc.length < line then loopC b ds r.2 (acc ++ [x]) else .no

mutual
def evE (C : Cal) : E → Env → Sto → Out Res
  | .cst d, _, S => .ok (d, .fz, S)
  | .var i, env, S => (varO env i).bind fun r => .ok (r.1, r.2, S)
  | .tup es, env, S => (evEs C es env S).bind fun r => if r.1.length ≤ line then .ok (.tup r.1, .fz, r.2) else .no
  | .lst es, env, S => (evEs C es env S).bind fun r => if r.1.length ≤ line then .ok (.lst r.1, .fr, r.2) else .no
  | .dic0, _, S => .ok (.dic [] [], .fr, S)
  | .dic1 k v, env, S => (evE C k env S).bind fun r => (kept r).bind fun x => (evE C v env x.2).bind fun q => (kept q).bind fun y => if x.1.flatKey then .ok (.dic [x.1] [y.1], .fr, y.2) else .no
  | .bin o a b, env, S => (evE C a env S).bind fun r => (evE C b env r.2.2).bind fun q => (binO o r.1 q.1).bind fun z => .ok (z.1, z.2, q.2.2)
  | .neg a, env, S => (evE C a env S).bind fun r => match r.1 with | .int i => .ok (.int (-i), .fz, r.2.2) | _ => .no
  | .notv a, env, S => (evE C a env S).bind fun r => match r.1 with | .bl c => .ok (.bl (!c), .fz, r.2.2) | _ => .no
  | .andv a b, env, S => (evE C a env S).bind fun r => match r.1 with | .bl c => if c then evE C b env r.2.2 else .ok (.bl false, .fz, r.2.2) | _ => .no
  | .orv a b, env, S => (evE C a env S).bind fun r => match r.1 with | .bl c => if c then .ok (.bl true, .fz, r.2.2) else evE C b env r.2.2 | _ => .no
  | .cmp o a b, env, S => (evE C a env S).bind fun r => (evE C b env r.2.2).bind fun q => (cmpO o r.1 q.1).bind fun c => .ok (.bl c, .fz, q.2.2)
  | .ifx t a b, env, S => (evT C t env S).bind fun r => if r.1 then evE C a env r.2 else evE C b env r.2
  | .idx a b, env, S => (evE C a env S).bind fun r => (evE C b env r.2.2).bind fun q => (Out.of (deref q.2.2 r.1)).bind fun c => (idxO c q.1).bind fun z => .ok (z, .fz, q.2.2)
  | .cut a lo hi, env, S => (evE C a env S).bind fun r => (evO C lo env r.2.2).bind fun l => (evO C hi env l.2).bind fun h => (cutO r.1 l.1 h.1).bind fun z => .ok (z.1, z.2, h.2)
  | .call f es, env, S => (evEs C es env S).bind fun r => C f r.1 r.2
  | .p1 p a, env, S => (evE C a env S).bind fun r => (Out.of (deref r.2.2 r.1)).bind fun c => (p1O p c).bind fun z => .ok (z.1, z.2, r.2.2)
  | .p2 p a b, env, S => (evE C a env S).bind fun r => (evE C b env r.2.2).bind fun q => (p2O p r.1 q.1).bind fun z => .ok (z.1, z.2, q.2.2)
  | .isa t a, env, S => (evE C a env S).bind fun r => (isaO t r.1).bind fun c => .ok (.bl c, .fz, r.2.2)
  | .index a b, env, S => (evE C a env S).bind fun r => (evE C b env r.2.2).bind fun q => (indexO r.1 q.1).bind fun z => .ok (z, .fz, q.2.2)
  | .comp elt tg it ifs own, env, S => (evIt C it env S).bind fun r =>
      (loopC (fun d S => (bindO tg d (wipeE env own)).bind fun env2 => (evTo C ifs env2 S).bind fun c => if c.1 then (evE C elt env2 c.2).bind fun x => (kept x).bind fun y => .ok (some y.1, y.2) else .ok (none, c.2)) r.1 r.2.2 []).bind fun z => .ok (.lst z.1, .fr, z.2)
def evEs (C : Cal) : List E → Env → Sto → Out (List D × Sto)
  | [], _, S => .ok ([], S)
  | e :: es, env, S => (evE C e env S).bind fun r => (kept r).bind fun y => (evEs C es env y.2).bind fun q => .ok (y.1 :: q.1, q.2)
def evO (C : Cal) : Option E → Env → Sto → Out (Option Int × Sto)
  | none, _, S => .ok (none, S)
  | some e, env, S => (evE C e env S).bind fun r => match r.1 with | .int i => .ok (some i, r.2.2) | _ => .no
def evT (C : Cal) : T → Env → Sto → Out (Bool × Sto)
  | .val e, env, S => (evE C e env S).bind fun r => (truO r.1).bind fun c => .ok (c, r.2.2)
  | .and a b, env, S => (evT C a env S).bind fun r => if r.1 then evT C b env r.2 else .ok (false, r.2)
  | .or a b, env, S => (evT C a env S).bind fun r => if r.1 then .ok (true, r.2) else evT C b env r.2
  | .not a, env, S => (evT C a env S).bind fun r => .ok (!r.1, r.2)
  | .cmp o a b, env, S => (evE C a env S).bind fun r => (evE C b env r.2.2).bind fun q => (cmpO o r.1 q.1).bind fun c => .ok (c, q.2.2)
  | .ifx t a b, env, S => (evT C t env S).bind fun r => if r.1 then evT C a env r.2 else evT C b env r.2
def evTo (C : Cal) : Option T → Env → Sto → Out (Bool × Sto)
  | none, _, S => .ok (true, S)
  | some t, env, S => evT C t env S
def evIt (C : Cal) : It → Env → Sto → Out (List D × Bool × Sto)
  | .seq e, env, S => (evE C e env S).bind fun r => (srcO r).bind fun z => (if z.2.1 then seq2O z.1 else seqO z.1).bind fun ds => .ok (ds, z.2.1, z.2.2)
  | .rng a b, env, S => (evE C a env S).bind fun r => (evE C b env r.2.2).bind fun q => match r.1, q.1 with
    | .int i, .int j => if decide (-(2 ^ 62) ≤ i) && decide (i < 2 ^ 62) && decide (-(2 ^ 62) ≤ j) && decide (j < 2 ^ 62) then .ok (rangeD i (j - i).toNat, false, q.2.2) else .no
    | _, _ => .no
  | .enum e, env, S => (evE C e env S).bind fun r => (srcO r).bind fun z => (seq2O z.1).bind fun ds => .ok (enumD 0 ds, z.2.1, z.2.2)
  | .zip a b, env, S => (evE C a env S).bind fun r => (srcO r).bind fun z => (evE C b env z.2.2).bind fun q => (srcO q).bind fun y => (zipO z.1 y.1).bind fun ds => .ok (ds, z.2.1 || y.2.1, y.2.2)
end

/-! ### statements -/
inductive Fl where
  | nx (env : Env) (S : Sto) | rt (d : D) (k : K3) (S : Sto) | bk (env : Env) (S : Sto) | ct (env : Env) (S : Sto)
def frz (env : Env) : List Nat → Env
  | [] => env
  | i :: is => match (frz env is)[i]? with
    | some (some (d, _)) => (frz env is).set i (some (d, false))
    | _ => frz env is
def setE (env : Env) (i : Nat) (d : D) (k : K3) : Out Env := match k with
  | .fz => .ok (env.set i (some (d, false)))
  | .fr => .ok (env.set i (some (d, true)))
  | .vw => .no
def setEs : List Nat → List (D × K3) → Env → Out Env
  | [], [], env => .ok env
  | i :: is, r :: rs, env => (setE env i r.1 r.2).bind fun env' => setEs is rs env'
  | _, _, _ => .no
def evPar (C : Cal) : List E → Env → Sto → Out (List (D × K3) × Sto)
  | [], _, S => .ok ([], S)
  | e :: es, env, S => (evE C e env S).bind fun r => (evPar C es env r.2.2).bind fun q => .ok ((r.1, r.2.1) :: q.1, q.2)
/-- a new shared object of this call -/
def newS (d : D) : Sto → Out (D × Sto)
  | [] => .no
  | r :: S => .ok (.ref r.1 r.2.length, (r.1, r.2 ++ [d]) :: S)
/-- c[k] = v, what c becomes -/
def putO (c k v : D) : Out D := match c with
  | .lst ds => match k with
    | .int i => match L2.ixN ds.length i with
      | some j => .ok (.lst (ds.set j v))
      | none => .no
    | _ => .no
  | .dic ks vs => if dicOk k ks && decide (ks.length < line) then .ok (.dic (dPut k v ks vs).1 (dPut k v ks vs).2) else .no
  | _ => .no
def appO (c x : D) : Out D := match c with
  | .lst ds => if ds.length < line then .ok (.lst (ds ++ [x])) else .no
  | _ => .no
/-- the object in slot i changed by g -/
def modE (g : D → Out D) (i : Nat) (env : Env) (S : Sto) : Out (Env × Sto) := match env[i]? with
  | some (some (.ref l j, _)) => (Out.of (look S l j)).bind fun c => (g c).bind fun c' => (wr S l j c').bind fun S' => .ok (env, S')
  | some (some (c, true)) => (g c).bind fun c' => .ok (env.set i (some (c', true)), S)
  | _ => .no
/-- c.pop(i) -/
def popO (c i : D) : Out (D × D) := match c, i with
  | .lst ds, .int i => match L2.ixN ds.length i with
    | some j => match ds[j]? with
      | some x => .ok (x, .lst (ds.eraseIdx j))
      | none => .no
    | none => .no
  | _, _ => .no
/-- c.setdefault(k, v): what is there, and c behind it -/
def sdO (c k v : D) : Out (D × D) := match c with
  | .dic ks vs => if dicOk k ks && decide (ks.length < line) then match dGet k ks vs with
      | some w => .ok (w, c)
      | none => .ok (v, .dic (dPut k v ks vs).1 (dPut k v ks vs).2)
    else .no
  | _ => .no
/-- an own object in slot i changed by g, which tells something too -/
def modE2 (g : D → Out (D × D)) (i : Nat) (env : Env) : Out (D × Env) := match env[i]? with
  | some (some (c, true)) => (g c).bind fun r => .ok (r.1, env.set i (some (r.2, true)))
  | _ => .no
def loopF (b : D → Env → Sto → Out Fl) : List D → Env → Sto → Out Fl
  | [], env, S => .ok (.nx env S)
  | d :: ds, env, S => (b d env S).bind fun f => match f with
    | .nx env S => loopF b ds env S
    | .ct env S => loopF b ds env S
    | .bk env S => .ok (.nx env S)
    | .rt d k S => .ok (.rt d k S)
def loopW (t : Env → Sto → Out (Bool × Sto)) (b : Env → Sto → Out Fl) (is : List Nat) : Nat → Env → Sto → Out Fl
  | 0, _, _ => .no
  | n + 1, env, S => (t (frz env is) S).bind fun c => if c.1 then (b (frz env is) c.2).bind fun f => match f with
    | .nx env S => loopW t b is n env S
    | .ct env S => loopW t b is n env S
    | .bk env S => .ok (.nx env S)
    | .rt d k S => .ok (.rt d k S) else .ok (.nx (frz env is) c.2)
/-- turns of a while at most -/
abbrev turns : Nat := 1000000000
mutual
def evS (C : Cal) : St → Env → Sto → Out Fl
  | .pre is s, env, S => evS C s (frz env is) S
  | .set i e, env, S => (evE C e env S).bind fun r => (setE env i r.1 r.2.1).bind fun env' => .ok (.nx env' r.2.2)
  | .setSh i e, env, S => (evE C e env S).bind fun r => match r.2.1 with
    | .fr => (newS r.1 r.2.2).bind fun q => .ok (.nx (env.set i (some (q.1, false))) q.2)
    | _ => .no
  | .setTu is e, env, S => (evE C e env S).bind fun r => (bindO (.tu is) r.1 env).bind fun env' => .ok (.nx env' r.2.2)
  | .par is es, env, S => (evPar C es env S).bind fun r => (setEs is r.1 env).bind fun env' => .ok (.nx env' r.2)
  | .setIx i k v, env, S => (evE C v env S).bind fun r => (kept r).bind fun x => (evE C k env x.2).bind fun q => (kept q).bind fun y => (modE (fun c => putO c y.1 x.1) i env y.2).bind fun z => .ok (.nx z.1 z.2)
  | .app i e, env, S => (evE C e env S).bind fun r => (kept r).bind fun x => (modE2 (fun c => (appO c x.1).bind fun c' => .ok (.non, c')) i env).bind fun z => .ok (.nx z.2 x.2)
  | .appPop i j e, env, S => (evE C e env S).bind fun r => (modE2 (fun c => popO c r.1) j env).bind fun y => (modE2 (fun c => (appO c y.1).bind fun c' => .ok (.non, c')) i y.2).bind fun z => .ok (.nx z.2 r.2.2)
  | .appSd i j k e, env, S => (evE C k env S).bind fun r => (kept r).bind fun x => (evE C e env x.2).bind fun q => (kept q).bind fun w => (modE2 (fun c => sdO c x.1 w.1) j env).bind fun y => (modE2 (fun c => (appO c y.1).bind fun c' => .ok (.non, c')) i y.2).bind fun z => .ok (.nx z.2 w.2)
  | .setSd r i k, env, S => (evE C k env S).bind fun q => (kept q).bind fun x => (newS (.dic [] []) x.2).bind fun w => (modE2 (fun c => sdO c x.1 w.1) i env).bind fun y => .ok (.nx (y.2.set r (some (y.1, false))) w.2)
  | .ife t a b, env, S => (evT C t env S).bind fun r => if r.1 then evSs C a env r.2 else evSs C b env r.2
  | .for_ tg it body, env, S => (evIt C it env S).bind fun r => if r.2.1 then .no else loopF (fun d env S => (bindO tg d env).bind fun env' => evSs C body env' S) r.1 env r.2.2
  | .wh is t body, env, S => loopW (fun env S => evT C t env S) (fun env S => evSs C body env S) is turns env S
  | .ret e, env, S => (evE C e env S).bind fun r => (kept r).bind fun _ => .ok (.rt r.1 r.2.1 r.2.2)
  | .retV i, env, S => match env[i]? with
    | some (some (d, m)) => .ok (.rt d (if m then .fr else .fz) S)
    | _ => .no
  | .exp e, env, S => (evE C e env S).bind fun r => .ok (.nx env r.2.2)
def evSs (C : Cal) : List St → Env → Sto → Out Fl
  | [], env, S => .ok (.nx env S)
  | s :: ss, env, S => (evS C s env S).bind fun f => match f with
    | .nx env S => evSs C ss env S
    | f => .ok f
end

/-! ### calls -/
structure Fn where
  np : Nat
  ns : Nat
  body : List St
  deriving Inhabited
def leave (l : Nat) (d : D) (k : K3) : Sto → Out Res
  | [] => .no
  | r :: S => if r.1 = l then match r.2 with
    | [] => .ok (d, k, S)
    | _ :: _ => if d.lev (l + 1) then .ok (d, k, S) else .no else .no
def runF (C : Cal) (l : Nat) (fn : Fn) (ds : List D) (S : Sto) : Out Res :=
  if decide (ds.length = fn.np) && S.all (fun r => decide (l < r.1)) then (evSs C fn.body (ds.map (fun d => some (d, false)) ++ List.replicate (fn.ns - fn.np) none) ((l, []) :: S)).bind fun f => match f with
    | .nx _ S' => leave l .non .fz S'
    | .rt d k S' => leave l d k S'
    | _ => .no
  else .no
def callN (P : Nat → Option Fn) : Nat → Cal
  | 0 => fun _ _ _ => .no
  | l + 1 => fun f ds S => match P f with
    | some fn => runF (callN P l) (l + 1) fn ds S
    | none => .no
end Z
end
section
/-! ZB: what data stands for in the heap; how it stays. -/
namespace Z
open PySem L2

/-- where the shared objects of the levels lie -/
abbrev Io := List (Nat × List Addr)
def ioAt : Io → Nat → Nat → Option Addr
  | [], _, _ => none
  | r :: ι, l, i => if l = r.1 then r.2[i]? else ioAt ι l i
def ioIn (ι : Io) (a : Addr) : Prop := ∃ l i, ioAt ι l i = some a

mutual
/-- a dict's key as the library's -/
def D.nk : D → NestedKey
  | .bl b => .num (if b then 1 else 0)
  | .int i => .num i
  | .str x => .text x
  | .tup ds => .tup (D.nkL ds)
  | _ => .none
def D.nkL : List D → List NestedKey
  | [] => []
  | d :: ds => D.nk d :: D.nkL ds
end
def keyD : Key → D
  | .inl i => .int i
  | .inr x => .str x
/-- the entries of a dict whose keys are tuples -/
abbrev Ent := NestedKey × Addr × Value
def entPhi (P : Program) (w : World) (a : Addr) (xs : List Ent) (h : Heap) : Prop :=
  (a == sysModules) = false ∧ ∃ o es ep, h.get? a = some o ∧ o.ExactDict ∧ o.data = .dict es ep ∧ es.toList = xs.map (entryOfKey (nestedKind P w))

/-- as it is (false), or never to be written again (true) -/
def At : Bool → Hp → Addr → HO → Prop
  | false, H, a, u => H a = some u
  | true, H, a, u => ∃ o, H a = some (.frz o u)
theorem At.rd {b : Bool} {H : Hp} {a : Addr} {u : HO} (h : At b H a u) : Rd H a u := by
  cases b with
  | false => exact .inl h
  | true => exact .inr h
theorem At.mono {b : Bool} {H H' : Hp} {a : Addr} {u : HO} (k : ∀ o, H a = some o → H' a = some o) (h : At b H a u) : At b H' a u := by
  cases b with
  | false => exact k _ h
  | true => obtain ⟨o, h⟩ := h; exact ⟨o, k _ h⟩
theorem At.any {b : Bool} {H : Hp} {a : Addr} {u : HO} (h : At b H a u) : H a ≠ none := by
  cases b with
  | false => rw [show H a = some u from h]; simp
  | true => obtain ⟨o, h⟩ := h; rw [h]; simp
section
variable (P : Program) (w : World) (K : PySem.W.Frag)
mutual
inductive Rep (F : Addr → Prop) (ι : Io) (H : Hp) : D → V → Prop
  | non : Rep F ι H .non .non
  | bl (b : Bool) : Rep F ι H (.bl b) (.bl b)
  | int (i : Int) : Rep F ι H (.int i) (.int i)
  | str (x : Str) : Rep F ι H (.str x) (.str x)
  | tup {a : Addr} {vs : List V} {ds : List D} : SqT K H a vs → RepL F ι H ds vs → Rep F ι H (.tup ds) (.ref a)
  | lst {a : Addr} {vs : List V} {ds : List D} : F a → SqL K H a vs → RepL F ι H ds vs → Rep F ι H (.lst ds) (.ref a)
  | lstK {a : Addr} {vs : List V} {ds : List D} : SqL K (fun _ => none) a vs → RepL F ι H ds vs → Rep F ι H (.lst ds) (.ref a)
  | obj {a : Addr} {d : D} : F a → TopB F ι H true d a → Rep F ι H d (.ref a)
  | ref {l i : Nat} {a : Addr} : ioAt ι l i = some a → Rep F ι H (.ref l i) (.ref a)
inductive TopB (F : Addr → Prop) (ι : Io) (H : Hp) : Bool → D → Addr → Prop
  | lst {a : Addr} {vs : List V} {ds : List D} : H a = some (.lst vs) → RepL F ι H ds vs → TopB F ι H false (.lst ds) a
  | dicK {b : Bool} {a : Addr} {kvs : List (Key × V)} {ds : List D} : At b H a (.dK kvs) → RepL F ι H ds (kvs.map Prod.snd) → TopB F ι H b (.dic (kvs.map fun p => keyD p.1) ds) a
  | dicT {b : Bool} {a : Addr} {xs : List Ent} {vs : List V} {ks ds : List D} : xs ≠ [] → xs.length ≤ sizeLine → At b H a (.ext (entPhi P w a xs)) → RepL F ι H ks (xs.map fun x => V.ref x.2.1) → (∀ k ∈ ks, k.tupKey = true) → ks.map D.nk = xs.map (·.1) → (xs.map (·.1)).Nodup →
      Vals vs (xs.map fun x => x.2.2) → RepL F ι H ds vs → TopB F ι H b (.dic ks ds) a
inductive RepL (F : Addr → Prop) (ι : Io) (H : Hp) : List D → List V → Prop
  | nil : RepL F ι H [] []
  | cons {d : D} {ds : List D} {v : V} {vs : List V} : Rep F ι H d v → RepL F ι H ds vs → RepL F ι H (d :: ds) (v :: vs)
end
abbrev Top (F : Addr → Prop) (ι : Io) (H : Hp) := TopB P w K F ι H false
end

/-- what was known stays known -/
structure Ext (F : Addr → Prop) (ι : Io) (H : Hp) (F' : Addr → Prop) (ι' : Io) (H' : Hp) : Prop where
  f : ∀ a o, F a → H a = some o → H' a = some o
  t : ∀ a xs, H a = some (.tup xs) → H' a = some (.tup xs)
  z : ∀ a o u, H a = some (.frz o u) → H' a = some (.frz o u)
  fm : ∀ a, F a → F' a
  im : ∀ l i a, ioAt ι l i = some a → ioAt ι' l i = some a

section
variable {P : Program} {w : World} {K : PySem.W.Frag} {F F' F2 : Addr → Prop} {ι ι' ι2 : Io} {H H' H2 : Hp}
theorem Ext.refl : Ext F ι H F ι H := ⟨fun _ _ _ h => h, fun _ _ h => h, fun _ _ _ h => h, fun _ h => h, fun _ _ _ h => h⟩
theorem Ext.sqt (e : Ext F ι H F' ι' H') {a : Addr} {vs : List V} (h : SqT K H a vs) : SqT K H' a vs := by
  rcases h with (h | ⟨o, h⟩) | h
  · exact .inl (.inl (e.t _ _ h))
  · exact .inl (.inr ⟨o, e.z _ _ _ h⟩)
  · exact .inr h
theorem Ext.sql (e : Ext F ι H F' ι' H') {a : Addr} {vs : List V} (fa : F a) (h : SqL K H a vs) : SqL K H' a vs := by
  rcases h with (h | ⟨o, h⟩) | h
  · exact .inl (.inl (e.f _ _ fa h))
  · exact .inl (.inr ⟨o, e.z _ _ _ h⟩)
  · exact .inr h
mutual
theorem Rep.mono (e : Ext F ι H F' ι' H') : ∀ {d : D} {v : V}, Rep P w K F ι H d v → Rep P w K F' ι' H' d v
  | _, _, .non => .non
  | _, _, .bl b => .bl b
  | _, _, .int i => .int i
  | _, _, .str x => .str x
  | _, _, .tup h r => .tup (e.sqt h) (RepL.mono e r)
  | _, _, .lst f h r => .lst (e.fm _ f) (e.sql f h) (RepL.mono e r)
  | _, _, .lstK h r => .lstK h (RepL.mono e r)
  | _, _, .obj f t => .obj (e.fm _ f) (TopB.mono e (fun o h => e.f _ o f h) t)
  | _, _, .ref h => .ref (e.im _ _ _ h)
theorem TopB.mono (e : Ext F ι H F' ι' H') : ∀ {b : Bool} {d : D} {a : Addr}, (∀ o, H a = some o → H' a = some o) → TopB P w K F ι H b d a → TopB P w K F' ι' H' b d a
  | _, _, _, k, .lst h r => .lst (k _ h) (RepL.mono e r)
  | _, _, _, k, .dicK h r => .dicK (h.mono k) (RepL.mono e r)
  | _, _, _, k, .dicT h0 h1 h2 r1 h3 h4 h5 h6 r2 => .dicT h0 h1 (h2.mono k) (RepL.mono e r1) h3 h4 h5 h6 (RepL.mono e r2)
theorem RepL.mono (e : Ext F ι H F' ι' H') : ∀ {ds : List D} {vs : List V}, RepL P w K F ι H ds vs → RepL P w K F' ι' H' ds vs
  | _, _, .nil => .nil
  | _, _, .cons r t => .cons (Rep.mono e r) (RepL.mono e t)
end
theorem Top.mono (e : Ext F ι H F' ι' H') {d : D} {a : Addr} (k : ∀ o, H a = some o → H' a = some o) (t : Top P w K F ι H d a) : Top P w K F' ι' H' d a := TopB.mono e k t
theorem RepL.length : ∀ {ds : List D} {vs : List V}, RepL P w K F ι H ds vs → ds.length = vs.length
  | _, _, .nil => rfl
  | _, _, .cons _ t => by simp [RepL.length t]
theorem RepL.at_ : ∀ {ds : List D} {vs : List V} {i : Nat} {d : D}, RepL P w K F ι H ds vs → ds[i]? = some d → ∃ v, vs[i]? = some v ∧ Rep P w K F ι H d v
  | _, _, _, _, .nil, h => by simp at h
  | _, _, 0, _, .cons r _, h => by simp at h; subst h; exact ⟨_, rfl, r⟩
  | _, _, i + 1, d, .cons _ t, h => by
    obtain ⟨v, h1, h2⟩ := RepL.at_ (i := i) (d := d) t (by simpa using h)
    exact ⟨v, by simpa using h1, h2⟩
theorem RepL.atV : ∀ {ds : List D} {vs : List V} {i : Nat} {v : V}, RepL P w K F ι H ds vs → vs[i]? = some v → ∃ d, ds[i]? = some d ∧ Rep P w K F ι H d v
  | _, _, _, _, .nil, h => by simp at h
  | _, _, 0, _, .cons r _, h => by simp at h; subst h; exact ⟨_, rfl, r⟩
  | _, _, i + 1, d, .cons _ t, h => by
    obtain ⟨v, h1, h2⟩ := RepL.atV (i := i) (v := d) t (by simpa using h)
    exact ⟨v, by simpa using h1, h2⟩
theorem RepL.append : ∀ {ds es : List D} {vs ws : List V}, RepL P w K F ι H ds vs → RepL P w K F ι H es ws → RepL P w K F ι H (ds ++ es) (vs ++ ws)
  | _, _, _, _, .nil, s => s
  | _, _, _, _, .cons r t, s => .cons r (RepL.append t s)
theorem RepL.take : ∀ {ds : List D} {vs : List V} (n : Nat), RepL P w K F ι H ds vs → RepL P w K F ι H (ds.take n) (vs.take n)
  | _, _, 0, _ => .nil
  | _, _, _ + 1, .nil => .nil
  | _, _, n + 1, .cons r t => .cons r (RepL.take n t)
theorem RepL.drop : ∀ {ds : List D} {vs : List V} (n : Nat), RepL P w K F ι H ds vs → RepL P w K F ι H (ds.drop n) (vs.drop n)
  | _, _, 0, r => r
  | _, _, _ + 1, .nil => .nil
  | _, _, n + 1, .cons _ t => RepL.drop n t
theorem RepL.set {d : D} {v : V} (r : Rep P w K F ι H d v) : ∀ {ds : List D} {vs : List V} (i : Nat), RepL P w K F ι H ds vs → RepL P w K F ι H (ds.set i d) (vs.set i v)
  | _, _, _, .nil => .nil
  | _, _, 0, .cons _ t => .cons r t
  | _, _, i + 1, .cons q t => .cons q (RepL.set r i t)
theorem RepL.eraseIdx : ∀ {ds : List D} {vs : List V} (i : Nat), RepL P w K F ι H ds vs → RepL P w K F ι H (ds.eraseIdx i) (vs.eraseIdx i)
  | _, _, _, .nil => .nil
  | _, _, 0, .cons _ t => t
  | _, _, i + 1, .cons q t => .cons q (RepL.eraseIdx i t)
theorem RepL.one {d : D} {v : V} (r : Rep P w K F ι H d v) : RepL P w K F ι H [d] [v] := .cons r .nil
end

/-! ### the store -/
section
variable (P : Program) (w : World) (K : PySem.W.Frag)
structure SR (F : Addr → Prop) (ι : Io) (H : Hp) (S : Sto) : Prop where
  lens : ι.map (fun r => (r.1, r.2.length)) = S.map (fun r => (r.1, r.2.length))
  srt : (S.map (·.1)).Pairwise (· < ·)
  at_ : ∀ l i d, look S l i = some d → ∃ a, ioAt ι l i = some a ∧ Top P w K F ι H d a
  lev : ∀ l i d, look S l i = some d → d.lev l = true
  inj : ∀ l i l' i' a, ioAt ι l i = some a → ioAt ι l' i' = some a → l = l' ∧ i = i'
  fdom : ∀ a, F a → H a ≠ none
  fio : ∀ a, F a → ¬ ioIn ι a
end
theorem look_of_io : ∀ {ι : Io} {S : Sto}, ι.map (fun r => (r.1, r.2.length)) = S.map (fun r => (r.1, r.2.length)) → ∀ l i, (ioAt ι l i).isSome = (look S l i).isSome
  | [], [], _, _, _ => rfl
  | [], _ :: _, h, _, _ => by simp at h
  | _ :: _, [], h, _, _ => by simp at h
  | r :: ι, q :: S, h, l, i => by
    simp only [List.map_cons, List.cons.injEq, Prod.mk.injEq] at h
    obtain ⟨⟨h1, h2⟩, h3⟩ := h
    unfold ioAt look
    rw [h1]
    split
    · by_cases hi : i < q.2.length
      · rw [List.getElem?_eq_getElem hi, List.getElem?_eq_getElem (by omega)]; rfl
      · rw [List.getElem?_eq_none (by omega), List.getElem?_eq_none (by omega)]; rfl
    · exact look_of_io h3 l i
section
variable {P : Program} {w : World} {K : PySem.W.Frag} {F F' F2 : Addr → Prop} {ι ι' ι2 : Io} {H H' H2 : Hp} {S S' : Sto}
theorem TopB.some {b : Bool} {d : D} {a : Addr} (t : TopB P w K F ι H b d a) : H a ≠ none := by
  cases t with
  | lst h _ => rw [h]; simp
  | dicK h _ => exact h.any
  | dicT _ _ h => exact h.any
theorem Top.some {d : D} {a : Addr} (t : Top P w K F ι H d a) : H a ≠ none := TopB.some t
theorem Top.mut {d : D} {a : Addr} (t : Top P w K F ι H d a) : Mut (H a) := by
  cases t with
  | lst h _ => rw [h]; trivial
  | dicK h _ => rw [show H a = _ from h]; trivial
  | dicT _ _ h => rw [show H a = _ from h]; trivial
theorem SR.top (s : SR P w K F ι H S) {l i : Nat} {a : Addr} (h : ioAt ι l i = some a) : ∃ d, look S l i = some d ∧ Top P w K F ι H d a := by
  have e := look_of_io s.lens l i
  rw [h] at e
  obtain ⟨d, hd⟩ := Option.isSome_iff_exists.mp (show (look S l i).isSome = true from e.symm)
  obtain ⟨b, hb, t⟩ := s.at_ l i d hd
  rw [h] at hb; cases hb
  exact ⟨d, hd, t⟩
theorem SR.mutIn (s : SR P w K F ι H S) {a : Addr} (h : ioIn ι a) : Mut (H a) := by
  obtain ⟨l, i, h⟩ := h
  obtain ⟨d, _, t⟩ := s.top h
  exact t.mut
theorem SR.tup_out (s : SR P w K F ι H S) {a : Addr} {xs : List V} (h : H a = some (.tup xs)) : ¬ ioIn ι a := fun z => by
  have := s.mutIn z
  rw [h] at this; exact this
theorem SR.frz_out (s : SR P w K F ι H S) {a : Addr} {o : Obj} {u : HO} (h : H a = some (.frz o u)) : ¬ ioIn ι a := fun z => by
  have := s.mutIn z
  rw [h] at this; exact this
theorem SR.none_out (s : SR P w K F ι H S) {a : Addr} (h : H a = none) : ¬ ioIn ι a := fun z => by
  have := s.mutIn z
  rw [h] at this; exact this
theorem SR.none_F (s : SR P w K F ι H S) {a : Addr} (h : H a = none) : ¬ F a := fun z => s.fdom a z h

/-- from one state to a later one: only shared objects change, and what is new -/
structure Stp (F : Addr → Prop) (ι : Io) (H : Hp) (F' : Addr → Prop) (ι' : Io) (H' : Hp) : Prop where
  keep : ∀ a o, H a = some o → ¬ ioIn ι a → H' a = some o
  dom : ∀ a, H a ≠ none → H' a ≠ none
  fm : ∀ a, F a → F' a
  fn : ∀ a, F' a → F a ∨ H a = none
  im : ∀ l i a, ioAt ι l i = some a → ioAt ι' l i = some a
  inn : ∀ a, ioIn ι' a → ioIn ι a ∨ H a = none
theorem Stp.refl : Stp F ι H F ι H := ⟨fun _ _ h _ => h, fun _ h => h, fun _ h => h, fun _ h => .inl h, fun _ _ _ h => h, fun _ h => .inl h⟩
theorem none_of_dom {a : Addr} (h : H a ≠ none → H' a ≠ none) (n : H' a = none) : H a = none := by
  cases e : H a with
  | none => rfl
  | some o => exact absurd n (h (by rw [e]; simp))
theorem Stp.trans (x : Stp F ι H F' ι' H') (y : Stp F' ι' H' F2 ι2 H2) : Stp F ι H F2 ι2 H2 where
  keep := fun a o h n => y.keep a o (x.keep a o h n) fun z => by
    rcases x.inn a z with q | q
    · exact n q
    · rw [h] at q; cases q
  dom := fun a h => y.dom a (x.dom a h)
  fm := fun a h => y.fm a (x.fm a h)
  fn := fun a h => by
    rcases y.fn a h with q | q
    · exact x.fn a q
    · exact .inr (none_of_dom (x.dom a) q)
  im := fun l i a h => y.im l i a (x.im l i a h)
  inn := fun a h => by
    rcases y.inn a h with q | q
    · exact x.inn a q
    · exact .inr (none_of_dom (x.dom a) q)
theorem Stp.ext (x : Stp F ι H F' ι' H') (s : SR P w K F ι H S) : Ext F ι H F' ι' H' :=
  ⟨fun a o f h => x.keep a o h (s.fio a f), fun a xs h => x.keep a _ h (s.tup_out h), fun a o u h => x.keep a _ h (s.frz_out h), x.fm, x.im⟩
/-- something new is laid -/
theorem Stp.laid {p : Addr} {o : HO} (hp : H p = none) : Stp F ι H F ι (upd H p o) where
  keep := fun a u h _ => by rw [upd_ne (ne_of_none h hp)]; exact h
  dom := fun a h => by
    by_cases e : a = p
    · subst e; exact absurd hp h
    · rw [upd_ne e]; exact h
  fm := fun _ h => h
  fn := fun _ h => .inl h
  im := fun _ _ _ h => h
  inn := fun _ h => .inl h
theorem SR.ext (s : SR P w K F ι H S) (e : Ext F ι H F' ι H') (k : ∀ a, ioIn ι a → ∀ o, H a = some o → H' a = some o) (hf : ∀ a, F' a → H' a ≠ none) (hi : ∀ a, F' a → ¬ ioIn ι a) : SR P w K F' ι H' S where
  lens := s.lens
  srt := s.srt
  at_ := fun l i d h => by
    obtain ⟨a, h1, t⟩ := s.at_ l i d h
    exact ⟨a, h1, t.mono e (k a ⟨l, i, h1⟩)⟩
  lev := s.lev
  inj := s.inj
  fdom := hf
  fio := hi
/-- the store behind something new -/
theorem SR.laid {p : Addr} {o : HO} (s : SR P w K F ι H S) (hp : H p = none) : SR P w K F ι (upd H p o) S := by
  have x : Stp F ι H F ι (upd H p o) := Stp.laid hp
  refine s.ext (x.ext s) (fun a _ u h => by rw [upd_ne (ne_of_none h hp)]; exact h) (fun a f => x.dom a (s.fdom a f)) s.fio
/-- a new thing is known for good -/
theorem SR.freeze {p : Addr} (s : SR P w K F ι H S) (hp : H p ≠ none) (hi : ¬ ioIn ι p) : SR P w K (fun a => F a ∨ a = p) ι H S := by
  refine s.ext ⟨fun _ _ _ h => h, fun _ _ h => h, fun _ _ _ h => h, fun _ h => .inl h, fun _ _ _ h => h⟩ (fun _ _ _ h => h) (fun a f => ?_) (fun a f => ?_)
  · rcases f with f | rfl
    · exact s.fdom a f
    · exact hp
  · rcases f with f | rfl
    · exact s.fio a f
    · exact hi
end
end Z
end
section
/-! ZC: what an expression's reading promises of its run. -/
namespace Z
open PySem L2 PySem.Spec PyProof.Rows

abbrev XRep (X : Cx) := Rep X.prog X.w X.K
abbrev XTop (X : Cx) := Top X.prog X.w X.K
abbrev XTopB (X : Cx) := TopB X.prog X.w X.K
abbrev XRepL (X : Cx) := RepL X.prog X.w X.K
abbrev XSR (X : Cx) := SR X.prog X.w X.K

/-! ### the weakest readings -/
def wpE (X : Cx) (e : Expr) (σ : L2.St) (H : Hp) (Q : VK) : Prop := ∀ pins s, Inv X pins σ H s → wpAny (model X.prog X.w) X.A (eval e X.env) (EP X pins σ Q) X.xe s
def wpT (X : Cx) (e : Expr) (σ : L2.St) (H : Hp) (Q : Bool → Hp → Prop) : Prop := ∀ pins s, Inv X pins σ H s → wpAny (model X.prog X.w) X.A (isTrue e X.env (eval e X.env)) (TP X pins σ Q) X.xe s
def wpA (X : Cx) (es : List Expr) (σ : L2.St) (H : Hp) (Q : List V → Hp → Prop) : Prop := ∀ pos pins s, Inv X pins σ H s → wpAny (model X.prog X.w) X.A (spliced (backTo pos (starEach es X.env))) (AP X pins σ Q) X.xe s
def wOp (X : Cx) (f : Value → Value → Sem Value) (x y : V) (H : Hp) (Q : VK) : Prop := ∀ pins s σ v u, Inv X pins σ H s → RelV x v → RelV y u → wpAny (model X.prog X.w) X.A (f v u) (EP X pins σ Q) X.xe s
def wUn (X : Cx) (f : Value → Sem Value) (x : V) (H : Hp) (Q : VK) : Prop := ∀ pins s σ v, Inv X pins σ H s → RelV x v → wpAny (model X.prog X.w) X.A (f v) (EP X pins σ Q) X.xe s
def wCall (X : Cx) (f : Value) (xs : List V) (H : Hp) (Q : VK) : Prop := ∀ pins s σ us, Inv X pins σ H s → Vals xs us → wpAny (model X.prog X.w) X.A (call f us) (EP X pins σ Q) X.xe s
section
variable {X : Cx}
theorem pe_w (e : Expr) : PE X e (wpE X e) := ⟨fun pins s _ _ _ I h => h pins s I⟩
theorem pt_w (e : Expr) : PT X e (wpT X e) := ⟨fun pins s _ _ _ I h => h pins s I⟩
theorem pa_w (es : List Expr) : PA X es (wpA X es) := ⟨fun pos pins s _ _ _ I h => h pos pins s I⟩
theorem wpE.of {e : Expr} {t : TE} (h : PE X e t) {σ : L2.St} {H : Hp} {Q : VK} (q : t σ H Q) : wpE X e σ H Q := fun pins s I => h.run pins s σ H Q I q
theorem wpT.of {e : Expr} {t : TT} (h : PT X e t) {σ : L2.St} {H : Hp} {Q : Bool → Hp → Prop} (q : t σ H Q) : wpT X e σ H Q := fun pins s I => h.run pins s σ H Q I q
theorem wpA.of {es : List Expr} {t : TA} (h : PA X es t) {σ : L2.St} {H : Hp} {Q : List V → Hp → Prop} (q : t σ H Q) : wpA X es σ H Q := fun pos pins s I => h.run pos pins s σ H Q I q
theorem EP.mono {pins : List (Addr × Obj)} {σ : L2.St} {Q Q' : VK} {u : Value} {s : Shared} (h : EP X pins σ Q u s) (q : ∀ v H, Q v H → Q' v H) : EP X pins σ Q' u s := by
  obtain ⟨v, H, I, r, h⟩ := h
  exact ⟨v, H, I, r, q v H h⟩
theorem wpE.mono {e : Expr} {σ : L2.St} {H : Hp} {Q Q' : VK} (h : wpE X e σ H Q) (q : ∀ v H, Q v H → Q' v H) : wpE X e σ H Q' := fun pins s I => thn (h pins s I) fun _ _ z => EP.mono z q
theorem wpT.mono {e : Expr} {σ : L2.St} {H : Hp} {Q Q' : Bool → Hp → Prop} (h : wpT X e σ H Q) (q : ∀ v H, Q v H → Q' v H) : wpT X e σ H Q' := fun pins s I => thn (h pins s I) fun _ _ ⟨H', I', z⟩ => ⟨H', I', q _ _ z⟩
theorem wpA.mono {es : List Expr} {σ : L2.St} {H : Hp} {Q Q' : List V → Hp → Prop} (h : wpA X es σ H Q) (q : ∀ v H, Q v H → Q' v H) : wpA X es σ H Q' := fun pos pins s I => thn (h pos pins s I) fun _ _ ⟨vs, H', I', r, z⟩ => ⟨vs, H', I', r, q _ _ z⟩
theorem wOp.of {f : Value → Value → Sem Value} {r : R2} (h : OpR X f r) {x y : V} {H : Hp} {Q : VK} (q : r x y H Q) : wOp X f x y H Q := fun pins s σ v u I rx ry => h pins s σ H x y v u Q I rx ry q
theorem opr_w (f : Value → Value → Sem Value) : OpR X f (wOp X f) := fun pins s σ H x y v u Q I rx ry q => q pins s σ v u I rx ry
theorem wUn.of {f : Value → Sem Value} {r : V → Hp → VK → Prop} (h : UnR X f r) {x : V} {H : Hp} {Q : VK} (q : r x H Q) : wUn X f x H Q := fun pins s σ v I rx => h pins s σ H x v Q I rx q
theorem unr_w (f : Value → Sem Value) : UnR X f (wUn X f) := fun pins s σ H x v Q I rx q => q pins s σ v I rx
theorem wCall.of {f : Value} {r : List V → Hp → VK → Prop} (h : CallR X f r) {xs : List V} {H : Hp} {Q : VK} (q : r xs H Q) : wCall X f xs H Q := fun pins s σ us I rx => h pins s σ H xs us Q I rx q
theorem callr_w (f : Value) : CallR X f (wCall X f) := fun pins s σ H xs us Q I r q => q pins s σ us I r
end

/-! ### results -/
section
variable (X : Cx)
/-- what a result stands for; H: the heap ahead of the evaluation -/
def Rs (F : Addr → Prop) (ι : Io) (H H' : Hp) (d : D) (k : K3) (v : V) : Prop := match k with
  | .fz => XRep X F ι H' d v
  | .fr => ∃ a, v = .ref a ∧ XTop X F ι H' d a ∧ ¬ F a ∧ ¬ ioIn ι a ∧ H a = none
  | .vw => ∃ a, v = .ref a ∧ XTop X F ι H' d a ∧ ¬ ioIn ι a
/-- behind an evaluation -/
def Post (F : Addr → Prop) (ι : Io) (H : Hp) (r : Res) : VK := fun v H' => ∃ F' ι', Stp F ι H F' ι' H' ∧ XSR X F' ι' H' r.2.2 ∧ Rs X F' ι' H H' r.1 r.2.1 v
def PostT (F : Addr → Prop) (ι : Io) (H : Hp) (r : Bool × Sto) : Bool → Hp → Prop := fun c H' => c = r.1 ∧ ∃ F' ι', Stp F ι H F' ι' H' ∧ XSR X F' ι' H' r.2
def PostA (F : Addr → Prop) (ι : Io) (H : Hp) (r : List D × Sto) : List V → Hp → Prop := fun vs H' => ∃ F' ι', Stp F ι H F' ι' H' ∧ XSR X F' ι' H' r.2 ∧ XRepL X F' ι' H' r.1 vs
/-- a value looked at -/
def Cv (F : Addr → Prop) (ι : Io) (H : Hp) (d : D) (v : V) : Prop := XRep X F ι H d v ∨ ∃ a, v = .ref a ∧ XTop X F ι H d a
def Sl (F : Addr → Prop) (ι : Io) (H : Hp) (d : D) (m : Bool) (v : V) : Prop := match m with
  | true => ∃ a, v = .ref a ∧ XTop X F ι H d a ∧ ¬ ioIn ι a
  | false => XRep X F ι H d v
/-- the slots as an expression finds them -/
def Se (F : Addr → Prop) (ι : Io) (H : Hp) (env : Env) (σ : L2.St) : Prop := ∀ (i : Nat) (d : D) (m : Bool), env[i]? = some (some (d, m)) → ∃ v : V, σ[i]? = some (some v) ∧ Sl X F ι H d m v
def GE (e : Expr) (g : Env → Sto → Out Res) : Prop := ∀ env S r, g env S = .ok r → ∀ F ι σ H, XSR X F ι H S → Se X F ι H env σ → wpE X e σ H (Post X F ι H r)
def GT (e : Expr) (g : Env → Sto → Out (Bool × Sto)) : Prop := ∀ env S r, g env S = .ok r → ∀ F ι σ H, XSR X F ι H S → Se X F ι H env σ → wpT X e σ H (PostT X F ι H r)
def GA (es : List Expr) (g : Env → Sto → Out (List D × Sto)) : Prop := ∀ env S r, g env S = .ok r → ∀ F ι σ H, XSR X F ι H S → Se X F ι H env σ → wpA X es σ H (PostA X F ι H r)
/-- an operator by values -/
def OpS (f : Value → Value → Sem Value) (g : D → D → Out (D × K3)) : Prop := ∀ a b z, g a b = .ok z → ∀ F ι H S x y, XSR X F ι H S → Cv X F ι H a x → Cv X F ι H b y → wOp X f x y H (Post X F ι H (z.1, z.2, S))
end
section
variable {X : Cx} {F F' F2 : Addr → Prop} {ι ι' ι2 : Io} {H H' H2 H3 : Hp} {S S' : Sto} {d : D} {k : K3} {v : V} {env : Env} {σ : L2.St}
theorem Cv.obj {a : Addr} (h : XTop X F ι H d a) : Cv X F ι H d (.ref a) := .inr ⟨a, rfl, h⟩
theorem Rs.cv (r : Rs X F ι H H' d k v) : Cv X F ι H' d v := by
  cases k with
  | fz => exact .inl r
  | fr => obtain ⟨a, rfl, t, _⟩ := r; exact .inr ⟨a, rfl, t⟩
  | vw => obtain ⟨a, rfl, t, _⟩ := r; exact .inr ⟨a, rfl, t⟩
/-- .. at a later state -/
theorem Rs.cv' (r : Rs X F ι H H' d k v) (s : XSR X F ι H' S) (x : Stp F ι H' F2 ι2 H2) : Cv X F2 ι2 H2 d v := by
  cases k with
  | fz => exact .inl (Rep.mono (x.ext s) r)
  | fr => obtain ⟨a, rfl, t, _, n, _⟩ := r; exact .inr ⟨a, rfl, t.mono (x.ext s) fun o h => x.keep a o h n⟩
  | vw => obtain ⟨a, rfl, t, n⟩ := r; exact .inr ⟨a, rfl, t.mono (x.ext s) fun o h => x.keep a o h n⟩
theorem Se.mono (e : Se X F ι H env σ) (s : XSR X F ι H S) (x : Stp F ι H F' ι' H') : Se X F' ι' H' env σ := fun i d m h => by
  obtain ⟨v, h1, h2⟩ := e i d m h
  refine ⟨v, h1, ?_⟩
  cases m with
  | false => exact Rep.mono (x.ext s) h2
  | true =>
    obtain ⟨a, rfl, t, n⟩ := h2
    refine ⟨a, rfl, t.mono (x.ext s) fun o h => x.keep a o h n, fun z => ?_⟩
    rcases x.inn a z with q | q
    · exact n q
    · exact t.some q
/-- a dict, list of a level of its own is never written again -/
theorem Ext.lock {a : Addr} {u : HO} {o : Obj} (hu : H a = some u) (mu : Mut (some u)) (nf : ¬ F a) : Ext F ι H F ι (upd H a (.frz o u)) where
  f := fun b v f h => by
    have : b ≠ a := fun e => by subst e; exact nf f
    rw [upd_ne this]; exact h
  t := fun b xs h => by
    have : b ≠ a := fun e => by subst e; rw [hu] at h; cases h; exact mu
    rw [upd_ne this]; exact h
  z := fun b o' v h => by
    have : b ≠ a := fun e => by subst e; rw [hu] at h; cases h; exact mu
    rw [upd_ne this]; exact h
  fm := fun _ h => h
  im := fun _ _ _ h => h
/-- the thing at a will never be written again -/
structure Fzn (F : Addr → Prop) (ι : Io) (H : Hp) (a : Addr) (F2 : Addr → Prop) (H2 : Hp) : Prop where
  keep : ∀ b o, H b = some o → b ≠ a → H2 b = some o
  dom : ∀ b, H b ≠ none → H2 b ≠ none
  fn : ∀ b, F2 b → F b ∨ b = a
  ext : Ext F ι H F2 ι H2
  ni : ¬ ioIn ι a
  some : H a ≠ none
theorem Fzn.stp {a : Addr} (z : Fzn F' ι' H' a F2 H2) (x : Stp F ι H F' ι' H') (hn : H a = none) : Stp F ι H F2 ι' H2 where
  keep := fun b o h n => z.keep b o (x.keep b o h n) fun e => by subst e; rw [hn] at h; cases h
  dom := fun b h => z.dom b (x.dom b h)
  fm := fun b h => z.ext.fm b (x.fm b h)
  fn := fun b h => by
    rcases z.fn b h with h | rfl
    · exact x.fn b h
    · exact .inr hn
  im := x.im
  inn := x.inn
theorem Fzn.sr {a : Addr} (z : Fzn F ι H a F2 H2) (s : XSR X F ι H S) : XSR X F2 ι H2 S :=
  s.ext z.ext (fun b hb o h => z.keep b o h fun e => by subst e; exact z.ni hb) (fun b hb => by
    rcases z.fn b hb with h | rfl
    · exact z.dom b (s.fdom b h)
    · exact z.dom b z.some) fun b hb => by
    rcases z.fn b hb with h | rfl
    · exact s.fio b h
    · exact z.ni
theorem lock_ok {pins : List (Addr × Obj)} {s : Shared} {a : Addr} {u : HO} (I : Inv X pins σ H s) (hu : H a = some u) (mu : Mut (some u)) (nf : ¬ F a) (ni : ¬ ioIn ι a) : ∃ o, Inv X pins σ (upd H a (.frz o u)) s ∧ Fzn F ι H a (fun b => F b ∨ b = a) (upd H a (.frz o u)) := by
  obtain ⟨o, I'⟩ := I.lock hu mu
  refine ⟨o, I', ⟨fun b v h e => by rw [upd_ne e]; exact h, fun b h => ?_, fun b h => h, ?_, ni, by rw [hu]; simp⟩⟩
  · by_cases e : b = a
    · subst e; rw [upd_same]; simp
    · rw [upd_ne e]; exact h
  · have E : Ext F ι H F ι (upd H a (.frz o u)) := Ext.lock hu mu nf
    exact ⟨E.f, E.t, E.z, fun _ h => .inl h, E.im⟩
theorem freeze_ok {pins : List (Addr × Obj)} {s : Shared} {a : Addr} (I : Inv X pins σ H s) (t : XTop X F ι H d a) (nf : ¬ F a) (ni : ¬ ioIn ι a) :
    ∃ F2 H2, Inv X pins σ H2 s ∧ Fzn F ι H a F2 H2 ∧ XRep X F2 ι H2 d (.ref a) := by
  cases t with
  | lst h r =>
    have E : Ext F ι H (fun b => F b ∨ b = a) ι H := ⟨fun _ _ _ h => h, fun _ _ h => h, fun _ _ _ h => h, fun _ h => .inl h, fun _ _ _ h => h⟩
    exact ⟨fun b => F b ∨ b = a, H, I, ⟨fun _ _ h _ => h, fun _ h => h, fun _ h => h, E, ni, by rw [h]; simp⟩, .lst (.inr rfl) (SqL.of h) (r.mono E)⟩
  | dicK h r =>
    obtain ⟨o, I', z⟩ := lock_ok (ι := ι) I h (by trivial) nf ni
    exact ⟨_, _, I', z, .obj (.inr rfl) (.dicK ⟨o, upd_same⟩ (r.mono z.ext))⟩
  | dicT h0 h1 h2 r1 h3 h4 h5 h6 r2 =>
    obtain ⟨o, I', z⟩ := lock_ok (ι := ι) I h2 (by trivial) nf ni
    exact ⟨_, _, I', z, .obj (.inr rfl) (.dicT h0 h1 ⟨o, upd_same⟩ (r1.mono z.ext) h3 h4 h5 h6 (r2.mono z.ext))⟩
/-- what is kept is known for good -/
theorem kept_ok {pins : List (Addr × Obj)} {sh : Shared} {r : Res} {y : D × Sto} (h : kept r = .ok y) (I : Inv X pins σ H' sh) (p : Post X F ι H r v H') :
    ∃ H2, Inv X pins σ H2 sh ∧ Post X F ι H (y.1, .fz, y.2) v H2 := by
  obtain ⟨F', ι', x, s, q⟩ := p
  obtain ⟨d, k, S⟩ := r
  cases k with
  | fz => cases h; exact ⟨H', I, F', ι', x, s, q⟩
  | fr =>
    cases h
    obtain ⟨a, rfl, t, nf, ni, hn⟩ := q
    obtain ⟨F2, H2, I2, z, rep⟩ := freeze_ok I t nf ni
    exact ⟨H2, I2, F2, ι', z.stp x hn, z.sr s, rep⟩
  | vw => cases h
theorem wpE.kept {e : Expr} {r : Res} {y : D × Sto} (h : Z.kept r = .ok y) (w : wpE X e σ H (Post X F ι H r)) : wpE X e σ H (Post X F ι H (y.1, .fz, y.2)) := fun pins s I =>
  thn (w pins s I) fun _ _ ⟨v, H', I', rv, p⟩ => by
    obtain ⟨H2, I2, q⟩ := kept_ok h I' p
    exact ⟨v, H2, I2, rv, q⟩
theorem Post.rep (x : Stp F ι H F' ι' H') (s : XSR X F' ι' H' S) (r : XRep X F' ι' H' d v) : Post X F ι H (d, .fz, S) v H' := ⟨F', ι', x, s, r⟩
theorem Post.now (s : XSR X F ι H S) (r : XRep X F ι H d v) : Post X F ι H (d, .fz, S) v H := ⟨F, ι, .refl, s, r⟩
theorem Post.later {r : Res} (x : Stp F ι H F' ι' H') (p : Post X F' ι' H' r v H2) : Post X F ι H r v H2 := by
  obtain ⟨F2, ι2, y, s, q⟩ := p
  refine ⟨F2, ι2, x.trans y, s, ?_⟩
  obtain ⟨d, k, S⟩ := r
  cases k with
  | fz => exact q
  | fr =>
    obtain ⟨a, rfl, t, nf, ni, hn⟩ := q
    exact ⟨a, rfl, t, nf, ni, none_of_dom (x.dom a) hn⟩
  | vw => exact q
/-- a new list, dict -/
theorem Post.new {p : Addr} {o : HO} (s : XSR X F ι H S) (hp : H p = none) (t : XTop X F ι (upd H p o) d p) : Post X F ι H (d, .fr, S) (.ref p) (upd H p o) :=
  ⟨F, ι, .laid hp, s.laid hp, p, rfl, t, s.none_F hp, s.none_out hp, hp⟩
theorem RepL.laid {p : Addr} {o : HO} {ds : List D} {vs : List V} (s : XSR X F ι H S) (hp : H p = none) (r : XRepL X F ι H ds vs) : XRepL X F ι (upd H p o) ds vs :=
  RepL.mono ((Stp.laid hp).ext s) r
theorem Rep.laid {p : Addr} {o : HO} {d : D} {v : V} (s : XSR X F ι H S) (hp : H p = none) (r : XRep X F ι H d v) : XRep X F ι (upd H p o) d v :=
  Rep.mono ((Stp.laid hp).ext s) r
/-- a new tuple -/
theorem Post.tup {p : Addr} {ds : List D} {vs : List V} (s : XSR X F ι H S) (hp : H p = none) (r : XRepL X F ι H ds vs) : Post X F ι H (.tup ds, .fz, S) (.ref p) (upd H p (.tup vs)) :=
  ⟨F, ι, .laid hp, s.laid hp, .tup (SqT.of upd_same) (r.laid s hp)⟩
theorem Post.lst {p : Addr} {ds : List D} {vs : List V} (s : XSR X F ι H S) (hp : H p = none) (r : XRepL X F ι H ds vs) : Post X F ι H (.lst ds, .fr, S) (.ref p) (upd H p (.lst vs)) :=
  Post.new s hp (.lst upd_same (r.laid s hp))
theorem Cv.int {i : Int} (h : Cv X F ι H (.int i) v) : v = .int i := by
  rcases h with h | ⟨a, rfl, t⟩
  · cases h with
    | int => rfl
    | obj _ t => cases t
  · cases t
theorem Cv.bl {b : Bool} (h : Cv X F ι H (.bl b) v) : v = .bl b := by
  rcases h with h | ⟨a, rfl, t⟩
  · cases h with
    | bl => rfl
    | obj _ t => cases t
  · cases t
theorem Cv.non (h : Cv X F ι H .non v) : v = .non := by
  rcases h with h | ⟨a, rfl, t⟩
  · cases h with
    | non => rfl
    | obj _ t => cases t
  · cases t
theorem Cv.str {x : Str} (h : Cv X F ι H (.str x) v) : v = .str x := by
  rcases h with h | ⟨a, rfl, t⟩
  · cases h with
    | str => rfl
    | obj _ t => cases t
  · cases t
theorem Cv.tup {ds : List D} (h : Cv X F ι H (.tup ds) v) : ∃ a vs, v = .ref a ∧ SqT X.K H a vs ∧ XRepL X F ι H ds vs := by
  rcases h with h | ⟨a, rfl, t⟩
  · cases h with
    | tup h r => exact ⟨_, _, rfl, h, r⟩
    | obj _ t => cases t
  · cases t
theorem Cv.lst {ds : List D} (h : Cv X F ι H (.lst ds) v) : ∃ a vs, v = .ref a ∧ SqL X.K H a vs ∧ XRepL X F ι H ds vs := by
  rcases h with h | ⟨a, rfl, t⟩
  · cases h with
    | lst f h r => exact ⟨_, _, rfl, h, r⟩
    | lstK h r => exact ⟨_, _, rfl, by
        rcases h with (h | ⟨o, h⟩) | h
        · cases h
        · cases h
        · exact .inr h, r⟩
    | obj _ t => cases t
  · cases t with
    | lst h r => exact ⟨_, _, rfl, SqL.of h, r⟩
theorem Cv.dic {ks ds : List D} (h : Cv X F ι H (.dic ks ds) v) : ∃ a b, v = .ref a ∧ XTopB X F ι H b (.dic ks ds) a := by
  rcases h with h | ⟨a, e, h⟩
  · cases h with
    | obj _ t => exact ⟨_, _, rfl, t⟩
  · exact ⟨a, _, e, h⟩
theorem Rep.bool (b : Bool) : XRep X F ι H (.bl b) (.bl b) := .bl b
end

/-! ### the plumbing of readings -/
theorem bind_ok {α β : Type} {x : Out α} {f : α → Out β} {z : β} (h : x.bind f = .ok z) : ∃ a, x = .ok a ∧ f a = .ok z := by
  cases x with
  | ok a => exact ⟨a, rfl, h⟩
  | ex c d s => cases h
  | no => cases h
theorem of_ok {α : Type} {x : Option α} {a : α} (h : Out.of x = .ok a) : x = some a := by
  cases x with
  | none => cases h
  | some b => cases h; rfl
theorem ok_inj {α : Type} {a b : α} (h : Out.ok a = Out.ok b) : a = b := by cases h; rfl

/-! ### names, constants -/
section
variable {X : Cx}
theorem ge_var {i : Nat} {x : Str} {pos : Pos} (hN : X.N[i]? = some x) (hv : Vis X.env.scope x) (hd : (x == ("__debug__" : Str)) = false) (hcd : (x == ("__classdict__" : Str)) = false) :
    GE X (.Name x pos) fun env S => (varO env i).bind fun r => .ok (r.1, r.2, S) := by
  intro env S r h F ι σ H s e
  obtain ⟨⟨d, k⟩, h1, h2⟩ := bind_ok h
  cases h2
  unfold varO at h1
  split at h1
  · rename_i d' m q
    cases h1
    obtain ⟨v, hs, hl⟩ := e i _ m q
    refine .of (pe_var hN hv hd hcd) ⟨v, hs, F, ι, .refl, s, ?_⟩
    cases m with
    | false => exact hl
    | true => exact hl
  · cases h1
theorem ge_cst {d : D} {v : V} {e : Expr} (h : PE X e (tC v)) (hr : ∀ F ι H, XRep X F ι H d v) : GE X e fun _ S => .ok (d, .fz, S) := by
  intro env S r q F ι σ H s _
  cases q
  exact .of h (Post.now s (hr F ι H))
end
end Z
end
section
/-! ZD: the operators. -/
namespace Z
open PySem L2 PySem.Spec PyProof.Rows

/-! ### data as the library's -/
mutual
def D.pd : D → PyData
  | .non => .none
  | .bl b => .bool b
  | .int i => .int i
  | .str x => .str x
  | .tup ds => .tuple (D.pdL ds)
  | .lst ds => .list (D.pdL ds)
  | _ => .none
def D.pdL : List D → List PyData
  | [] => []
  | d :: ds => D.pd d :: D.pdL ds
end
theorem pdL_map : ∀ ds : List D, D.pdL ds = ds.map D.pd
  | [] => rfl
  | d :: ds => by rw [D.pdL, pdL_map ds]; rfl
mutual
theorem plain_pd : ∀ (n : Nat) (d : D), d.okN n = true → (D.pd d).plain = true
  | _, .non, _ => rfl
  | _, .bl _, _ => rfl
  | _, .int _, _ => rfl
  | _, .str _, _ => rfl
  | 0, .tup _, h => by simp [D.okN] at h
  | 0, .lst _, h => by simp [D.okN] at h
  | n + 1, .tup ds, h => by simp only [D.pd, PyData.plain]; exact plain_pdL n ds (by simpa [D.okN] using h)
  | n + 1, .lst ds, h => by simp only [D.pd, PyData.plain]; exact plain_pdL n ds (by simpa [D.okN] using h)
  | _, .dic _ _, h => by simp [D.okN] at h
  | _, .ref _ _, h => by simp [D.okN] at h
theorem plain_pdL : ∀ (n : Nat) (ds : List D), D.okNL n ds = true → PyData.plainAll (D.pdL ds) = true
  | _, [], _ => rfl
  | n, d :: ds, h => by
    simp only [D.okNL, Bool.and_eq_true] at h
    simp only [D.pdL, PyData.plainAll, Bool.and_eq_true]
    exact ⟨plain_pd n d h.1, plain_pdL n ds h.2⟩
end
mutual
theorem depth_pd : ∀ (n : Nat) (d : D), d.okN n = true → (D.pd d).depth ≤ n
  | _, .non, _ => by simp [D.pd, PyData.depth]
  | _, .bl _, _ => by simp [D.pd, PyData.depth]
  | _, .int _, _ => by simp [D.pd, PyData.depth]
  | _, .str _, _ => by simp [D.pd, PyData.depth]
  | 0, .tup _, h => by simp [D.okN] at h
  | 0, .lst _, h => by simp [D.okN] at h
  | n + 1, .tup ds, h => by simp only [D.pd, PyData.depth]; have := depth_pdL n ds (by simpa [D.okN] using h); omega
  | n + 1, .lst ds, h => by simp only [D.pd, PyData.depth]; have := depth_pdL n ds (by simpa [D.okN] using h); omega
  | _, .dic _ _, h => by simp [D.okN] at h
  | _, .ref _ _, h => by simp [D.okN] at h
theorem depth_pdL : ∀ (n : Nat) (ds : List D), D.okNL n ds = true → PyData.depthAll (D.pdL ds) ≤ n
  | _, [], _ => by simp [D.pdL, PyData.depthAll]
  | n, d :: ds, h => by
    simp only [D.okNL, Bool.and_eq_true] at h
    simp only [D.pdL, PyData.depthAll]
    have h1 := depth_pd n d h.1
    have h2 := depth_pdL n ds h.2
    omega
end
mutual
theorem eqv_pd : ∀ (n m : Nat) (a b : D), a.okN n = true → b.okN m = true → PyData.eqv (D.pd a) (D.pd b) = D.eqv a b
  | _, _, .dic _ _, _, h, _ => by simp [D.okN] at h
  | _, _, .ref _ _, _, h, _ => by simp [D.okN] at h
  | _, _, _, .dic _ _, _, h => by simp [D.okN] at h
  | _, _, _, .ref _ _, _, h => by simp [D.okN] at h
  | n + 1, m + 1, .tup as, .tup bs, h, h' => by simp only [D.pd, PyData.eqv, D.eqv]; exact eqv_pdL n m as bs (by simpa [D.okN] using h) (by simpa [D.okN] using h')
  | n + 1, m + 1, .lst as, .lst bs, h, h' => by simp only [D.pd, PyData.eqv, D.eqv]; exact eqv_pdL n m as bs (by simpa [D.okN] using h) (by simpa [D.okN] using h')
  | 0, _, .tup _, _, h, _ => by simp [D.okN] at h
  | 0, _, .lst _, _, h, _ => by simp [D.okN] at h
  | _, 0, _, .tup _, _, h => by simp [D.okN] at h
  | _, 0, _, .lst _, _, h => by simp [D.okN] at h
  | _, _, .non, .non, _, _ => rfl
  | _, _, .non, .bl _, _, _ => rfl
  | _, _, .non, .int _, _, _ => rfl
  | _, _, .non, .str _, _, _ => rfl
  | _, _, .non, .tup _, _, _ => rfl
  | _, _, .non, .lst _, _, _ => rfl
  | _, _, .bl _, .non, _, _ => rfl
  | _, _, .bl _, .bl _, _, _ => rfl
  | _, _, .bl _, .int _, _, _ => rfl
  | _, _, .bl _, .str _, _, _ => rfl
  | _, _, .bl _, .tup _, _, _ => rfl
  | _, _, .bl _, .lst _, _, _ => rfl
  | _, _, .int _, .non, _, _ => rfl
  | _, _, .int _, .bl _, _, _ => rfl
  | _, _, .int _, .int _, _, _ => rfl
  | _, _, .int _, .str _, _, _ => rfl
  | _, _, .int _, .tup _, _, _ => rfl
  | _, _, .int _, .lst _, _, _ => rfl
  | _, _, .str _, .non, _, _ => rfl
  | _, _, .str _, .bl _, _, _ => rfl
  | _, _, .str _, .int _, _, _ => rfl
  | _, _, .str _, .str _, _, _ => rfl
  | _, _, .str _, .tup _, _, _ => rfl
  | _, _, .str _, .lst _, _, _ => rfl
  | _, _, .tup _, .non, _, _ => rfl
  | _, _, .tup _, .bl _, _, _ => rfl
  | _, _, .tup _, .int _, _, _ => rfl
  | _, _, .tup _, .str _, _, _ => rfl
  | _, _, .tup _, .lst _, _, _ => rfl
  | _, _, .lst _, .non, _, _ => rfl
  | _, _, .lst _, .bl _, _, _ => rfl
  | _, _, .lst _, .int _, _, _ => rfl
  | _, _, .lst _, .str _, _, _ => rfl
  | _, _, .lst _, .tup _, _, _ => rfl
theorem eqv_pdL : ∀ (n m : Nat) (as bs : List D), D.okNL n as = true → D.okNL m bs = true → PyData.eqvAll (D.pdL as) (D.pdL bs) = D.eqvL as bs
  | _, _, [], [], _, _ => rfl
  | _, _, [], _ :: _, _, _ => rfl
  | _, _, _ :: _, [], _, _ => rfl
  | n, m, a :: as, b :: bs, h, h' => by
    simp only [D.okNL, Bool.and_eq_true] at h h'
    simp only [D.pdL, PyData.eqvAll, D.eqvL]
    rw [eqv_pd n m a b h.1 h'.1, eqv_pdL n m as bs h.2 h'.2]
end
theorem all_okL : ∀ {ds : List D}, ds.all D.ok = true → D.okNL deep ds = true
  | [], _ => rfl
  | d :: ds, h => by
    simp only [List.all_cons, Bool.and_eq_true] at h
    simp only [D.okNL, Bool.and_eq_true]
    exact ⟨h.1, all_okL h.2⟩

section
variable {X : Cx} {pins : List (Addr × Obj)} {σ : L2.St} {F : Addr → Prop} {ι : Io} {H : Hp} {s : Shared} {S : Sto}
mutual
theorem Rep.reads (I : Inv X pins σ H s) : ∀ (n : Nat) (d : D) (v : V) (u : Value), d.okN n = true → XRep X F ι H d v → RelV v u → ∃ as, Reads s.heap u (D.pd d) as
  | _, .non, _, _, _, h, r => by
    have e := (Cv.non (.inl h)); subst e; cases r; exact ⟨_, .none⟩
  | _, .bl b, _, _, _, h, r => by
    have e := (Cv.bl (.inl h)); subst e; cases r; exact ⟨_, .bool b⟩
  | _, .int i, _, _, _, h, r => by
    have e := (Cv.int (.inl h)); subst e; obtain ⟨t, rfl⟩ := r; exact ⟨_, .int i t⟩
  | _, .str x, _, _, _, h, r => by
    have e := (Cv.str (.inl h)); subst e; obtain ⟨t, rfl⟩ := r; exact ⟨_, .str x t⟩
  | 0, .tup _, _, _, h, _, _ => by simp [D.okN] at h
  | 0, .lst _, _, _, h, _, _ => by simp [D.okN] at h
  | n + 1, .tup ds, _, _, hk, h, r => by
    obtain ⟨a, vs, rfl, hs, hr⟩ := Cv.tup (.inl h)
    cases r
    obtain ⟨its, rv, ⟨o, ho, hc, n', hd⟩, _⟩ := I.tuple hs
    obtain ⟨as, q⟩ := RepL.reads I n ds vs its (by simpa [D.okN] using hk) hr rv
    exact ⟨_, .tuple ho hc hd q⟩
  | n + 1, .lst ds, _, _, hk, h, r => by
    obtain ⟨a, vs, rfl, hs, hr⟩ := Cv.lst (.inl h)
    cases r
    obtain ⟨its, rv, ⟨o, n', ho, hc, _, hd⟩, _⟩ := I.list hs
    obtain ⟨as, q⟩ := RepL.reads I n ds vs its (by simpa [D.okN] using hk) hr rv
    exact ⟨_, .list ho hc hd q⟩
  | _, .dic _ _, _, _, h, _, _ => by simp [D.okN] at h
  | _, .ref _ _, _, _, h, _, _ => by simp [D.okN] at h
theorem RepL.reads (I : Inv X pins σ H s) : ∀ (n : Nat) (ds : List D) (vs : List V) (us : List Value), D.okNL n ds = true → XRepL X F ι H ds vs → Vals vs us → ∃ as, ReadsAll s.heap us (D.pdL ds) as
  | _, [], _, _, _, h, r => by cases h; cases r; exact ⟨_, .nil⟩
  | n, d :: ds, _, _, hk, h, r => by
    simp only [D.okNL, Bool.and_eq_true] at hk
    cases h with
    | cons h1 h2 =>
      cases r with
      | cons r1 r2 =>
        obtain ⟨as, q1⟩ := Rep.reads I n d _ _ hk.1 h1 r1
        obtain ⟨bs, q2⟩ := RepL.reads I n ds _ _ hk.2 h2 r2
        exact ⟨_, .cons q1 q2⟩
end
theorem Cv.reads (I : Inv X pins σ H s) {n : Nat} {d : D} {v : V} {u : Value} (hk : d.okN n = true) (h : Cv X F ι H d v) (r : RelV v u) : ∃ as, Reads s.heap u (D.pd d) as := by
  cases d with
  | lst ds =>
    obtain ⟨a, vs, rfl, hs, hr⟩ := Cv.lst h
    cases n with
    | zero => simp [D.okN] at hk
    | succ n =>
      cases r
      obtain ⟨its, rv, ⟨o, n', ho, hc, _, hd⟩, _⟩ := I.list hs
      obtain ⟨as, q⟩ := RepL.reads I n ds vs its (by simpa [D.okN] using hk) hr rv
      exact ⟨_, .list ho hc hd q⟩
  | dic _ _ => simp [D.okN] at hk
  | _ =>
    rcases h with h | ⟨a, rfl, t⟩
    · exact Rep.reads I n _ v u hk h r
    · cases t
end

/-! ### arithmetic, + -/
section
variable {X : Cx}
theorem cat_list {l b : Addr} {xs ys : List V} {H : Hp} {Q : VK} (hl : SqL X.K H l xs) (hb : SqL X.K H b ys) (hz : xs.length + ys.length ≤ sizeLine) (q : ∀ p, H p = none → Q (.ref p) (upd H p (.lst (xs ++ ys)))) : wOp X (binaryOp .Add) (.ref l) (.ref b) H Q := by
  intro pins s σ v u I rx ry
  cases rx; cases ry
  obtain ⟨its, r, ⟨⟨cls, dd, data, sl⟩, n, ho, hc, hd0, hd⟩, _⟩ := I.list hl
  obtain ⟨its2, r2, ⟨⟨cls2, dd2, data2, sl2⟩, n2, ho2, hc2, hd02, hd2⟩, _⟩ := I.list hb
  simp only at hc hd hc2 hd2
  subst hc hd hc2 hd2
  have e1 := r.length
  have e2 := r2.length
  refine concat_meets ⟨_, ho, rfl⟩ ⟨_, ho2, rfl⟩ noFill_list_add seq_list_add PySem.F.slot_list_add PySem.F.entry_list_add (PySem.F.args_list_add_2 _ _)
    (list_addW l b its.toArray its2.toArray n n2 dd dd2 sl sl2 (by rw [List.size_toArray, List.size_toArray]; omega)) ⟨ho, ho2, ?_⟩
  have ea : its.toArray ++ its2.toArray = (its ++ its2).toArray := by simp
  rw [ea]
  exact ⟨.ref _, _, I.lnew (t' := s.toks) (r.append r2) (by rw [List.length_append]; omega), rfl, q _ I.fresh⟩
theorem line_eq : sizeLine = line := sizeLine_eq
theorem ops_add : OpS X (binaryOp .Add) (binO .add) := by
  intro a b z h F ι H S x y s ca cb
  change addO a b = .ok z at h
  unfold addO at h
  split at h
  · cases h; have := ca.int; have := cb.int; subst_vars; exact .of op_add ⟨_, _, rfl, rfl, Post.now s (.int _)⟩
  · split at h
    · rename_i hz
      cases h; have := ca.str; have := cb.str; subst_vars
      exact .of op_add_str ⟨_, _, rfl, rfl, by rw [line_eq]; exact hz, Post.now s (.str _)⟩
    · cases h
  · split at h
    · rename_i hz
      cases h
      obtain ⟨p, vs, rfl, hp, rp⟩ := ca.tup
      obtain ⟨q, ws, rfl, hq, rq⟩ := cb.tup
      have l1 := rp.length
      have l2 := rq.length
      refine .of op_catA ⟨p, q, vs, ws, rfl, rfl, hp, hq, by rw [line_eq]; omega, fun e => ?_, fun _ e => ?_, fun _ _ t ht => ?_⟩
      · subst e; cases rp; exact Post.now s (.tup hq rq)
      · subst e; cases rq; rw [List.append_nil]; exact Post.now s (.tup hp rp)
      · exact Post.tup s ht (rp.append rq)
    · cases h
  · split at h
    · rename_i hz
      cases h
      obtain ⟨p, vs, rfl, hp, rp⟩ := ca.lst
      obtain ⟨q, ws, rfl, hq, rq⟩ := cb.lst
      have l1 := rp.length
      have l2 := rq.length
      exact cat_list hp hq (by rw [line_eq]; omega) fun t ht => Post.lst s ht (rp.append rq)
    · cases h
  · cases h
theorem ops_int {f : Value → Value → Sem Value} {C : Int → Int → Prop} {g : Int → Int → Int} {e : Int → Int → Out Int} (hf : OpR X f (rI C fun i j => .int (g i j))) (he : ∀ i j k, e i j = .ok k → C i j ∧ k = g i j) : OpS X f (intO e) := by
  intro a b z h F ι H S x y s ca cb
  unfold intO at h
  split at h
  · obtain ⟨k, h1, h2⟩ := bind_ok h
    cases h2
    obtain ⟨c, rfl⟩ := he _ _ _ h1
    have := ca.int; have := cb.int; subst_vars
    exact .of hf ⟨_, _, rfl, rfl, c, Post.now s (.int _)⟩
  · cases h
theorem ops_sub : OpS X (binaryOp .Sub) (binO .sub) :=
  ops_int (C := fun _ _ => True) (g := fun i j => i - j) (fun pins s σ H x y v u Q I rx ry ⟨i, j, e1, e2, _, q⟩ => op_sub pins s σ H x y v u Q I rx ry ⟨i, j, e1, e2, q⟩) fun i j k h => ⟨trivial, by cases h; rfl⟩
theorem ops_mul : OpS X (binaryOp .Mult) (binO .mul) := ops_int op_mul fun i j k h => by
  unfold mulI at h
  split at h
  · rename_i hz; cases h; exact ⟨by simpa [CMul] using hz, rfl⟩
  · cases h
theorem ops_fdiv : OpS X (binaryOp .FloorDiv) (binO .fdiv) := ops_int op_fdiv fun i j k h => by
  unfold fdivI at h
  split at h
  · rename_i hz; cases h; exact ⟨by simpa [CDiv] using hz, rfl⟩
  · cases h
theorem ops_mod : OpS X (binaryOp .Mod) (binO .mod) := ops_int op_mod fun i j k h => by
  unfold modI at h
  split at h
  · rename_i hz; cases h; exact ⟨by simpa using hz, rfl⟩
  · cases h
theorem ops_pow : OpS X (binaryOp .Pow) (binO .pow) := ops_int op_pow fun i j k h => by
  unfold powI at h
  split at h
  · rename_i hz; cases h
    simp only [Bool.and_eq_true, decide_eq_true_eq] at hz
    exact ⟨⟨hz.1.1, hz.1.2, hz.2⟩, rfl⟩
  · cases h

/-! ### comparisons -/
/-- a comparison by values -/
def CmpS (X : Cx) (f : Value → Value → Sem Value) (g : D → D → Out Bool) : Prop := ∀ a b c, g a b = .ok c → ∀ F ι H S x y, XSR X F ι H S → Cv X F ι H a x → Cv X F ι H b y → wOp X f x y H fun v H' => v = .bl c ∧ H' = H
theorem room_deep {k : Nat} (hr : Room k X.A) {n : Nat} (h : n ≤ 100) : X.A.units + n < cLine := by have := hr.un; omega
theorem cmp_data {k : Nat} (hr : Room k X.A) : CmpS X (compareOp .Eq) fun a b => if a.ok && b.ok then .ok (D.eqv a b) else .no := by
  intro a b c h F ι H S x y s ca cb
  dsimp only at h
  split at h
  · rename_i hk
    cases h
    simp only [Bool.and_eq_true] at hk
    intro pins s' σ v u I rx ry
    obtain ⟨as, q1⟩ := ca.reads I hk.1 rx
    obtain ⟨bs, q2⟩ := cb.reads I hk.2 ry
    have d1 := depth_pd deep a hk.1
    refine SeqAt.eq_plain q1 q2 (plain_pd _ _ hk.1) (plain_pd _ _ hk.2) ?_ ⟨.bl _, H, I, ?_, rfl, rfl⟩
    · have := hr.un; have : min (D.pd a).depth (D.pd b).depth ≤ 60 := by have : deep = 60 := rfl; omega
      omega
    · rw [eqv_pd _ _ _ _ hk.1 hk.2]; rfl
  · cases h
theorem ne_data {k : Nat} (hr : Room k X.A) : CmpS X (compareOp .NotEq) fun a b => if a.ok && b.ok then .ok (!D.eqv a b) else .no := by
  intro a b c h F ι H S x y s ca cb
  dsimp only at h
  split at h
  · rename_i hk
    cases h
    simp only [Bool.and_eq_true] at hk
    intro pins s' σ v u I rx ry
    obtain ⟨as, q1⟩ := ca.reads I hk.1 rx
    obtain ⟨bs, q2⟩ := cb.reads I hk.2 ry
    have d1 := depth_pd deep a hk.1
    refine SeqAt.ne_plain q1 q2 (plain_pd _ _ hk.1) (plain_pd _ _ hk.2) ?_ ⟨.bl _, H, I, ?_, rfl, rfl⟩
    · have := hr.un; have : min (D.pd a).depth (D.pd b).depth ≤ 60 := by have : deep = 60 := rfl; omega
      omega
    · rw [eqv_pd _ _ _ _ hk.1 hk.2]; rfl
  · cases h
theorem eqO_eq {a b : D} {c : Bool} (h : eqO a b = .ok c) : (if a.ok && b.ok then Out.ok (D.eqv a b) else .no) = .ok c := by
  unfold eqO at h
  split at h
  · rw [← h]; rfl
  · rw [← h]; simp [D.ok, D.okN, D.eqv, Bool.beq_eq_decide_eq]
  · rw [← h]; rfl
  · exact h
theorem cs_eq {k : Nat} (hr : Room k X.A) : CmpS X (compareOp .Eq) (cmpO .eq) := fun a b c h => cmp_data hr a b c (eqO_eq h)
theorem cs_ne {k : Nat} (hr : Room k X.A) : CmpS X (compareOp .NotEq) (cmpO .ne) := fun a b c h => by
  obtain ⟨d, h1, h2⟩ := bind_ok h
  cases h2
  refine ne_data hr a b _ ?_
  have := eqO_eq h1
  dsimp only
  split at this
  · rename_i hk; rw [if_pos hk]; cases this; rfl
  · cases this
theorem cs_int {f : Value → Value → Sem Value} {o : COp} {p : Int → Int → Bool} (hf : OpR X f (rI0 fun i j => .bl (p i j))) (ho : ∀ a b c, cmpO o a b = .ok c → ∃ i j, a = .int i ∧ b = .int j ∧ c = p i j) : CmpS X f (cmpO o) := by
  intro a b c h F ι H S x y s ca cb
  obtain ⟨i, j, rfl, rfl, rfl⟩ := ho a b c h
  have := ca.int; have := cb.int; subst_vars
  exact .of hf ⟨i, j, rfl, rfl, rfl, rfl⟩
theorem cs_lt : CmpS X (compareOp .Lt) (cmpO .lt) := cs_int op_lt fun a b c h => by
  cases a <;> cases b <;> simp only [cmpO] at h <;> first | (cases h; exact ⟨_, _, rfl, rfl, rfl⟩) | cases h
theorem cs_le : CmpS X (compareOp .LtE) (cmpO .le) := cs_int op_le fun a b c h => by
  cases a <;> cases b <;> simp only [cmpO] at h <;> first | (cases h; exact ⟨_, _, rfl, rfl, rfl⟩) | cases h
theorem cs_gt : CmpS X (compareOp .Gt) (cmpO .gt) := cs_int op_gt fun a b c h => by
  cases a <;> cases b <;> simp only [cmpO] at h <;> first | (cases h; exact ⟨_, _, rfl, rfl, rfl⟩) | cases h
theorem cs_ge : CmpS X (compareOp .GtE) (cmpO .ge) := cs_int op_ge fun a b c h => by
  cases a <;> cases b <;> simp only [cmpO] at h <;> first | (cases h; exact ⟨_, _, rfl, rfl, rfl⟩) | cases h
end
end Z
end
section
/-! ZE: more operators by values: in, is, subscripts, slices, built-in calls. -/
namespace Z
open PySem L2 PySem.Spec PyProof.Rows

section
variable {X : Cx}
/-! ### in -/
theorem all_eqvL (n : Nat) {k : D} (hk : k.okN deep = true) : ∀ {ds : List D}, D.okNL deep ds = true → ((D.pdL ds).any fun y => PyData.eqv y (D.pd k)) = ds.any fun d => D.eqv d k
  | [], _ => rfl
  | d :: ds, h => by
    simp only [D.okNL, Bool.and_eq_true] at h
    simp only [D.pdL, List.any_cons]
    rw [eqv_pd _ _ _ _ h.1 hk, all_eqvL n hk h.2]
theorem in_seq {k : Nat} (hr : Room k X.A) (neg : Bool) {a c : D} {r : Bool} (hc : (∃ ds, c = .lst ds) ∨ ∃ ds, c = .tup ds) (h : inO a c = .ok r) {F : Addr → Prop} {ι : Io} {H : Hp} {x y : V} (ca : Cv X F ι H a x) (cb : Cv X F ι H c y) :
    wOp X (compareOp (if neg then .NotIn else .In)) x y H fun v H' => v = .bl (if neg then !r else r) ∧ H' = H := by
  intro pins s' σ v u I rx ry
  have hroom : ∀ (xs : List D) (_ : D.okNL deep xs = true), X.A.units + 1 + min (PyData.depthAll (D.pdL xs)) (D.pd a).depth < cLine := fun xs hx => by
    have h1 := depth_pdL deep xs hx
    have := hr.un
    have : deep = 60 := rfl
    omega
  rcases hc with ⟨ds, rfl⟩ | ⟨ds, rfl⟩
  · change (if a.ok && ds.all D.ok then Out.ok (ds.any fun d => D.eqv d a) else .no) = .ok r at h
    split at h
    · rename_i hk
      cases h
      simp only [Bool.and_eq_true] at hk
      have hl := all_okL hk.2
      obtain ⟨as, q1⟩ := ca.reads I hk.1 rx
      obtain ⟨bs, q2⟩ := Cv.reads I (n := deep + 1) (d := .lst ds) (by simpa [D.okN] using hl) cb ry
      cases neg with
      | false => exact SeqAt.in_list_data q2 q1 (plain_pdL _ _ hl) (plain_pd _ _ hk.1) (hroom ds hl) ⟨.bl _, H, I, by rw [all_eqvL 0 hk.1 hl]; rfl, rfl, rfl⟩
      | true => exact SeqAt.notIn_list_data q2 q1 (plain_pdL _ _ hl) (plain_pd _ _ hk.1) (hroom ds hl) ⟨.bl _, H, I, by rw [all_eqvL 0 hk.1 hl]; rfl, rfl, rfl⟩
    · cases h
  · change (if a.ok && ds.all D.ok then Out.ok (ds.any fun d => D.eqv d a) else .no) = .ok r at h
    split at h
    · rename_i hk
      cases h
      simp only [Bool.and_eq_true] at hk
      have hl := all_okL hk.2
      obtain ⟨as, q1⟩ := ca.reads I hk.1 rx
      obtain ⟨bs, q2⟩ := Cv.reads I (n := deep + 1) (d := .tup ds) (by simpa [D.okN] using hl) cb ry
      cases neg with
      | false => exact SeqAt.in_tuple_data q2 q1 (plain_pdL _ _ hl) (plain_pd _ _ hk.1) (hroom ds hl) ⟨.bl _, H, I, by rw [all_eqvL 0 hk.1 hl]; rfl, rfl, rfl⟩
      | true => exact SeqAt.notIn_tuple_data q2 q1 (plain_pdL _ _ hl) (plain_pd _ _ hk.1) (hroom ds hl) ⟨.bl _, H, I, by rw [all_eqvL 0 hk.1 hl]; rfl, rfl, rfl⟩
    · cases h

/-! ### is -/
theorem is_seq (neg : Bool) {a b : D} {r : Bool} (h : isO a b = .ok r) {F : Addr → Prop} {ι : Io} {H : Hp} {x y : V} (ca : Cv X F ι H a x) (cb : Cv X F ι H b y) :
    wOp X (compareOp (if neg then .IsNot else .Is)) x y H fun v H' => v = .bl (if neg then !r else r) ∧ H' = H := by
  unfold isO at h
  split at h
  · cases h
    have e := cb.non; subst e
    have hn : decide (x = V.non) = a.isNon := by
      cases a with
      | non => have e := ca.non; subst e; rfl
      | bl _ => have e := ca.bl; subst e; rfl
      | int _ => have e := ca.int; subst e; rfl
      | str _ => have e := ca.str; subst e; rfl
      | tup _ => obtain ⟨_, _, e, _⟩ := ca.tup; subst e; rfl
      | lst _ => obtain ⟨_, _, e, _⟩ := ca.lst; subst e; rfl
      | dic _ _ => obtain ⟨_, _, e, _⟩ := ca.dic; subst e; rfl
      | ref _ _ =>
        rcases ca with ca | ⟨_, e, _⟩
        · cases ca <;> rfl
        · subst e; rfl
    cases neg with
    | false => exact .of op_isN ⟨rfl, by rw [hn]; exact ⟨rfl, rfl⟩⟩
    | true => exact .of op_notN ⟨rfl, by rw [hn]; exact ⟨rfl, rfl⟩⟩
  · cases h
    rename_i c
    have e := cb.bl; subst e
    intro pins s σ v u I rx ry
    cases (show u = Value.bool c from ry)
    have other : ∀ v : Value, plainIs v (Value.bool c) = true → v ≠ Value.bool c → wpAny (model X.prog X.w) X.A (compareOp (if neg then .IsNot else .Is) v (Value.bool c)) (EP X pins σ fun v' H' => v' = .bl (if neg then !false else false) ∧ H' = H) X.xe s := fun v hv hne => by
      cases neg with
      | false => exact wpAny_is_other hv hne ⟨.bl false, H, I, rfl, rfl, rfl⟩
      | true => exact wpAny_isNot_other hv hne ⟨.bl true, H, I, rfl, rfl, rfl⟩
    cases a with
    | bl d =>
      have e := ca.bl; subst e
      cases (show v = Value.bool d from rx)
      by_cases e : d = c
      · subst e
        cases neg with
        | false => exact wpAny_is_self rfl ⟨.bl true, H, I, rfl, by simp⟩
        | true => exact wpAny_isNot_self rfl ⟨.bl false, H, I, rfl, by simp⟩
      · have e' : (d == c) = false := by cases d <;> cases c <;> first | rfl | exact absurd rfl e
        simp only [e']
        cases neg with
        | false => exact wpAny_is_other rfl (fun z => e (Value.bool.inj z)) ⟨.bl false, H, I, rfl, by simp⟩
        | true => exact wpAny_isNot_other rfl (fun z => e (Value.bool.inj z)) ⟨.bl true, H, I, rfl, by simp⟩
    | non => have e := ca.non; subst e; cases rx; exact other _ rfl (fun z => nomatch z)
    | int _ => have e := ca.int; subst e; obtain ⟨t, rfl⟩ := rx; exact other _ rfl (fun z => nomatch z)
    | str _ => have e := ca.str; subst e; obtain ⟨t, rfl⟩ := rx; exact other _ rfl (fun z => nomatch z)
    | tup _ => obtain ⟨_, _, e, _⟩ := ca.tup; subst e; cases rx; exact other _ rfl (fun z => nomatch z)
    | lst _ => obtain ⟨_, _, e, _⟩ := ca.lst; subst e; cases rx; exact other _ rfl (fun z => nomatch z)
    | dic _ _ => obtain ⟨_, _, e, _⟩ := ca.dic; subst e; cases rx; exact other _ rfl (fun z => nomatch z)
    | ref _ _ =>
      rcases ca with ca | ⟨_, e, _⟩
      · cases ca <;> (cases rx; exact other _ rfl (fun z => nomatch z))
      · subst e; cases rx; exact other _ rfl (fun z => nomatch z)
  · cases h
theorem cs_is : CmpS X (compareOp .Is) (cmpO .is) := fun a b c h F ι H S x y _ ca cb => is_seq false h ca cb
theorem cs_isn : CmpS X (compareOp .IsNot) (cmpO .isn) := fun a b c h F ι H S x y _ ca cb => by
  obtain ⟨d, h1, h2⟩ := bind_ok h
  cases h2
  exact is_seq true h1 ca cb

/-! ### subscripts, slices -/
theorem atI_rep {F : Addr → Prop} {ι : Io} {H : Hp} {ds : List D} {vs : List V} {i : Int} {d : D} (r : XRepL X F ι H ds vs) (h : L2.atI ds i = some d) : ∃ v, L2.atI vs i = some v ∧ XRep X F ι H d v := by
  unfold L2.atI at h ⊢
  rw [← r.length]
  cases e : ixN ds.length i with
  | none => rw [e] at h; cases h
  | some j =>
    rw [e] at h
    exact r.at_ h
theorem cut_rep {F : Addr → Prop} {ι : Io} {H : Hp} {ds : List D} {vs : List V} (lo hi : Option Int) (r : XRepL X F ι H ds vs) : XRepL X F ι H (cutL ds lo hi) (cutV vs lo hi) := by
  unfold cutL cutV
  rw [← r.length]
  exact (r.drop _).take _
def wSl (X : Cx) (x : V) (lo hi : Option Int) (H : Hp) (Q : VK) : Prop := ∃ r, SlR X r ∧ r x lo hi H Q
theorem cut_ok {a : D} {lo hi : Option Int} {z : D × K3} (h : cutO a lo hi = .ok z) {F : Addr → Prop} {ι : Io} {H : Hp} {S : Sto} {x : V} (s : XSR X F ι H S) (ca : Cv X F ι H a x) : wSl X x lo hi H (Post X F ι H (z.1, z.2, S)) := by
  unfold cutO at h
  split at h
  · cases h
    obtain ⟨p, vs, rfl, hp, r⟩ := ca.tup
    refine ⟨_, sl_tupA, p, vs, rfl, hp, fun hw => ?_, fun _ t ht => Post.tup s ht (cut_rep lo hi r)⟩
    have e : cutV vs lo hi = vs := by unfold cutV; rw [hw.1, hw.2]; simp
    have q := cut_rep lo hi r
    rw [e] at q
    exact Post.now s (.tup hp q)
  · cases h
    obtain ⟨p, vs, rfl, hp, r⟩ := ca.lst
    exact ⟨_, sl_list, p, vs, rfl, hp, fun t ht => Post.lst s ht (cut_rep lo hi r)⟩
  · cases h

/-! ### truth -/
theorem tru_ok' {a : D} {c : Bool} (h : truO a = .ok c) {F : Addr → Prop} {ι : Io} {H : Hp} {x : V} (ca : Cv X F ι H a x) : TruV X.K x H c := by
  unfold truO at h
  split at h
  · cases h; have e := ca.bl; subst e; rfl
  · cases h; have e := ca.non; subst e; rfl
  · cases h; have e := ca.int; subst e; rfl
  · cases h
    obtain ⟨p, vs, rfl, hp, r⟩ := ca.tup
    exact .inr (.inl ⟨vs, hp, by cases r <;> rfl⟩)
  · cases h
    obtain ⟨p, vs, rfl, hp, r⟩ := ca.lst
    exact .inl ⟨vs, hp, by cases r <;> rfl⟩
  · cases h
end
end Z
end
section
/-! ZF: built-in calls by values. -/
namespace Z
open PySem L2 PySem.Spec PyProof.Rows
def Ty.name : Ty → String
  | .tuple => "tuple" | .int => "int" | .bool => "bool" | .str => "str" | .list => "list"
section
variable {X : Cx}
theorem isa_ok {t : Ty} {a : D} {c : Bool} (h : isaO t a = .ok c) {F : Addr → Prop} {ι : Io} {H : Hp} {x : V} (ca : Cv X F ι H a x) :
    wCall X (.builtin "isinstance") [x, .ty t.name] H fun v H' => v = .bl c ∧ H' = H := by
  intro pins s σ us I r
  obtain ⟨u1, u2, rfl, rx, r2⟩ := Vals.two r
  cases r2
  cases t with
  | tuple =>
    cases a with
    | non => cases h; have e := ca.non; subst e; cases rx; exact IsiPair.NoneType_tuple ⟨.bl _, H, by first | exact I | exact I.tok _, rfl, rfl, rfl⟩
    | bl _ => cases h; have e := ca.bl; subst e; cases rx; exact IsiPair.bool_tuple ⟨.bl _, H, by first | exact I | exact I.tok _, rfl, rfl, rfl⟩
    | int _ => cases h; have e := ca.int; subst e; obtain ⟨t, rfl⟩ := rx; exact IsiPair.int_tuple ⟨.bl _, H, by first | exact I | exact I.tok _, rfl, rfl, rfl⟩
    | str _ => cases h; have e := ca.str; subst e; obtain ⟨t, rfl⟩ := rx; exact IsiPair.str_tuple ⟨.bl _, H, by first | exact I | exact I.tok _, rfl, rfl, rfl⟩
    | tup _ => cases h; obtain ⟨p, vs, e, hp, _⟩ := ca.tup; subst e; cases rx; obtain ⟨_, _, ⟨o, ho, hc, _⟩, _⟩ := I.tuple hp; exact IsiPair.tuple_tuple ho hc ⟨.bl _, H, by first | exact I | exact I.tok _, rfl, rfl, rfl⟩
    | lst _ => cases h; obtain ⟨p, vs, e, hp, _⟩ := ca.lst; subst e; cases rx; obtain ⟨_, _, ⟨o, _, ho, hc, _⟩, _⟩ := I.list hp; exact IsiPair.list_tuple ho hc ⟨.bl _, H, by first | exact I | exact I.tok _, rfl, rfl, rfl⟩
    | dic _ _ => cases h
    | ref _ _ => cases h
  | int =>
    cases a with
    | non => cases h; have e := ca.non; subst e; cases rx; exact IsiPair.NoneType_int ⟨.bl _, H, by first | exact I | exact I.tok _, rfl, rfl, rfl⟩
    | bl _ => cases h; have e := ca.bl; subst e; cases rx; exact IsiPair.bool_int ⟨.bl _, H, by first | exact I | exact I.tok _, rfl, rfl, rfl⟩
    | int _ => cases h; have e := ca.int; subst e; obtain ⟨t, rfl⟩ := rx; exact IsiPair.int_int ⟨.bl _, H, by first | exact I | exact I.tok _, rfl, rfl, rfl⟩
    | str _ => cases h; have e := ca.str; subst e; obtain ⟨t, rfl⟩ := rx; exact IsiPair.str_int ⟨.bl _, H, by first | exact I | exact I.tok _, rfl, rfl, rfl⟩
    | tup _ => cases h; obtain ⟨p, vs, e, hp, _⟩ := ca.tup; subst e; cases rx; obtain ⟨_, _, ⟨o, ho, hc, _⟩, _⟩ := I.tuple hp; exact IsiPair.tuple_int ho hc ⟨.bl _, H, by first | exact I | exact I.tok _, rfl, rfl, rfl⟩
    | lst _ => cases h; obtain ⟨p, vs, e, hp, _⟩ := ca.lst; subst e; cases rx; obtain ⟨_, _, ⟨o, _, ho, hc, _⟩, _⟩ := I.list hp; exact IsiPair.list_int ho hc ⟨.bl _, H, by first | exact I | exact I.tok _, rfl, rfl, rfl⟩
    | dic _ _ => cases h
    | ref _ _ => cases h
  | bool =>
    cases a with
    | non => cases h; have e := ca.non; subst e; cases rx; exact IsiPair.NoneType_bool ⟨.bl _, H, by first | exact I | exact I.tok _, rfl, rfl, rfl⟩
    | bl _ => cases h; have e := ca.bl; subst e; cases rx; exact IsiPair.bool_bool ⟨.bl _, H, by first | exact I | exact I.tok _, rfl, rfl, rfl⟩
    | int _ => cases h; have e := ca.int; subst e; obtain ⟨t, rfl⟩ := rx; exact IsiPair.int_bool ⟨.bl _, H, by first | exact I | exact I.tok _, rfl, rfl, rfl⟩
    | str _ => cases h; have e := ca.str; subst e; obtain ⟨t, rfl⟩ := rx; exact IsiPair.str_bool ⟨.bl _, H, by first | exact I | exact I.tok _, rfl, rfl, rfl⟩
    | tup _ => cases h; obtain ⟨p, vs, e, hp, _⟩ := ca.tup; subst e; cases rx; obtain ⟨_, _, ⟨o, ho, hc, _⟩, _⟩ := I.tuple hp; exact IsiPair.tuple_bool ho hc ⟨.bl _, H, by first | exact I | exact I.tok _, rfl, rfl, rfl⟩
    | lst _ => cases h; obtain ⟨p, vs, e, hp, _⟩ := ca.lst; subst e; cases rx; obtain ⟨_, _, ⟨o, _, ho, hc, _⟩, _⟩ := I.list hp; exact IsiPair.list_bool ho hc ⟨.bl _, H, by first | exact I | exact I.tok _, rfl, rfl, rfl⟩
    | dic _ _ => cases h
    | ref _ _ => cases h
  | str =>
    cases a with
    | non => cases h; have e := ca.non; subst e; cases rx; exact IsiPair.NoneType_str ⟨.bl _, H, by first | exact I | exact I.tok _, rfl, rfl, rfl⟩
    | bl _ => cases h; have e := ca.bl; subst e; cases rx; exact IsiPair.bool_str ⟨.bl _, H, by first | exact I | exact I.tok _, rfl, rfl, rfl⟩
    | int _ => cases h; have e := ca.int; subst e; obtain ⟨t, rfl⟩ := rx; exact IsiPair.int_str ⟨.bl _, H, by first | exact I | exact I.tok _, rfl, rfl, rfl⟩
    | str _ => cases h; have e := ca.str; subst e; obtain ⟨t, rfl⟩ := rx; exact IsiPair.str_str ⟨.bl _, H, by first | exact I | exact I.tok _, rfl, rfl, rfl⟩
    | tup _ => cases h; obtain ⟨p, vs, e, hp, _⟩ := ca.tup; subst e; cases rx; obtain ⟨_, _, ⟨o, ho, hc, _⟩, _⟩ := I.tuple hp; exact IsiPair.tuple_str ho hc ⟨.bl _, H, by first | exact I | exact I.tok _, rfl, rfl, rfl⟩
    | lst _ => cases h; obtain ⟨p, vs, e, hp, _⟩ := ca.lst; subst e; cases rx; obtain ⟨_, _, ⟨o, _, ho, hc, _⟩, _⟩ := I.list hp; exact IsiPair.list_str ho hc ⟨.bl _, H, by first | exact I | exact I.tok _, rfl, rfl, rfl⟩
    | dic _ _ => cases h
    | ref _ _ => cases h
  | list =>
    cases a with
    | non => cases h; have e := ca.non; subst e; cases rx; exact IsiPair.NoneType_list ⟨.bl _, H, by first | exact I | exact I.tok _, rfl, rfl, rfl⟩
    | bl _ => cases h; have e := ca.bl; subst e; cases rx; exact IsiPair.bool_list ⟨.bl _, H, by first | exact I | exact I.tok _, rfl, rfl, rfl⟩
    | int _ => cases h; have e := ca.int; subst e; obtain ⟨t, rfl⟩ := rx; exact IsiPair.int_list ⟨.bl _, H, by first | exact I | exact I.tok _, rfl, rfl, rfl⟩
    | str _ => cases h; have e := ca.str; subst e; obtain ⟨t, rfl⟩ := rx; exact IsiPair.str_list ⟨.bl _, H, by first | exact I | exact I.tok _, rfl, rfl, rfl⟩
    | tup _ => cases h; obtain ⟨p, vs, e, hp, _⟩ := ca.tup; subst e; cases rx; obtain ⟨_, _, ⟨o, ho, hc, _⟩, _⟩ := I.tuple hp; exact IsiPair.tuple_list ho hc ⟨.bl _, H, by first | exact I | exact I.tok _, rfl, rfl, rfl⟩
    | lst _ => cases h; obtain ⟨p, vs, e, hp, _⟩ := ca.lst; subst e; cases rx; obtain ⟨_, _, ⟨o, _, ho, hc, _⟩, _⟩ := I.list hp; exact IsiPair.list_list ho hc ⟨.bl _, H, by first | exact I | exact I.tok _, rfl, rfl, rfl⟩
    | dic _ _ => cases h
    | ref _ _ => cases h

/-! ### calls of one argument -/
theorem ints_rep {F : Addr → Prop} {ι : Io} {H : Hp} : ∀ {ds : List D} {is : List Int} {vs : List V}, D.intsOf ds = some is → XRepL X F ι H ds vs → vs = is.map V.int
  | [], is, _, h, r => by cases h; cases r; rfl
  | d :: ds, is, _, h, r => by
    cases r with
    | cons r1 r2 =>
      unfold D.intsOf at h
      split at h
      · rename_i q; cases q
      · rename_i i ds' q
        cases q
        cases e : D.intsOf ds with
        | none => rw [e] at h; cases h
        | some js =>
          rw [e] at h; cases h
          rw [ints_rep e r2, Cv.int (.inl r1)]; rfl
      · cases h
theorem bls_rep {F : Addr → Prop} {ι : Io} {H : Hp} : ∀ {ds : List D} {is : List Bool} {vs : List V}, D.blsOf ds = some is → XRepL X F ι H ds vs → vs = is.map V.bl
  | [], is, _, h, r => by cases h; cases r; rfl
  | d :: ds, is, _, h, r => by
    cases r with
    | cons r1 r2 =>
      unfold D.blsOf at h
      split at h
      · rename_i q; cases q
      · rename_i i ds' q
        cases q
        cases e : D.blsOf ds with
        | none => rw [e] at h; cases h
        | some js =>
          rw [e] at h; cases h
          rw [bls_rep e r2, Cv.bl (.inl r1)]; rfl
      · cases h
theorem sumI_eq : ∀ is : List Int, sumI is = is.sum
  | [] => rfl
  | i :: is => by rw [sumI, sumI_eq is, List.sum_cons]
theorem maxI_spec : ∀ (is : List Int) (i : Int), (maxI i is ∈ i :: is) ∧ ∀ y ∈ i :: is, y ≤ maxI i is
  | [], i => ⟨by simp [maxI], fun y h => by simp at h; simp [maxI, h]⟩
  | j :: js, i => by
    obtain ⟨h1, h2⟩ := maxI_spec js (if j > i then j else i)
    unfold maxI
    refine ⟨?_, fun y h => ?_⟩
    · rcases List.mem_cons.mp h1 with e | e
      · rw [e]; split <;> simp
      · simp [e]
    · have h3 := h2 (if j > i then j else i) (by simp)
      rcases List.mem_cons.mp h with rfl | h
      · clear h1 h2; generalize maxI (if j > y then j else y) js = m at h3 ⊢; split at h3 <;> omega
      · rcases List.mem_cons.mp h with rfl | h
        · clear h1 h2; generalize maxI (if y > i then y else i) js = m at h3 ⊢; split at h3 <;> omega
        · exact h2 y (List.mem_cons_of_mem _ h)
theorem minI_spec : ∀ (is : List Int) (i : Int), (minI i is ∈ i :: is) ∧ ∀ y ∈ i :: is, minI i is ≤ y
  | [], i => ⟨by simp [minI], fun y h => by simp at h; simp [minI, h]⟩
  | j :: js, i => by
    obtain ⟨h1, h2⟩ := minI_spec js (if j < i then j else i)
    unfold minI
    refine ⟨?_, fun y h => ?_⟩
    · rcases List.mem_cons.mp h1 with e | e
      · rw [e]; split <;> simp
      · simp [e]
    · have h3 := h2 (if j < i then j else i) (by simp)
      rcases List.mem_cons.mp h with rfl | h
      · clear h1 h2; generalize minI (if j < y then j else y) js = m at h3 ⊢; split at h3 <;> omega
      · rcases List.mem_cons.mp h with rfl | h
        · clear h1 h2; generalize minI (if y < i then y else i) js = m at h3 ⊢; split at h3 <;> omega
        · exact h2 y (List.mem_cons_of_mem _ h)
def CallS (X : Cx) (f : Value) (g : D → Out (D × K3)) : Prop := ∀ a z, g a = .ok z → ∀ F ι H S x, XSR X F ι H S → Cv X F ι H a x → wCall X f [x] H (Post X F ι H (z.1, z.2, S))
theorem p1_int : CallS X (.type "int") (p1O .int) := by
  intro a z h F ι H S x s ca
  cases a <;> simp only [p1O] at h <;> try (cases h; done)
  · cases h; have e := ca.bl; subst e; exact .of call_int1 (.inr ⟨_, rfl, Post.now s (.int _)⟩)
  · cases h; have e := ca.int; subst e; exact .of call_int1 (.inl ⟨_, rfl, Post.now s (.int _)⟩)
theorem p1_abs : CallS X (.builtin "abs") (p1O .abs) := by
  intro a z h F ι H S x s ca
  cases a <;> simp only [p1O] at h <;> try (cases h; done)
  · cases h; have e := ca.int; subst e; exact .of call_abs ⟨_, rfl, Post.now s (.int _)⟩
theorem p1_tuple : CallS X (.type "tuple") (p1O .tuple) := by
  intro a z h F ι H S x s ca
  cases a <;> simp only [p1O] at h <;> try (cases h; done)
  · cases h; obtain ⟨p, vs, rfl, hp, r⟩ := ca.tup
    exact .of call_tuple_of ⟨p, vs, rfl, .inr ⟨hp, Post.now s (.tup hp r)⟩⟩
  · cases h; obtain ⟨p, vs, rfl, hp, r⟩ := ca.lst
    exact .of call_tuple_of ⟨p, vs, rfl, .inl ⟨hp, fun t ht => Post.tup s ht r⟩⟩
theorem p1_any (hc : X.calm = true) : CallS X (.builtin "any") (p1O .any) := by
  intro a z h F ι H S x s ca
  cases a <;> simp only [p1O] at h <;> try (cases h; done)
  · split at h
    · rename_i bs e
      cases h; obtain ⟨p, vs, rfl, hp, r⟩ := ca.lst
      rw [bls_rep e r] at hp
      exact .of (cr_any hc) ⟨p, bs, rfl, hp, Post.now s (.bl _)⟩
    · cases h
theorem p1_all (hc : X.calm = true) : CallS X (.builtin "all") (p1O .all) := by
  intro a z h F ι H S x s ca
  cases a <;> simp only [p1O] at h <;> try (cases h; done)
  · split at h
    · rename_i bs e
      cases h; obtain ⟨p, vs, rfl, hp, r⟩ := ca.lst
      rw [bls_rep e r] at hp
      exact .of (cr_all hc) ⟨p, bs, rfl, hp, Post.now s (.bl _)⟩
    · cases h
theorem p1_sum (hc : X.calm = true) : CallS X (.builtin "sum") (p1O .sum) := by
  intro a z h F ι H S x s ca
  cases a <;> simp only [p1O] at h <;> try (cases h; done)
  · split at h
    · rename_i bs e
      cases h; obtain ⟨p, vs, rfl, hp, r⟩ := ca.lst
      rw [ints_rep e r] at hp
      exact .of (cr_sum hc) ⟨p, bs, rfl, hp, by rw [← sumI_eq]; exact Post.now s (.int _)⟩
    · cases h
theorem p1_max (hc : X.calm = true) : CallS X (.builtin "max") (p1O .max) := by
  intro a z h F ι H S x s ca
  cases a <;> simp only [p1O] at h <;> try (cases h; done)
  · split at h
    · rename_i i is e
      cases h; obtain ⟨p, vs, rfl, hp, r⟩ := ca.lst
      rw [ints_rep e r] at hp
      refine .of (cr_max hc) ⟨p, i :: is, rfl, hp, by simp, fun m hm hle => ?_⟩
      obtain ⟨h1, h2⟩ := maxI_spec is i
      have e : m = maxI i is := Int.le_antisymm (h2 m hm) (hle _ h1)
      subst e
      exact Post.now s (.int _)
    · cases h
theorem p1_min (hc : X.calm = true) : CallS X (.builtin "min") (p1O .min) := by
  intro a z h F ι H S x s ca
  cases a <;> simp only [p1O] at h <;> try (cases h; done)
  · split at h
    · rename_i i is e
      cases h; obtain ⟨p, vs, rfl, hp, r⟩ := ca.lst
      rw [ints_rep e r] at hp
      refine .of (cr_min hc) ⟨p, i :: is, rfl, hp, by simp, fun m hm hle => ?_⟩
      obtain ⟨h1, h2⟩ := minI_spec is i
      have e : m = minI i is := Int.le_antisymm (hle _ h1) (h2 m hm)
      subst e
      exact Post.now s (.int _)
    · cases h
def Call2S (X : Cx) (f : Value) (g : D → D → Out (D × K3)) : Prop := ∀ a b z, g a b = .ok z → ∀ F ι H S x y, XSR X F ι H S → Cv X F ι H a x → Cv X F ι H b y → wCall X f [x, y] H (Post X F ι H (z.1, z.2, S))
theorem p2_max (hc : X.calm = true) : Call2S X (.builtin "max") (p2O .max) := by
  intro a b z h F ι H S x y s ca cb
  cases a <;> cases b <;> simp only [p2O] at h <;> try (cases h; done)
  cases h; have e := ca.int; have e' := cb.int; subst e e'; exact .of (call_max2 hc) ⟨_, _, rfl, Post.now s (.int _)⟩
theorem p2_min (hc : X.calm = true) : Call2S X (.builtin "min") (p2O .min) := by
  intro a b z h F ι H S x y s ca cb
  cases a <;> cases b <;> simp only [p2O] at h <;> try (cases h; done)
  cases h; have e := ca.int; have e' := cb.int; subst e e'; exact .of (call_min2 hc) ⟨_, _, rfl, Post.now s (.int _)⟩
end
end Z
end
section
/-! ZG: dicts. -/
namespace Z
open PySem L2 PySem.Spec PyProof.Rows

/-! ### keys -/
theorem nkL_map : ∀ ds : List D, D.nkL ds = ds.map D.nk
  | [] => rfl
  | d :: ds => by rw [D.nkL, nkL_map ds]; rfl
mutual
theorem nk_depth : ∀ (n : Nat) (d : D), d.keyN n = true → (D.nk d).depth ≤ n
  | _, .non, _ => by simp [D.nk, NestedKey.depth]
  | _, .bl _, _ => by simp [D.nk, NestedKey.depth]
  | _, .int _, _ => by simp [D.nk, NestedKey.depth]
  | _, .str _, _ => by simp [D.nk, NestedKey.depth]
  | 0, .tup _, h => by simp [D.keyN] at h
  | n + 1, .tup ds, h => by simp only [D.nk, NestedKey.depth]; have := nk_depthL n ds (by simpa [D.keyN] using h); omega
  | _, .lst _, h => by simp [D.keyN] at h
  | _, .dic _ _, h => by simp [D.keyN] at h
  | _, .ref _ _, h => by simp [D.keyN] at h
theorem nk_depthL : ∀ (n : Nat) (ds : List D), D.keyNL n ds = true → NestedKey.depthAll (D.nkL ds) ≤ n
  | _, [], _ => by simp [D.nkL, NestedKey.depthAll]
  | n, d :: ds, h => by
    simp only [D.keyNL, Bool.and_eq_true] at h
    simp only [D.nkL, NestedKey.depthAll]
    have h1 := nk_depth n d h.1
    have h2 := nk_depthL n ds h.2
    omega
end
theorem b2i_eq (a b : Bool) : ((if a = true then (1 : Int) else 0) = if b = true then 1 else 0) ↔ a = b := by cases a <;> cases b <;> simp
mutual
theorem eqv_nk : ∀ (n m : Nat) (a b : D), a.keyN n = true → b.keyN m = true → D.eqv a b = NestedKey.beq a.nk b.nk
  | _, _, .lst _, _, h, _ => by simp [D.keyN] at h
  | _, _, .dic _ _, _, h, _ => by simp [D.keyN] at h
  | _, _, .ref _ _, _, h, _ => by simp [D.keyN] at h
  | _, _, _, .lst _, _, h => by simp [D.keyN] at h
  | _, _, _, .dic _ _, _, h => by simp [D.keyN] at h
  | _, _, _, .ref _ _, _, h => by simp [D.keyN] at h
  | 0, _, .tup _, _, h, _ => by simp [D.keyN] at h
  | _, 0, _, .tup _, _, h => by simp [D.keyN] at h
  | n + 1, m + 1, .tup as, .tup bs, h, h' => by simp only [D.nk, NestedKey.beq, D.eqv]; exact eqv_nkL n m as bs (by simpa [D.keyN] using h) (by simpa [D.keyN] using h')
  | _, _, .non, .non, _, _ => rfl
  | _, _, .non, .bl _, _, _ => rfl
  | _, _, .non, .int _, _, _ => rfl
  | _, _, .non, .str _, _, _ => rfl
  | _, _, .non, .tup _, _, _ => rfl
  | _, _, .bl _, .non, _, _ => rfl
  | _, _, .bl a, .bl b, _, _ => by cases a <;> cases b <;> rfl
  | _, _, .bl _, .int _, _, _ => by simp [D.eqv, D.nk, NestedKey.beq, Bool.beq_eq_decide_eq]
  | _, _, .bl _, .str _, _, _ => rfl
  | _, _, .bl _, .tup _, _, _ => rfl
  | _, _, .int _, .non, _, _ => rfl
  | _, _, .int _, .bl _, _, _ => by simp [D.eqv, D.nk, NestedKey.beq, Bool.beq_eq_decide_eq]
  | _, _, .int _, .int _, _, _ => by simp [D.eqv, D.nk, NestedKey.beq, Bool.beq_eq_decide_eq]
  | _, _, .int _, .str _, _, _ => rfl
  | _, _, .int _, .tup _, _, _ => rfl
  | _, _, .str _, .non, _, _ => rfl
  | _, _, .str _, .bl _, _, _ => rfl
  | _, _, .str _, .int _, _, _ => rfl
  | _, _, .str _, .str _, _, _ => by simp [D.eqv, D.nk, NestedKey.beq, Bool.beq_eq_decide_eq]
  | _, _, .str _, .tup _, _, _ => rfl
  | _, _, .tup _, .non, _, _ => rfl
  | _, _, .tup _, .bl _, _, _ => rfl
  | _, _, .tup _, .int _, _, _ => rfl
  | _, _, .tup _, .str _, _, _ => rfl
theorem eqv_nkL : ∀ (n m : Nat) (as bs : List D), D.keyNL n as = true → D.keyNL m bs = true → D.eqvL as bs = NestedKey.beqAll (D.nkL as) (D.nkL bs)
  | _, _, [], [], _, _ => rfl
  | _, _, [], _ :: _, _, _ => rfl
  | _, _, _ :: _, [], _, _ => rfl
  | n, m, a :: as, b :: bs, h, h' => by
    simp only [D.keyNL, Bool.and_eq_true] at h h'
    simp only [D.nkL, NestedKey.beqAll, D.eqvL]
    rw [eqv_nk n m a b h.1 h'.1, eqv_nkL n m as bs h.2 h'.2]
end
theorem tupKey_keyN {k : D} (h : k.tupKey = true) : k.keyN 8 = true := by
  simp only [D.tupKey, Bool.and_eq_true] at h; exact h.2
theorem eqv_key {a b : D} (ha : a.tupKey = true) (hb : b.tupKey = true) : D.eqv a b = decide (a.nk = b.nk) := by
  rw [NestedKey.decide_eq, eqv_nk 8 8 a b (tupKey_keyN ha) (tupKey_keyN hb)]
section
variable {X : Cx} {pins : List (Addr × Obj)} {σ : L2.St} {F : Addr → Prop} {ι : Io} {H : Hp} {s : Shared} {S : Sto}
mutual
theorem key_is (I : Inv X pins σ H s) : ∀ (n : Nat) (d : D) (v : V) (u : Value), d.keyN n = true → XRep X F ι H d v → RelV v u → NestedIs s.heap (D.nk d) u
  | _, .non, _, _, _, h, r => by have e := (Cv.non (.inl h)); subst e; cases r; exact .none
  | _, .bl b, _, _, _, h, r => by have e := (Cv.bl (.inl h)); subst e; cases r; exact .bool rfl
  | _, .int i, _, _, _, h, r => by have e := (Cv.int (.inl h)); subst e; obtain ⟨t, rfl⟩ := r; exact .int i t
  | _, .str x, _, _, _, h, r => by have e := (Cv.str (.inl h)); subst e; obtain ⟨t, rfl⟩ := r; exact .text x t
  | 0, .tup _, _, _, h, _, _ => by simp [D.keyN] at h
  | n + 1, .tup ds, _, _, hk, h, r => by
    obtain ⟨a, vs, rfl, hs, hr⟩ := Cv.tup (.inl h)
    cases r
    obtain ⟨its, rv, ⟨o, ho, hc, n', hd⟩, _⟩ := I.tuple hs
    exact .tup ho hc hd (key_isL I n ds vs its (by simpa [D.keyN] using hk) hr rv)
  | _, .lst _, _, _, h, _, _ => by simp [D.keyN] at h
  | _, .dic _ _, _, _, h, _, _ => by simp [D.keyN] at h
  | _, .ref _ _, _, _, h, _, _ => by simp [D.keyN] at h
theorem key_isL (I : Inv X pins σ H s) : ∀ (n : Nat) (ds : List D) (vs : List V) (us : List Value), D.keyNL n ds = true → XRepL X F ι H ds vs → Vals vs us → NestedAll s.heap (D.nkL ds) us
  | _, [], _, _, _, h, r => by cases h; cases r; exact .nil
  | n, d :: ds, _, _, hk, h, r => by
    simp only [D.keyNL, Bool.and_eq_true] at hk
    cases h with
    | cons h1 h2 =>
      cases r with
      | cons r1 r2 => exact .cons (key_is I n d _ _ hk.1 h1 r1) (key_isL I n ds _ _ hk.2 h2 r2)
end
theorem tupKey_is (I : Inv X pins σ H s) {k : D} (hk : k.tupKey = true) {v : V} (h : XRep X F ι H k v) : ∃ b, v = .ref b ∧ (nestedKind X.prog X.w).is s.heap k.nk b := by
  have hk' := hk
  simp only [D.tupKey, Bool.and_eq_true] at hk'
  cases k with
  | tup ds =>
    obtain ⟨a, vs, rfl, hs, hr⟩ := Cv.tup (.inl h)
    exact ⟨a, rfl, key_is I 8 _ _ _ hk'.2 h rfl, nk_depth 8 _ hk'.2⟩
  | _ => simp [D.isTup] at hk'

/-! ### a dict as the library has it -/
/-- a dict whose keys are tuples -/
theorem dic_H {bb : Bool} (I : Inv X pins σ H s) {ks ds : List D} {a : Addr} (t : XTopB X F ι H bb (.dic ks ds) a) (hk : ks.all D.tupKey = true) :
    (a == sysModules) = false ∧ ∃ (xs : List Ent) (vs : List V), s.heap.DictOfH (nestedKind X.prog X.w) a xs ∧ xs.length ≤ sizeLine ∧ XRepL X F ι H ks (xs.map fun x => V.ref x.2.1) ∧ ks.map D.nk = xs.map (·.1) ∧ Vals vs (xs.map fun x => x.2.2) ∧ XRepL X F ι H ds vs := by
  cases t with
  | @dicK _ _ kvs _ h r =>
    obtain ⟨z, hd, vs, rel, o, es, ep, h1, h2, h3, h4, h5, h6⟩ := dk_rd I.hok h.rd
    cases kvs with
    | nil =>
      cases rel
      refine ⟨hd, [], [], ⟨o, es, ep, h1, h2, h3, ?_, by simp, by simp⟩, Nat.zero_le _, .nil, rfl, .nil, r⟩
      have e := h5.length
      simp at e
      simp [e]
    | cons kv kvs =>
      simp only [List.map_cons, List.all_cons, Bool.and_eq_true] at hk
      obtain ⟨⟨k, v⟩, _⟩ := (⟨kv, trivial⟩ : { _x : Key × V // True })
      cases kv with
      | mk k v => cases k <;> simp [keyD, D.tupKey, D.isTup] at hk
  | @dicT _ _ xs vs _ _ h0 h1 h2 r1 h3 h4 h5 h6 r2 =>
    obtain ⟨⟨hd, o, es, ep, q1, q2, q3, q4⟩, _⟩ := (show ObjOk X.prog X.w H s.heap a (.ext (entPhi X.prog X.w a xs)) from rd_of I.hok h2.rd)
    refine ⟨hd, xs, vs, ⟨o, es, ep, q1, q2, q3, q4, fun x hx => ?_, h5⟩, h1, r1, h4, h6, r2⟩
    obtain ⟨i, hi⟩ := List.getElem?_of_mem hx
    have hv : (xs.map fun x => V.ref x.2.1)[i]? = some (V.ref x.2.1) := by rw [List.getElem?_map, hi]; rfl
    obtain ⟨k, hkk, rk⟩ := r1.atV hv
    obtain ⟨b, e, q⟩ := tupKey_is I (h3 k (List.mem_of_getElem? hkk)) rk
    cases e
    have e1 : (ks.map D.nk)[i]? = some k.nk := by rw [List.getElem?_map, hkk]; rfl
    rw [h4, List.getElem?_map, hi] at e1
    have e2 : k.nk = x.1 := (Option.some.inj e1).symm
    rw [← e2]
    exact q
/-- a dict whose keys are ints and texts -/
theorem dic_K {bb : Bool} {ks ds : List D} {a : Addr} (t : XTopB X F ι H bb (.dic ks ds) a) (hk : ks.all D.flatKey = true) :
    ∃ kvs : List (Key × V), At bb H a (.dK kvs) ∧ ks = kvs.map (fun p => keyD p.1) ∧ XRepL X F ι H ds (kvs.map Prod.snd) := by
  cases t with
  | @dicK _ _ kvs _ h r => exact ⟨kvs, h, rfl, r⟩
  | @dicT _ _ xs vs _ _ h0 h1 h2 r1 h3 h4 h5 h6 r2 =>
    exfalso
    cases ks with
    | nil => have e := congrArg List.length h4; simp at e; exact h0 (List.eq_nil_of_length_eq_zero e.symm)
    | cons k ks =>
      simp only [List.all_cons, Bool.and_eq_true] at hk
      have q := h3 k (by simp)
      simp only [D.tupKey, Bool.and_eq_true] at q
      cases k <;> simp [D.flatKey, D.isTup] at hk q
/-- what is looked up -/
theorem dGet_H {k : D} (hk : k.tupKey = true) : ∀ {ks ds : List D} {xs : List Ent} {vs : List V}, ks.all D.tupKey = true → ks.map D.nk = xs.map (·.1) → Vals vs (xs.map fun x => x.2.2) → XRepL X F ι H ds vs →
    (∀ d, dGet k ks ds = some d → ∃ p v, atKey xs k.nk = some p ∧ RelV v p.2 ∧ XRep X F ι H d v) ∧ (dGet k ks ds = none → atKey xs k.nk = none)
  | [], ds, [], vs, _, _, _, _ => ⟨fun d h => by simp [dGet] at h, fun _ => rfl⟩
  | [], _, _ :: _, _, _, h, _, _ => by simp at h
  | _ :: _, _, [], _, _, h, _, _ => by simp at h
  | j :: ks, ds, x :: xs, vs, ha, hm, rv, rd => by
    simp only [List.all_cons, Bool.and_eq_true] at ha
    simp only [List.map_cons, List.cons.injEq] at hm
    cases rv with
    | cons r1 r2 =>
      cases rd with
      | cons q1 q2 =>
        have ih := dGet_H hk ha.2 hm.2 r2 q2
        have e := eqv_key ha.1 hk
        unfold dGet atKey
        rw [List.find?_cons]
        by_cases hj : j.nk = k.nk
        · have e' : D.eqv j k = true := by rw [e]; exact decide_eq_true hj
          have e2 : decide (x.1 = k.nk) = true := by rw [← hm.1]; exact decide_eq_true hj
          rw [if_pos e', e2]
          exact ⟨fun d h => by cases h; exact ⟨_, _, rfl, r1, q1⟩, fun h => by cases h⟩
        · have e' : ¬ D.eqv j k = true := by rw [e]; simp [hj]
          have e2 : decide (x.1 = k.nk) = false := by rw [← hm.1]; exact decide_eq_false hj
          rw [if_neg e', e2]
          exact ih
def keyOf : D → Key
  | .str x => .inr x
  | .int i => .inl i
  | _ => .inl 0
theorem keyD_of {k : D} (h : k.flatKey = true) : keyD (keyOf k) = k := by cases k <;> first | rfl | simp [D.flatKey] at h
theorem eqv_keyD (j k : Key) : D.eqv (keyD j) (keyD k) = decide (j = k) := by
  cases j <;> cases k <;> simp [keyD, D.eqv, Bool.beq_eq_decide_eq]
theorem dGet_K {k : Key} : ∀ {kvs : List (Key × V)} {ds : List D}, XRepL X F ι H ds (kvs.map Prod.snd) →
    (∀ d, dGet (keyD k) (kvs.map fun p => keyD p.1) ds = some d → ∃ v, valV kvs k = some v ∧ XRep X F ι H d v) ∧ (dGet (keyD k) (kvs.map fun p => keyD p.1) ds = none → valV kvs k = none)
  | [], ds, _ => ⟨fun d h => by simp [dGet] at h, fun _ => rfl⟩
  | kv :: kvs, ds, r => by
    cases r with
    | cons q1 q2 =>
      have ih := dGet_K (k := k) q2
      simp only [List.map_cons]
      unfold dGet
      rw [eqv_keyD]
      by_cases hj : kv.1 = k
      · rw [if_pos (decide_eq_true hj), valV_pos hj]
        exact ⟨fun d h => by cases h; exact ⟨_, rfl, q1⟩, fun h => by cases h⟩
      · rw [if_neg (by simp [hj]), valV_neg hj]
        exact ih
theorem keyRel {k : D} (hk : k.flatKey = true) {v : V} (h : XRep X F ι H k v) : v = kV (keyOf k) := by
  cases k with
  | int i => exact Cv.int (.inl h)
  | str x => exact Cv.str (.inl h)
  | _ => simp [D.flatKey] at hk
theorem dgetK {H : Hp} {a : Addr} {kvs : List (Key × V)} {k : Key} (e : Rd H a (.dK kvs)) : DGet H a (kV k) (valV kvs k) := .inl ⟨kvs, k, e, rfl, rfl⟩
/-- k in d -/
theorem dic_in {k : Nat} (hr : Room k X.A) (neg : Bool) {a c : D} {r : Bool} {ks vs : List D} (hc : c = .dic ks vs) (h : inO a c = .ok r) {x y : V} (ca : XRep X F ι H a x) (cb : Cv X F ι H c y) :
    wOp X (compareOp (if neg then .NotIn else .In)) x y H fun v H' => v = .bl (if neg then !r else r) ∧ H' = H := by
  subst hc
  change (if dicOk a ks then Out.ok (dGet a ks vs).isSome else .no) = .ok r at h
  split at h
  · rename_i hk
    cases h
    intro pins s σ v u I rx ry
    obtain ⟨p, bb, rfl, t⟩ := cb.dic
    cases (show u = Value.ref p from ry)
    simp only [dicOk, Bool.or_eq_true, Bool.and_eq_true] at hk
    rcases hk with ⟨h1, h2⟩ | ⟨h1, h2⟩
    · obtain ⟨kvs, e, rfl, rd⟩ := dic_K t h2
      have e1 := keyRel h1 ca; subst e1
      obtain ⟨g1, g2⟩ := dGet_K (k := keyOf a) rd
      rw [keyD_of h1] at g1 g2
      have hs : (valV kvs (keyOf a)).isSome = (dGet a (kvs.map fun p => keyD p.1) vs).isSome := by
        cases q : dGet a (kvs.map fun p => keyD p.1) vs with
        | none => rw [g2 q]; rfl
        | some d => obtain ⟨v, e, _⟩ := g1 d q; rw [e]; rfl
      have hu := hu_of hr
      cases neg with
      | false => exact d_in hu I (dgetK e.rd) rx fun s' I' => ⟨.bl _, H, I', rfl, by rw [hs]; exact ⟨rfl, rfl⟩⟩
      | true => exact d_notIn hu I (dgetK e.rd) rx fun s' I' => ⟨.bl _, H, I', rfl, by rw [hs]; exact ⟨rfl, rfl⟩⟩
    · obtain ⟨hd, xs, ws, dh, _, rk, hm, rv, rd⟩ := dic_H I t h2
      obtain ⟨b, rfl, hb⟩ := tupKey_is I h1 ca
      cases (show v = Value.ref b from rx)
      obtain ⟨g1, g2⟩ := dGet_H h1 h2 hm rv rd
      have hs : (atKey xs a.nk).isSome = (dGet a ks vs).isSome := by
        cases q : dGet a ks vs with
        | none => rw [g2 q]; rfl
        | some d => obtain ⟨v, _, e, _⟩ := g1 d q; rw [e]; rfl
      have hroom : (nestedKind X.prog X.w).room X.A.in1 := by have := hr.un; show X.A.units + 1 + 8 < cLine; omega
      cases neg with
      | false => exact wpAny_in_heap hroom hb hd dh ⟨.bl _, H, I.tok _, rfl, by rw [hs]; exact ⟨rfl, rfl⟩⟩
      | true => exact wpAny_notIn_heap hroom hb hd dh ⟨.bl _, H, I.tok _, rfl, by rw [hs]; exact ⟨rfl, rfl⟩⟩
  · cases h
/-- d[k] -/
theorem dic_get {k : Nat} (hr : Room k X.A) {a d : D} {ks vs : List D} (hk : dicOk a ks = true) (h : dGet a ks vs = some d) {x : V} {p : Addr} (ca : XRep X F ι H a x) {bb : Bool} (t : XTopB X F ι H bb (.dic ks vs) p) (I : Inv X pins σ H s) {u : Value} (rx : RelV x u) :
    wpAny (model X.prog X.w) X.A (getItem (.ref p) u) (EP X pins σ fun v H' => H' = H ∧ XRep X F ι H d v) X.xe s := by
  simp only [dicOk, Bool.or_eq_true, Bool.and_eq_true] at hk
  rcases hk with ⟨h1, h2⟩ | ⟨h1, h2⟩
  · obtain ⟨kvs, e, rfl, rd⟩ := dic_K t h2
    have e1 := keyRel h1 ca; subst e1
    obtain ⟨g1, g2⟩ := dGet_K (k := keyOf a) rd
    rw [keyD_of h1] at g1 g2
    obtain ⟨v, ev, rv⟩ := g1 d h
    exact d_getItem (hu_of hr) I (v := v) (by rw [← ev]; exact dgetK e.rd) rx fun w' s' I' r' => ⟨v, H, I', r', rfl, rv⟩
  · obtain ⟨hd, xs, ws, dh, _, rk, hm, rv, rd⟩ := dic_H I t h2
    obtain ⟨b, rfl, hb⟩ := tupKey_is I h1 ca
    cases (show u = Value.ref b from rx)
    obtain ⟨g1, g2⟩ := dGet_H h1 h2 hm rv rd
    obtain ⟨q, v, e, r1, r2⟩ := g1 d h
    have hroom : (nestedKind X.prog X.w).room X.A.in1 := by have := hr.un; show X.A.units + 1 + 8 < cLine; omega
    exact wpAny_getItem_heap hroom hb dh e ⟨v, H, I.tok _, r1, rfl, r2⟩
end
end Z
end
section
/-! ZH: objects written. -/
namespace Z
open PySem L2 PySem.Spec PyProof.Rows
section
variable {X : Cx} {pins : List (Addr × Obj)} {σ : L2.St} {F : Addr → Prop} {ι : Io} {H : Hp} {s : Shared} {S : Sto}
theorem Ext.write {a : Addr} {o : HO} (mu : Mut (H a)) (nf : ¬ F a) : Ext F ι H F ι (upd H a o) where
  f := fun b u f h => by
    have : b ≠ a := fun e => by subst e; exact nf f
    rw [upd_ne this]; exact h
  t := fun b xs h => by
    have : b ≠ a := fun e => by subst e; rw [h] at mu; exact mu
    rw [upd_ne this]; exact h
  z := fun b o' u h => by
    have : b ≠ a := fun e => by subst e; rw [h] at mu; exact mu
    rw [upd_ne this]; exact h
  fm := fun _ h => h
  im := fun _ _ _ h => h
theorem entPhi_ok {P : Program} {w : World} {H' : Hp} {h' : Heap} {a : Addr} {xs : List Ent} (hd : (a == sysModules) = false) (d : h'.DictOfH (nestedKind P w) a xs) : ObjOk P w H' h' a (.ext (entPhi P w a xs)) := by
  obtain ⟨o, es, ep, h1, h2, h3, h4, _, _⟩ := d
  refine ⟨⟨hd, o, es, ep, h1, h2, h3, h4⟩, ⟨o, h1⟩, fun g1 g2 q k => ?_⟩
  obtain ⟨q0, o', es', ep', q1, q2, q3, q4⟩ := q
  exact ⟨q0, o', es', ep', k _ q1, q2, q3, q4⟩

/-! ### stored in a dict -/
theorem putK_cons_eq {k : Key} {y : V} {p : Key × V} {r : List (Key × V)} (e : p.1 = k) (nd : k ∉ r.map (·.1)) : putK (p :: r) k y = (p.1, y) :: r := by
  unfold putK
  have h1 : ((p :: r).any fun kv => decide (kv.1 = k)) = true := by simp [e]
  rw [if_pos h1, List.map_cons, if_pos e]
  congr 1
  rw [List.map_congr_left (g := id)]
  · simp
  · intro q hq
    rw [if_neg (fun z => nd (by rw [← z]; exact List.mem_map_of_mem hq))]; rfl
theorem putK_cons_ne {k : Key} {y : V} {p : Key × V} {r : List (Key × V)} (e : ¬ p.1 = k) : putK (p :: r) k y = p :: putK r k y := by
  unfold putK
  have h1 : ((p :: r).any fun kv => decide (kv.1 = k)) = r.any fun kv => decide (kv.1 = k) := by simp [e]
  rw [h1]
  split
  · rw [List.map_cons, if_neg e]
  · rfl
theorem dPut_K {k : Key} {v : D} {y : V} (ry : XRep X F ι H v y) : ∀ {kvs : List (Key × V)} {ds : List D}, (kvs.map (·.1)).Nodup → XRepL X F ι H ds (kvs.map Prod.snd) →
    (dPut (keyD k) v (kvs.map fun p => keyD p.1) ds).1 = (putK kvs k y).map (fun p => keyD p.1) ∧ XRepL X F ι H (dPut (keyD k) v (kvs.map fun p => keyD p.1) ds).2 ((putK kvs k y).map Prod.snd)
  | [], ds, _, r => by
    cases r
    exact ⟨rfl, .cons ry .nil⟩
  | p :: kvs, ds, nd, r => by
    cases r with
    | @cons d ds' _ _ q1 q2 =>
      simp only [List.map_cons, List.nodup_cons] at nd ⊢
      have ih := dPut_K (k := k) ry nd.2 q2
      unfold dPut
      rw [eqv_keyD]
      by_cases hj : p.1 = k
      · rw [if_pos (decide_eq_true hj), putK_cons_eq hj (by rw [← hj]; exact nd.1)]
        exact ⟨rfl, .cons ry q2⟩
      · rw [if_neg (by simp [hj]), putK_cons_ne hj]
        exact ⟨by simp [ih.1], .cons q1 ih.2⟩
theorem storedH_cons_eq {k : NestedKey} {b : Addr} {u : Value} {p : Ent} {r : List Ent} (e : p.1 = k) (nd : k ∉ r.map (·.1)) : storedH (p :: r) k b u = (p.1, p.2.1, u) :: r := by
  have h1 : atKey (p :: r) k = some p.2 := by unfold atKey; rw [List.find?_cons]; simp [e]
  rw [storedH_old h1, List.map_cons]
  unfold putAt
  rw [if_pos e]
  congr 1
  rw [List.map_congr_left (g := id)]
  · simp
  · intro q hq
    rw [if_neg (fun z => nd (by rw [← z]; exact List.mem_map_of_mem hq))]; rfl
theorem storedH_cons_ne {k : NestedKey} {b : Addr} {u : Value} {p : Ent} {r : List Ent} (e : ¬ p.1 = k) : storedH (p :: r) k b u = p :: storedH r k b u := by
  have h1 : atKey (p :: r) k = atKey r k := by unfold atKey; rw [List.find?_cons]; simp [e]
  unfold storedH
  rw [h1]
  split
  · rw [List.map_cons]; unfold putAt; rw [if_neg e]
  · rfl
theorem dPut_H {k v : D} {b : Addr} {y : V} {u : Value} (hk : k.tupKey = true) (rk : XRep X F ι H k (.ref b)) (ru : RelV y u) (ry : XRep X F ι H v y) : ∀ {ks ds : List D} {xs : List Ent} {vs : List V}, ks.all D.tupKey = true → (xs.map (·.1)).Nodup →
    XRepL X F ι H ks (xs.map fun x => V.ref x.2.1) → ks.map D.nk = xs.map (·.1) → Vals vs (xs.map fun x => x.2.2) → XRepL X F ι H ds vs →
    ∃ vs', XRepL X F ι H (dPut k v ks ds).1 ((storedH xs k.nk b u).map fun x => V.ref x.2.1) ∧ (∀ j ∈ (dPut k v ks ds).1, j.tupKey = true) ∧ (dPut k v ks ds).1.map D.nk = (storedH xs k.nk b u).map (·.1) ∧
      Vals vs' ((storedH xs k.nk b u).map fun x => x.2.2) ∧ XRepL X F ι H (dPut k v ks ds).2 vs'
  | [], ds, [], vs, _, _, _, _, rv, rd => by
    cases rv; cases rd
    exact ⟨[y], .cons rk .nil, fun j hj => by simp [dPut] at hj; rw [hj]; exact hk, rfl, .cons ru .nil, .cons ry .nil⟩
  | [], _, _ :: _, _, _, _, _, h, _, _ => by simp at h
  | _ :: _, _, [], _, _, _, _, h, _, _ => by simp at h
  | j :: ks, ds, x :: xs, vs, ha, nd, rk', hm, rv, rd => by
    simp only [List.all_cons, Bool.and_eq_true] at ha
    simp only [List.map_cons, List.cons.injEq] at hm
    simp only [List.map_cons, List.nodup_cons] at nd
    cases rv with
    | @cons v0 u0 vs0 us0 r1 r2 =>
      cases rd with
      | @cons d0 ds0 _ _ q1 q2 =>
        cases rk' with
        | cons k1 k2 =>
          have e := eqv_key ha.1 hk
          unfold dPut
          by_cases hj : j.nk = k.nk
          · have e' : D.eqv j k = true := by rw [e]; exact decide_eq_true hj
            have e2 : x.1 = k.nk := by rw [← hm.1]; exact hj
            rw [if_pos e', storedH_cons_eq e2 (by rw [← e2]; exact nd.1)]
            refine ⟨y :: vs0, .cons k1 k2, fun i hi => ?_, by simp [hm.1, hm.2], .cons ru r2, .cons ry q2⟩
            rcases List.mem_cons.mp hi with rfl | hi
            · exact ha.1
            · exact List.all_eq_true.mp ha.2 i hi
          · have e' : ¬ D.eqv j k = true := by rw [e]; simp [hj]
            have e2 : ¬ x.1 = k.nk := by rw [← hm.1]; exact hj
            obtain ⟨vs', i1, i2, i3, i4, i5⟩ := dPut_H hk rk ru ry ha.2 nd.2 k2 hm.2 r2 q2
            rw [if_neg e', storedH_cons_ne e2]
            refine ⟨v0 :: vs', .cons k1 i1, fun i hi => ?_, by simp [hm.1, i3], .cons r1 i4, .cons q1 i5⟩
            rcases List.mem_cons.mp hi with rfl | hi
            · exact ha.1
            · exact i2 i hi
/-- behind a write at p -/
def Wrote (X : Cx) (F : Addr → Prop) (ι : Io) (H : Hp) (p : Addr) (c : D) (H' : Hp) : Prop := ∃ o, H' = upd H p o ∧ XTop X F ι H' c p
theorem dic_nodup (I : Inv X pins σ H s) {kvs : List (Key × V)} {a : Addr} (h : H a = some (.dK kvs)) : (kvs.map (·.1)).Nodup := by
  obtain ⟨z, hd, vs, rel, o, es, ep, h1, h2, h3, h4, h5, h6⟩ := I.hok a _ h
  rw [rel.keys]; exact h6
theorem top_K {kvs : List (Key × V)} {ks ds : List D} {p : Addr} (h : H p = some (.dK kvs)) (e : ks = kvs.map fun p => keyD p.1) (r : XRepL X F ι H ds (kvs.map Prod.snd)) : XTop X F ι H (.dic ks ds) p := by
  subst e; exact .dicK h r
theorem storedH_len (xs : List Ent) (k : NestedKey) (b : Addr) (u : Value) : (storedH xs k b u).length ≤ xs.length + 1 := by
  unfold storedH; split <;> simp
theorem storedH_ne (xs : List Ent) (k : NestedKey) (b : Addr) (u : Value) : storedH xs k b u ≠ [] := by
  unfold storedH
  split
  · rename_i h
    cases xs with
    | nil => simp [atKey] at h
    | cons x xs => simp
  · simp
/-- c[k] = v -/
theorem put_ok {n : Nat} (hr : Room n X.A) {c k v c' : D} (h : putO c k v = .ok c') {p : Addr} {x y : V} (t : XTop X F ι H c p) (nf : ¬ F p) (rk : XRep X F ι H k x) (ry : XRep X F ι H v y) (I : Inv X pins σ H s) {i u : Value} (rx : RelV x i) (ru : RelV y u) :
    wpAny (model X.prog X.w) X.A (setItem (.ref p) i u) (fun _ s' => ∃ H', Inv X pins σ H' s' ∧ Wrote X F ι H p c' H') X.xe s := by
  have mu := t.mut
  cases c with
  | lst ds =>
    cases k with
    | int j =>
      simp only [putO] at h
      split at h
      · rename_i j' e
        cases h
        cases t with
        | @lst _ vs _ hH r =>
          have ex := Cv.int (.inl rk); subst ex
          refine set_list pins s σ H _ _ _ _ _ _ _ I (show RelV (.ref p) (.ref p) from rfl) rx ru ⟨p, vs, j, j', rfl, rfl, hH, by rw [← r.length]; exact e, _, rfl, ?_⟩
          exact .lst upd_same ((r.set ry j').mono (Ext.write mu nf))
      · cases h
    | _ => simp [putO] at h
  | dic ks ds =>
    simp only [putO] at h
    split at h
    · rename_i hk
      cases h
      simp only [Bool.and_eq_true, decide_eq_true_eq] at hk
      obtain ⟨hk, hz⟩ := hk
      simp only [dicOk, Bool.or_eq_true, Bool.and_eq_true] at hk
      rcases hk with ⟨h1, h2⟩ | ⟨h1, h2⟩
      · obtain ⟨kvs, e, rfl, rd⟩ := dic_K t h2
        have e1 := keyRel h1 rk; subst e1
        have nd := dic_nodup I e
        have q := dPut_K (k := keyOf k) ry nd rd
        rw [keyD_of h1] at q
        refine d_setItem (hu_of hr) I (DPut.k (v := y) e (by rw [List.length_map] at hz; rw [line_eq]; exact hz)) rx ru fun s' I' => ⟨_, I', _, rfl, ?_⟩
        exact top_K upd_same q.1 (q.2.mono (Ext.write mu nf))
      · obtain ⟨hd, xs, ws, dh, hl, rk', hm, rv, rd⟩ := dic_H I t h2
        obtain ⟨b, rfl, hb⟩ := tupKey_is I h1 rk
        cases (show i = Value.ref b from rx)
        have hroom : (nestedKind X.prog X.w).room X.A.in1 := by have := hr.un; show X.A.units + 1 + 8 < cLine; omega
        have nd : (xs.map (·.1)).Nodup := by obtain ⟨_, _, _, _, _, _, _, _, nd⟩ := id dh; exact nd
        have hxl : xs.length = ks.length := by have := congrArg List.length hm; simpa using this.symm
        refine wpAny_setItem_heap (hsz := hl) hroom hb dh fun h' dh' hs => ?_
        obtain ⟨vs', i1, i2, i3, i4, i5⟩ := dPut_H h1 rk ru ry h2 nd rk' hm rv rd
        have he : ∃ q, h'.get? p = some q := let ⟨q, _, _, hq, _⟩ := dh'; ⟨q, hq⟩
        have nd' : ((storedH xs k.nk b u).map (·.1)).Nodup := by obtain ⟨_, _, _, _, _, _, _, _, nd⟩ := id dh'; exact nd
        have E := Ext.write (ι := ι) (o := .ext (entPhi X.prog X.w p (storedH xs k.nk b u))) mu nf
        refine ⟨_, d_write I mu hs he (entPhi_ok hd dh'), _, rfl, .dicT (storedH_ne _ _ _ _) ?_ upd_same (i1.mono E) i2 i3 nd' i4 (i5.mono E)⟩
        have := storedH_len xs k.nk b u
        rw [line_eq]; omega
    · cases h
  | _ => simp [putO] at h
/-- c.setdefault(k, v) -/
theorem sd_ok {n : Nat} (hr : Room n X.A) {c k v : D} {z : D × D} (h : sdO c k v = .ok z) {p : Addr} {x y : V} (t : XTop X F ι H c p) (nf : ¬ F p) (rk : XRep X F ι H k x) (ry : XRep X F ι H v y) (I : Inv X pins σ H s) {i u : Value} (rx : RelV x i) (ru : RelV y u) :
    wpAny (model X.prog X.w) X.A (call (.builtin "dict.setdefault") [.ref p, i, u]) (EP X pins σ fun w H' => XRep X F ι H' z.1 w ∧ (H' = H ∧ z.2 = c ∨ Wrote X F ι H p z.2 H')) X.xe s := by
  have mu := t.mut
  cases c with
  | dic ks ds =>
    simp only [sdO] at h
    split at h
    · rename_i hk
      simp only [Bool.and_eq_true, decide_eq_true_eq] at hk
      obtain ⟨hk, hz⟩ := hk
      simp only [dicOk, Bool.or_eq_true, Bool.and_eq_true] at hk
      rcases hk with ⟨h1, h2⟩ | ⟨h1, h2⟩
      · obtain ⟨kvs, e, rfl, rd⟩ := dic_K t h2
        have e1 := keyRel h1 rk; subst e1
        have nd := dic_nodup I e
        have q := dPut_K (k := keyOf k) ry nd rd
        obtain ⟨g1, g2⟩ := dGet_K (k := keyOf k) rd
        rw [keyD_of h1] at q g1 g2
        refine d_setd (k := keyOf k) (d := y) I e rx ru (by rw [List.length_map] at hz; rw [line_eq]; exact hz) (fun v' hv w' s' I' rw' => ?_) fun hn w' s' I' rw' => ?_
        · split at h
          · rename_i d hd
            cases h
            obtain ⟨v2, e2, r2⟩ := g1 d hd
            rw [hv] at e2; cases e2
            exact ⟨v', H, I', rw', r2, .inl ⟨rfl, rfl⟩⟩
          · rename_i hd
            rw [g2 hd] at hv; cases hv
        · split at h
          · rename_i d hd
            obtain ⟨v2, e2, r2⟩ := g1 d hd
            rw [hn] at e2; cases e2
          · cases h
            have E := Ext.write (ι := ι) (o := .dK (putK kvs (keyOf k) y)) mu nf
            exact ⟨y, _, I', rw', ry.mono E, .inr ⟨_, rfl, top_K upd_same q.1 (q.2.mono E)⟩⟩
      · obtain ⟨hd, xs, ws, dh, hl, rk', hm, rv, rd⟩ := dic_H I t h2
        obtain ⟨b, rfl, hb⟩ := tupKey_is I h1 rk
        cases (show i = Value.ref b from rx)
        have hroom : (nestedKind X.prog X.w).room X.A.in1 := by have := hr.un; show X.A.units + 1 + 8 < cLine; omega
        have nd : (xs.map (·.1)).Nodup := by obtain ⟨_, _, _, _, _, _, _, _, nd⟩ := id dh; exact nd
        have hxl : xs.length = ks.length := by have := congrArg List.length hm; simpa using this.symm
        obtain ⟨g1, g2⟩ := dGet_H h1 h2 hm rv rd
        refine call_setdefault_heap (hsz := hl) hroom hb hd dh (fun q hq => ?_) fun hn h' dh' hs => ?_
        · split at h
          · rename_i d hdd
            cases h
            obtain ⟨q2, v2, e2, r1, r2⟩ := g1 d hdd
            rw [hq] at e2; cases e2
            exact ⟨v2, H, I.tok _, r1, r2, .inl ⟨rfl, rfl⟩⟩
          · rename_i hdd
            rw [g2 hdd] at hq; cases hq
        · split at h
          · rename_i d hdd
            obtain ⟨q2, v2, e2, r1, r2⟩ := g1 d hdd
            rw [hn] at e2; cases e2
          · cases h
            obtain ⟨vs', i1, i2, i3, i4, i5⟩ := dPut_H h1 rk ru ry h2 nd rk' hm rv rd
            have he : ∃ q, h'.get? p = some q := let ⟨q, _, _, hq, _⟩ := dh'; ⟨q, hq⟩
            have nd' : ((storedH xs k.nk b u).map (·.1)).Nodup := by obtain ⟨_, _, _, _, _, _, _, _, nd⟩ := id dh'; exact nd
            have E := Ext.write (ι := ι) (o := .ext (entPhi X.prog X.w p (storedH xs k.nk b u))) mu nf
            refine ⟨y, _, d_write I mu hs he (entPhi_ok hd dh'), ru, ry.mono E, .inr ⟨_, rfl, .dicT (storedH_ne _ _ _ _) ?_ upd_same (i1.mono E) i2 i3 nd' i4 (i5.mono E)⟩⟩
            have := storedH_len xs k.nk b u
            rw [line_eq]; omega
    · cases h
  | _ => simp [sdO] at h
end
end Z
end
section
/-! ZI: subscripts, len, list of a dict. -/
namespace Z
open PySem L2 PySem.Spec PyProof.Rows
section
variable {X : Cx} {pins : List (Addr × Obj)} {σ : L2.St} {F : Addr → Prop} {ι : Io} {H : Hp} {s : Shared} {S : Sto}
def wIx (X : Cx) (x y : V) (H : Hp) (Q : VK) : Prop := ∀ value slice pins s σ v u, Inv X pins σ H s → RelV x v → RelV y u → subscripted slice false v u = operate [v, u] (getItem v u) → wpAny (model X.prog X.w) X.A (subscriptTail value slice v u) (EP X pins σ Q) X.xe s
theorem ixr_w : IxR X (wIx X) := fun value slice pins s σ H x y v u Q I rx ry q hs => q value slice pins s σ v u I rx ry hs
theorem wIx.of {r : R2} (h : IxR X r) {x y : V} {H : Hp} {Q : VK} (q : r x y H Q) : wIx X x y H Q := fun value slice pins s σ v u I rx ry hs => h value slice pins s σ H x y v u Q I rx ry q hs
theorem keysK : ∀ kvs : List (Key × V), XRepL X F ι H (kvs.map fun p => keyD p.1) (kvs.map fun p => kV p.1)
  | [] => .nil
  | (.inl i, v) :: kvs => .cons (.int i) (keysK kvs)
  | (.inr x, v) :: kvs => .cons (.str x) (keysK kvs)
/-- a dict's raw entries -/
theorem dic_raw {bb : Bool} (I : Inv X pins σ H s) {ks ds : List D} {a : Addr} (t : XTopB X F ι H bb (.dic ks ds) a) :
    (a == sysModules) = false ∧ ∃ (es : Array DictEntry) (ep : Nat) (vs : List V), s.heap.DictRaw a es ep ∧ es.size = vs.length ∧ vs.length ≤ sizeLine ∧ XRepL X F ι H ks vs ∧ ∀ i (hi : i < es.size), ∃ v, vs[i]? = some v ∧ RelV v es[i].key := by
  cases t with
  | @dicK _ _ kvs _ h r =>
    obtain ⟨z, hd, vs, rel, dd⟩ := dk_rd I.hok h.rd
    obtain ⟨es, ep, h1, h2, h3⟩ := Heap.DictOf.raw dd
    have hl := rel.length
    refine ⟨hd, es, ep, kvs.map fun p => kV p.1, h1, by rw [List.length_map]; omega, by rw [List.length_map]; exact z, ?_, fun i hi => ?_⟩
    · exact keysK kvs
    · have hi' : i < vs.length := by omega
      obtain ⟨q1, q2⟩ := h3 i hi vs[i].1 vs[i].2 (by rw [List.getElem?_eq_getElem hi'])
      have hk := rel.keys
      have e1 : (kvs.map (·.1))[i]? = some vs[i].1 := by rw [hk, List.getElem?_map, List.getElem?_eq_getElem hi']; rfl
      rw [List.getElem?_map] at e1
      obtain ⟨p, hp, he⟩ := Option.map_eq_some_iff.mp e1
      refine ⟨kV p.1, by rw [List.getElem?_map, hp]; rfl, ?_⟩
      rw [he]
      exact keyIs_rel q1
  | @dicT _ _ xs vs _ _ h0 h1 h2 r1 h3 h4 h5 h6 r2 =>
    obtain ⟨hd, xs', ws, dh, hl, rk, hm, rv, rd⟩ := dic_H I (.dicT h0 h1 h2 r1 h3 h4 h5 h6 r2) (List.all_eq_true.mpr h3)
    obtain ⟨es, ep, q1, q2, q3⟩ := Heap.DictOfH.raw dh
    refine ⟨hd, es, ep, xs'.map fun x => V.ref x.2.1, q1, by rw [List.length_map]; exact q2, by rw [List.length_map]; exact hl, rk, fun i hi => ?_⟩
    obtain ⟨y, e1, e2, e3, e4⟩ := q3 i hi
    exact ⟨.ref y.2.1, by rw [List.getElem?_map, e1]; rfl, e2⟩
/-- c[i] -/
theorem idx_ok {n : Nat} (hr : Room n X.A) {c i z : D} (h : idxO c i = .ok z) {x y : V} (ca : Cv X F ι H c x) (rk : XRep X F ι H i y) : wIx X x y H fun v H' => H' = H ∧ XRep X F ι H z v := by
  cases c with
  | tup ds =>
    cases i with
    | int j =>
      simp only [idxO] at h
      have e := of_ok h
      obtain ⟨p, vs, rfl, hp, r⟩ := ca.tup
      obtain ⟨v, ev, rv⟩ := atI_rep r e
      have ex := Cv.int (.inl rk); subst ex
      exact .of ix_tup ⟨p, vs, j, v, rfl, rfl, hp, ev, rfl, rv⟩
    | _ => simp [idxO] at h
  | lst ds =>
    cases i with
    | int j =>
      simp only [idxO] at h
      have e := of_ok h
      obtain ⟨p, vs, rfl, hp, r⟩ := ca.lst
      obtain ⟨v, ev, rv⟩ := atI_rep r e
      have ex := Cv.int (.inl rk); subst ex
      exact .of ix_list ⟨p, vs, j, v, rfl, rfl, hp, ev, rfl, rv⟩
    | _ => simp [idxO] at h
  | dic ks ds =>
    simp only [idxO] at h
    split at h
    · rename_i hk
      have e := of_ok h
      obtain ⟨p, bb, rfl, t⟩ := ca.dic
      intro value slice pins s σ v u I rx ry hs
      cases (show v = Value.ref p from rx)
      obtain ⟨hd, es, ep, vs, raw, _⟩ := dic_raw I t
      have g := dic_get hr hk e rk t I ry
      unfold subscriptTail
      refine wpAny_bind ?_
      rw [getitemInPython_of_ne raw.typeIs.not_modules]
      refine wpAny_bind (wpAny_specialOf raw.typeIs slot_dict_getitem.lookup ?_)
      have fin : wpAny (model X.prog X.w) X.A (subscripted slice false (.ref p) u) (fun r s₃ => wpAny (model X.prog X.w) X.A (letTemporaryGo value (.ref p) r >>= fun _ => pure r) (EP X pins σ fun v H' => H' = H ∧ XRep X F ι H z v) X.xe s₃) X.xe s := by
        rw [hs]
        exact wpAny_operating (wpAny_mono g (fun r s₃ h₃ => wpAny_bind (wpAny_letTemporaryGo (wpAny_pure h₃))) fun _ _ x => x)
      first
        | exact wpAny_pure (wpAny_bind fin)
        | exact wpAny_bind (wpAny_pure (wpAny_bind fin))
        | exact wpAny_bind fin
    · cases h
  | _ => simp [idxO] at h
theorem p1_len : CallS X (.builtin "len") (p1O .len) := by
  intro a z h F ι H S x s ca
  cases a <;> simp only [p1O] at h <;> try (cases h; done)
  · split at h
    · rename_i hz
      cases h; have e := ca.str; subst e
      exact .of call_len_str ⟨_, rfl, by rw [line_eq]; exact hz, Post.now s (.int _)⟩
    · cases h
  · cases h; obtain ⟨p, vs, rfl, hp, r⟩ := ca.tup
    exact .of call_len_seq ⟨p, vs, rfl, .inr hp, by rw [r.length]; exact Post.now s (.int _)⟩
  · cases h; obtain ⟨p, vs, rfl, hp, r⟩ := ca.lst
    exact .of call_len_seq ⟨p, vs, rfl, .inl hp, by rw [r.length]; exact Post.now s (.int _)⟩
  · cases h
    obtain ⟨p, bb, rfl, t⟩ := ca.dic
    intro pins s' σ us I r
    obtain ⟨u, rfl, rx⟩ := Vals.one r
    cases (show u = Value.ref p from rx)
    obtain ⟨hd, es, ep, vs, raw, hs, hl, rk, _⟩ := dic_raw I t
    have hn := rk.length
    rw [line_eq] at hl
    refine call_len_slot (n := es.size) raw.typeIs PySem.F.slot_dict_len (fun Q' hq => call_len_raw hd raw hq) (by omega) (by unfold line at hl; omega) ⟨.int es.size, H, I.tok _, ⟨_, rfl⟩, ?_⟩
    rw [hn, ← hs]
    exact Post.now s (.int _)
theorem vals_of_items {vs : List V} {acc : Array Value} {es : Array DictEntry} (hs : acc.size = es.size) (hl : es.size = vs.length) (he : ∀ i (hi : i < es.size), ∃ v, vs[i]? = some v ∧ RelV v es[i].key) (ha : ∀ j v, acc[j]? = some v → ∃ hi : j < es.size, v = es[j].key) : Vals vs acc.toList := by
  have key : ∀ (vs : List V) (us : List Value), vs.length = us.length → (∀ (i : Nat) (v : V) (u : Value), vs[i]? = some v → us[i]? = some u → RelV v u) → Vals vs us := by
    intro vs
    induction vs with
    | nil => intro us h _; cases us with
      | nil => exact .nil
      | cons => simp at h
    | cons v vs ih => intro us h k; cases us with
      | nil => simp at h
      | cons u us => exact .cons (k 0 v u rfl rfl) (ih us (by simpa using h) fun i v u h1 h2 => k (i + 1) v u (by simpa using h1) (by simpa using h2))
  refine key vs acc.toList (by simp; omega) fun i v u h1 h2 => ?_
  obtain ⟨hi, rfl⟩ := ha i u (by simpa using h2)
  obtain ⟨v', e1, r⟩ := he i hi
  rw [h1] at e1; cases e1
  exact r
theorem p1_list (hc : X.calm = true) : CallS X (.type "list") (p1O .list) := by
  intro a z h F ι H S x s ca
  cases a <;> simp only [p1O] at h <;> try (cases h; done)
  · cases h; obtain ⟨p, vs, rfl, hp, r⟩ := ca.tup
    exact .of call_list_of ⟨p, vs, rfl, .inr hp, fun t ht => Post.lst s ht r⟩
  · cases h; obtain ⟨p, vs, rfl, hp, r⟩ := ca.lst
    exact .of call_list_of ⟨p, vs, rfl, .inl hp, fun t ht => Post.lst s ht r⟩
  · cases h
    obtain ⟨p, bb, rfl, t⟩ := ca.dic
    intro pins s' σ us I r
    obtain ⟨u, rfl, rx⟩ := Vals.one r
    cases (show u = Value.ref p from rx)
    obtain ⟨hd, es, ep, vs, raw, hs, hl, rk, he⟩ := dic_raw I t
    refine PySem.W.kdl_call (KdlSrc.rawDict (es := es) (ep := ep) hd) (I.ok.hd hc) raw (by omega) fun h' tk acc' c' k e hi => ?_
    have rv := vals_of_items hi.1 hs he hi.2
    refine ⟨.ref s'.heap.objs.size, _, I.laid (t' := tk) k (Nat.le_refl _) (show ObjOk X.prog X.w _ h' _ (.lst vs) from ⟨hl, acc'.toList, c', rv, by simpa using e⟩), rfl, Post.lst s I.fresh rk⟩
end
end Z
end
section
/-! ZJ: sorted. -/
namespace Z
open PySem L2 PySem.Spec PyProof.Rows
/-! ### insertion is the stable sort -/
def insLe {α : Type} (le : α → α → Bool) (d : α) : List α → List α
  | [] => [d]
  | e :: es => if le d e then d :: e :: es else e :: insLe le d es
def isort {α : Type} (le : α → α → Bool) : List α → List α
  | [] => []
  | d :: ds => insLe le d (isort le ds)
section
variable {α : Type} {le : α → α → Bool}
theorem insLe_mem {d x : α} : ∀ {es : List α}, x ∈ insLe le d es ↔ x = d ∨ x ∈ es
  | [] => by simp [insLe]
  | e :: es => by
    unfold insLe
    split
    · simp
    · simp [insLe_mem (es := es)]
      constructor <;> (intro h; rcases h with h | h | h <;> simp [h])
theorem insLe_sorted (T : PySem.W.TotalLe le) {d : α} : ∀ {es : List α}, es.Pairwise (fun a b => le a b = true) → (insLe le d es).Pairwise (fun a b => le a b = true)
  | [], _ => by simp [insLe]
  | e :: es, h => by
    rw [List.pairwise_cons] at h
    unfold insLe
    split
    · rename_i hd
      rw [List.pairwise_cons, List.pairwise_cons]
      refine ⟨fun x hx => ?_, h⟩
      rcases List.mem_cons.mp hx with rfl | hx
      · exact hd
      · exact T.trans _ _ _ hd (h.1 x hx)
    · rename_i hd
      rw [List.pairwise_cons]
      refine ⟨fun x hx => ?_, insLe_sorted T h.2⟩
      rcases insLe_mem.mp hx with rfl | hx
      · rcases T.total e x with q | q
        · exact q
        · exact absurd q hd
      · exact h.1 x hx
theorem insLe_filter (T : PySem.W.TotalLe le) {d : α} (c : α) : ∀ {es : List α}, es.Pairwise (fun a b => le a b = true) → (insLe le d es).filter (PySem.W.sameRank le c) = (d :: es).filter (PySem.W.sameRank le c)
  | [], _ => by simp [insLe]
  | e :: es, h => by
    rw [List.pairwise_cons] at h
    unfold insLe
    split
    · rfl
    · rename_i hd
      rw [List.filter_cons, insLe_filter T c h.2]
      by_cases h1 : PySem.W.sameRank le c d = true
      · by_cases h2 : PySem.W.sameRank le c e = true
        · exfalso
          simp only [PySem.W.sameRank, Bool.and_eq_true] at h1 h2
          exact hd (by first | exact T.trans _ _ _ h1.2 h2.1 | exact T.trans _ _ _ h1.1 h2.2)
        · simp [List.filter_cons, h1, h2]
      · simp [List.filter_cons, h1]
theorem isort_sorted (T : PySem.W.TotalLe le) : ∀ ds : List α, (isort le ds).Pairwise (fun a b => le a b = true)
  | [] => by simp [isort]
  | d :: ds => insLe_sorted T (isort_sorted T ds)
theorem isort_filter (T : PySem.W.TotalLe le) (c : α) : ∀ ds : List α, (isort le ds).filter (PySem.W.sameRank le c) = ds.filter (PySem.W.sameRank le c)
  | [] => rfl
  | d :: ds => by
    rw [isort, insLe_filter T c (isort_sorted T ds), List.filter_cons, List.filter_cons, isort_filter T c ds]
theorem isort_eq (T : PySem.W.TotalLe le) (ds : List α) : isort le ds = ds.mergeSort le := PySem.W.sort_unique T (isort_sorted T ds) fun c => isort_filter T c ds
end

/-! ### the order of data -/
theorem natsLt_eq : ∀ xs ys : List Nat, natsLt xs ys = decide (xs < ys)
  | [], [] => by simp [natsLt]
  | [], y :: ys => by simp [natsLt]
  | x :: xs, [] => by simp [natsLt]
  | x :: xs, y :: ys => by
    unfold natsLt
    rw [natsLt_eq xs ys]
    by_cases h : x = y
    · subst h; rw [if_pos rfl]; simp [List.cons_lt_cons_iff]
    · rw [if_neg h]
      simp only [List.cons_lt_cons_iff]
      simp [h]
mutual
theorem alike_pd : ∀ (n m : Nat) (a b : D), a.okN n = true → b.okN m = true → D.alike a b = true → PySem.W.alike (D.pd a) (D.pd b) = true
  | _, _, .non, .non, _, _, _ => rfl
  | _, _, .bl _, .bl _, _, _, _ => rfl
  | _, _, .int _, .int _, _, _, _ => rfl
  | _, _, .str _, .str _, _, _, _ => rfl
  | n + 1, m + 1, .tup as, .tup bs, h, h', q => by simp only [D.pd, PySem.W.alike]; exact alike_pdL n m as bs (by simpa [D.okN] using h) (by simpa [D.okN] using h') (by simpa [D.alike] using q)
  | n + 1, m + 1, .lst as, .lst bs, h, h', q => by simp only [D.pd, PySem.W.alike]; exact alike_pdL n m as bs (by simpa [D.okN] using h) (by simpa [D.okN] using h') (by simpa [D.alike] using q)
  | 0, _, .tup _, _, h, _, _ => by simp [D.okN] at h
  | 0, _, .lst _, _, h, _, _ => by simp [D.okN] at h
  | _, 0, _, .tup _, _, h, _ => by simp [D.okN] at h
  | _, 0, _, .lst _, _, h, _ => by simp [D.okN] at h
  | _, _, .dic _ _, _, h, _, _ => by simp [D.okN] at h
  | _, _, .ref _ _, _, h, _, _ => by simp [D.okN] at h
  | _, _, .non, .bl _, _, _, q => by simp [D.alike] at q
  | _, _, .non, .int _, _, _, q => by simp [D.alike] at q
  | _, _, .non, .str _, _, _, q => by simp [D.alike] at q
  | _, _, .non, .tup _, _, _, q => by simp [D.alike] at q
  | _, _, .non, .lst _, _, _, q => by simp [D.alike] at q
  | _, _, .bl _, .non, _, _, q => by simp [D.alike] at q
  | _, _, .bl _, .int _, _, _, q => by simp [D.alike] at q
  | _, _, .bl _, .str _, _, _, q => by simp [D.alike] at q
  | _, _, .bl _, .tup _, _, _, q => by simp [D.alike] at q
  | _, _, .bl _, .lst _, _, _, q => by simp [D.alike] at q
  | _, _, .int _, .non, _, _, q => by simp [D.alike] at q
  | _, _, .int _, .bl _, _, _, q => by simp [D.alike] at q
  | _, _, .int _, .str _, _, _, q => by simp [D.alike] at q
  | _, _, .int _, .tup _, _, _, q => by simp [D.alike] at q
  | _, _, .int _, .lst _, _, _, q => by simp [D.alike] at q
  | _, _, .str _, .non, _, _, q => by simp [D.alike] at q
  | _, _, .str _, .bl _, _, _, q => by simp [D.alike] at q
  | _, _, .str _, .int _, _, _, q => by simp [D.alike] at q
  | _, _, .str _, .tup _, _, _, q => by simp [D.alike] at q
  | _, _, .str _, .lst _, _, _, q => by simp [D.alike] at q
  | _, _, .tup _, .non, _, _, q => by simp [D.alike] at q
  | _, _, .tup _, .bl _, _, _, q => by simp [D.alike] at q
  | _, _, .tup _, .int _, _, _, q => by simp [D.alike] at q
  | _, _, .tup _, .str _, _, _, q => by simp [D.alike] at q
  | _, _, .tup _, .lst _, _, _, q => by simp [D.alike] at q
  | _, _, .lst _, .non, _, _, q => by simp [D.alike] at q
  | _, _, .lst _, .bl _, _, _, q => by simp [D.alike] at q
  | _, _, .lst _, .int _, _, _, q => by simp [D.alike] at q
  | _, _, .lst _, .str _, _, _, q => by simp [D.alike] at q
  | _, _, .lst _, .tup _, _, _, q => by simp [D.alike] at q
  | _, _, _, .dic _ _, _, h, _ => by simp [D.okN] at h
  | _, _, _, .ref _ _, _, h, _ => by simp [D.okN] at h
theorem alike_pdL : ∀ (n m : Nat) (as bs : List D), D.okNL n as = true → D.okNL m bs = true → D.alikeL as bs = true → PySem.W.alikeAll (D.pdL as) (D.pdL bs) = true
  | _, _, [], [], _, _, _ => rfl
  | _, _, [], _ :: _, _, _, _ => rfl
  | _, _, _ :: _, [], _, _, _ => rfl
  | n, m, a :: as, b :: bs, h, h', q => by
    simp only [D.okNL, Bool.and_eq_true] at h h'
    simp only [D.alikeL, Bool.and_eq_true] at q
    simp only [D.pdL, PySem.W.alikeAll, Bool.and_eq_true]
    exact ⟨alike_pd n m a b h.1 h'.1 q.1, alike_pdL n m as bs h.2 h'.2 q.2⟩
end
mutual
theorem lt_pd : ∀ (n m : Nat) (a b : D), a.okN n = true → b.okN m = true → D.alike a b = true → D.lt a b = PySem.W.dataLt (D.pd a) (D.pd b)
  | _, _, .non, .non, _, _, _ => rfl
  | _, _, .bl a, .bl b, _, _, _ => by rw [D.pd, D.pd, PySem.W.dataLt_bool]; cases a <;> cases b <;> rfl
  | _, _, .int a, .int b, _, _, _ => by rw [D.pd, D.pd, PySem.W.dataLt_int]; rfl
  | _, _, .str a, .str b, _, _, _ => by rw [D.pd, D.pd, PySem.W.dataLt_str]; exact natsLt_eq _ _
  | n + 1, m + 1, .tup as, .tup bs, h, h', q => by rw [D.pd, D.pd, PySem.W.dataLt_tuple, D.lt]; exact lt_pdL n m as bs (by simpa [D.okN] using h) (by simpa [D.okN] using h') (by simpa [D.alike] using q)
  | n + 1, m + 1, .lst as, .lst bs, h, h', q => by rw [D.pd, D.pd, PySem.W.dataLt_list, D.lt]; exact lt_pdL n m as bs (by simpa [D.okN] using h) (by simpa [D.okN] using h') (by simpa [D.alike] using q)
  | 0, _, .tup _, _, h, _, _ => by simp [D.okN] at h
  | 0, _, .lst _, _, h, _, _ => by simp [D.okN] at h
  | _, 0, _, .tup _, _, h, _ => by simp [D.okN] at h
  | _, 0, _, .lst _, _, h, _ => by simp [D.okN] at h
  | _, _, .dic _ _, _, h, _, _ => by simp [D.okN] at h
  | _, _, .ref _ _, _, h, _, _ => by simp [D.okN] at h
  | _, _, .non, .bl _, _, _, q => by simp [D.alike] at q
  | _, _, .non, .int _, _, _, q => by simp [D.alike] at q
  | _, _, .non, .str _, _, _, q => by simp [D.alike] at q
  | _, _, .non, .tup _, _, _, q => by simp [D.alike] at q
  | _, _, .non, .lst _, _, _, q => by simp [D.alike] at q
  | _, _, .bl _, .non, _, _, q => by simp [D.alike] at q
  | _, _, .bl _, .int _, _, _, q => by simp [D.alike] at q
  | _, _, .bl _, .str _, _, _, q => by simp [D.alike] at q
  | _, _, .bl _, .tup _, _, _, q => by simp [D.alike] at q
  | _, _, .bl _, .lst _, _, _, q => by simp [D.alike] at q
  | _, _, .int _, .non, _, _, q => by simp [D.alike] at q
  | _, _, .int _, .bl _, _, _, q => by simp [D.alike] at q
  | _, _, .int _, .str _, _, _, q => by simp [D.alike] at q
  | _, _, .int _, .tup _, _, _, q => by simp [D.alike] at q
  | _, _, .int _, .lst _, _, _, q => by simp [D.alike] at q
  | _, _, .str _, .non, _, _, q => by simp [D.alike] at q
  | _, _, .str _, .bl _, _, _, q => by simp [D.alike] at q
  | _, _, .str _, .int _, _, _, q => by simp [D.alike] at q
  | _, _, .str _, .tup _, _, _, q => by simp [D.alike] at q
  | _, _, .str _, .lst _, _, _, q => by simp [D.alike] at q
  | _, _, .tup _, .non, _, _, q => by simp [D.alike] at q
  | _, _, .tup _, .bl _, _, _, q => by simp [D.alike] at q
  | _, _, .tup _, .int _, _, _, q => by simp [D.alike] at q
  | _, _, .tup _, .str _, _, _, q => by simp [D.alike] at q
  | _, _, .tup _, .lst _, _, _, q => by simp [D.alike] at q
  | _, _, .lst _, .non, _, _, q => by simp [D.alike] at q
  | _, _, .lst _, .bl _, _, _, q => by simp [D.alike] at q
  | _, _, .lst _, .int _, _, _, q => by simp [D.alike] at q
  | _, _, .lst _, .str _, _, _, q => by simp [D.alike] at q
  | _, _, .lst _, .tup _, _, _, q => by simp [D.alike] at q
  | _, _, _, .dic _ _, _, h, _ => by simp [D.okN] at h
  | _, _, _, .ref _ _, _, h, _ => by simp [D.okN] at h
theorem lt_pdL : ∀ (n m : Nat) (as bs : List D), D.okNL n as = true → D.okNL m bs = true → D.alikeL as bs = true → D.ltL as bs = PyProof.Rows.lexLt PyProof.Rows.itemOrd (PySem.W.keyToksAll (D.pdL as)) (PySem.W.keyToksAll (D.pdL bs))
  | _, _, [], [], _, _, _ => by simp [D.ltL, D.pdL, PySem.W.keyToksAll, PyProof.Rows.lex_irrefl]
  | _, _, [], b :: bs, _, _, _ => by
    simp only [D.ltL, D.pdL, PySem.W.keyToksAll]
    rw [PyProof.Rows.lex_diff (O := PyProof.Rows.itemOrd) (by simp)]
    simp [PyProof.Rows.itemLt]
  | _, _, a :: as, [], _, _, _ => by
    simp only [D.ltL, D.pdL, PySem.W.keyToksAll]
    rw [PyProof.Rows.lex_diff (O := PyProof.Rows.itemOrd) (by simp)]
    simp [PyProof.Rows.itemLt]
  | n, m, a :: as, b :: bs, h, h', q => by
    simp only [D.okNL, Bool.and_eq_true] at h h'
    simp only [D.alikeL, Bool.and_eq_true] at q
    simp only [D.pdL, D.ltL]
    have al := alike_pd n m a b h.1 h'.1 q.1
    rw [PySem.W.dataLt_cons al, eqv_pd n m a b h.1 h'.1, lt_pdL n m as bs h.2 h'.2 q.2, lt_pd n m a b h.1 h'.1 q.1]
end
end Z
end
section
/-! ZK: the call of sorted. -/
namespace Z
open PySem L2 PySem.Spec PyProof.Rows
abbrev dLe (a b : D) : Bool := PySem.W.dataLe false D.pd a b
theorem dLe_eq (a b : D) : dLe a b = !PySem.W.dataLt (D.pd b) (D.pd a) := rfl
theorem insD_mem {x d : D} : ∀ {es : List D}, x ∈ insD d es → x = d ∨ x ∈ es
  | [], h => by simpa [insD] using h
  | e :: es, h => by
    unfold insD at h
    split at h
    · rcases List.mem_cons.mp h with rfl | h
      · simp
      · rcases insD_mem h with rfl | h
        · simp
        · simp [h]
    · simpa using h
theorem sortD_mem {x : D} : ∀ {es : List D}, x ∈ sortD es → x ∈ es
  | [], h => h
  | e :: es, h => by
    rcases insD_mem h with rfl | h
    · simp
    · simp [sortD_mem h]
theorem insD_eq {d : D} : ∀ {es : List D}, (∀ x ∈ es, D.lt x d = PySem.W.dataLt (D.pd x) (D.pd d)) → insD d es = insLe dLe d es
  | [], _ => rfl
  | e :: es, h => by
    unfold insD insLe
    rw [dLe_eq, h e (by simp)]
    cases PySem.W.dataLt (D.pd e) (D.pd d) with
    | true => simp [insD_eq fun x hx => h x (List.mem_cons_of_mem _ hx)]
    | false => simp
theorem sortD_eq' : ∀ {ds : List D}, (∀ x ∈ ds, ∀ y ∈ ds, D.lt x y = PySem.W.dataLt (D.pd x) (D.pd y)) → sortD ds = isort dLe ds
  | [], _ => rfl
  | d :: ds, h => by
    unfold sortD isort
    rw [← sortD_eq' fun x hx y hy => h x (List.mem_cons_of_mem _ hx) y (List.mem_cons_of_mem _ hy)]
    exact insD_eq fun x hx => h x (List.mem_cons_of_mem _ (sortD_mem hx)) d (by simp)
theorem alikeAll_of {ds : List D} (h : alikeAllD ds = true) {a b : D} (ha : a ∈ ds) (hb : b ∈ ds) : D.alike a b = true := by
  unfold alikeAllD at h
  exact List.all_eq_true.mp (List.all_eq_true.mp h a ha) b hb
theorem sortD_eq {ds : List D} (h : alikeAllD ds = true) (ho : ds.all D.ok = true) : sortD ds = ds.mergeSort dLe := by
  rw [sortD_eq' fun x hx y hy => lt_pd deep deep x y (List.all_eq_true.mp ho x hx) (List.all_eq_true.mp ho y hy) (alikeAll_of h hx hy)]
  exact isort_eq (PySem.W.sortLe_total _ false _) ds
section
variable {X : Cx} {pins : List (Addr × Obj)} {σ : L2.St} {F : Addr → Prop} {ι : Io} {H : Hp} {s : Shared} {S : Sto}
/-- what a value stands for, told off the run's values -/
def RD (X : Cx) (F : Addr → Prop) (ι : Io) (H : Hp) (u : Value) (d : D) : Prop := ∃ v, RelV v u ∧ XRep X F ι H d v
theorem each_rd : ∀ {ds : List D} {vs : List V} {us : List Value}, XRepL X F ι H ds vs → Vals vs us → PySem.W.EachIs (RD X F ι H) us ds
  | _, _, _, .nil, .nil => .nil
  | _, _, _, .cons r t, .cons r' t' => .cons ⟨_, r', r⟩ (each_rd t t')
theorem rd_each : ∀ {us : List Value} {ds : List D}, PySem.W.EachIs (RD X F ι H) us ds → ∃ vs, XRepL X F ι H ds vs ∧ Vals vs us
  | _, _, .nil => ⟨[], .nil, .nil⟩
  | _, _, .cons ⟨v, h1, h2⟩ t => by
    obtain ⟨vs, a, b⟩ := rd_each t
    exact ⟨v :: vs, .cons h2 a, .cons h1 b⟩
theorem rd_reads (I : Inv X pins σ H s) : ∀ {us : List Value} {ds : List D}, ds.all D.ok = true → PySem.W.EachIs (RD X F ι H) us ds → PySem.W.EachIs (fun v d => ∃ as, Reads s.heap v (D.pd d) as) us ds
  | _, _, _, .nil => .nil
  | _, _, h, .cons ⟨v, h1, h2⟩ t => by
    simp only [List.all_cons, Bool.and_eq_true] at h
    exact .cons (Rep.reads I deep _ _ _ h.1 h2 h1) (rd_reads I h.2 t)
theorem empty1_cons {ds : List D} (h : D.empty1 ds = true) : ∃ es, ds = .tup [] :: es ∧ es.all D.isTup = true := by
  unfold D.empty1 at h
  split at h
  · exact ⟨_, rfl, h⟩
  · cases h
theorem isTup_pd {d : D} (h : d.isTup = true) : ∃ xs, D.pd d = .tuple xs := by
  cases d with
  | tup ds => exact ⟨_, rfl⟩
  | _ => cases h
/-! the kind of keys where the first is () -/
section
variable {prog : Program} {w : World} {A : Around} {E : Value → Shared → Prop}
theorem call_tuple_lt {Q : Value → Shared → Prop} {l b : Addr} {items items2 : Array Value} {e r : Nat → Bool} (hl : s.heap.IsTuple l items) (hb : s.heap.IsTuple b items2)
    (he : ∀ j (h1 : j < items.size) (h2 : j < items2.size), SeqAt.EqAt A.in1 s items[j] items2[j] (e j)) (hr : ∀ j (h1 : j < items.size) (h2 : j < items2.size), e j = false → SeqAt.RcLt A.in1 s items[j] items2[j] (r j))
    (h : Q (.bool (SeqAt.firstLt e r (decide (items.size < items2.size)) (List.range (min items.size items2.size)))) s) : wpAny (model prog w) A (call (.builtin "tuple.__lt__") [.ref l, .ref b]) Q E s := by
  obtain ⟨⟨cls, dd, data, sl⟩, ho, hc, n, hd⟩ := id hl
  obtain ⟨⟨cls2, dd2, data2, sl2⟩, ho2, hc2, n2, hd2⟩ := id hb
  simp only at hc hd hc2 hd2
  subst hc hd hc2 hd2
  exact call_meets F.slot_tuple_lt ⟨_, ho, rfl⟩ F.entry_tuple_lt (F.args_tuple_lt_2 _ _) (SeqAt.tuple_ltAt l b items items2 n n2 dd dd2 sl sl2 e r) ⟨ho, ho2, he, hr, h⟩
theorem oneLt_tup {xs ys : List PyData} {a b : Value} {as bs : List Addr} {Q : Bool → Shared → Prop} (ra : Reads s.heap a (.tuple xs) as) (rb : Reads s.heap b (.tuple ys) bs) (h : PySem.W.alike (.tuple xs) (.tuple ys) = true)
    (hu : A.units + min (PyData.tuple xs).depth (PyData.tuple ys).depth < cLine) (hq : Q (PySem.W.dataLt (.tuple xs) (.tuple ys)) s) : wpAny (model prog w) A (oneLt' true a b) Q E s := by
  have hal : PySem.W.alikeAll xs ys = true := by simpa [PySem.W.alike] using h
  cases ra with
  | @tuple l o vs n _ as₁ h1 h2 h3 h4 =>
    cases rb with
    | @tuple l' o' vs' n' _ bs₁ k1 k2 k3 k4 =>
      have n1 : vs.size = xs.length := by simpa using SeqAt.ReadsAll.length _ _ _ h4
      have n2 : vs'.size = ys.length := by simpa using SeqAt.ReadsAll.length _ _ _ k4
      rw [PySem.W.dataLt_tuple, ← PySem.W.firstLt_toks xs ys hal, ← n1, ← n2] at hq
      rw [oneLt'_eq]
      simp only [if_true]
      refine wpAny_bind (wpAny_cRoomFor (SeqAt.room_here hu) ?_)
      refine wpAny_bind (wpAny_callSpecialIfBound?_slot (T := "tuple") ⟨_, h1, h2⟩ F.slot_tuple_lt (call_tuple_lt (e := SeqAt.pairEq xs ys) (r := fun j => PySem.W.dataLt (xs.getD j .none) (ys.getD j .none)) ⟨_, h1, h2, _, h3⟩ ⟨_, k1, k2, _, k3⟩ (fun j j1 j2 => ?_) (fun j j1 j2 hj => ?_) ?_))
      · have := PySem.W.eqAt_alikeAll xs ys A.in1 s vs.toList vs'.toList _ _ h4 k4 hal (SeqAt.room_in hu) j (by simpa using j1) (by simpa using j2)
        simpa using this
      · have := PySem.W.rcLt_alikeAll xs ys A.in1 s vs.toList vs'.toList _ _ h4 k4 hal (SeqAt.room_in hu) j (by simpa using j1) (by simpa using j2) hj
        simpa using this
      · exact wpAny_truthy_bool hq
theorem firstsX : ∀ (vs : List Value) {Q : List (Option Value) → Shared → Prop}, (∀ v ∈ vs, ∃ a o xs n, v = .ref a ∧ s.heap.get? a = some o ∧ o.cls = .type "tuple" ∧ o.data = .seq xs n) → (∀ fs, fs.length = vs.length → (∀ v vr a o xs n, vs = v :: vr → v = .ref a → s.heap.get? a = some o → o.data = .seq xs n → fs[0]? = some xs[0]?) → Q fs s) → wpAny (model prog w) A (vs.mapM PyProof.Rows.firstOfTuple') Q E s
  | [], _, _, h => by rw [List.mapM_nil]; exact wpAny_pure (h [] rfl fun _ _ _ _ _ _ e => nomatch e)
  | v :: vs, Q, t, h => by
    obtain ⟨a, o, xs, n, rfl, ho, hc, hd⟩ := t v (by simp)
    rw [List.mapM_cons]
    refine wpAny_bind ?_
    rw [PySem.W.kas_first_eq]
    refine wpAny_bind (PySem.W.Looks.here (show PySem.W.Looks (model prog w) s.heap (typeOf (.ref a)) o.cls from (PySem.W.Looks.ld ho).andThen .now) ?_)
    rw [hc, if_neg (by first | decide | simp)]
    refine wpAny_bind (listItems_at ho hd (wpAny_pure ?_))
    refine wpAny_bind (firstsX vs (fun v hv => t v (List.mem_cons_of_mem _ hv)) fun fs hl _ => wpAny_pure (h _ (by simp [hl]) fun v' vr a' o' xs' n' e e2 ho' hd' => ?_))
    cases e; cases e2
    rw [ho] at ho'; cases ho'
    rw [hd] at hd'; cases hd'
    simp
theorem kind_e1 {v : Value} {vs : List Value} {T : SortKind → Shared → Prop} (ht : ∀ x ∈ v :: vs, ∃ a o xs n, x = .ref a ∧ s.heap.get? a = some o ∧ o.cls = .type "tuple" ∧ o.data = .seq xs n)
    (h0 : ∀ a o xs n, v = .ref a → s.heap.get? a = some o → o.data = .seq xs n → xs[0]? = none) (h : T oneType' s) : wpAny (model prog w) A (keyKind' (v :: vs).toArray) T E s := by
  rw [keyKind'_eq, List.mapM_toArray, map_eq_pure_bind]
  refine wpAny_bind (wpAny_bind (firstsX _ ht fun fs hl hf => wpAny_pure ?_))
  obtain ⟨a, o, xs, n, rfl, ho, hc, hd⟩ := ht v (by simp)
  have e0 := hf _ _ a o xs n rfl rfl ho hd
  rw [h0 a o xs n rfl ho hd] at e0
  cases fs with
  | nil => simp at hl
  | cons f fr =>
    have ef : f = none := by simpa using e0
    subst ef
    rw [if_neg (by simp), if_neg (by simp)]
    rw [oneTypeOnly'_eq, List.mapM_toArray, map_eq_pure_bind]
    refine wpAny_bind (wpAny_bind (wpAny_bind (PySem.W.kas_mapM (r := Value.type "tuple") _ (fun x hx Q' hq => ?_) (wpAny_pure ?_))))
    · obtain ⟨a', o', xs', n', rfl, ho', hc', hd'⟩ := ht x hx
      refine PySem.W.Looks.here (show PySem.W.Looks (model prog w) s.heap (typeOf (.ref a')) (Value.type "tuple") from ?_) hq
      rw [← hc']
      exact (PySem.W.Looks.ld ho').andThen .now
    have hall : ((List.map (fun _ => Value.type "tuple") (Value.ref a :: vs)).toArray.all fun x => x == Value.type "tuple") = true := by
      simp only [List.all_toArray, List.all_map, List.all_eq_true]
      intro _ _
      exact beq_self_eq_true _
    have h1 : (List.map (fun _ => Value.type "tuple") (Value.ref a :: vs)).toArray[0]? = some (Value.type "tuple") := by simp
    rw [h1]
    simp only [hall, if_true]
    exact wpAny_pure (wpAny_pure h)
theorem sortsAt_e1 {vs : List Value} {ds : List PyData} (e : PySem.W.EachIs (fun v d => ∃ as, Reads s.heap v d as) vs ds) (hal : PySem.W.AllAlike ds) (h1 : ∃ es, ds = .tuple [] :: es) (ht : ∀ d ∈ ds, ∃ xs, d = .tuple xs) (hu : ∀ d, d ∈ ds → A.units + d.depth < cLine) : PySem.W.SortsAt prog w A s (PySem.W.dataKind s.heap ds) vs := by
  have room : ∀ {d d' : PyData}, d ∈ ds → A.units + min d.depth d'.depth < cLine := fun {d d'} hd => Nat.lt_of_le_of_lt (Nat.add_le_add_left (Nat.min_le_left _ _) _) (hu d hd)
  refine ⟨fun v hv => ?_, oneType', ?_, fun h2 E Q hq => ?_⟩
  · obtain ⟨d, hd, as, r⟩ := e.left v hv
    exact ⟨_, PySem.W.dataKind_some hal hd r⟩
  · intro E x y a b Q ha hb hq
    obtain ⟨d, as, hd, ra, rfl⟩ := PySem.W.dataKind_inv ha
    obtain ⟨d', as', hd', rb, rfl⟩ := PySem.W.dataKind_inv hb
    have hdd := hal d hd d' hd'
    have hroom := room (d' := d') hd
    obtain ⟨x1, rfl⟩ := ht d hd
    obtain ⟨x2, rfl⟩ := ht d' hd'
    rw [keyLt'_oneType]
    exact oneLt_tup ra rb hdd hroom hq
  · obtain ⟨es, rfl⟩ := h1
    cases e with
    | cons r t =>
      obtain ⟨as, r⟩ := r
      refine kind_e1 (fun x hx => ?_) (fun a o xs n ea ho hd => ?_) hq
      · have key : ∃ xs as, Reads s.heap x (.tuple xs) as := by
          rcases List.mem_cons.mp hx with rfl | hx
          · exact ⟨_, _, r⟩
          · obtain ⟨d, hd, as', r'⟩ := t.left x hx
            obtain ⟨xs, rfl⟩ := ht d (List.mem_cons_of_mem _ hd)
            exact ⟨_, _, r'⟩
        obtain ⟨xs, as', r'⟩ := key
        cases r' with
        | @tuple l o vs n _ as₁ h1 h2 h3 h4 => exact ⟨l, o, vs, n, rfl, h1, h2, h3⟩
      · subst ea
        cases r with
        | @tuple l o' vs n' _ as₁ h1 h2 h3 h4 =>
          rw [h1] at ho; cases ho
          rw [h3] at hd; cases hd
          have z : xs.toList = [] := by
            generalize xs.toList = q at h4
            cases h4; rfl
          have : xs = #[] := Array.toList_eq_nil_iff.mp z
          subst this; rfl
end
theorem sort_post (I : Inv X pins σ H s) {ds : List D} {us out : List Value} {a : Addr} (sr : XSR X F ι H S) (hl : ds.length ≤ sizeLine) (ho : out.length = ds.length) (he : PySem.W.EachIs (RD X F ι H) out (sortD ds)) :
    EP X pins σ (Post X F ι H (.lst (sortD ds), .fr, S)) (.ref (s.heap.objs.size + 1)) { s with heap := sortedAll s.heap us out.toArray } := by
  obtain ⟨vs, h1, h2⟩ := rd_each he
  obtain ⟨ep, he'⟩ := PyProof.Rows.sortedAll_at s.heap us out.toArray
  have hlen : vs.length ≤ sizeLine := by rw [← h1.length, he.length.symm, ho]; exact hl
  exact ⟨.ref _, upd H (s.heap.objs.size + 1) (.lst vs), I.laid (t' := s.toks) (fun _ _ => PyProof.Rows.sortedAll_old) (Nat.le_succ _) ⟨hlen, out, ep, h2, he'⟩, rfl, Post.lst sr (I.hok.fresh (Nat.le_succ _)) h1⟩
theorem p1_sorted {k : Nat} (hr : Room k X.A) : CallS X (.builtin "sorted") (p1O .sorted) := by
  intro a z h F ι H S x sr ca
  cases a <;> simp only [p1O] at h <;> try (cases h; done)
  rename_i ds
  obtain ⟨d, h, hz⟩ := bind_ok h
  cases hz
  unfold sortO at h
  split at h
  · rename_i hc
    cases h
    simp only [Bool.and_eq_true, Bool.or_eq_true, decide_eq_true_eq] at hc
    obtain ⟨⟨⟨hl, hal⟩, hok⟩, hk⟩ := hc
    obtain ⟨p, vs, rfl, hp, r⟩ := ca.lst
    intro pins s σ us I rv
    rw [Vals.ref1 rv]
    obtain ⟨its, rvs, hL, hz⟩ := I.list hp
    have e0 := each_rd r rvs
    have er := rd_reads I hok e0
    have hAl : PySem.W.AllAlike (ds.map D.pd) := by
      intro d hd d' hd'
      obtain ⟨b, hb, rfl⟩ := List.mem_map.mp hd
      obtain ⟨b', hb', rfl⟩ := List.mem_map.mp hd'
      exact alike_pd deep deep b b' (List.all_eq_true.mp hok b hb) (List.all_eq_true.mp hok b' hb') (alikeAll_of hal hb hb')
    have hu : ∀ b, b ∈ ds → X.A.units + 2 + (D.pd b).depth < cLine := fun b hb => by
      have q := depth_pd deep b (List.all_eq_true.mp hok b hb)
      have := room_deep hr (n := 2 + (D.pd b).depth) (by unfold deep at q; omega)
      omega
    have hL' : ds.length ≤ sizeLine := by rw [line_eq] ; exact hl
    by_cases h1 : D.empty1 ds = true
    · obtain ⟨es, rfl, hes⟩ := empty1_cons h1
      have er' : PySem.W.EachIs (fun v b => ∃ as, Reads (PySem.W.sortingHeap (PySem.W.copyHeap s.heap its) (s.heap.objs.size + 1) its) v (D.pd b) as) its (.tup [] :: es) := er.mono fun _ _ ⟨as, r⟩ => ⟨as, PyProof.Rows.Reads.keeps (fun _ _ => PySem.W.sorting_copy_old) r⟩
      refine PySem.W.sorted_vals (κ := PySem.W.dataKind _ ((D.tup [] :: es).map D.pd)) hL.isList (sortsAt_e1 (s := { s with heap := PySem.W.sortingHeap (PySem.W.copyHeap s.heap its) (s.heap.objs.size + 1) its }) (PySem.W.each_map (R := fun v d => ∃ as, Reads (PySem.W.sortingHeap (PySem.W.copyHeap s.heap its) (s.heap.objs.size + 1) its) v d as) D.pd er') hAl ⟨_, rfl⟩ (fun d hd => ?_) (PySem.W.bound_map hu)) (by rw [← rvs.length, ← r.length]; exact hL') ?_
      · obtain ⟨b, hb, rfl⟩ := List.mem_map.mp hd
        refine isTup_pd ?_
        rcases List.mem_cons.mp hb with rfl | hb
        · rfl
        · exact List.all_eq_true.mp hes b hb
      · refine sort_post I sr hL' (by rw [PySem.W.sortVals_length false rfl, ← rvs.length, ← r.length]) ?_ (a := p)
        rw [sortD_eq hal hok]
        exact PySem.W.sortVals_data false e0 er' hAl
    · refine PySem.W.sorted_data hL.isList e0 er hAl ?_ hL' hu fun out ho he => ?_
      · rcases hk with (hk | hk) | hk
        · refine .inl fun d hd => ?_
          obtain ⟨b, hb, rfl⟩ := List.mem_map.mp hd
          have := List.all_eq_true.mp hk b hb
          unfold D.isTup1 at this
          split at this
          · exact ⟨_, _, rfl⟩
          · cases this
        · refine .inr fun d hd => ?_
          obtain ⟨b, hb, rfl⟩ := List.mem_map.mp hd
          have := List.all_eq_true.mp hk b hb
          have ho := List.all_eq_true.mp hok b hb
          simp only [Bool.and_eq_true, Bool.not_eq_true'] at this
          cases b <;> simp_all [D.isNon, D.isTup, D.pd, D.ok, D.okN]
        · exact absurd hk h1
      · refine sort_post I sr hL' ho ?_ (a := p)
        rw [sortD_eq hal hok]
        exact he
  · cases h
end
end Z
end
section
/-! ZL: dict of pairs, the place of an item. -/
namespace Z
open PySem L2 PySem.Spec PyProof.Rows
theorem findD_eq {k : D} (hk : k.ok = true) : ∀ {ds : List D} (n : Nat), ds.all D.ok = true → findD k n ds = (SeqAt.dataPlace (D.pdL ds) (D.pd k)).map (· + n)
  | [], n, _ => rfl
  | d :: ds, n, h => by
    simp only [List.all_cons, Bool.and_eq_true] at h
    have ih := findD_eq hk (ds := ds) (n + 1) h.2
    unfold SeqAt.dataPlace at ih ⊢
    simp only [D.pdL, List.findIdx?_cons]
    unfold findD
    rw [eqv_pd deep deep _ _ h.1 hk]
    cases D.eqv d k with
    | true => simp
    | false =>
      simp only [Bool.false_eq_true, if_false, ih, Option.map_map]
      congr 1
      funext i
      simp only [Function.comp_apply]; omega
theorem storedH_nodup {xs : List Ent} {k : NestedKey} {b : Addr} {u : Value} (h : (xs.map (·.1)).Nodup) : ((storedH xs k b u).map (·.1)).Nodup := by
  cases e : atKey xs k with
  | some p =>
    rw [storedH_old e, List.map_map]
    have : ((fun x : Ent => x.1) ∘ putAt k u) = fun x => x.1 := by
      funext x; simp only [Function.comp_apply]; unfold putAt; split <;> rfl
    rw [this]; exact h
  | none =>
    rw [storedH_new e, List.map_append, List.map_cons, List.map_nil]
    refine List.nodup_append.mpr ⟨h, by simp, fun a ha b' hb => ?_⟩
    simp only [List.mem_singleton] at hb
    subst hb
    rintro rfl
    obtain ⟨x, hx, rfl⟩ := List.mem_map.mp ha
    unfold atKey at e
    have e' : (List.find? (fun y : Ent => decide (y.1 = x.1)) xs) = none := by simpa using e
    have := List.find?_eq_none.mp e' x hx
    simp at this
section
variable {X : Cx} {pins : List (Addr × Obj)} {σ : L2.St} {F : Addr → Prop} {ι : Io} {H : Hp} {s : Shared} {S : Sto}
/-- what a list of pairs is to the run -/
theorem pairs_ex (I : Inv X pins σ H s) : ∀ {ds ks ws : List D} {vs : List V} {us : List Value}, pairsOf ds = some (ks, ws) → ks.all D.tupKey = true → XRepL X F ι H ds vs → Vals vs us →
    ∃ (L : List (Addr × Ent)) (zs : List V), us = L.map (fun x => Value.ref x.1) ∧ (∀ x ∈ L, s.heap.IsTuple x.1 #[.ref x.2.2.1, x.2.2.2]) ∧ XRepL X F ι H ks (L.map fun x => V.ref x.2.2.1) ∧ ks.map D.nk = L.map (fun x => x.2.1) ∧ Vals zs (L.map fun x => x.2.2.2) ∧ XRepL X F ι H ws zs
  | [], ks, ws, _, _, h, _, r, rv => by
    simp [pairsOf] at h
    obtain ⟨rfl, rfl⟩ := h
    cases r; cases rv
    exact ⟨[], [], rfl, by simp, .nil, rfl, .nil, .nil⟩
  | d :: ds, ks, ws, vs, us, h, hk, r, rv => by
    unfold pairsOf at h
    split at h
    · rename_i q; cases q
    · rename_i k v ds' q
      cases q
      cases e : pairsOf ds with
      | none => rw [e] at h; cases h
      | some p =>
        obtain ⟨ks', ws'⟩ := p
        rw [e] at h; cases h
        simp only [List.all_cons, Bool.and_eq_true] at hk
        cases r with
        | cons r1 r2 =>
          cases rv with
          | cons v1 v2 =>
            obtain ⟨L, zs, a1, a2, a3, a4, a5, a6⟩ := pairs_ex I e hk.2 r2 v2
            obtain ⟨a, xs, rfl, hs, rr⟩ := Cv.tup (.inl r1)
            cases v1
            obtain ⟨its, ri, ho, hz⟩ := I.tuple hs
            cases rr with
            | cons rk rr =>
              cases rr with
              | cons rw' rr =>
                cases rr
                cases ri with
                | cons i1 ri =>
                  cases ri with
                  | cons i2 ri =>
                    cases ri
                    obtain ⟨b, rfl, hb⟩ := tupKey_is I hk.1 rk
                    cases i1
                    refine ⟨(a, D.nk k, b, _) :: L, _ :: zs, by rw [a1]; rfl, fun x hx => ?_, .cons rk a3, by simp [a4], .cons i2 a5, .cons rw' a6⟩
                    rcases List.mem_cons.mp hx with rfl | hx
                    · exact ho
                    · exact a2 x hx
    · cases h
theorem putAll_H : ∀ {ks ws : List D} {L : List Ent} {zs : List V} {kk vv : List D} {xs : List Ent} {vs : List V}, ks.all D.tupKey = true → XRepL X F ι H ks (L.map fun x => V.ref x.2.1) → ks.map D.nk = L.map (·.1) → Vals zs (L.map fun x => x.2.2) → XRepL X F ι H ws zs →
    kk.all D.tupKey = true → (xs.map (·.1)).Nodup → XRepL X F ι H kk (xs.map fun x => V.ref x.2.1) → kk.map D.nk = xs.map (·.1) → Vals vs (xs.map fun x => x.2.2) → XRepL X F ι H vv vs →
    ∃ vs', XRepL X F ι H (putAll kk vv ks ws).1 ((storedAllH xs L).map fun x => V.ref x.2.1) ∧ (∀ j ∈ (putAll kk vv ks ws).1, j.tupKey = true) ∧ (putAll kk vv ks ws).1.map D.nk = (storedAllH xs L).map (·.1) ∧
      Vals vs' ((storedAllH xs L).map fun x => x.2.2) ∧ XRepL X F ι H (putAll kk vv ks ws).2 vs' ∧ ((storedAllH xs L).map (·.1)).Nodup
  | [], ws, L, zs, kk, vv, xs, vs, _, h1, h2, h3, h4, g1, g2, g3, g4, g5, g6 => by
    have : L = [] := by have := congrArg List.length h2; simp at this; exact List.eq_nil_of_length_eq_zero this.symm
    subst this
    unfold putAll
    exact ⟨vs, g3, fun j hj => List.all_eq_true.mp g1 j hj, g4, g5, g6, g2⟩
  | k :: ks, ws, L, zs, kk, vv, xs, vs, hk, h1, h2, h3, h4, g1, g2, g3, g4, g5, g6 => by
    cases L with
    | nil => simp at h2
    | cons x L =>
      simp only [List.all_cons, Bool.and_eq_true] at hk
      simp only [List.map_cons, List.cons.injEq] at h2
      cases h1 with
      | cons r1 r2 =>
        cases h3 with
        | @cons y0 _ ys us v1 v2 =>
          cases h4 with
          | cons w1 w2 =>
            obtain ⟨vs', i1, i2, i3, i4, i5⟩ := dPut_H hk.1 r1 v1 w1 g1 g2 g3 g4 g5 g6
            unfold putAll
            have e : storedAllH xs (x :: L) = storedAllH (storedH xs x.1 x.2.1 x.2.2) L := rfl
            rw [e, ← h2.1]
            exact putAll_H hk.2 r2 h2.2 v2 w2 (List.all_eq_true.mpr i2) (storedH_nodup g2) i1 i3 i4 i5
theorem storedAllH_ne {L xs : List Ent} (h : L ≠ [] ∨ xs ≠ []) : storedAllH xs L ≠ [] := by
  induction L generalizing xs with
  | nil => rcases h with h | h
           · exact absurd rfl h
           · exact h
  | cons x L ih => exact ih (.inr (storedH_ne _ _ _ _))
theorem p1_dict (hc : X.calm = true) {k : Nat} (hr : Room k X.A) : CallS X (.type "dict") (p1O .dict) := by
  intro a z h F ι H S x sr ca
  cases a <;> simp only [p1O] at h <;> try (cases h; done)
  rename_i ds
  split at h
  · rename_i ks ws hp
    split at h
    · rename_i hq
      cases h
      simp only [Bool.and_eq_true, decide_eq_true_eq, Bool.not_eq_true'] at hq
      obtain ⟨⟨hne, hk⟩, hl⟩ := hq
      obtain ⟨p, vs, rfl, hs, r⟩ := ca.lst
      intro pins s σ us I rv
      rw [Vals.ref1 rv]
      obtain ⟨its, rvs, hL, hz⟩ := I.list hs
      obtain ⟨L, zs, a1, a2, a3, a4, a5, a6⟩ := pairs_ex I hp hk r rvs
      have hlen : L.length = ds.length := by
        have e1 := r.length
        have e2 := rvs.length
        rw [a1, List.length_map] at e2; omega
      obtain ⟨o, n, ho, hcl, hdn, hdt⟩ := hL
      have hroom : (nestedKind X.prog X.w).room X.A.in1.in1 := by have := hr.un; show X.A.units + 1 + 1 + 8 < cLine; omega
      have hLne : L ≠ [] := by
        intro e; subst e
        have : ds = [] := List.eq_nil_of_length_eq_zero hlen.symm
        subst this; simp at hne
      refine call_dict_pairsH (knd := nestedKind X.prog X.w) (ps := L.map (·.2)) (PairArg.list p its.toArray (fun j => (L[j]?.map (·.1)).getD 0) (L.map fun x => (Value.ref x.2.2.1, x.2.2.2))) (I.ok.hd hc) hroom ⟨⟨o, n, ho, hcl, hdn, hdt⟩, ?_⟩ ?_ ?_ (by rw [List.length_map, hlen, line_eq]; exact hl) fun h' tk hd' hkeep => ?_
      · refine ⟨by simp [a1], fun j k v hj => ?_⟩
        rw [List.getElem?_map] at hj
        obtain ⟨q, hq, e⟩ := Option.map_eq_some_iff.mp hj
        cases e
        refine ⟨by rw [a1]; simp [hq], ?_⟩
        have : ((L[j]?.map (·.1)).getD 0) = q.1 := by rw [hq]; rfl
        show PairAt s.heap ((L[j]?.map (·.1)).getD 0) _ _
        rw [this]
        exact .inl (a2 q (List.mem_of_getElem? hq))
      · refine ⟨by simp, fun i key v hi => ?_⟩
        have hi' : (L.map fun x => (Value.ref x.2.2.1, x.2.2.2))[i]? = some (key, v) := hi
        rw [List.getElem?_map] at hi'
        obtain ⟨q, hq, e⟩ := Option.map_eq_some_iff.mp hi'
        cases e
        exact ⟨q.2.1, q.2.2.1, by rw [List.getElem?_map, hq]; rfl, rfl⟩
      · intro h' hk' x hx
        obtain ⟨q, hq, rfl⟩ := List.mem_map.mp hx
        obtain ⟨i, hi⟩ := List.getElem?_of_mem hq
        have hv : (L.map fun x => V.ref x.2.2.1)[i]? = some (V.ref q.2.2.1) := by rw [List.getElem?_map, hi]; rfl
        obtain ⟨kd, hkk, rk⟩ := a3.atV hv
        have I' : Inv X pins σ H { s with heap := h', toks := s.toks } := I.kept fun b u e => hk' b u (Nat.ne_of_lt (Heap.lt_size e)) (by simp) e
        obtain ⟨b, e, hb⟩ := tupKey_is I' (List.all_eq_true.mp hk kd (List.mem_of_getElem? hkk)) rk
        cases e
        have e1 : (ks.map D.nk)[i]? = some kd.nk := by rw [List.getElem?_map, hkk]; rfl
        rw [a4, List.getElem?_map, hi] at e1
        have e2 : kd.nk = q.2.1 := (Option.some.inj e1).symm
        rw [← e2]
        exact hb
      · have hkv : ∀ b u, s.heap.get? b = some u → h'.get? b = some u := fun b u e => hkeep b u (by simp) e
        obtain ⟨vs', i1, i2, i3, i4, i5, i6⟩ := putAll_H (L := L.map (·.2)) (kk := []) (vv := []) (xs := []) (vs := []) hk (by rw [List.map_map]; exact a3) (by rw [List.map_map]; exact a4) (by rw [List.map_map]; exact a5) a6 rfl (by simp) .nil rfl .nil .nil
        have hfr := I.fresh
        have hd : (s.heap.objs.size == sysModules) = false := beq_eq_false_iff_ne.mpr (Nat.ne_of_gt I.big)
        refine ⟨.ref s.heap.objs.size, _, I.laid (t' := tk) hkv (Nat.le_refl _) (entPhi_ok hd hd'), rfl, Post.new sr hfr ?_⟩
        have E := (Stp.laid (o := .ext (entPhi X.prog X.w s.heap.objs.size (storedAllH [] (L.map (·.2))))) hfr).ext sr
        refine .dicT (storedAllH_ne (.inl (by simpa using hLne))) ?_ upd_same (i1.mono E) i2 i3 i6 i4 (i5.mono E)
        have := storedAllH_length (L.map (·.2)) ([] : List Ent)
        rw [List.length_map] at this
        rw [line_eq]; simp at this; omega
    · cases h
  · cases h
def wMt (X : Cx) (id : String) (x : V) (xs : List V) (H : Hp) (Q : VK) : Prop := ∀ pins s σ v us, Inv X pins σ H s → RelV x v → Vals xs us → wpAny (model X.prog X.w) X.A (call (.builtin id) (v :: us)) (EP X pins σ Q) X.xe s
theorem index_ok {n : Nat} (hr : Room n X.A) {a k z : D} (h : indexO a k = .ok z) {x y : V} (sr : XSR X F ι H S) (ca : Cv X F ι H a x) (ck : Cv X F ι H k y) : wMt X "list.index" x [y] H (Post X F ι H (z, .fz, S)) := by
  cases a <;> simp only [indexO] at h <;> try (cases h; done)
  rename_i ds
  split at h
  · rename_i hq
    simp only [Bool.and_eq_true] at hq
    have e := of_ok h
    obtain ⟨j, hj, hz⟩ := Option.map_eq_some_iff.mp e
    subst hz
    rw [findD_eq hq.1 0 hq.2] at hj
    simp only [Nat.add_zero, Option.map_id', id_eq] at hj
    obtain ⟨p, vs, rfl, hs, r⟩ := ca.lst
    intro pins s σ v us I rx rxs
    cases rx
    obtain ⟨uy, rfl, ry⟩ := Vals.one rxs
    have hl := all_okL hq.2
    obtain ⟨as, q1⟩ := ck.reads I hq.1 ry
    obtain ⟨its, rv, ⟨⟨cls, dd, data, sls⟩, n', ho, hc, hdn, hdt⟩, hlen⟩ := I.list hs
    obtain ⟨bs, q2⟩ := RepL.reads I deep ds vs its hl r rv
    simp only at hc hdt
    subst hc hdt
    have hxs := plain_pdL _ _ hl
    have hd := plain_pd _ _ hq.1
    obtain ⟨hjv, hit, hno⟩ := SeqAt.hit_at (vs := its.toArray) (by simpa using q2) hxs hj
    have hroom : X.A.units + 1 + min (PyData.depthAll (D.pdL ds)) (D.pd k).depth < cLine := by
      have h1 := depth_pdL deep ds hl
      have := hr.un
      have : deep = 60 := rfl
      omega
    have hsl : line = 16777216 := rfl
    have hjb : j < its.length := by simpa using hjv
    have hvl := rv.length
    rw [line_eq] at hlen
    refine call_meets PySem.F.slot_list_index ⟨_, ho, rfl⟩ PySem.F.entry_list_index (PySem.F.args_list_index_2 _ _)
      (SeqAt.list_indexAt p its.toArray n' dd sls uy _ j hjv (by omega) hit hno) ⟨ho, SeqAt.items_plain (vs := its.toArray) (by simpa using q2) q1 hxs hd hroom, ?_⟩
    exact ⟨.int (j : Nat), H, I.tok _, ⟨_, rfl⟩, Post.now sr (.int _)⟩
  · cases h
end
end Z
end
section
/-! ZM: what is walked. -/
namespace Z
open PySem L2 PySem.Spec PyProof.Rows
/-! ### iterators the hand layer lacks -/
/-- the keys of a dict of tuples -/
def Itx (P : Program) (w : World) (d : Addr) (o : Obj) (xs : List Ent) : L2.It :=
  ⟨fun i H => H d = some (.frz o (.ext (entPhi P w d xs))) ∧ i < xs.length, fun i H x H' => H' = H ∧ ∃ e, xs[i]? = some e ∧ x = .ref e.2.1, fun i H => H d = some (.frz o (.ext (entPhi P w d xs))) ∧ xs.length ≤ i⟩
theorem frzX {X : Cx} {pins : List (Addr × Obj)} {σ : L2.St} {H : Hp} {s : Shared} {d : Addr} {o : Obj} {xs : List Ent} (I : Inv X pins σ H s) (h : H d = some (.frz o (.ext (entPhi X.prog X.w d xs)))) :
    (d == sysModules) = false ∧ s.heap.get? d = some o ∧ o.ExactDict ∧ ∃ (es : Array DictEntry) (ep : Nat), o.data = .dict es ep ∧ es.size = xs.length ∧ ∀ (i : Nat) (e : Ent), xs[i]? = some e → ∃ en : DictEntry, es[i]? = some en ∧ en.key = .ref e.2.1 := by
  obtain ⟨hd, z, _⟩ := I.hok d _ h
  obtain ⟨hs, o', es, ep, ho, hx, hdt, he⟩ := z
  rw [hd] at ho; cases ho
  refine ⟨hs, hd, hx, es, ep, hdt, ?_, fun i e hi => ?_⟩
  · have := congrArg List.length he
    simpa using this
  · have q : es.toList[i]? = (xs.map (entryOfKey (nestedKind X.prog X.w)))[i]? := by rw [he]
    rw [List.getElem?_map, hi] at q
    exact ⟨_, by simpa using q, rfl⟩
section
variable {P : Program} {w : World} {K : PySem.W.Frag} {tg : Expr} {d : Addr} {o : Obj} {es : Array DictEntry} {ep : Nat}
theorem turn_keysX {xs : List Ent} (it : Addr) (hod : o.data = .dict es ep) : Turn P w K tg (Itx P w d o xs) [it] it (fun i h => h.IsKeyIter it d i xs.length ep) where
  mem := by simp
  obj := fun i h st b hb => by
    have e : b = it := by simpa using hb
    subst e
    obtain ⟨oi, e, c, dd⟩ := st
    exact ⟨oi, e, fun v z => by rw [dd] at z; cases z⟩
  keep := fun i h h' st k => st.at fun oi e => k it (by simp) oi e
  item := by
    intro X hP hw hK hc i pins s σ H E I hf st hg
    subst hP hw hK
    obtain ⟨hd, hi⟩ := hg
    obtain ⟨f0, f1, f2, f3, f4, f5⟩ := hf it (by simp)
    obtain ⟨hs, hgd, hx, es', ep', hdt, hsz, ent⟩ := frzX I hd
    obtain ⟨rfl, rfl⟩ := dict_ep hod hdt
    obtain ⟨e, he⟩ : ∃ p, xs[i]? = some p := ⟨xs[i], List.getElem?_eq_getElem hi⟩
    obtain ⟨en, hen, hkey⟩ := ent i e he
    refine next_key_item st hgd hdt hsz hen fun h' st' sb => ?_
    have I1 : Inv X pins σ H { s with heap := h' } := I.turned (t' := s.toks) (fun b ob hb e => (sb.2 b hb).trans e) f0 f1 f3 f4 f5
    obtain ⟨oi, eo, c, dd⟩ := id st'
    exact ⟨en.key, rfl, go_of (s := { s with heap := h' }) eo c dd (by decide) ⟨.ref e.2.1, H, I1, hkey, ⟨rfl, e, he, rfl⟩, st', fun b hb => (hf b hb).1⟩⟩
  done := by
    intro X hP hw hK hc i pins s σ H E I hf st hg
    subst hP hw hK
    obtain ⟨hd, hi⟩ := hg
    obtain ⟨f0, f1, f2, f3, f4, f5⟩ := hf it (by simp)
    obtain ⟨hs, hgd, hx, es', ep', hdt, hsz, ent⟩ := frzX I hd
    obtain ⟨rfl, rfl⟩ := dict_ep hod hdt
    exact next_key_end (I.ok.hd hc) st hgd hdt hsz hi fun h' eb => ⟨rfl, I.turned (t' := s.toks) (fun b ob hb e => eb b ob hb e) f0 f1 f3 f4 f5⟩
  self := fun A i s Q E st h => wpAny_pyIter_keyiter st h
end
/-- a tuple's items, each in a new pair -/
def IteT (K : PySem.W.Frag) (a : Addr) : L2.It :=
  ⟨fun i H => ∃ (xs : List V) (x : V), SqT K H a xs ∧ xs[i]? = some x, fun i H v H' => ∃ T x, v = .ref T ∧ H T = none ∧ H' = upd H T (.tup [.int (i : Nat), x]) ∧ ∀ xs, SqT K H a xs → xs[i]? = some x, fun i H => ∃ xs : List V, SqT K H a xs ∧ xs.length = i⟩
theorem turn_enumT {P : Program} {w : World} {K : PySem.W.Frag} {elts : List Expr} {kk : Nat} {tpos : Pos} (a e it : Addr) (hai : a ≠ it) (hae : a ≠ e) :
    Turn P w K (.Tuple elts kk tpos) (IteT K a) [e, it] e (fun i h => (∃ old, IsEnum h e it ((i : Nat) : Int) old) ∧ h.IsTupleIter it a i ∧ e ≠ it) where
  mem := by simp
  obj := fun i h st b hb => by
    obtain ⟨⟨old, he⟩, ⟨o, ho, hc, hd⟩, _⟩ := st
    have e' : b = e ∨ b = it := by simpa using hb
    rcases e' with z | z
    · rw [z]; exact ⟨_, he, fun v q => nomatch q⟩
    · rw [z]; exact ⟨o, ho, fun v q => by rw [hd] at q; cases q⟩
  keep := fun i h h' st k => let ⟨⟨old, he⟩, hi, hne⟩ := st; ⟨⟨old, k e (by simp) _ he⟩, hi.at fun o q => k it (by simp) o q, hne⟩
  item := by
    intro X hP hw hK hc i pins s σ H E I hf st hg
    subst hP hw hK
    obtain ⟨⟨old, he⟩, hit, hne⟩ := st
    obtain ⟨xs, x, hq, hx⟩ := hg
    obtain ⟨its, rv, p, hz⟩ := I.tuple hq
    obtain ⟨u, hu, ru⟩ := rv.get hx
    have hel : e < s.heap.objs.size := Heap.lt_size he
    have hil : it < s.heap.objs.size := by obtain ⟨_, q, _⟩ := hit; exact Heap.lt_size q
    have hD := Draws.tuple (prog := X.prog) (w := X.w) (A := X.A.in1) (I.ok.hd hc) it a hai its.toArray
    have hsz : i < its.toArray.size := by
      obtain ⟨h1, _⟩ := List.getElem?_eq_some_iff.mp hu
      simpa using h1
    refine wpAny_pyNext_enum_itemD hD he ⟨hit, p⟩ hsz hne (by simp [hne, Ne.symm hae]) fun x' h' tk hx' ho hit' hT hsz' hk => ?_
    have ex : x' = u := by
      have : its.toArray[i]? = some x' := hx'
      rw [show its.toArray[i]? = some u by simpa using hu] at this
      exact (Option.some.inj this).symm
    subst ex
    refine ⟨_, rfl, wpAny_letOwnedTupleGo_enum (s := { s with heap := h', toks := tk + 1 }) ho fun h'' he' sb => ?_⟩
    have hT2 : h''.get? s.heap.objs.size = some { cls := .type "tuple", data := .seq #[.int i tk, x'] } := (sb.2 _ (Nat.ne_of_gt hel)).trans hT
    have new : ObjOk X.prog X.w (upd H s.heap.objs.size (.tup [.int (i : Nat), x])) h'' s.heap.objs.size (.tup [.int (i : Nat), x]) :=
      ⟨by show 2 ≤ sizeLine; decide, [.int i tk, x'], .cons ⟨_, rfl⟩ (.cons ru .nil), ⟨_, hT2, rfl, _, rfl⟩⟩
    have I1 : Inv X pins σ (upd H s.heap.objs.size (.tup [.int (i : Nat), x])) { s with heap := h'', toks := tk + 1 } :=
      I.turnedNew (ch := [e, it]) (fun b ob hb q => (sb.2 b (fun z => hb (by simp [z]))).trans (hk b ob (fun z => hb (by simp [z])) (fun z => hb (by simp [z])) q)) hf (Nat.le_refl _) new
    refine ⟨.ref s.heap.objs.size, _, I1, rfl, ⟨_, x, rfl, I.hok.fresh (Nat.le_refl _), rfl, fun ys hy => by rw [I.tuple_inj hy hq]; exact hx⟩, ⟨⟨x', ?_⟩, hit'.1.at fun o q => (sb.2 it (Ne.symm hne)).trans q, hne⟩, fun b hb => ?_⟩
    · have e1 : ((i + 1 : Nat) : Int) = (i : Int) + 1 := by omega
      rw [e1]; exact he'
    · have hb' : b < s.heap.objs.size := by
        have e' : b = e ∨ b = it := by simpa using hb
        rcases e' with z | z
        · rw [z]; exact hel
        · rw [z]; exact hil
      rw [upd_ne (Nat.ne_of_lt hb')]
      exact (hf b hb).1
  done := by
    intro X hP hw hK hc i pins s σ H E I hf st hg
    subst hP hw hK
    obtain ⟨⟨old, he⟩, hit, hne⟩ := st
    obtain ⟨xs, hq, hx⟩ := hg
    obtain ⟨its, rv, p, hz⟩ := I.tuple hq
    obtain ⟨f0, f1, f2, f3, f4, f5⟩ := hf it (by simp)
    have hl := rv.length
    have hD := Draws.tuple (prog := X.prog) (w := X.w) (A := X.A.in1) (I.ok.hd hc) it a hai its.toArray
    have hsz : its.toArray.size = i := by simp; omega
    refine wpAny_pyNext_enum_endD hD he (by rw [hsz]; exact ⟨hit, p⟩) fun h' eb => ⟨rfl, I.turned (t' := s.toks) (fun b o hb q => eb b o hb q) f0 f1 f3 f4 f5⟩
  self := fun A i s Q E st h => let ⟨⟨_, he⟩, _⟩ := st; wpAny_pyIter_enum he h
theorem meets_enumerate_newT (l : Addr) (items : Array Value) (n : Nat) (dct : Option Addr) (sl : Array (Option Value)) :
    Meets (Builtin.«enumerate.__new__» ⟨[.type "enumerate", .ref l], []⟩) (fun _ R s => s.heap.get? l = some { cls := .type "tuple", dict := dct, data := .seq items n, slots := sl } ∧
      R (.ok (.ret (.ref (s.heap.push { cls := .type "tuple_iterator", data := .fields #[.ref l, .int 0 0] }).objs.size)))
        { s with heap := (s.heap.push { cls := .type "tuple_iterator", data := .fields #[.ref l, .int 0 0] }).push { cls := .type "enumerate", data := .fields #[.none, .bool false, .ref s.heap.objs.size, rawInt 0, .none, .none] } }) :=
  .of_wp fun prog w A R s h => by
    obtain ⟨hp, g, d, tk, os⟩ := s; obtain ⟨hl, h⟩ := h
    have hsub := sub_enumerate
    have hL : Heap.IsTuple (Shared.heap ⟨hp, g, d, tk, os⟩) l items := ⟨_, hl, rfl, n, rfl⟩
    wp_walk using AutoSeq1.wpAny_loadPart' hl
    refine wpAny_stack_any fun st => wpAny_pure ?_
    split
    · rename_i c _ _ _ _ _
      cases (c == Value.type "enumerate")
      · wp_walk using AutoSeq1.wpAny_loadPart' hl, wpAny_pyIter_tuple hL
        exact ⟨_, rfl, h⟩
      · wp_walk using AutoSeq1.wpAny_loadPart' hl, wpAny_pyIter_tuple hL
        exact ⟨_, rfl, h⟩
    · wp_walk using AutoSeq1.wpAny_loadPart' hl, wpAny_pyIter_tuple hL
      exact ⟨_, rfl, h⟩
theorem call_enumerate_tuple {prog : Program} {w : World} {A : Around} {E : Value → Shared → Prop} {s : Shared} {l : Addr} {items : Array Value} {Q : Value → Shared → Prop} (hL : s.heap.IsTuple l items)
    (h : ∀ h', IsEnum h' (s.heap.objs.size + 1) s.heap.objs.size 0 .none → h'.IsTupleIter s.heap.objs.size l 0 → h'.objs.size = s.heap.objs.size + 2 →
      (∀ b o, s.heap.get? b = some o → h'.get? b = some o) → Q (.ref (s.heap.objs.size + 1)) { s with heap := h' }) :
    wpAny (model prog w) A (call (.type "enumerate") [.ref l]) Q E s := by
  obtain ⟨⟨c, dct, dt, sl⟩, hl, hc, n, hd⟩ := hL
  replace hc : c = .type "tuple" := hc
  replace hd : dt = .seq items n := hd
  subst hc hd
  refine callType_new F.called_enumerate (by decide) (F.typeCall_enumerate_1 _) (F.newCall_enumerate_1 _) (fun obj => F.args_object_init_2 obj _) F.entry_enumerate_new
    (meets_enumerate_newT l items n dct sl) ⟨hl, ?_⟩
  have hz : (s.heap.push { cls := .type "tuple_iterator", data := .fields #[.ref l, .int 0 0] }).objs.size = s.heap.objs.size + 1 := Heap.size_push ..
  show _ ∧ _
  rw [hz]
  have he : IsEnum ((s.heap.push { cls := .type "tuple_iterator", data := .fields #[.ref l, .int 0 0] }).push
      { cls := .type "enumerate", data := .fields #[.none, .bool false, .ref s.heap.objs.size, rawInt 0, .none, .none] }) (s.heap.objs.size + 1) s.heap.objs.size 0 .none := by
    have := Heap.get?_push_size (s.heap.push { cls := .type "tuple_iterator", data := .fields #[.ref l, .int 0 0] })
      (o := { cls := .type "enumerate", data := .fields #[.none, .bool false, .ref s.heap.objs.size, rawInt 0, .none, .none] }) rfl
    rw [hz] at this; exact this
  refine ⟨⟨_, he, rfl⟩, h _ he ⟨_, Heap.get?_push_of_some _ (Heap.get?_push_size _ rfl), rfl, rfl⟩ (by rw [Heap.size_push, hz]) fun b o x => Heap.get?_push_of_some _ (Heap.get?_push_of_some _ x)⟩
def iEnumT (K : PySem.W.Frag) (ta : TA) : TI := fun σ H R => ta σ H fun vs H1 => ∃ a xs, vs = [.ref a] ∧ SqT K H1 a xs ∧ R (IteT K a) H1
theorem pi_enumT {X : Cx} {e : Expr} {ta : TA} {p pos tpos : Pos} {elts : List Expr} {kk : Nat} (hg : Gl X "enumerate") (hm : X.mg "enumerate" = none) (ha : PA X [e] ta) (hs : starEach [e] X.env = [(false, eval e X.env)]) :
    PI X (.Tuple elts kk tpos) (.Call (.Name "enumerate" p) [e] [] pos) (fun σ H R => ta σ H fun vs H1 => (∃ a xs, vs = [.ref a] ∧ SqT X.K H1 a xs ∧ R (IteT X.K a) H1) ∨ (∃ a xs, vs = [.ref a] ∧ SqL X.K H1 a xs ∧ R (Ite X.K a) H1)) := by
  refine ⟨fun pins s σ H R I h => ?_⟩
  refine Call_ (ld_blt I hg hm boot_enumerate (PyProof.Rows.callWith_type1 (thn (ha.run pos pins s σ H _ I h) fun us s1 ⟨vs, H1, I1, r1, q1⟩ => ?_) hs rfl))
  have fp2 : ∀ b ∈ [s1.heap.objs.size + 1, s1.heap.objs.size], FpOk X pins H1 b := fun b hb => by
    have e' : b = s1.heap.objs.size + 1 ∨ b = s1.heap.objs.size := by simpa using hb
    have hle : s1.heap.objs.size ≤ b := by
      rcases e' with z | z
      · rw [z]; exact Nat.le_add_right _ _
      · rw [z]; exact Nat.le_refl _
    exact I1.fpOk hle (I1.hok.fresh hle)
  rcases q1 with ⟨a, xs, ex, hq, q⟩ | ⟨a, xs, ex, hq, q⟩
  · subst ex
    cases r1 with
    | cons r rr =>
      cases rr
      cases r
      obtain ⟨its, rv, p', hz⟩ := I1.tuple hq
      have hla : a < s1.heap.objs.size := by obtain ⟨o, ho, _⟩ := id p'; exact Heap.lt_size ho
      refine call_enumerate_tuple (show s1.heap.IsTuple a its.toArray from p') fun h' he hit hsz hk => wpAny_pyIter_enum he ?_
      have I2 : Inv X pins σ H1 { s1 with heap := h' } := I1.kept (t' := s1.toks) hk
      exact ⟨s1.heap.objs.size + 1, [s1.heap.objs.size + 1, s1.heap.objs.size], _, _, H1, rfl, I2, turn_enumT a (s1.heap.objs.size + 1) s1.heap.objs.size (Nat.ne_of_lt hla) (Nat.ne_of_lt (Nat.lt_succ_of_lt hla)), ⟨⟨.none, he⟩, hit, Nat.succ_ne_self _⟩, fp2, q⟩
  · subst ex
    cases r1 with
    | cons r rr =>
      cases rr
      cases r
      obtain ⟨its, rv, p', hz⟩ := I1.list hq
      refine call_enumerate_list p'.isList fun h' he hit hsz hk => wpAny_pyIter_enum he ?_
      have I2 : Inv X pins σ H1 { s1 with heap := h' } := I1.kept (t' := s1.toks) hk
      exact ⟨s1.heap.objs.size + 1, [s1.heap.objs.size + 1, s1.heap.objs.size], _, _, H1, rfl, I2, turn_enum a (s1.heap.objs.size + 1) s1.heap.objs.size, ⟨⟨.none, he⟩, hit, Nat.succ_ne_self _⟩, fp2, q⟩
/-- a list, a tuple, a locked dict -/
theorem pi_any {X : Cx} {tg e : Expr} {te : TE} (he : PE X e te) : PI X tg e (fun σ H R => te σ H fun x H1 => (∃ a xs, x = .ref a ∧ SqL X.K H1 a xs ∧ R (Itl X.K a) H1) ∨ (∃ a xs, x = .ref a ∧ SqT X.K H1 a xs ∧ R (Itt X.K a) H1) ∨
    (∃ d o kvs, x = .ref d ∧ H1 d = some (.frz o (.dK kvs)) ∧ R (Itk d o kvs) H1) ∨ ∃ d o xs, x = .ref d ∧ H1 d = some (.frz o (.ext (entPhi X.prog X.w d xs))) ∧ R (Itx X.prog X.w d o xs) H1) := by
  refine ⟨fun pins s σ H R I h => ?_⟩
  refine thn (he.run pins s σ H _ I h) fun u s1 ⟨x, H1, I1, rx, q⟩ => ?_
  have one : ∀ b ∈ [s1.heap.objs.size], FpOk X pins H1 b := fun b hb => by
    have e : b = s1.heap.objs.size := by simpa using hb
    subst e
    exact I1.fpOk (Nat.le_refl _) (I1.hok.fresh (Nat.le_refl _))
  rcases q with ⟨a, xs, rfl, hq, q⟩ | ⟨a, xs, rfl, hq, q⟩ | ⟨d, o, kvs, rfl, hd, q⟩ | ⟨d, o, xs, rfl, hd, q⟩
  · cases rx
    obtain ⟨its, rv, p, hz⟩ := I1.list hq
    refine wpAny_pyIter_list p.isList ?_
    exact ⟨s1.heap.objs.size, [s1.heap.objs.size], _, _, H1, rfl, I1.kept (t' := s1.toks) fun b o e => Heap.get?_push_of_some _ e, turn_list a _, ⟨_, Heap.get?_push_size _ rfl, rfl, rfl⟩, one, q⟩
  · cases rx
    obtain ⟨its, rv, p, hz⟩ := I1.tuple hq
    refine wpAny_pyIter_tuple (show s1.heap.IsTuple a its.toArray from p) ?_
    exact ⟨s1.heap.objs.size, [s1.heap.objs.size], _, _, H1, rfl, I1.kept (t' := s1.toks) fun b o e => Heap.get?_push_of_some _ e, turn_tuple a _, ⟨_, Heap.get?_push_size _ rfl, rfl, rfl⟩, one, q⟩
  · cases rx
    obtain ⟨hs, hgd, hx, es, ep, vs, hdt, hsz, kv, hm⟩ := I1.frzK hd
    refine iter_keys hs hgd hx hdt (pi_one (tk := s1.toks) I1 _ (turn_keys _ hdt) ⟨_, Heap.get?_push_size _ rfl, rfl, ?_⟩ q)
    rw [hsz] <;> rfl
  · cases rx
    obtain ⟨hs, hgd, hx, es, ep, hdt, hsz, ent⟩ := frzX I1 hd
    refine iter_keys hs hgd hx hdt (pi_one (tk := s1.toks) I1 _ (turn_keysX _ hdt) ⟨_, Heap.get?_push_size _ rfl, rfl, ?_⟩ q)
    rw [hsz] <;> rfl
end Z
end
section
/-! ZN: what a walk's reading promises. -/
namespace Z
open PySem L2 PySem.Spec PyProof.Rows
def wI (X : Cx) (tg iter : Expr) (σ : L2.St) (H : Hp) (R : L2.It → Hp → Prop) : Prop := ∀ pins s, Inv X pins σ H s →
  wpAny (model X.prog X.w) X.A (eval iter X.env) (fun v s1 => wpAny (model X.prog X.w) X.A (pyIter v) (PIE X pins σ tg R) X.xe s1) X.xe s
section
variable {X : Cx} {F F' F1 : Addr → Prop} {ι ι' ι1 : Io} {H H' H1 : Hp} {S : Sto} {σ : L2.St} {tg : Expr}
theorem pi_w (tg iter : Expr) : PI X tg iter (wI X tg iter) := ⟨fun pins s _ _ _ I h => h pins s I⟩
theorem wI.of {iter : Expr} {wi : TI} (h : PI X tg iter wi) {R : L2.It → Hp → Prop} (q : wi σ H R) : wI X tg iter σ H R := fun pins s I => h.run pins s σ H R I q
theorem Sl.mono {d : D} {m : Bool} {v : V} (h : Sl X F ι H d m v) (s : XSR X F ι H S) (x : Stp F ι H F' ι' H') : Sl X F' ι' H' d m v := by
  cases m with
  | false => exact Rep.mono (x.ext s) h
  | true =>
    obtain ⟨a, rfl, t, n⟩ := h
    refine ⟨a, rfl, t.mono (x.ext s) fun o h => x.keep a o h n, fun z => ?_⟩
    rcases x.inn a z with q | q
    · exact n q
    · exact t.some q
theorem Sl.cv {d : D} {m : Bool} {v : V} (h : Sl X F ι H d m v) : Cv X F ι H d v := by
  cases m with
  | false => exact .inl h
  | true => obtain ⟨a, rfl, t, n⟩ := h; exact .inr ⟨a, rfl, t⟩
def PostS (X : Cx) (F : Addr → Prop) (ι : Io) (H : Hp) (z : D × Bool × Sto) : VK := fun v H' => ∃ F' ι', Stp F ι H F' ι' H' ∧ XSR X F' ι' H' z.2.2 ∧ Sl X F' ι' H' z.1 z.2.1 v
theorem wpE.src {e : Expr} {r : Res} {z : D × Bool × Sto} (h : srcO r = .ok z) (w : wpE X e σ H (Post X F ι H r)) : wpE X e σ H (PostS X F ι H z) := by
  obtain ⟨d, k, S⟩ := r
  cases k with
  | fz => cases h; exact w.mono fun v H' ⟨F', ι', x, s, q⟩ => ⟨F', ι', x, s, q⟩
  | vw => cases h; exact w.mono fun v H' ⟨F', ι', x, s, q⟩ => ⟨F', ι', x, s, q⟩
  | fr => cases h; exact (w.kept (y := (d, S)) rfl).mono fun v H' ⟨F', ι', x, s, q⟩ => ⟨F', ι', x, s, q⟩
/-- at later states: what was known, and what is looked at -/
def Lx (X : Cx) (F1 : Addr → Prop) (ι1 : Io) (H1 : Hp) (ws : List (D × V)) (F : Addr → Prop) (ι : Io) (H : Hp) : Prop := Ext F1 ι1 H1 F ι H ∧ ∀ p ∈ ws, Sl X F ι H p.1 true p.2
def Jo (X : Cx) (J : L2.It) (L : (Addr → Prop) → Io → Hp → Prop) (ds : List D) : Prop := ∀ i F ι H, L F ι H → (i < ds.length → J.go i H) ∧ (i = ds.length → J.stop i H) ∧
  ∀ x H' S, J.yld i H x H' → XSR X F ι H S → ∀ d, ds[i]? = some d → Stp F ι H F ι H' ∧ XSR X F ι H' S ∧ XRep X F ι H' d x
def PostI (X : Cx) (F : Addr → Prop) (ι : Io) (H : Hp) (r : List D × Bool × Sto) : L2.It → Hp → Prop := fun J H1 => ∃ F1 ι1 ws, Stp F ι H F1 ι1 H1 ∧ XSR X F1 ι1 H1 r.2.2 ∧ (∀ p ∈ ws, Sl X F1 ι1 H1 p.1 true p.2) ∧ (r.2.1 = false → ws = []) ∧ Jo X J (Lx X F1 ι1 H1 ws) r.1
def GI (X : Cx) (tg iter : Expr) (g : Env → Sto → Out (List D × Bool × Sto)) : Prop := ∀ env S r, g env S = .ok r → ∀ F ι σ H, XSR X F ι H S → Se X F ι H env σ → wI X tg iter σ H (PostI X F ι H r)
def srcs (d : D) (m : Bool) (v : V) : List (D × V) := if m then [(d, v)] else []
theorem srcs_sl {d : D} {m : Bool} {v : V} (h : Sl X F ι H d m v) : ∀ p ∈ srcs d m v, Sl X F ι H p.1 true p.2 := by
  cases m with
  | false => intro p hp; simp [srcs] at hp
  | true => intro p hp; simp [srcs] at hp; subst hp; exact h
theorem srcs_later {d : D} {m : Bool} {v : V} (h : Sl X F1 ι1 H1 d m v) {ws : List (D × V)} (hs : ∀ p ∈ srcs d m v, p ∈ ws) (l : Lx X F1 ι1 H1 ws F ι H) : Sl X F ι H d m v := by
  cases m with
  | false => exact Rep.mono l.1 h
  | true => exact l.2 (d, v) (hs _ (by simp [srcs]))
theorem jo_list {a : Addr} {ds : List D} {L : (Addr → Prop) → Io → Hp → Prop} (h : ∀ F ι H, L F ι H → ∃ vs, SqL X.K H a vs ∧ XRepL X F ι H ds vs) : Jo X (Itl X.K a) L ds := by
  intro i F ι H l
  obtain ⟨vs, hs, r⟩ := h F ι H l
  have hl := r.length
  refine ⟨fun hi => ?_, fun hi => ⟨vs, hs, by omega⟩, fun x H' S y s d hd => ?_⟩
  · obtain ⟨v, hv, _⟩ := r.at_ (List.getElem?_eq_getElem hi)
    exact ⟨vs, v, hs, hv⟩
  · obtain ⟨rfl, y⟩ := y
    obtain ⟨v, hv, rv⟩ := r.at_ hd
    rw [y vs hs] at hv; cases hv
    exact ⟨.refl, s, rv⟩
theorem jo_tup {a : Addr} {ds : List D} {L : (Addr → Prop) → Io → Hp → Prop} (h : ∀ F ι H, L F ι H → ∃ vs, SqT X.K H a vs ∧ XRepL X F ι H ds vs) : Jo X (Itt X.K a) L ds := by
  intro i F ι H l
  obtain ⟨vs, hs, r⟩ := h F ι H l
  have hl := r.length
  refine ⟨fun hi => ?_, fun hi => ⟨vs, hs, by omega⟩, fun x H' S y s d hd => ?_⟩
  · obtain ⟨v, hv, _⟩ := r.at_ (List.getElem?_eq_getElem hi)
    exact ⟨vs, v, hs, hv⟩
  · obtain ⟨rfl, y⟩ := y
    obtain ⟨v, hv, rv⟩ := r.at_ hd
    rw [y vs hs] at hv; cases hv
    exact ⟨.refl, s, rv⟩
theorem enumD_at : ∀ {ds : List D} {n i : Nat} {d : D}, (enumD n ds)[i]? = some d → ∃ e, ds[i]? = some e ∧ d = .tup [.int ((n + i : Nat) : Int), e]
  | [], _, _, _, h => by simp [enumD] at h
  | e :: ds, n, 0, d, h => by simp [enumD] at h; exact ⟨e, rfl, by rw [← h]; simp⟩
  | e :: ds, n, i + 1, d, h => by
    obtain ⟨f, h1, h2⟩ := enumD_at (ds := ds) (n := n + 1) (i := i) (by simpa [enumD] using h)
    have e : ((n + 1 + i : Nat) : Int) = ((n + (i + 1) : Nat) : Int) := by omega
    exact ⟨f, by simpa using h1, by rw [h2, e]⟩
theorem enumD_len : ∀ (ds : List D) (n : Nat), (enumD n ds).length = ds.length
  | [], _ => rfl
  | d :: ds, n => by simp [enumD, enumD_len ds]
theorem zipD_at : ∀ {as bs : List D} {i : Nat} {d : D}, (zipD as bs)[i]? = some d → ∃ a b, as[i]? = some a ∧ bs[i]? = some b ∧ d = .tup [a, b]
  | [], _, _, _, h => by simp [zipD] at h
  | _ :: _, [], _, _, h => by simp [zipD] at h
  | a :: as, b :: bs, 0, d, h => by simp [zipD] at h; exact ⟨a, b, rfl, rfl, h.symm⟩
  | a :: as, b :: bs, i + 1, d, h => by
    obtain ⟨x, y, h1, h2, h3⟩ := zipD_at (as := as) (bs := bs) (i := i) (by simpa [zipD] using h)
    exact ⟨x, y, by simpa using h1, by simpa using h2, h3⟩
theorem zipD_len : ∀ (as bs : List D), (zipD as bs).length = min as.length bs.length
  | [], _ => by simp [zipD]
  | _ :: _, [] => by simp [zipD]
  | a :: as, b :: bs => by simp [zipD, zipD_len as bs]
theorem pair_rep {p : Addr} {a b : D} {x y : V} (s : XSR X F ι H S) (hp : H p = none) (ra : XRep X F ι H a x) (rb : XRep X F ι H b y) :
    Stp F ι H F ι (upd H p (.tup [x, y])) ∧ XSR X F ι (upd H p (.tup [x, y])) S ∧ XRep X F ι (upd H p (.tup [x, y])) (.tup [a, b]) (.ref p) :=
  ⟨.laid hp, s.laid hp, .tup (SqT.of upd_same) (RepL.laid s hp (.cons ra (.cons rb .nil)))⟩
theorem jo_enum {a : Addr} {ds : List D} {L : (Addr → Prop) → Io → Hp → Prop} (h : ∀ F ι H, L F ι H → ∃ vs, SqL X.K H a vs ∧ XRepL X F ι H ds vs) : Jo X (Ite X.K a) L (enumD 0 ds) := by
  intro i F ι H l
  obtain ⟨vs, hs, r⟩ := h F ι H l
  have hl := r.length
  rw [enumD_len]
  refine ⟨fun hi => ?_, fun hi => ⟨vs, hs, by omega⟩, fun x H' S y s d hd => ?_⟩
  · obtain ⟨v, hv, _⟩ := r.at_ (List.getElem?_eq_getElem hi)
    exact ⟨vs, v, hs, hv⟩
  · obtain ⟨T, x', rfl, hT, rfl, y⟩ := y
    obtain ⟨e, he, rfl⟩ := enumD_at hd
    obtain ⟨v, hv, rv⟩ := r.at_ he
    rw [y vs hs] at hv; cases hv
    rw [Nat.zero_add]
    exact pair_rep s hT (.int _) rv
theorem jo_enumT {a : Addr} {ds : List D} {L : (Addr → Prop) → Io → Hp → Prop} (h : ∀ F ι H, L F ι H → ∃ vs, SqT X.K H a vs ∧ XRepL X F ι H ds vs) : Jo X (IteT X.K a) L (enumD 0 ds) := by
  intro i F ι H l
  obtain ⟨vs, hs, r⟩ := h F ι H l
  have hl := r.length
  rw [enumD_len]
  refine ⟨fun hi => ?_, fun hi => ⟨vs, hs, by omega⟩, fun x H' S y s d hd => ?_⟩
  · obtain ⟨v, hv, _⟩ := r.at_ (List.getElem?_eq_getElem hi)
    exact ⟨vs, v, hs, hv⟩
  · obtain ⟨T, x', rfl, hT, rfl, y⟩ := y
    obtain ⟨e, he, rfl⟩ := enumD_at hd
    obtain ⟨v, hv, rv⟩ := r.at_ he
    rw [y vs hs] at hv; cases hv
    rw [Nat.zero_add]
    exact pair_rep s hT (.int _) rv
theorem jo_zip {a b : Addr} {ds es : List D} {L : (Addr → Prop) → Io → Hp → Prop} (h : ∀ F ι H, L F ι H → ∃ vs us, SqL X.K H a vs ∧ SqL X.K H b us ∧ XRepL X F ι H ds vs ∧ XRepL X F ι H es us) : Jo X (Itz X.K a b) L (zipD ds es) := by
  intro i F ι H l
  obtain ⟨vs, us, hs, hs2, r, r2⟩ := h F ι H l
  have hl := r.length
  have hl2 := r2.length
  rw [zipD_len]
  refine ⟨fun hi => ?_, fun hi => ⟨vs, us, hs, hs2, by omega⟩, fun x H' S y s d hd => ?_⟩
  · obtain ⟨v, hv, _⟩ := r.at_ (List.getElem?_eq_getElem (i := i) (by omega))
    obtain ⟨v2, hv2, _⟩ := r2.at_ (List.getElem?_eq_getElem (i := i) (by omega))
    exact ⟨vs, us, v, v2, hs, hs2, hv, hv2⟩
  · obtain ⟨T, x', y', rfl, hT, rfl, y1, y2⟩ := y
    obtain ⟨e, e', he, he', rfl⟩ := zipD_at hd
    obtain ⟨v, hv, rv⟩ := r.at_ he
    obtain ⟨v2, hv2, rv2⟩ := r2.at_ he'
    rw [y1 vs hs] at hv; cases hv
    rw [y2 us hs2] at hv2; cases hv2
    exact pair_rep s hT rv rv2
theorem jo_zipT {a b : Addr} {ds es : List D} {L : (Addr → Prop) → Io → Hp → Prop} (h : ∀ F ι H, L F ι H → ∃ vs us, SqT X.K H a vs ∧ SqT X.K H b us ∧ XRepL X F ι H ds vs ∧ XRepL X F ι H es us) : Jo X (RZ.ItzT X.K a b) L (zipD ds es) := by
  intro i F ι H l
  obtain ⟨vs, us, hs, hs2, r, r2⟩ := h F ι H l
  have hl := r.length
  have hl2 := r2.length
  rw [zipD_len]
  refine ⟨fun hi => ?_, fun hi => ⟨vs, us, hs, hs2, by omega⟩, fun x H' S y s d hd => ?_⟩
  · obtain ⟨v, hv, _⟩ := r.at_ (List.getElem?_eq_getElem (i := i) (by omega))
    obtain ⟨v2, hv2, _⟩ := r2.at_ (List.getElem?_eq_getElem (i := i) (by omega))
    exact ⟨vs, us, v, v2, hs, hs2, hv, hv2⟩
  · obtain ⟨T, x', y', rfl, hT, rfl, y1, y2⟩ := y
    obtain ⟨e, e', he, he', rfl⟩ := zipD_at hd
    obtain ⟨v, hv, rv⟩ := r.at_ he
    obtain ⟨v2, hv2, rv2⟩ := r2.at_ he'
    rw [y1 vs hs] at hv; cases hv
    rw [y2 us hs2] at hv2; cases hv2
    exact pair_rep s hT rv rv2
theorem jo_range {lo : Int} {n : Nat} {L : (Addr → Prop) → Io → Hp → Prop} : Jo X (Itr lo n) L (rangeD lo n) := by
  intro i F ι H l
  have hl : (rangeD lo n).length = n := by simp [rangeD]
  rw [hl]
  refine ⟨fun hi => hi, fun hi => Nat.le_of_eq hi.symm, fun x H' S y s d hd => ?_⟩
  obtain ⟨rfl, rfl⟩ := y
  have hi : i < n := by
    obtain ⟨h1, _⟩ := List.getElem?_eq_some_iff.mp hd
    rw [hl] at h1; exact h1
  have : d = .int (lo + i) := by
    simp [rangeD, hi] at hd
    exact hd.symm
  subst this
  exact ⟨.refl, s, .int _⟩
theorem gi_seq {e : Expr} {g : Env → Sto → Out Res} (h : GE X e g) : GI X tg e fun env S => (g env S).bind fun r => (srcO r).bind fun z => (if z.2.1 then seq2O z.1 else seqO z.1).bind fun ds => .ok (ds, z.2.1, z.2.2) := by
  intro env S r q F ι σ H s se
  obtain ⟨r0, h0, q⟩ := bind_ok q
  obtain ⟨⟨d, m, S1⟩, h1, q⟩ := bind_ok q
  obtain ⟨ds, h2, q⟩ := bind_ok q
  cases q
  have w := (h env S r0 h0 F ι σ H s se).src h1
  refine wI.of (pi_any (pe_w e)) (w.mono fun v H1 ⟨F1, ι1, x, s1, sl⟩ => ?_)
  have post : ∀ J, Jo X J (Lx X F1 ι1 H1 (srcs d m v)) ds → PostI X F ι H (ds, m, S1) J H1 := fun J j => ⟨F1, ι1, srcs d m v, x, s1, srcs_sl sl, fun hm => by cases hm; rfl, j⟩
  have lat : ∀ F ι H, Lx X F1 ι1 H1 (srcs d m v) F ι H → Sl X F ι H d m v := fun F ι H l => srcs_later sl (fun _ hp => hp) l
  cases d with
  | lst es =>
    have e : es = ds := by cases m <;> (simp [seq2O, seqO] at h2; exact h2)
    subst e
    obtain ⟨a, vs, rfl, hs, _⟩ := sl.cv.lst
    refine .inl ⟨a, vs, rfl, hs, post _ (jo_list fun F ι H l => ?_)⟩
    obtain ⟨a', vs', ea, hs', r'⟩ := (lat F ι H l).cv.lst
    cases ea
    exact ⟨vs', hs', r'⟩
  | tup es =>
    have e : es = ds := by cases m <;> (simp [seq2O, seqO] at h2; exact h2)
    subst e
    obtain ⟨a, vs, rfl, hs, _⟩ := sl.cv.tup
    refine .inr (.inl ⟨a, vs, rfl, hs, post _ (jo_tup fun F ι H l => ?_)⟩)
    obtain ⟨a', vs', ea, hs', r'⟩ := (lat F ι H l).cv.tup
    cases ea
    exact ⟨vs', hs', r'⟩
  | dic ks vs =>
    cases m with
    | true => simp [seq2O] at h2
    | false =>
      have e : ks = ds := by simp [seqO] at h2; exact h2
      subst e
      have rep : XRep X F1 ι1 H1 (.dic ks vs) v := sl
      cases rep with
      | @obj a _ fa t =>
        cases t with
        | @dicK _ _ kvs _ hd r =>
          obtain ⟨o, hd⟩ := hd
          refine .inr (.inr (.inl ⟨a, o, kvs, rfl, hd, post _ fun i F ι H l => ?_⟩))
          have hd' := l.1.f a _ fa hd
          rw [List.length_map]
          refine ⟨fun hi => ⟨hd', hi⟩, fun hi => ⟨hd', Nat.le_of_eq hi.symm⟩, fun x H' S y s d hdd => ?_⟩
          obtain ⟨rfl, k, v', hk, rfl⟩ := y
          rw [List.getElem?_map, hk] at hdd
          cases hdd
          refine ⟨.refl, s, ?_⟩
          cases k with
          | inl i => exact .int i
          | inr x => exact .str x
        | @dicT _ _ xs ws _ _ h0 h1 hd r1 h3 h4 h5 h6 r2 =>
          obtain ⟨o, hd⟩ := hd
          refine .inr (.inr (.inr ⟨a, o, xs, rfl, hd, post _ fun i F ι H l => ?_⟩))
          have hd' := l.1.f a _ fa hd
          have hl := r1.length
          rw [List.length_map] at hl
          refine ⟨fun hi => ⟨hd', by omega⟩, fun hi => ⟨hd', by omega⟩, fun x H' S y s d hdd => ?_⟩
          obtain ⟨rfl, e, he, rfl⟩ := y
          obtain ⟨v2, hv2, rv⟩ := (r1.mono l.1).at_ hdd
          rw [List.getElem?_map, he] at hv2
          cases hv2
          exact ⟨.refl, s, rv⟩
  | _ => cases m <;> simp [seq2O, seqO] at h2
/-! ### arguments -/
theorem wpA.nil {Q : List V → Hp → Prop} (h : Q [] H) : wpA X [] σ H Q := wpA.of pa_nil h
theorem wpA.cons {e : Expr} {es : List Expr} {Q : List V → Hp → Prop} (hs : starEach (e :: es) X.env = (false, eval e X.env) :: starEach es X.env) (h : wpE X e σ H fun v H1 => wpA X es σ H1 fun vs H2 => Q (v :: vs) H2) : wpA X (e :: es) σ H Q :=
  wpA.of (pa_cons (pe_w e) (pa_w es) hs) h
theorem gi_enum {e : Expr} {g : Env → Sto → Out Res} {p pos tpos : Pos} {elts : List Expr} {kk : Nat} (hg : Gl X "enumerate") (hm : X.mg "enumerate" = none) (hs : starEach [e] X.env = [(false, eval e X.env)]) (h : GE X e g) :
    GI X (.Tuple elts kk tpos) (.Call (.Name "enumerate" p) [e] [] pos) fun env S => (g env S).bind fun r => (srcO r).bind fun z => (seq2O z.1).bind fun ds => .ok (enumD 0 ds, z.2.1, z.2.2) := by
  intro env S r q F ι σ H s se
  obtain ⟨r0, h0, q⟩ := bind_ok q
  obtain ⟨⟨d, m, S1⟩, h1, q⟩ := bind_ok q
  obtain ⟨ds, h2, q⟩ := bind_ok q
  cases q
  have w := (h env S r0 h0 F ι σ H s se).src h1
  refine wI.of (pi_enumT hg hm (pa_w [e]) hs) (wpA.cons hs (w.mono fun v H1 ⟨F1, ι1, x, s1, sl⟩ => wpA.nil ?_))
  have post : ∀ J, Jo X J (Lx X F1 ι1 H1 (srcs d m v)) (enumD 0 ds) → PostI X F ι H (enumD 0 ds, m, S1) J H1 := fun J j => ⟨F1, ι1, srcs d m v, x, s1, srcs_sl sl, fun hm => by cases hm; rfl, j⟩
  have lat : ∀ F ι H, Lx X F1 ι1 H1 (srcs d m v) F ι H → Sl X F ι H d m v := fun F ι H l => srcs_later sl (fun _ hp => hp) l
  cases d with
  | lst es =>
    cases h2
    obtain ⟨a, vs, rfl, hs, _⟩ := sl.cv.lst
    refine .inr ⟨a, vs, rfl, hs, post _ (jo_enum fun F ι H l => ?_)⟩
    obtain ⟨a', vs', ea, hs', r'⟩ := (lat F ι H l).cv.lst
    cases ea
    exact ⟨vs', hs', r'⟩
  | tup es =>
    cases h2
    obtain ⟨a, vs, rfl, hs, _⟩ := sl.cv.tup
    refine .inl ⟨a, vs, rfl, hs, post _ (jo_enumT fun F ι H l => ?_)⟩
    obtain ⟨a', vs', ea, hs', r'⟩ := (lat F ι H l).cv.tup
    cases ea
    exact ⟨vs', hs', r'⟩
  | _ => cases h2
theorem gi_zip {e e2 : Expr} {g g2 : Env → Sto → Out Res} {p pos tpos : Pos} {elts : List Expr} {kk : Nat} (hg : Gl X "zip") (hm : X.mg "zip" = none) (hs : starEach [e, e2] X.env = (false, eval e X.env) :: starEach [e2] X.env) (hs2 : starEach [e2] X.env = [(false, eval e2 X.env)])
    (hpl : (backTo pos (starEach [e2] X.env)).any (·.1) = false) (h : GE X e g) (h' : GE X e2 g2) :
    GI X (.Tuple elts kk tpos) (.Call (.Name "zip" p) [e, e2] [] pos) fun env S => (g env S).bind fun r => (srcO r).bind fun z => (g2 env z.2.2).bind fun q => (srcO q).bind fun y => (zipO z.1 y.1).bind fun ds => .ok (ds, z.2.1 || y.2.1, y.2.2) := by
  intro env S r q F ι σ H s se
  obtain ⟨r0, h0, q⟩ := bind_ok q
  obtain ⟨⟨d, m, S1⟩, h1, q⟩ := bind_ok q
  obtain ⟨r2, h2, q⟩ := bind_ok q
  obtain ⟨⟨d2, m2, S2⟩, h3, q⟩ := bind_ok q
  obtain ⟨ds, h4, q⟩ := bind_ok q
  cases q
  have w := (h env S r0 h0 F ι σ H s se).src h1
  refine wI.of (RZ.pi_zipA hg hm (pa_w [e, e2]) hs hpl) (wpA.cons hs (w.mono fun v H1 ⟨F1, ι1, x, s1, sl⟩ => ?_))
  have w2 := (h' env S1 r2 h2 F1 ι1 σ H1 s1 (se.mono s x)).src h3
  refine wpA.cons hs2 (w2.mono fun v2 H2 ⟨F2, ι2, x2, s2, sl2⟩ => wpA.nil ?_)
  have sl' := sl.mono s1 x2
  have post : ∀ J, Jo X J (Lx X F2 ι2 H2 (srcs d m v ++ srcs d2 m2 v2)) ds → PostI X F ι H (ds, m || m2, S2) J H2 := fun J j => ⟨F2, ι2, _, x.trans x2, s2, fun p hp => by
    rcases List.mem_append.mp hp with hp | hp
    · exact srcs_sl sl' p hp
    · exact srcs_sl sl2 p hp, fun hm => by
      cases m <;> cases m2 <;> simp at hm
      rfl, j⟩
  have lat : ∀ F ι H, Lx X F2 ι2 H2 (srcs d m v ++ srcs d2 m2 v2) F ι H → Sl X F ι H d m v := fun F ι H l => srcs_later sl' (fun _ hp => List.mem_append_left _ hp) l
  have lat2 : ∀ F ι H, Lx X F2 ι2 H2 (srcs d m v ++ srcs d2 m2 v2) F ι H → Sl X F ι H d2 m2 v2 := fun F ι H l => srcs_later sl2 (fun _ hp => List.mem_append_right _ hp) l
  cases d <;> cases d2 <;> simp only [zipO] at h4 <;> try (cases h4; done)
  · cases h4
    obtain ⟨a, vs, rfl, hs, _⟩ := sl'.cv.tup
    obtain ⟨a2, vs2, rfl, hs2, _⟩ := sl2.cv.tup
    refine ⟨a, a2, vs, vs2, rfl, .inr ⟨hs, hs2, post _ (jo_zipT fun F ι H l => ?_)⟩⟩
    obtain ⟨a', vs', ea, hs', r'⟩ := (lat F ι H l).cv.tup
    cases ea
    obtain ⟨a2', vs2', ea2, hs2', r2'⟩ := (lat2 F ι H l).cv.tup
    cases ea2
    exact ⟨vs', vs2', hs', hs2', r', r2'⟩
  · cases h4
    obtain ⟨a, vs, rfl, hs, _⟩ := sl'.cv.lst
    obtain ⟨a2, vs2, rfl, hs2, _⟩ := sl2.cv.lst
    refine ⟨a, a2, vs, vs2, rfl, .inl ⟨hs, hs2, post _ (jo_zip fun F ι H l => ?_)⟩⟩
    obtain ⟨a', vs', ea, hs', r'⟩ := (lat F ι H l).cv.lst
    cases ea
    obtain ⟨a2', vs2', ea2, hs2', r2'⟩ := (lat2 F ι H l).cv.lst
    cases ea2
    exact ⟨vs', vs2', hs', hs2', r', r2'⟩
theorem gi_range1 {e : Expr} {g : Env → Sto → Out Res} {p pos : Pos} (hg : Gl X "range") (hm : X.mg "range" = none) (hs : starEach [e] X.env = [(false, eval e X.env)]) (h : GE X e g) :
    GI X tg (.Call (.Name "range" p) [e] [] pos) fun env S => (g env S).bind fun q => match q.1 with
      | .int j => if decide (-(2 ^ 62) ≤ (0 : Int)) && decide ((0 : Int) < 2 ^ 62) && decide (-(2 ^ 62) ≤ j) && decide (j < 2 ^ 62) then .ok (rangeD 0 (j - 0).toNat, false, q.2.2) else .no
      | _ => .no := by
  intro env S r q F ι σ H s se
  obtain ⟨⟨d, k, S1⟩, h0, q⟩ := bind_ok q
  cases d with
  | int j =>
    simp only at q
    split at q
    · rename_i hc
      cases q
      simp only [Bool.and_eq_true, decide_eq_true_eq] at hc
      refine wI.of (pi_range1 hg hm (pa_w [e]) hs) (wpA.cons hs ((h env S _ h0 F ι σ H s se).mono fun v H1 ⟨F1, ι1, x, s1, rs⟩ => wpA.nil ?_))
      have e := rs.cv.int; subst e
      refine ⟨j, rfl, hc.1.2, hc.2, F1, ι1, [], x, s1, by simp, fun _ => rfl, ?_⟩
      rw [Int.sub_zero]
      exact jo_range
    · cases q
  | _ => cases q
theorem gi_range2 {a b : Expr} {g g2 : Env → Sto → Out Res} {p pos : Pos} (hg : Gl X "range") (hm : X.mg "range" = none) (hs : starEach [a, b] X.env = [(false, eval a X.env), (false, eval b X.env)]) (hs2 : starEach [b] X.env = [(false, eval b X.env)]) (h : GE X a g) (h' : GE X b g2) :
    GI X tg (.Call (.Name "range" p) [a, b] [] pos) fun env S => (g env S).bind fun r => (g2 env r.2.2).bind fun q => match r.1, q.1 with
      | .int i, .int j => if decide (-(2 ^ 62) ≤ i) && decide (i < 2 ^ 62) && decide (-(2 ^ 62) ≤ j) && decide (j < 2 ^ 62) then .ok (rangeD i (j - i).toNat, false, q.2.2) else .no
      | _, _ => .no := by
  intro env S r q F ι σ H s se
  obtain ⟨⟨d, k, S1⟩, h0, q⟩ := bind_ok q
  obtain ⟨⟨d2, k2, S2⟩, h1, q⟩ := bind_ok q
  cases d <;> try (cases q; done)
  cases d2 <;> try (cases q; done)
  rename_i i _ j
  simp only at q
  split at q
  · rename_i hc
    cases q
    simp only [Bool.and_eq_true, decide_eq_true_eq] at hc
    refine wI.of (pi_range2 hg hm (pa_w [a, b]) hs hs2) (wpA.cons (by rw [hs, hs2]) ((h env S _ h0 F ι σ H s se).mono fun v H1 ⟨F1, ι1, x, s1, rs⟩ => ?_))
    refine wpA.cons hs2 ((h' env S1 _ h1 F1 ι1 σ H1 s1 (se.mono s x)).mono fun v2 H2 ⟨F2, ι2, x2, s2, rs2⟩ => wpA.nil ?_)
    have e := rs.cv.int; subst e
    have e := rs2.cv.int; subst e
    exact ⟨i, j, rfl, ⟨hc.1.1.1, hc.1.1.2, hc.1.2, hc.2⟩, F2, ι2, [], x.trans x2, s2, by simp, fun _ => rfl, jo_range⟩
  · cases q
end
end Z
end
section
/-! ZO: expressions. -/
namespace Z
open PySem L2 PySem.Spec PyProof.Rows
section
variable {X : Cx} {F F' F1 : Addr → Prop} {ι ι' ι1 : Io} {H H' H1 : Hp} {S : Sto} {σ : L2.St} {a b e : Expr} {ga gb g : Env → Sto → Out Res} {pos : Pos}
theorem GE.congr {g' : Env → Sto → Out Res} (h : GE X e g) (c : ∀ env S, g' env S = g env S) : GE X e g' := fun env S r q => h env S r (by rw [← c]; exact q)
theorem GT.congr {g g' : Env → Sto → Out (Bool × Sto)} (h : GT X e g) (c : ∀ env S, g' env S = g env S) : GT X e g' := fun env S r q => h env S r (by rw [← c]; exact q)
theorem GI.congr {tg : Expr} {g g' : Env → Sto → Out (List D × Bool × Sto)} (h : GI X tg e g) (c : ∀ env S, g' env S = g env S) : GI X tg e g' := fun env S r q => h env S r (by rw [← c]; exact q)
theorem GA.congr {es : List Expr} {g g' : Env → Sto → Out (List D × Sto)} (h : GA X es g) (c : ∀ env S, g' env S = g env S) : GA X es g' := fun env S r q => h env S r (by rw [← c]; exact q)
theorem ge_bin {op : Operator} {f : D → D → Out (D × K3)} (ho : OpS X (binaryOp op) f) (ha : GE X a ga) (hb : GE X b gb) :
    GE X (.BinOp a op b pos) fun env S => (ga env S).bind fun r => (gb env r.2.2).bind fun q => (f r.1 q.1).bind fun z => .ok (z.1, z.2, q.2.2) := by
  intro env S r q F ι σ H s se
  obtain ⟨r1, h1, q⟩ := bind_ok q
  obtain ⟨r2, h2, q⟩ := bind_ok q
  obtain ⟨z, h3, q⟩ := bind_ok q
  cases q
  refine .of (pe_op (opr_w _) (pe_w a) (pe_w b)) ((ha env S r1 h1 F ι σ H s se).mono fun x H1 ⟨F1, ι1, x1, s1, p1⟩ => ?_)
  refine (hb env _ r2 h2 F1 ι1 σ H1 s1 (se.mono s x1)).mono fun y H2 ⟨F2, ι2, x2, s2, p2⟩ => ?_
  intro pins sh σ' v u I rx ry
  exact thn (ho _ _ z h3 F2 ι2 H2 _ x y s2 (p1.cv' s1 x2) p2.cv pins sh σ' v u I rx ry) fun _ _ w => EP.mono w fun v H' p => Post.later (x1.trans x2) p
theorem ge_cmp {op : CmpOp} {f : D → D → Out Bool} (ho : CmpS X (compareOp op) f) (hm : behindInMarks op b = false) (ha : GE X a ga) (hb : GE X b gb) :
    GE X (.Compare a [op] [b] pos) fun env S => (ga env S).bind fun r => (gb env r.2.2).bind fun q => (f r.1 q.1).bind fun c => .ok (.bl c, .fz, q.2.2) := by
  intro env S r q F ι σ H s se
  obtain ⟨r1, h1, q⟩ := bind_ok q
  obtain ⟨r2, h2, q⟩ := bind_ok q
  obtain ⟨z, h3, q⟩ := bind_ok q
  cases q
  refine .of (pe_cmpR (opr_w _) (pe_w a) (pe_w b) hm) ((ha env S r1 h1 F ι σ H s se).mono fun x H1 ⟨F1, ι1, x1, s1, p1⟩ => ?_)
  refine (hb env _ r2 h2 F1 ι1 σ H1 s1 (se.mono s x1)).mono fun y H2 ⟨F2, ι2, x2, s2, p2⟩ => ?_
  intro pins sh σ' v u I rx ry
  refine thn (ho _ _ z h3 F2 ι2 H2 _ x y s2 (p1.cv' s1 x2) p2.cv pins sh σ' v u I rx ry) fun _ _ w => EP.mono w fun v H' p => ?_
  obtain ⟨rfl, rfl⟩ := p
  exact Post.later (x1.trans x2) (Post.now s2 (.bl _))
theorem gt_cmp {op : CmpOp} {f : D → D → Out Bool} (ho : CmpS X (compareOp op) f) (hm : behindInMarks op b = false) (ha : GE X a ga) (hb : GE X b gb) :
    GT X (.Compare a [op] [b] pos) fun env S => (ga env S).bind fun r => (gb env r.2.2).bind fun q => (f r.1 q.1).bind fun c => .ok (c, q.2.2) := by
  intro env S r q F ι σ H s se
  obtain ⟨r1, h1, q⟩ := bind_ok q
  obtain ⟨r2, h2, q⟩ := bind_ok q
  obtain ⟨z, h3, q⟩ := bind_ok q
  cases q
  refine .of (pt_cmpR (opr_w _) (pe_w a) (pe_w b) hm) ((ha env S r1 h1 F ι σ H s se).mono fun x H1 ⟨F1, ι1, x1, s1, p1⟩ => ?_)
  refine (hb env _ r2 h2 F1 ι1 σ H1 s1 (se.mono s x1)).mono fun y H2 ⟨F2, ι2, x2, s2, p2⟩ => ?_
  intro pins sh σ' v u I rx ry
  refine thn (ho _ _ z h3 F2 ι2 H2 _ x y s2 (p1.cv' s1 x2) p2.cv pins sh σ' v u I rx ry) fun _ _ w => EP.mono w fun v H' p => ?_
  obtain ⟨rfl, rfl⟩ := p
  exact ⟨z, rfl, rfl, F2, ι2, x1.trans x2, s2⟩
theorem ge_neg (ha : GE X a ga) : GE X (.UnaryOp .USub a pos) fun env S => (ga env S).bind fun r => match r.1 with | .int i => .ok (.int (-i), .fz, r.2.2) | _ => .no := by
  intro env S r q F ι σ H s se
  obtain ⟨⟨d, k, S1⟩, h1, q⟩ := bind_ok q
  cases d <;> try (cases q; done)
  cases q
  refine .of (pe_un un_neg (pe_w a)) ((ha env S _ h1 F ι σ H s se).mono fun x H1 ⟨F1, ι1, x1, s1, p1⟩ => ?_)
  have e := p1.cv.int; subst e
  exact ⟨_, rfl, F1, ι1, x1, s1, .int _⟩
theorem ge_notv (ha : GE X a ga) : GE X (.UnaryOp .Not a pos) fun env S => (ga env S).bind fun r => match r.1 with | .bl c => .ok (.bl (!c), .fz, r.2.2) | _ => .no := by
  intro env S r q F ι σ H s se
  obtain ⟨⟨d, k, S1⟩, h1, q⟩ := bind_ok q
  cases d <;> try (cases q; done)
  cases q
  refine .of (pe_not (pe_w a)) ((ha env S _ h1 F ι σ H s se).mono fun x H1 ⟨F1, ι1, x1, s1, p1⟩ => ?_)
  have e := p1.cv.bl; subst e
  exact ⟨_, rfl, F1, ι1, x1, s1, .bl _⟩
theorem ge_one {op : BoolOp} (ha : GE X a ga) : GE X (.BoolOp op [a] pos) ga := fun env S r q F ι σ H s se => .of (pe_one (pe_w a)) (ha env S r q F ι σ H s se)
theorem ge_and {rest : List Expr} (ha : GE X a ga) (hb : GE X (.BoolOp .And (b :: rest) pos) gb) : GE X (.BoolOp .And (a :: b :: rest) pos) fun env S => (ga env S).bind fun r => match r.1 with | .bl c => if c then gb env r.2.2 else .ok (.bl false, .fz, r.2.2) | _ => .no := by
  intro env S r q F ι σ H s se
  obtain ⟨⟨d, k, S1⟩, h1, q⟩ := bind_ok q
  cases d <;> try (cases q; done)
  rename_i c
  refine .of (pe_and (pe_w a) (pe_w _)) ((ha env S _ h1 F ι σ H s se).mono fun x H1 ⟨F1, ι1, x1, s1, p1⟩ => ?_)
  have e := p1.cv.bl; subst e
  refine ⟨c, rfl, ?_⟩
  cases c with
  | true => exact (hb env _ r q F1 ι1 σ H1 s1 (se.mono s x1)).mono fun v H' p => Post.later x1 p
  | false => cases q; exact ⟨F1, ι1, x1, s1, .bl _⟩
theorem ge_or {rest : List Expr} (ha : GE X a ga) (hb : GE X (.BoolOp .Or (b :: rest) pos) gb) : GE X (.BoolOp .Or (a :: b :: rest) pos) fun env S => (ga env S).bind fun r => match r.1 with | .bl c => if c then .ok (.bl true, .fz, r.2.2) else gb env r.2.2 | _ => .no := by
  intro env S r q F ι σ H s se
  obtain ⟨⟨d, k, S1⟩, h1, q⟩ := bind_ok q
  cases d <;> try (cases q; done)
  rename_i c
  refine .of (pe_or (pe_w a) (pe_w _)) ((ha env S _ h1 F ι σ H s se).mono fun x H1 ⟨F1, ι1, x1, s1, p1⟩ => ?_)
  have e := p1.cv.bl; subst e
  refine ⟨c, rfl, ?_⟩
  cases c with
  | false => exact (hb env _ r q F1 ι1 σ H1 s1 (se.mono s x1)).mono fun v H' p => Post.later x1 p
  | true => cases q; exact ⟨F1, ι1, x1, s1, .bl _⟩
theorem ge_ifx {t : Expr} {gt : Env → Sto → Out (Bool × Sto)} (ht : GT X t gt) (ha : GE X a ga) (hb : GE X b gb) : GE X (.IfExp t a b pos) fun env S => (gt env S).bind fun r => if r.1 then ga env r.2 else gb env r.2 := by
  intro env S r q F ι σ H s se
  obtain ⟨⟨c, S1⟩, h1, q⟩ := bind_ok q
  refine .of (pe_ifExp (pt_w t) (pe_w a) (pe_w b)) ((ht env S _ h1 F ι σ H s se).mono fun x H1 ⟨e, F1, ι1, x1, s1⟩ => ?_)
  change x = c at e; subst e
  cases x with
  | true => exact (ha env _ r q F1 ι1 σ H1 s1 (se.mono s x1)).mono fun v H' p => Post.later x1 p
  | false => exact (hb env _ r q F1 ι1 σ H1 s1 (se.mono s x1)).mono fun v H' p => Post.later x1 p
/-! ### arguments -/
theorem ga_nil : GA X [] fun _ S => .ok ([], S) := fun env S r q F ι σ H s se => by cases q; exact wpA.nil ⟨F, ι, .refl, s, .nil⟩
theorem ga_cons {es : List Expr} {gs : Env → Sto → Out (List D × Sto)} (hs : starEach (e :: es) X.env = (false, eval e X.env) :: starEach es X.env) (he : GE X e g) (hr : GA X es gs) :
    GA X (e :: es) fun env S => (g env S).bind fun r => (kept r).bind fun y => (gs env y.2).bind fun q => .ok (y.1 :: q.1, q.2) := by
  intro env S r q F ι σ H s se
  obtain ⟨r1, h1, q⟩ := bind_ok q
  obtain ⟨y, h2, q⟩ := bind_ok q
  obtain ⟨r2, h3, q⟩ := bind_ok q
  cases q
  refine wpA.cons hs (((he env S r1 h1 F ι σ H s se).kept h2).mono fun x H1 ⟨F1, ι1, x1, s1, p1⟩ => ?_)
  refine (hr env _ r2 h3 F1 ι1 σ H1 s1 (se.mono s x1)).mono fun vs H2 ⟨F2, ι2, x2, s2, p2⟩ => ?_
  exact ⟨F2, ι2, x1.trans x2, s2, .cons (Rep.mono (x2.ext s1) p1) p2⟩
theorem ge_tup {es : List Expr} {k : Nat} {gs : Env → Sto → Out (List D × Sto)} (h : GA X es gs) : GE X (.Tuple es k pos) fun env S => (gs env S).bind fun r => if r.1.length ≤ line then .ok (.tup r.1, .fz, r.2) else .no := by
  intro env S r q F ι σ H s se
  obtain ⟨r1, h1, q⟩ := bind_ok q
  split at q
  · rename_i hl
    cases q
    refine .of (pe_tup (pa_w es)) ((h env S r1 h1 F ι σ H s se).mono fun vs H1 ⟨F1, ι1, x1, s1, p1⟩ => ⟨by rw [← p1.length, line_eq]; exact hl, fun p hp => Post.later x1 (Post.tup s1 hp p1)⟩)
  · cases q
theorem ge_lst {es : List Expr} {gs : Env → Sto → Out (List D × Sto)} (h : GA X es gs) : GE X (.List es pos) fun env S => (gs env S).bind fun r => if r.1.length ≤ line then .ok (.lst r.1, .fr, r.2) else .no := by
  intro env S r q F ι σ H s se
  obtain ⟨r1, h1, q⟩ := bind_ok q
  split at q
  · rename_i hl
    cases q
    refine .of (pe_lst (pa_w es)) ((h env S r1 h1 F ι σ H s se).mono fun vs H1 ⟨F1, ι1, x1, s1, p1⟩ => ⟨by rw [← p1.length, line_eq]; exact hl, fun p hp => Post.later x1 (Post.lst s1 hp p1)⟩)
  · cases q
theorem ge_dic0 : GE X (.Dict [] [] pos) fun _ S => .ok (.dic [] [], .fr, S) := by
  intro env S r q F ι σ H s se
  cases q
  exact .of pe_dnewK fun p hp => Post.new s hp (.dicK (kvs := []) upd_same .nil)
/-! ### subscripts -/
theorem deref_cv {d c : D} {v : V} (h : deref S d = some c) (s : XSR X F ι H S) (cv : Cv X F ι H d v) : Cv X F ι H c v := by
  unfold deref at h
  split at h
  · rename_i l i
    rcases cv with cv | ⟨a, _, t⟩
    · cases cv with
      | ref hi =>
        obtain ⟨d, hd, t⟩ := s.top hi
        rw [h] at hd; cases hd
        exact .inr ⟨_, rfl, t⟩
      | obj _ t => cases t
    · cases t
  · cases h; exact cv
theorem cv_key {k : D} {ks : List D} {x : V} (h : dicOk k ks = true) (cv : Cv X F ι H k x) : XRep X F ι H k x := by
  rcases cv with cv | ⟨a, _, t⟩
  · exact cv
  · cases k with
    | int => cases t
    | str => cases t
    | tup => cases t
    | _ => simp [dicOk, D.flatKey, D.tupKey, D.isTup] at h
theorem idx_key {c k z : D} {x : V} (h : idxO c k = .ok z) (cv : Cv X F ι H k x) : XRep X F ι H k x := by
  cases c with
  | tup => cases k with
    | int => have e := cv.int; subst e; exact .int _
    | _ => simp [idxO] at h
  | lst => cases k with
    | int => have e := cv.int; subst e; exact .int _
    | _ => simp [idxO] at h
  | dic ks vs =>
    simp only [idxO] at h
    split at h
    · rename_i hk; exact cv_key hk cv
    · cases h
  | _ => simp [idxO] at h
theorem ge_idx {n : Nat} (hr : Room n X.A) (hp : PlainIx b) (ha : GE X a ga) (hb : GE X b gb) :
    GE X (.Subscript a b pos) fun env S => (ga env S).bind fun r => (gb env r.2.2).bind fun q => (Out.of (deref q.2.2 r.1)).bind fun c => (idxO c q.1).bind fun z => .ok (z, .fz, q.2.2) := by
  intro env S r q F ι σ H s se
  obtain ⟨r1, h1, q⟩ := bind_ok q
  obtain ⟨r2, h2, q⟩ := bind_ok q
  obtain ⟨c, h3, q⟩ := bind_ok q
  obtain ⟨z, h4, q⟩ := bind_ok q
  cases q
  refine .of (pe_ix ixr_w (pe_w a) (pe_w b) hp) ((ha env S r1 h1 F ι σ H s se).mono fun x H1 ⟨F1, ι1, x1, s1, p1⟩ => ?_)
  refine (hb env _ r2 h2 F1 ι1 σ H1 s1 (se.mono s x1)).mono fun y H2 ⟨F2, ι2, x2, s2, p2⟩ => ?_
  have cv := deref_cv (of_ok h3) s2 (p1.cv' s1 x2)
  intro va sl pins sh σ' v u I rx ry hs
  refine thn (idx_ok hr h4 cv (idx_key h4 p2.cv) va sl pins sh σ' v u I rx ry hs) fun _ _ w => EP.mono w fun v H' p => ?_
  obtain ⟨rfl, rz⟩ := p
  exact ⟨F2, ι2, x1.trans x2, s2, rz⟩
/-! slices -/
def wO (X : Cx) (e : Option Expr) (σ : L2.St) (H : Hp) (Q : Option Int → Hp → Prop) : Prop := ∀ pins s, Inv X pins σ H s → wpAny (model X.prog X.w) X.A (evalPart e X.env) (fun u s' => ∃ o H', Inv X pins σ H' s' ∧ IsPart u o ∧ Q o H') X.xe s
theorem po_w (e : Option Expr) : PO X e (wO X e) := ⟨fun pins s _ _ _ I h => h pins s I⟩
theorem wO.of {e : Option Expr} {t : TO} (h : PO X e t) {Q : Option Int → Hp → Prop} (q : t σ H Q) : wO X e σ H Q := fun pins s I => h.run pins s σ H Q I q
def GO (X : Cx) (e : Option Expr) (g : Env → Sto → Out (Option Int × Sto)) : Prop := ∀ env S r, g env S = .ok r → ∀ F ι σ H, XSR X F ι H S → Se X F ι H env σ → wO X e σ H fun o H' => o = r.1 ∧ ∃ F' ι', Stp F ι H F' ι' H' ∧ XSR X F' ι' H' r.2
theorem GO.congr {e : Option Expr} {g g' : Env → Sto → Out (Option Int × Sto)} (h : GO X e g) (c : ∀ env S, g' env S = g env S) : GO X e g' := fun env S r q => h env S r (by rw [← c]; exact q)
theorem go_none : GO X none fun _ S => .ok (none, S) := fun env S r q F ι σ H s se => by cases q; exact .of po_none ⟨rfl, F, ι, .refl, s⟩
theorem go_some (he : GE X e g) : GO X (some e) fun env S => (g env S).bind fun r => match r.1 with | .int i => .ok (some i, r.2.2) | _ => .no := by
  intro env S r q F ι σ H s se
  obtain ⟨⟨d, k, S1⟩, h1, q⟩ := bind_ok q
  cases d <;> try (cases q; done)
  cases q
  refine .of (po_some (pe_w e)) ((he env S _ h1 F ι σ H s se).mono fun x H1 ⟨F1, ι1, x1, s1, p1⟩ => ?_)
  have e := p1.cv.int; subst e
  exact ⟨_, rfl, rfl, F1, ι1, x1, s1⟩
theorem slr_w : SlR X (wSl X) := fun pins s σ H x v vl vu lo hi sl Q I rx hs pl pu ⟨r, hr, q⟩ => hr pins s σ H x v vl vu lo hi sl Q I rx hs pl pu q
theorem ge_cut {lo hi : Option Expr} {gl gh : Env → Sto → Out (Option Int × Sto)} {p2 : Pos} (ha : GE X a ga) (hl : GO X lo gl) (hh : GO X hi gh) :
    GE X (.Subscript a (.Slice lo hi none p2) pos) fun env S => (ga env S).bind fun r => (gl env r.2.2).bind fun l => (gh env l.2).bind fun h => (cutO r.1 l.1 h.1).bind fun z => .ok (z.1, z.2, h.2) := by
  intro env S r q F ι σ H s se
  obtain ⟨r1, h1, q⟩ := bind_ok q
  obtain ⟨l, h2, q⟩ := bind_ok q
  obtain ⟨h, h3, q⟩ := bind_ok q
  obtain ⟨z, h4, q⟩ := bind_ok q
  cases q
  refine .of (pe_slice slr_w (pe_w a) (po_w lo) (po_w hi)) ((ha env S r1 h1 F ι σ H s se).mono fun x H1 ⟨F1, ι1, x1, s1, p1⟩ => ?_)
  have se1 := se.mono s x1
  intro pins sh I
  refine thn (hl env _ l h2 F1 ι1 σ H1 s1 se1 pins sh I) fun u sh2 ⟨o, H2, I2, ip, eo, F2, ι2, x2, s2⟩ => ⟨o, H2, I2, ip, ?_⟩
  subst eo
  intro pins sh I
  refine thn (hh env _ h h3 F2 ι2 σ H2 s2 (se1.mono s1 x2) pins sh I) fun u sh2 ⟨o, H3, I3, ip, eo, F3, ι3, x3, s3⟩ => ⟨o, H3, I3, ip, ?_⟩
  subst eo
  have y : Stp F ι H F3 ι3 H3 := x1.trans (x2.trans x3)
  obtain ⟨r', hr, w⟩ := cut_ok h4 s3 (p1.cv' s1 (x2.trans x3))
  refine ⟨fun x lo hi H Q => r' x lo hi H (Post X F3 ι3 H3 (z.1, z.2, h.2)) ∧ ∀ v H', Post X F3 ι3 H3 (z.1, z.2, h.2) v H' → Q v H', ?_, w, fun v H' p => Post.later y p⟩
  intro pins s σ H x v vl vu lo hi sl Q I rx hs pl pu q
  obtain ⟨T, id, h1, h2, h3⟩ := hr pins s σ H x v vl vu lo hi sl _ I rx hs pl pu q.1
  exact ⟨T, id, h1, h2, thn h3 fun _ _ w => EP.mono w q.2⟩
/-! ### tests -/
theorem gt_val (hp : ∀ whole, isTrue e X.env whole = (do let v ← whole; standAt e.pos; holding [v] (truthy v))) (he : GE X e g) : GT X e fun env S => (g env S).bind fun r => (truO r.1).bind fun c => .ok (c, r.2.2) := by
  intro env S r q F ι σ H s se
  obtain ⟨r1, h1, q⟩ := bind_ok q
  obtain ⟨c, h2, q⟩ := bind_ok q
  cases q
  exact .of (pt_truth (pe_w e) hp) ((he env S r1 h1 F ι σ H s se).mono fun x H1 ⟨F1, ι1, x1, s1, p1⟩ => ⟨c, tru_ok' h2 p1.cv, rfl, F1, ι1, x1, s1⟩)
def GW (X : Cx) (e : Expr) (g : Env → Sto → Out (Bool × Sto)) : Prop := ∀ env S r, g env S = .ok r → ∀ F ι σ H, XSR X F ι H S → Se X F ι H env σ → ∀ whole pins s, Inv X pins σ H s → wpAny (model X.prog X.w) X.A (isTrue e X.env whole) (TP X pins σ (PostT X F ι H r)) X.xe s
def wpW (X : Cx) (e : Expr) (σ : L2.St) (H : Hp) (Q : Bool → Hp → Prop) : Prop := ∀ whole pins s, Inv X pins σ H s → wpAny (model X.prog X.w) X.A (isTrue e X.env whole) (TP X pins σ Q) X.xe s
theorem pw_w (e : Expr) : PW X e (wpW X e) := ⟨fun whole pins s _ _ _ I h => h whole pins s I⟩
theorem GW.gt {g : Env → Sto → Out (Bool × Sto)} (h : GW X e g) : GT X e g := fun env S r q F ι σ H s se pins sh I => h env S r q F ι σ H s se _ pins sh I
theorem PostT.later {r : Bool × Sto} {c : Bool} {H2 : Hp} (x : Stp F ι H F1 ι1 H1) (p : PostT X F1 ι1 H1 r c H2) : PostT X F ι H r c H2 := by
  obtain ⟨e, F2, ι2, y, s⟩ := p
  exact ⟨e, F2, ι2, x.trans y, s⟩
theorem gw_and1 {g : Env → Sto → Out (Bool × Sto)} (ha : GT X a g) : GW X (.BoolOp .And [a] pos) g := fun env S r q F ι σ H s se whole pins sh I => (pw_and1 (pt_w a)).run whole pins sh σ H _ I (ha env S r q F ι σ H s se)
theorem gw_or1 {g : Env → Sto → Out (Bool × Sto)} (ha : GT X a g) : GW X (.BoolOp .Or [a] pos) g := fun env S r q F ι σ H s se whole pins sh I => (pw_or1 (pt_w a)).run whole pins sh σ H _ I (ha env S r q F ι σ H s se)
theorem gw_and {rest : List Expr} {g1 g2 : Env → Sto → Out (Bool × Sto)} (ha : GT X a g1) (hb : GW X (.BoolOp .And (b :: rest) pos) g2) : GW X (.BoolOp .And (a :: b :: rest) pos) fun env S => (g1 env S).bind fun r => if r.1 then g2 env r.2 else .ok (false, r.2) := by
  intro env S r q F ι σ H s se whole pins sh I
  obtain ⟨⟨c, S1⟩, h1, q⟩ := bind_ok q
  refine (pw_and (pt_w a) (pw_w _)).run whole pins sh σ H _ I ((ha env S _ h1 F ι σ H s se).mono fun x H1 ⟨e, F1, ι1, x1, s1⟩ => ?_)
  change x = c at e; subst e
  cases x with
  | true => exact fun whole pins sh I => thn (hb env _ r q F1 ι1 σ H1 s1 (se.mono s x1) whole pins sh I) fun _ _ ⟨H', I', p⟩ => ⟨H', I', PostT.later x1 p⟩
  | false => cases q; exact ⟨rfl, F1, ι1, x1, s1⟩
theorem gw_or {rest : List Expr} {g1 g2 : Env → Sto → Out (Bool × Sto)} (ha : GT X a g1) (hb : GW X (.BoolOp .Or (b :: rest) pos) g2) : GW X (.BoolOp .Or (a :: b :: rest) pos) fun env S => (g1 env S).bind fun r => if r.1 then .ok (true, r.2) else g2 env r.2 := by
  intro env S r q F ι σ H s se whole pins sh I
  obtain ⟨⟨c, S1⟩, h1, q⟩ := bind_ok q
  refine (pw_or (pt_w a) (pw_w _)).run whole pins sh σ H _ I ((ha env S _ h1 F ι σ H s se).mono fun x H1 ⟨e, F1, ι1, x1, s1⟩ => ?_)
  change x = c at e; subst e
  cases x with
  | false => exact fun whole pins sh I => thn (hb env _ r q F1 ι1 σ H1 s1 (se.mono s x1) whole pins sh I) fun _ _ ⟨H', I', p⟩ => ⟨H', I', PostT.later x1 p⟩
  | true => cases q; exact ⟨rfl, F1, ι1, x1, s1⟩
theorem gt_not {g : Env → Sto → Out (Bool × Sto)} (ha : GT X a g) : GT X (.UnaryOp .Not a pos) fun env S => (g env S).bind fun r => .ok (!r.1, r.2) := by
  intro env S r q F ι σ H s se
  obtain ⟨⟨c, S1⟩, h1, q⟩ := bind_ok q
  cases q
  exact .of (pt_not (pt_w a)) ((ha env S _ h1 F ι σ H s se).mono fun x H1 ⟨e, F1, ι1, x1, s1⟩ => ⟨by rw [e], F1, ι1, x1, s1⟩)
theorem gt_ifx {t : Expr} {g1 g2 g3 : Env → Sto → Out (Bool × Sto)} (ht : GT X t g1) (ha : GT X a g2) (hb : GT X b g3) : GT X (.IfExp t a b pos) fun env S => (g1 env S).bind fun r => if r.1 then g2 env r.2 else g3 env r.2 := by
  intro env S r q F ι σ H s se pins sh I
  obtain ⟨⟨c, S1⟩, h1, q⟩ := bind_ok q
  show wpAny _ _ (do if ← isTrue t X.env (eval t X.env) then isTrue a X.env (eval a X.env) else isTrue b X.env (eval b X.env)) _ _ _
  refine wpAny_bind (thn (ht env S _ h1 F ι σ H s se pins sh I) fun d sh1 ⟨H1, I1, e, F1, ι1, x1, s1⟩ => ?_)
  change d = c at e; subst e
  cases d with
  | true => exact thn (ha env _ r q F1 ι1 σ H1 s1 (se.mono s x1) pins sh1 I1) fun _ _ ⟨H', I', p⟩ => ⟨H', I', PostT.later x1 p⟩
  | false => exact thn (hb env _ r q F1 ι1 σ H1 s1 (se.mono s x1) pins sh1 I1) fun _ _ ⟨H', I', p⟩ => ⟨H', I', PostT.later x1 p⟩
/-! ### calls of built-ins -/
theorem ge_p1 {id : String} {x : Str} {p : Pos} {f : D → Out (D × K3)} (hc : CallS X (.builtin id) f) (hg : Gl X x) (hm : X.mg x = none) (hv : bootBuiltins x = some (.builtin id)) (hn : x ≠ "__name__") (hdb : (x == ("__debug__" : Str)) = false)
    (hs : starEach [e] X.env = [(false, eval e X.env)]) (he : GE X e g) : GE X (.Call (.Name x p) [e] [] pos) fun env S => (g env S).bind fun r => (Out.of (deref r.2.2 r.1)).bind fun c => (f c).bind fun z => .ok (z.1, z.2, r.2.2) := by
  intro env S r q F ι σ H s se
  obtain ⟨r1, h1, q⟩ := bind_ok q
  obtain ⟨c, h2, q⟩ := bind_ok q
  obtain ⟨z, h3, q⟩ := bind_ok q
  cases q
  refine .of (pe_callB (callr_w _) hg hm hv (pa_w [e]) hn hdb hs rfl) (wpA.cons hs ((he env S r1 h1 F ι σ H s se).mono fun x H1 ⟨F1, ι1, x1, s1, p1⟩ => wpA.nil ?_))
  have cv := deref_cv (of_ok h2) s1 p1.cv
  intro pins sh σ' us I rx
  exact thn (hc c z h3 F1 ι1 H1 _ x s1 cv pins sh σ' us I rx) fun _ _ w => EP.mono w fun v H' p => Post.later x1 p
theorem ge_p1T {T : String} {x : Str} {p : Pos} {f : D → Out (D × K3)} (hc : CallS X (.type T) f) (hg : Gl X x) (hm : X.mg x = none) (hv : bootBuiltins x = some (.type T)) (hn : x ≠ "__name__") (hdb : (x == ("__debug__" : Str)) = false)
    (hs : starEach [e] X.env = [(false, eval e X.env)]) (he : GE X e g) : GE X (.Call (.Name x p) [e] [] pos) fun env S => (g env S).bind fun r => (Out.of (deref r.2.2 r.1)).bind fun c => (f c).bind fun z => .ok (z.1, z.2, r.2.2) := by
  intro env S r q F ι σ H s se
  obtain ⟨r1, h1, q⟩ := bind_ok q
  obtain ⟨c, h2, q⟩ := bind_ok q
  obtain ⟨z, h3, q⟩ := bind_ok q
  cases q
  refine .of (pe_callTy (callr_w _) hg hm hv (pa_w [e]) hn hdb hs rfl) (wpA.cons hs ((he env S r1 h1 F ι σ H s se).mono fun x H1 ⟨F1, ι1, x1, s1, p1⟩ => wpA.nil ?_))
  have cv := deref_cv (of_ok h2) s1 p1.cv
  intro pins sh σ' us I rx
  exact thn (hc c z h3 F1 ι1 H1 _ x s1 cv pins sh σ' us I rx) fun _ _ w => EP.mono w fun v H' p => Post.later x1 p
theorem ge_p2 {id : String} {x : Str} {p : Pos} {f : D → D → Out (D × K3)} (hc : Call2S X (.builtin id) f) (hg : Gl X x) (hm : X.mg x = none) (hv : bootBuiltins x = some (.builtin id)) (hn : x ≠ "__name__") (hdb : (x == ("__debug__" : Str)) = false)
    (hs : starEach [a, b] X.env = (false, eval a X.env) :: starEach [b] X.env) (hs2 : starEach [b] X.env = [(false, eval b X.env)]) (ha : GE X a ga) (hb : GE X b gb) :
    GE X (.Call (.Name x p) [a, b] [] pos) fun env S => (ga env S).bind fun r => (gb env r.2.2).bind fun q => (f r.1 q.1).bind fun z => .ok (z.1, z.2, q.2.2) := by
  intro env S r q F ι σ H s se
  obtain ⟨r1, h1, q⟩ := bind_ok q
  obtain ⟨r2, h2, q⟩ := bind_ok q
  obtain ⟨z, h3, q⟩ := bind_ok q
  cases q
  refine .of (pe_callB (callr_w _) hg hm hv (pa_w [a, b]) hn hdb hs (by rw [hs2]; rfl)) (wpA.cons hs ((ha env S r1 h1 F ι σ H s se).mono fun x H1 ⟨F1, ι1, x1, s1, p1⟩ => ?_))
  refine wpA.cons hs2 ((hb env _ r2 h2 F1 ι1 σ H1 s1 (se.mono s x1)).mono fun y H2 ⟨F2, ι2, x2, s2, p2⟩ => wpA.nil ?_)
  intro pins sh σ' us I rx
  exact thn (hc _ _ z h3 F2 ι2 H2 _ x y s2 (p1.cv' s1 x2) p2.cv pins sh σ' us I rx) fun _ _ w => EP.mono w fun v H' p => Post.later (x1.trans x2) p
theorem ge_isa {t : Ty} {x y : Str} {p p2 : Pos} (hg : Gl X x) (hm : X.mg x = none) (hv : bootBuiltins x = some (.builtin "isinstance")) (hn : x ≠ "__name__") (hdb : (x == ("__debug__" : Str)) = false)
    (hg2 : Gl X y) (hm2 : X.mg y = none) (hv2 : bootBuiltins y = some (.type t.name)) (hn2 : y ≠ "__name__") (hdb2 : (y == ("__debug__" : Str)) = false)
    (hs : starEach [a, .Name y p2] X.env = (false, eval a X.env) :: starEach [.Name y p2] X.env) (ha : GE X a ga) :
    GE X (.Call (.Name x p) [a, .Name y p2] [] pos) fun env S => (ga env S).bind fun r => (isaO t r.1).bind fun c => .ok (.bl c, .fz, r.2.2) := by
  intro env S r q F ι σ H s se
  obtain ⟨r1, h1, q⟩ := bind_ok q
  obtain ⟨c, h3, q⟩ := bind_ok q
  cases q
  refine .of (pe_callB (callr_w _) hg hm hv (pa_w [a, .Name y p2]) hn hdb hs rfl) (wpA.cons hs ((ha env S r1 h1 F ι σ H s se).mono fun x H1 ⟨F1, ι1, x1, s1, p1⟩ => ?_))
  refine wpA.cons rfl (wpE.of (pe_bltn (v := .ty t.name) hg2 hm2 hv2 rfl hn2 hdb2) (wpA.nil ?_))
  intro pins sh σ' us I rx
  refine thn (isa_ok h3 p1.cv pins sh σ' us I rx) fun _ _ w => EP.mono w fun v H' p => ?_
  obtain ⟨rfl, rfl⟩ := p
  exact ⟨F1, ι1, x1, s1, .bl _⟩
theorem ge_index {n : Nat} {apos : Pos} (hr : Room n X.A) (hbase : attributeBase a "index" X.env (eval a X.env) = eval a X.env) (hline : (apos.endLine == pos.line) = true) (hs : starEach [b] X.env = [(false, eval b X.env)]) (ha : GE X a ga) (hb : GE X b gb) :
    GE X (.Call (.Attribute a "index" apos) [b] [] pos) fun env S => (ga env S).bind fun r => (gb env r.2.2).bind fun q => (indexO r.1 q.1).bind fun z => .ok (z, .fz, q.2.2) := by
  intro env S r q F ι σ H s se
  obtain ⟨r1, h1, q⟩ := bind_ok q
  obtain ⟨r2, h2, q⟩ := bind_ok q
  obtain ⟨z, h3, q⟩ := bind_ok q
  cases q
  have hm : MtR X "list.index" (wMt X "list.index") := fun pins s σ H x xs v us Q I rx rxs q => q pins s σ v us I rx rxs
  refine .of (pe_bm PySem.F.plainAttrs_list PySem.F.slot_list_index PySem.F.type_list_index hm (pe_w a) (pa_w [b]) hbase (by rw [hs]; rfl) hline hs rfl) ((ha env S r1 h1 F ι σ H s se).mono fun x H1 ⟨F1, ι1, x1, s1, p1⟩ => ?_)
  have hl : ∃ ds, r1.1 = .lst ds := by
    cases e : r1.1 with
    | lst ds => exact ⟨ds, rfl⟩
    | _ => rw [e] at h3; cases h3
  obtain ⟨ds, hd⟩ := hl
  have cv1 := p1.cv
  rw [hd] at cv1
  obtain ⟨p, vs, rfl, hp, _⟩ := cv1.lst
  refine ⟨.inl ⟨rfl, vs, hp⟩, wpA.cons hs ((hb env _ r2 h2 F1 ι1 σ H1 s1 (se.mono s x1)).mono fun y H2 ⟨F2, ι2, x2, s2, p2⟩ => wpA.nil ?_)⟩
  intro pins sh σ' v us I rx rxs
  exact thn (index_ok hr h3 s2 (p1.cv' s1 x2) p2.cv pins sh σ' v us I rx rxs) fun _ _ w => EP.mono w fun v H' p => Post.later (x1.trans x2) p
end
end Z
end
section
/-! ZP: targets, comprehensions. -/
namespace Z
open PySem L2 PySem.Spec PyProof.Rows
/-! ### a list taken apart -/
section
variable {prog : Program} {w : World} {A : Around} {E : Value → Shared → Prop} {s : Shared}
theorem draw_list {it t : Addr} {items : Array Value} (hne : t ≠ it) : ∀ (n i : Nat) (s : Shared) (Q : List Value → Shared → Prop), s.heap.IsListIter it t i → s.heap.IsList t items → i + n ≤ items.size →
    (∀ h', h'.IsListIter it t (i + n) → Heap.SameBut it s.heap h' → Q ((items.toList.drop i).take n) { s with heap := h' }) → wpAny (model prog w) A (draw (.ref it) n) Q E s
  | 0, i, s, Q, hit, _, _, hQ => by
    show wpAny _ _ (pure []) Q E s
    exact wpAny_pure (by simpa using hQ s.heap hit (Heap.SameBut.refl ..))
  | n + 1, i, s, Q, hit, ht, hle, hQ => by
    have hlt : i < items.size := by omega
    show wpAny _ _ (pyNext (.ref it) >>= _) Q E s
    refine wpAny_bind (wpAny_pyNext_list_item hit ht (x := items[i]) (by simp [hlt]) fun h₁ hit₁ hs₁ => ?_)
    refine wpAny_bind (wpAny_holding (draw_list hne n (i + 1) _ _ hit₁ (ht.extBut hs₁.extBut hne) (by omega) fun h₂ hit₂ hs₂ => wpAny_pure ?_))
    have hd : items.toList.drop i = items[i] :: items.toList.drop (i + 1) := by simp [List.drop_eq_getElem_cons, hlt]
    have := hQ h₂ (by rw [show i + (n + 1) = i + 1 + n by omega]; exact hit₂) (hs₁.trans hs₂)
    rw [hd, List.take_succ_cons] at this
    exact this
theorem unpackItems_list {t : Addr} {items : Array Value} {Q : List Value → Shared → Prop} (hh : A.handled = none) (ht : s.heap.IsList t items)
    (hQ : ∀ h', Heap.ExtBut s.heap.objs.size s.heap h' → Q items.toList { s with heap := h' }) : wpAny (model prog w) A (unpackItems (.ref t) items.size none) Q E s := by
  have hlt : t ≠ s.heap.objs.size := by obtain ⟨o, ho, _⟩ := ht; exact Nat.ne_of_lt (Heap.lt_size ho)
  have hty : s.TypeIs (.ref t) "list" := by obtain ⟨o, ho, hc, _⟩ := ht; exact ⟨o, ho, hc⟩
  unfold unpackItems
  refine wpAny_bind ?_
  · unfold notIterableAtAll
    refine wpAny_bind (wpAny_specialOf hty PySem.F.slot_list_iter.lookup ?_)
    refine wpAny_pure ?_
    simp only [Bool.false_eq_true, if_false]
    refine wpAny_bind (wpAny_holding (wpAny_pyIter_list ht ?_))
    have ht0 : (s.heap.push { cls := .type "list_iterator", data := .fields #[.ref t, .int 0 0] }).IsList t items := by
      obtain ⟨o, ho, r⟩ := ht
      exact ⟨o, Heap.get?_push_of_some _ ho, r⟩
    refine wpAny_bind (wpAny_holding (draw_list hlt items.size 0 _ _ ⟨_, Heap.get?_push_size _ rfl, rfl, rfl⟩ ht0 (by omega) fun h₁ hit₁ hs₁ => ?_))
    have hall : List.take items.size (List.drop 0 items.toList) = items.toList := by
      rw [List.drop_zero]; exact List.take_of_length_le (by simp)
    rw [hall]
    rw [if_neg (by simp)]
    have ht₁ : h₁.IsList t items := ht0.extBut hs₁.extBut hlt
    refine wpAny_bind (wpAny_holding (wpAny_pyNext_list_end hh hit₁ ht₁ (by simp) fun h₂ he₂ => ?_))
    simp only [Option.isSome_none, Bool.false_eq_true, if_false]
    exact wpAny_pure (hQ h₂ fun b o hb e => he₂ b o hb (hs₁.extBut b o hb (Heap.get?_push_of_some _ e)))
end
/-- (a, b, ..) = a tuple or a list of that length -/
def gSq (K : PySem.W.Frag) (n : Nat) (t : TGs) : TG := fun v σ H Q => ∃ a xs, v = .ref a ∧ (SqT K H a xs ∨ SqL K H a xs) ∧ xs.length = n ∧ t xs σ H Q
theorem pg_sq {X : Cx} {es : List Expr} {k : Nat} {t : TGs} {n : Nat} {pos : Pos} (hc : X.calm = true) (h : PGs X es t) (hn : (assignEach es X.env).length = n) (hst : (assignEach es X.env).findIdx? (·.1) = none) : PG X (.Tuple es k pos) (gSq X.K n t) := by
  refine ⟨fun pins s σ H v u Q I r hw => ?_⟩
  obtain ⟨a, xs, e1, hq, hl, hw⟩ := hw
  subst e1
  cases r
  rcases hq with hq | hq
  · exact (pg_tup hc h hn hst).run pins s σ H (.ref a) (.ref a) Q I (show RelV (.ref a) (.ref a) from rfl) ⟨a, xs, rfl, hq, hl, hw⟩
  · obtain ⟨its, rv, ht, hz⟩ := I.list hq
    rw [assign_Tuple]
    refine wpAny_bind (wpAny_standAt ?_)
    unfold unpack
    have hsz : (assignEach es X.env).length = its.toArray.size := by simp [hn, ← hl, rv.length]
    rw [hsz, hst]
    refine wpAny_bind (wpAny_holding (unpackItems_list (I.ok.hd hc) ht.isList fun h' hx => ?_))
    have I1 : Inv X pins σ H { s with heap := h' } := I.kept (t' := s.toks) fun b o e => hx b o (Nat.ne_of_lt (Heap.lt_size e)) e
    exact h.run pins _ σ H xs _ Q I1 (by simpa using rv) hw
section
variable {X : Cx} {F F' F1 : Addr → Prop} {ι ι' ι1 : Io} {H H' H1 : Hp} {S : Sto} {σ : L2.St} {pos : Pos}
/-! ### slots -/
theorem Se.set {env : Env} (se : Se X F ι H env σ) {i : Nat} {d : D} {m : Bool} {v : V} (h : Sl X F ι H d m v) (hl : i < σ.length) : Se X F ι H (env.set i (some (d, m))) (σ.set i (some v)) := by
  intro j d' m' hj
  rw [List.getElem?_set] at hj
  rw [List.getElem?_set]
  by_cases e : i = j
  · subst e
    rw [if_pos rfl] at hj
    split at hj
    · cases hj
      exact ⟨v, by rw [if_pos rfl, if_pos hl], h⟩
    · cases hj
  · rw [if_neg e] at hj
    obtain ⟨v', h1, h2⟩ := se j d' m' hj
    exact ⟨v', by rw [if_neg e]; exact h1, h2⟩
theorem Se.forget {env : Env} (se : Se X F ι H env σ) (i : Nat) (x : Option V) : Se X F ι H (env.set i none) (σ.set i x) := by
  intro j d' m' hj
  rw [List.getElem?_set] at hj
  by_cases e : i = j
  · subst e
    rw [if_pos rfl] at hj
    split at hj
    · cases hj
    · cases hj
  · rw [if_neg e] at hj
    obtain ⟨v', h1, h2⟩ := se j d' m' hj
    exact ⟨v', by rw [List.getElem?_set, if_neg e]; exact h1, h2⟩
theorem Se.wipe {env : Env} (se : Se X F ι H env σ) : ∀ vs : List Nat, Se X F ι H (wipeE env vs) (L2.wipe σ vs)
  | [] => se
  | i :: vs => (Se.wipe se vs).forget i none
/-- the stores of a target's names, one by one -/
def setAll : List Nat → List V → L2.St → L2.St
  | i :: is, v :: vs, σ => setAll is vs (σ.set i (some v))
  | _, _, σ => σ
theorem setAll_length : ∀ (is : List Nat) (vs : List V) (σ : L2.St), (setAll is vs σ).length = σ.length
  | [], _, _ => rfl
  | _ :: _, [], _ => rfl
  | i :: is, v :: vs, σ => by rw [setAll, setAll_length is vs, List.length_set]
def gSets : List Nat → TGs
  | [] => gNil
  | i :: is => gCons (gName i) (gSets is)
theorem gSets_ok {H : Hp} {Q : L2.St → Hp → Prop} : ∀ (is : List Nat) (vs : List V) (σ : L2.St), is.length = vs.length → Q (setAll is vs σ) H → gSets is vs σ H Q
  | [], [], σ, _, h => ⟨rfl, h⟩
  | i :: is, v :: vs, σ, hl, h => ⟨v, vs, rfl, gSets_ok is vs _ (by simpa using hl) h⟩
  | [], _ :: _, _, hl, _ => by simp at hl
  | _ :: _, [], _, hl, _ => by simp at hl
def gT (K : PySem.W.Frag) : Tg → TG
  | .nm i => gName i
  | .tu is => gSq K is.length (gSets is)
theorem bindTu_ok : ∀ {is : List Nat} {ds : List D} {env env' : Env} {vs : List V} {σ : L2.St}, bindTu is ds env = .ok env' → XRepL X F ι H ds vs → Se X F ι H env σ → (∀ i ∈ is, i < σ.length) → is.length = vs.length ∧ Se X F ι H env' (setAll is vs σ)
  | [], [], env, env', vs, σ, h, r, se, _ => by cases h; cases r; exact ⟨rfl, se⟩
  | [], _ :: _, _, _, _, _, h, _, _, _ => by cases h
  | _ :: _, [], _, _, _, _, h, _, _, _ => by cases h
  | i :: is, d :: ds, env, env', vs, σ, h, r, se, hl => by
    cases r with
    | @cons _ _ v vs r1 r2 =>
      obtain ⟨h1, h2⟩ := bindTu_ok (is := is) (ds := ds) (env := env.set i (some (d, false))) (vs := vs) (σ := σ.set i (some v)) h r2 (se.set (m := false) r1 (hl i (by simp))) fun j hj => by rw [List.length_set]; exact hl j (by simp [hj])
      exact ⟨by simp [h1], h2⟩
def Tg.ix : Tg → List Nat
  | .nm i => [i]
  | .tu is => is
theorem setAll_other {j : Nat} : ∀ (is : List Nat) (vs : List V) (σ : L2.St), j ∉ is → (setAll is vs σ)[j]? = σ[j]? := by
  intro is
  induction is with
  | nil => intro vs σ _; rfl
  | cons i is ih =>
    intro vs σ hj
    cases vs with
    | nil => rfl
    | cons v vs =>
      rw [setAll, ih vs _ (fun h => hj (by simp [h])), List.getElem?_set, if_neg (fun e => hj (by simp [e]))]
theorem bind_reads {t : Tg} {d : D} {env env' : Env} {v : V} {Q : L2.St → Hp → Prop} (h : bindO t d env = .ok env') (r : XRep X F ι H d v) (se : Se X F ι H env σ) (hl : ∀ i ∈ t.ix, i < σ.length)
    (q : ∀ σ', σ'.length = σ.length → (∀ j, j ∉ t.ix → σ'[j]? = σ[j]?) → Se X F ι H env' σ' → Q σ' H) : gT X.K t v σ H Q := by
  cases t with
  | nm i =>
    cases h
    refine q _ (by rw [List.length_set]) (fun j hj => ?_) (se.set (m := false) r (hl i (by simp [Tg.ix])))
    rw [List.getElem?_set, if_neg (fun e => hj (by simp [Tg.ix, e]))]
  | tu is =>
    cases d with
    | tup ds =>
      obtain ⟨a, vs, rfl, hs, rr⟩ := Cv.tup (.inl r)
      obtain ⟨h1, h2⟩ := bindTu_ok h rr se hl
      exact ⟨a, vs, rfl, .inl hs, h1.symm, gSets_ok is vs σ h1 (q _ (setAll_length _ _ _) (fun j hj => setAll_other is vs σ hj) h2)⟩
    | lst ds =>
      obtain ⟨a, vs, rfl, hs, rr⟩ := Cv.lst (.inl r)
      obtain ⟨h1, h2⟩ := bindTu_ok h rr se hl
      exact ⟨a, vs, rfl, .inr hs, h1.symm, gSets_ok is vs σ h1 (q _ (setAll_length _ _ _) (fun j hj => setAll_other is vs σ hj) h2)⟩
    | _ => cases h
theorem wipe_eq {σ σ' : L2.St} (hl : σ'.length = σ.length) : ∀ (vs : List Nat), (∀ j, j ∉ vs → σ'[j]? = σ[j]?) → L2.wipe σ' vs = L2.wipe σ vs := by
  intro vs h
  refine List.ext_getElem? fun j => ?_
  have key : ∀ (σ : L2.St) (vs : List Nat), (L2.wipe σ vs)[j]? = if j ∈ vs ∧ j < σ.length then some none else σ[j]? := by
    intro σ vs
    induction vs with
    | nil => simp [L2.wipe]
    | cons i vs ih =>
      rw [L2.wipe, List.getElem?_set, L2.wipe_length]
      by_cases e : i = j
      · subst e
        by_cases hlt : i < σ.length
        · simp [hlt]
        · simp [hlt, List.getElem?_eq_none (Nat.le_of_not_lt hlt)]
      · rw [if_neg e, ih]
        have : (j ∈ i :: vs) ↔ j ∈ vs := by simp [Ne.symm e]
        simp only [this]
  rw [key, key, hl]
  by_cases hj : j ∈ vs
  · by_cases hlt : j < σ.length
    · simp [hj, hlt]
    · rw [if_neg (by simp [hlt]), if_neg (by simp [hlt]), List.getElem?_eq_none (by omega), List.getElem?_eq_none (by omega)]
  · simp [hj, h j hj]

/-! ### comprehensions -/
theorem SR.write {D' : Addr} {o : HO} (s : XSR X F ι H S) (mu : Mut (H D')) (nf : ¬ F D') (ni : ¬ ioIn ι D') : XSR X F ι (upd H D' o) S := by
  refine s.ext (Ext.write mu nf) (fun b hb u h => ?_) (fun b hb => ?_) s.fio
  · rw [upd_ne (fun e => ni (by rw [← e]; exact hb))]; exact h
  · by_cases e : b = D'
    · subst e; exact absurd hb nf
    · rw [upd_ne e]; exact s.fdom b hb
/-- the contexts of a comprehension's block -/
abbrev Bk (X : Cx) (scope : Scope) (s : Shared) (H : Hp) (C : Addr) (cl : List (Str × Addr)) (fp : List Addr) : Cx := X.blk s H scope (compEnvC scope cl C X.env) fp
theorem loopC_reads {J : L2.It} {tt : TT} {te : TE} {tg : Tg} {own : List Nat} {env : Env} {ds : List D} {ws : List (D × V)} {gi : Env → Sto → Out (Bool × Sto)} {ge : Env → Sto → Out Res} {z : List D × Sto} {F0 : Addr → Prop} {ι0 : Io} {H0 : Hp} {S0 : Sto} {Q : VK}
    (s0 : XSR X F0 ι0 H0 S0) (se0 : Se X F0 ι0 H0 env σ) (s1 : XSR X F1 ι1 H1 S) (x1 : Stp F0 ι0 H0 F1 ι1 H1) (hws : ∀ p ∈ ws, Sl X F1 ι1 H1 p.1 true p.2) (j : Jo X J (Lx X F1 ι1 H1 ws) ds)
    (hix : ∀ i ∈ tg.ix, i ∈ own) (hown : ∀ i ∈ own, i < σ.length)
    (ht : ∀ env S r, gi env S = .ok r → ∀ F ι σ H, XSR X F ι H S → Se X F ι H env σ → tt σ H (PostT X F ι H r))
    (he : ∀ env S r y, ge env S = .ok r → kept r = .ok y → ∀ F ι σ H, XSR X F ι H S → Se X F ι H env σ → te σ H (Post X F ι H (y.1, .fz, y.2)))
    (mt : ∀ σ H (Q Q' : Bool → Hp → Prop), (∀ c H, Q c H → Q' c H) → tt σ H Q → tt σ H Q') (me : ∀ σ H (Q Q' : VK), (∀ c H, Q c H → Q' c H) → te σ H Q → te σ H Q')
    (h : loopC (fun d S => (bindO tg d (wipeE env own)).bind fun env2 => (gi env2 S).bind fun c => if c.1 then (ge env2 c.2).bind fun x => (kept x).bind fun y => .ok (some y.1, y.2) else .ok (none, c.2)) ds S [] = .ok z)
    (q : ∀ D H', Post X F0 ι0 H0 (.lst z.1, .fr, z.2) (.ref D) H' → Q (.ref D) H') :
    ∀ D, H1 D = none → ∃ W : Nat → Nat → Hp → Prop, (∃ m, W 0 m (upd H1 D (.lst []))) ∧ ∀ i m H, W i m H →
      (J.stop i H ∧ Q (.ref D) H) ∨ (J.go i H ∧ ∃ Nx : Hp → Prop, (∀ H', Nx H' → ∃ m', m' < m ∧ W (i + 1) m' H') ∧ ∀ x H', J.yld i H x H' → gT X.K tg x (L2.wipe σ own) H' fun σ2 H2 => L2.wipe σ2 own = L2.wipe σ own ∧ tt σ2 H2 fun b H3 =>
        if b = true then te σ2 H3 fun y H4 => ∃ acc, H4 D = some (.lst acc) ∧ acc.length < sizeLine ∧ Nx (upd H4 D (.lst (acc ++ [y]))) else Nx H3) := by
  intro D hD
  let body := fun (d : Z.D) (S : Sto) => (bindO tg d (wipeE env own)).bind fun env2 => (gi env2 S).bind fun c => if c.1 then (ge env2 c.2).bind fun x => (kept x).bind fun y => Out.ok (some y.1, y.2) else .ok (none, c.2)
  let W : Nat → Nat → Hp → Prop := fun i m H => m = ds.length - i ∧ i ≤ ds.length ∧ ∃ S accD accV F' ι', Stp F1 ι1 H1 F' ι' H ∧ XSR X F' ι' H S ∧ H D = some (.lst accV) ∧ ¬ F' D ∧ ¬ ioIn ι' D ∧ XRepL X F' ι' H accD accV ∧ loopC body (ds.drop i) S accD = .ok z
  refine ⟨W, ⟨ds.length, by simp, Nat.zero_le _, S, [], [], F1, ι1, .laid hD, s1.laid hD, upd_same, s1.none_F hD, s1.none_out hD, .nil, h⟩, ?_⟩
  rintro i m H ⟨rfl, hi, S', accD, accV, F', ι', x, s, hH, nf, ni, ra, hl⟩
  have lx : Lx X F1 ι1 H1 ws F' ι' H := ⟨x.ext s1, fun p hp => (hws p hp).mono s1 x⟩
  obtain ⟨j1, j2, j3⟩ := j i F' ι' H lx
  by_cases hlt : i < ds.length
  · refine .inr ⟨j1 hlt, W (i + 1) (ds.length - (i + 1)), fun H' w => ⟨_, by omega, w⟩, fun v H' y => ?_⟩
    have hd : ds[i]? = some ds[i] := List.getElem?_eq_getElem hlt
    obtain ⟨x2, s2, rd⟩ := j3 v H' S' y s _ hd
    have hdrop : ds.drop i = ds[i] :: ds.drop (i + 1) := by rw [List.drop_eq_getElem_cons hlt]
    rw [hdrop] at hl
    unfold loopC at hl
    obtain ⟨r, hb, hl⟩ := bind_ok hl
    obtain ⟨env2, hb1, hb⟩ := bind_ok hb
    obtain ⟨c, hb2, hb⟩ := bind_ok hb
    have x02 : Stp F0 ι0 H0 F' ι' H' := x1.trans (x.trans x2)
    have se2 : Se X F' ι' H' (wipeE env own) (L2.wipe σ own) := (se0.mono s0 x02).wipe own
    have hH' : H' D = some (.lst accV) := x2.keep D _ hH ni
    have nfH : ∀ {F2 ι2 H2}, Stp F' ι' H' F2 ι2 H2 → ¬ F2 D ∧ ¬ ioIn ι2 D ∧ H2 D = some (.lst accV) := fun {F2 ι2 H2} x => by
      refine ⟨fun f => ?_, fun f => ?_, x.keep D _ hH' ni⟩
      · rcases x.fn D f with f | f
        · exact nf f
        · rw [hH'] at f; cases f
      · rcases x.inn D f with f | f
        · exact ni f
        · rw [hH'] at f; cases f
    refine bind_reads hb1 rd se2 (fun k hk => by rw [L2.wipe_length]; exact hown k (hix k hk)) fun σ2 hl2 hk2 se3 => ⟨?_, ?_⟩
    · have e1 := wipe_eq (σ := L2.wipe σ own) (σ' := σ2) hl2 own fun k hk => hk2 k fun z => hk (hix k z)
      rw [e1]
      exact wipe_eq (L2.wipe_length _ _) own fun k hk => by
        have key : ∀ (σ : L2.St) (vs : List Nat), k ∉ vs → (L2.wipe σ vs)[k]? = σ[k]? := by
          intro σ vs hk
          induction vs with
          | nil => rfl
          | cons i vs ih => rw [L2.wipe, List.getElem?_set, if_neg (fun e => hk (by simp [e])), ih (fun z => hk (by simp [z]))]
        exact key σ own hk
    · refine mt _ _ _ _ (fun b H3 p3 => ?_) (ht env2 S' c hb2 F' ι' σ2 H' s2 se3)
      obtain ⟨eb, F3, ι3, x3, s3⟩ := p3
      subst eb
      obtain ⟨nf3, ni3, hD3⟩ := nfH x3
      by_cases hc : c.1 = true
      · rw [if_pos hc] at hb ⊢
        obtain ⟨xr, hb3, hb⟩ := bind_ok hb
        obtain ⟨yk, hb4, hb⟩ := bind_ok hb
        cases hb
        simp only at hl
        split at hl
        · rename_i hacc
          refine me _ _ _ _ (fun yv H4 p4 => ?_) (he env2 c.2 xr yk hb3 hb4 F3 ι3 σ2 H3 s3 (se3.mono s2 x3))
          obtain ⟨F4, ι4, x4, s4, r4⟩ := p4
          obtain ⟨nf4, ni4, hD4⟩ := nfH (x3.trans x4)
          have mu : Mut (H4 D) := by rw [hD4]; trivial
          refine ⟨accV, hD4, by rw [line_eq, ← ra.length]; exact hacc, rfl, hlt, yk.2, accD ++ [yk.1], accV ++ [yv], F4, ι4, ?_, s4.write mu nf4 ni4, upd_same, nf4, ni4, ?_, hl⟩
          · have x14 := x.trans (x2.trans (x3.trans x4))
            exact ⟨fun a o h n => by rw [upd_ne (fun e => by rw [e, hD] at h; cases h)]; exact x14.keep a o h n, fun a h => by
              by_cases e : a = D
              · subst e; exact absurd hD h
              · rw [upd_ne e]; exact x14.dom a h, x14.fm, x14.fn, x14.im, x14.inn⟩
          · have E := Ext.write (ι := ι4) (o := .lst (accV ++ [yv])) mu nf4
            exact (RepL.mono E (RepL.mono ((x2.trans (x3.trans x4)).ext s) ra)).append (.cons (Rep.mono E r4) .nil)
        · cases hl
      · rw [if_neg hc] at hb ⊢
        cases hb
        exact ⟨rfl, hlt, c.2, accD, accV, F3, ι3, x.trans (x2.trans x3), s3, hD3, nf3, ni3, RepL.mono ((x2.trans x3).ext s) ra, hl⟩
  · have e : i = ds.length := by omega
    subst e
    rw [List.drop_length] at hl
    cases hl
    refine .inl ⟨j2 rfl, q D H ⟨F', ι', x1.trans x, s, D, rfl, .lst hH ra, nf, ni, none_of_dom (x1.dom D) hD⟩⟩
def wpTs (X : Cx) (ifs : List Expr) (σ : L2.St) (H : Hp) (Q : Bool → Hp → Prop) : Prop := ∀ pins s, Inv X pins σ H s →
  wpAny (model X.prog X.w) X.A (forIn ifs true fun c r => if r = true then do let ok ← isTrue c X.env (eval c X.env); pure (ForInStep.yield ok) else pure (ForInStep.yield r)) (TP X pins σ Q) X.xe s
theorem pts_w (ifs : List Expr) : PTs X ifs (wpTs X ifs) := ⟨fun pins s σ H Q I h => h pins s I⟩
def GTs (X : Cx) (ifs : List Expr) (g : Env → Sto → Out (Bool × Sto)) : Prop := ∀ env S r, g env S = .ok r → ∀ F ι σ H, XSR X F ι H S → Se X F ι H env σ → wpTs X ifs σ H (PostT X F ι H r)
theorem gts_nil : GTs X [] fun _ S => .ok (true, S) := fun env S r q F ι σ H s se pins sh I => by
  cases q
  exact pts_nil.run pins sh σ H _ I ⟨rfl, F, ι, .refl, s⟩
theorem gts_one {c : Expr} {g : Env → Sto → Out (Bool × Sto)} (h : GT X c g) : GTs X [c] g := fun env S r q F ι σ H s se pins sh I => (pts_one (pt_w c)).run pins sh σ H _ I (h env S r q F ι σ H s se)
theorem GTs.congr {ifs : List Expr} {g g' : Env → Sto → Out (Bool × Sto)} (h : GTs X ifs g) (c : ∀ env S, g' env S = g env S) : GTs X ifs g' := fun env S r q => h env S r (by rw [← c]; exact q)
section
variable {elt tgE iter : Expr} {ifs : List Expr} {scope : Scope} {own : List (Str × Nat)} {tg : Tg} {gIt : Env → Sto → Out (List D × Bool × Sto)} {gi : Env → Sto → Out (Bool × Sto)} {ge : Env → Sto → Out Res}
def ttB (X : Cx) (scope : Scope) (ifs : List Expr) : TT := fun σ H Q => ∀ s0 H0 C cl fp, wpTs (Bk X scope s0 H0 C cl fp) ifs σ H Q
def teB (X : Cx) (scope : Scope) (elt : Expr) : TE := fun σ H Q => ∀ s0 H0 C cl fp, wpE (Bk X scope s0 H0 C cl fp) elt σ H Q
def tComp (X : Cx) (scope : Scope) (elt tgE iter : Expr) (ifs : List Expr) (tg : Tg) (own : List (Str × Nat)) : TE := tLc (wI X tgE iter) (gT X.K tg) (ttB X scope ifs) (teB X scope elt) (own.map (·.2))
theorem comp_reads (hi : GI X tgE iter gIt) (ok : BlkOk X.N X.env.scope scope own) (hix : ∀ i ∈ tg.ix, i ∈ own.map (·.2)) (ht : ∀ s0 H0 C cl fp, GTs (Bk X scope s0 H0 C cl fp) ifs gi) (he : ∀ s0 H0 C cl fp, GE (Bk X scope s0 H0 C cl fp) elt ge)
    {env : Env} {r : Res} (h : ((gIt env S).bind fun r => (loopC (fun d S => (bindO tg d (wipeE env (own.map (·.2)))).bind fun env2 => (gi env2 S).bind fun c => if c.1 then (ge env2 c.2).bind fun x => (kept x).bind fun y => .ok (some y.1, y.2) else .ok (none, c.2)) r.1 r.2.2 []).bind fun z => .ok (.lst z.1, .fr, z.2)) = .ok r)
    (s : XSR X F ι H S) (se : Se X F ι H env σ) (hl : σ.length = X.N.length) {Q : VK} (hq : ∀ v H', Post X F ι H r v H' → Q v H') : tComp X scope elt tgE iter ifs tg own σ H Q := by
  obtain ⟨⟨ds, m, S1⟩, h1, h⟩ := bind_ok h
  obtain ⟨z, h2, h⟩ := bind_ok h
  cases h
  intro pins sh I
  refine thn (hi env S _ h1 F ι σ H s se pins sh I) fun v s1 w => thn w fun itv s2 w2 => ?_
  obtain ⟨it, fp, tn, J, H1, e, I2, T, st2, f2, F1, ι1, ws, x1, sr1, hws, _, j⟩ := w2
  refine ⟨it, fp, tn, J, H1, e, I2, T, st2, f2, ?_⟩
  refine loopC_reads (X := X) s se sr1 x1 hws j hix (fun i hi => ?_) (fun env S r q F ι σ H s se s0 H0 C cl fp => ht s0 H0 C cl fp env S r q F ι σ H s se) (fun env S r y q hk F ι σ H s se s0 H0 C cl fp => (he s0 H0 C cl fp env S r q F ι σ H s se).kept hk) (fun σ H Q Q' hq w s0 H0 C cl fp pins sh I => thn (w s0 H0 C cl fp pins sh I) fun _ _ ⟨H', I', q⟩ => ⟨H', I', hq _ _ q⟩) (fun σ H Q Q' hq w s0 H0 C cl fp => (w s0 H0 C cl fp).mono hq) h2 fun D H' p => hq _ _ p
  obtain ⟨p, hp, rfl⟩ := List.mem_map.mp hi
  have := ok.ix p hp
  rw [hl]
  exact (List.getElem?_eq_some_iff.mp this).1
theorem ge_comp (hc : X.calm = true) (hN : X.N.Nodup) (hi : GI X tgE iter gIt) (ok : BlkOk X.N X.env.scope scope own) (hix : ∀ i ∈ tg.ix, i ∈ own.map (·.2)) (hg : ∀ s0 H0 C cl fp, PG (Bk X scope s0 H0 C cl fp) tgE (gT X.K tg)) (ht : ∀ s0 H0 C cl fp, GTs (Bk X scope s0 H0 C cl fp) ifs gi) (he : ∀ s0 H0 C cl fp, GE (Bk X scope s0 H0 C cl fp) elt ge) (hs : ∀ x, foldedSetIterable iter X.env x = pure x) :
    GE X (.ListComp elt [⟨tgE, iter, ifs, 0⟩] scope pos) fun env S => (gIt env S).bind fun r => (loopC (fun d S => (bindO tg d (wipeE env (own.map (·.2)))).bind fun env2 => (gi env2 S).bind fun c => if c.1 then (ge env2 c.2).bind fun x => (kept x).bind fun y => .ok (some y.1, y.2) else .ok (none, c.2)) r.1 r.2.2 []).bind fun z => .ok (.lst z.1, .fr, z.2) := by
  intro env S r q F ι σ H s se pins sh I
  exact (pe_lc hc hN (pi_w tgE iter) ok hg (fun s0 H0 C cl fp => ⟨fun pins s σ H Q I h => h s0 H0 C cl fp pins s I⟩) (fun s0 H0 C cl fp => ⟨fun pins s σ H Q I h => h s0 H0 C cl fp pins s I⟩) hs).run pins sh σ H _ I (comp_reads hi ok hix ht he q s se I.len fun v H' p => p)
theorem ps_setComp {i : Nat} {y : Str} {py spos : Pos} (hc : X.calm = true) (hN : X.N.Nodup) (hy : X.N[i]? = some y) (hyl : X.env.scope.names.lookup y = some .local) (hsw : swapsWith (.ListComp elt [⟨tgE, iter, ifs, 0⟩] scope pos) (some (.Name y py)) spos.line X.env = pure true)
    (ok : BlkOk X.N X.env.scope scope own) (hg : ∀ s0 H0 C cl fp, PG (Bk X scope s0 H0 C cl fp) tgE (gT X.K tg)) (hs : ∀ x, foldedSetIterable iter X.env x = pure x) :
    PS X (.Assign [.Name y py] (.ListComp elt [⟨tgE, iter, ifs, 0⟩] scope pos) spos) (tAsg (tComp X scope elt tgE iter ifs tg own) (gName i)) :=
  ps_setLc hc hN hy hyl hsw (pi_w tgE iter) ok hg (fun s0 H0 C cl fp => ⟨fun pins s σ H Q I h => h s0 H0 C cl fp pins s I⟩) (fun s0 H0 C cl fp => ⟨fun pins s σ H Q I h => h s0 H0 C cl fp pins s I⟩) hs
end
end
end Z
end
section
/-! ZQ: the state of a body: slots, store. -/
namespace Z
open PySem L2 PySem.Spec PyProof.Rows
section
variable {X : Cx} {F F' F1 F2 F0 : Addr → Prop} {ι ι' ι1 ι2 ι0 : Io} {H H' H1 H2 H0 : Hp} {S S' : Sto} {σ : L2.St} {pos : Pos} {env env' : Env}
/-! ### levels -/
theorem io_lev {l i m : Nat} {a : Addr} (h : ioAt ι l i = some a) (hm : ∀ r ∈ ι, m ≤ r.1) : m ≤ l := by
  induction ι with
  | nil => simp [ioAt] at h
  | cons r ι ih =>
    unfold ioAt at h
    split at h
    · rename_i e; rw [e]; exact hm r (by simp)
    · exact ih h fun q hq => hm q (by simp [hq])
mutual
theorem Rep.levs {m : Nat} (hm : ∀ r ∈ ι, m ≤ r.1) : ∀ {d : D} {v : V}, XRep X F ι H d v → d.lev m = true
  | _, _, .non => rfl
  | _, _, .bl _ => rfl
  | _, _, .int _ => rfl
  | _, _, .str _ => rfl
  | _, _, .tup _ r => by simpa [D.lev] using RepL.levs hm r
  | _, _, .lst _ _ r => by simpa [D.lev] using RepL.levs hm r
  | _, _, .lstK _ r => by simpa [D.lev] using RepL.levs hm r
  | _, _, .obj _ t => TopB.levs hm t
  | _, _, .ref h => by simpa [D.lev] using io_lev h hm
theorem TopB.levs {m : Nat} (hm : ∀ r ∈ ι, m ≤ r.1) : ∀ {b : Bool} {d : D} {a : Addr}, XTopB X F ι H b d a → d.lev m = true
  | _, _, _, .lst _ r => by simpa [D.lev] using RepL.levs hm r
  | _, _, _, .dicK (kvs := kvs) _ r => by
    have hk : ∀ l : List (Key × V), D.levL m (l.map fun p => keyD p.1) = true := by
      intro l
      induction l with
      | nil => rfl
      | cons p l ih => simp only [List.map_cons, D.levL, Bool.and_eq_true]; exact ⟨by cases p.1 <;> rfl, ih⟩
    simp only [D.lev, Bool.and_eq_true]
    exact ⟨hk _, RepL.levs hm r⟩
  | _, _, _, .dicT _ _ _ r1 _ _ _ _ r2 => by
    simp only [D.lev, Bool.and_eq_true]
    exact ⟨RepL.levs hm r1, RepL.levs hm r2⟩
theorem RepL.levs {m : Nat} (hm : ∀ r ∈ ι, m ≤ r.1) : ∀ {ds : List D} {vs : List V}, XRepL X F ι H ds vs → D.levL m ds = true
  | _, _, .nil => rfl
  | _, _, .cons r t => by
    simp only [D.levL, Bool.and_eq_true]
    exact ⟨Rep.levs hm r, RepL.levs hm t⟩
end
theorem lens_keys : ∀ {ι : Io} {S : Sto}, ι.map (fun r => (r.1, r.2.length)) = S.map (fun r => (r.1, r.2.length)) → ι.map (·.1) = S.map (·.1)
  | [], [], _ => rfl
  | [], _ :: _, h => by simp at h
  | _ :: _, [], h => by simp at h
  | r :: ι, q :: S, h => by
    simp only [List.map_cons, List.cons.injEq, Prod.mk.injEq] at h
    simp only [List.map_cons, List.cons.injEq]
    exact ⟨h.1.1, lens_keys h.2⟩
theorem SR.head_lev {r : Nat × List D} (s : XSR X F ι H (r :: S)) : ∀ q ∈ ι, r.1 ≤ q.1 := by
  intro q hq
  have h1 : q.1 ∈ ι.map (·.1) := List.mem_map_of_mem hq
  rw [lens_keys s.lens] at h1
  rcases List.mem_cons.mp h1 with e | e
  · rw [e]; exact Nat.le_refl _
  · have p := s.srt
    rw [List.map_cons, List.pairwise_cons] at p
    exact Nat.le_of_lt (p.1 _ e)
/-! ### the store written -/
theorem put_lens (l i : Nat) (d : D) : ∀ S : Sto, (put S l i d).map (fun r => (r.1, r.2.length)) = S.map (fun r => (r.1, r.2.length))
  | [] => rfl
  | r :: S => by
    unfold put
    split
    · simp
    · simp [put_lens l i d S]
theorem put_keys (l i : Nat) (d : D) : ∀ S : Sto, (put S l i d).map (·.1) = S.map (·.1)
  | [] => rfl
  | r :: S => by
    unfold put
    split
    · simp
    · simp [put_keys l i d S]
theorem look_put {l i : Nat} {c d : D} (l' i' : Nat) : ∀ {S : Sto}, look S l i = some c → look (put S l i d) l' i' = if l' = l ∧ i' = i then some d else look S l' i'
  | [], h => by simp [look] at h
  | r :: S, h => by
    unfold look at h
    unfold put
    split at h
    · rename_i e
      rw [if_pos e]
      unfold look
      simp only
      by_cases e2 : l' = r.1
      · have hi : i < r.2.length := (List.getElem?_eq_some_iff.mp h).1
        rw [if_pos e2, if_pos e2, List.getElem?_set]
        by_cases e3 : i' = i
        · subst e3; rw [if_pos rfl, if_pos hi, if_pos ⟨by rw [e2, e], rfl⟩]
        · rw [if_neg (fun z => e3 z.symm), if_neg (fun z => e3 z.2)]
      · rw [if_neg e2, if_neg e2, if_neg (fun z => e2 (by rw [z.1, e]))]
    · rename_i e
      rw [if_neg e]
      unfold look
      by_cases e2 : l' = r.1
      · rw [if_pos e2, if_pos e2, if_neg (fun z => e (by rw [← z.1, e2]))]
      · rw [if_neg e2, if_neg e2]
        exact look_put l' i' h
theorem upd_dom {a : Addr} {o : HO} (h : ∀ b, H0 b ≠ none → H b ≠ none) : ∀ b, H0 b ≠ none → upd H a o b ≠ none := fun b hb => by
  by_cases e : b = a
  · subst e; rw [upd_same]; simp
  · rw [upd_ne e]; exact h b hb
/-- a shared object written -/
theorem SR.put {l i : Nat} {a : Addr} {c d : D} {o : HO} (s : XSR X F ι H S) (ha : ioAt ι l i = some a) (hc : look S l i = some c) (t : XTop X F ι (upd H a o) d a) (hl : d.lev l = true) : XSR X F ι (upd H a o) (Z.put S l i d) := by
  have mu : Mut (H a) := s.mutIn ⟨l, i, ha⟩
  have nf : ¬ F a := fun f => s.fio a f ⟨l, i, ha⟩
  have E := Ext.write (ι := ι) (o := o) mu nf
  refine ⟨by rw [put_lens]; exact s.lens, by rw [put_keys]; exact s.srt, fun l' i' d' h => ?_, fun l' i' d' h => ?_, s.inj, fun b f => ?_, s.fio⟩
  · rw [look_put l' i' hc] at h
    split at h
    · rename_i e
      cases h
      exact ⟨a, by rw [e.1, e.2]; exact ha, t⟩
    · rename_i e
      obtain ⟨b, hb, tb⟩ := s.at_ l' i' d' h
      have hne : b ≠ a := fun z => by
        subst z
        exact e (s.inj _ _ _ _ _ hb ha)
      exact ⟨b, hb, tb.mono E fun o h => by rw [upd_ne hne]; exact h⟩
  · rw [look_put l' i' hc] at h
    split at h
    · rename_i e
      cases h
      rw [e.1]; exact hl
    · exact s.lev l' i' d' h
  · by_cases e : b = a
    · subst e; exact absurd f nf
    · rw [upd_ne e]; exact s.fdom b f
/-- a new shared object of this call -/
theorem SR.new {r : Nat × List D} {a : Addr} {d : D} (s : XSR X F ι H (r :: S)) (t : XTop X F ι H d a) (nf : ¬ F a) (ni : ¬ ioIn ι a) :
    ∃ ι', (∀ l i b, ioAt ι l i = some b → ioAt ι' l i = some b) ∧ (∀ b, ioIn ι' b → ioIn ι b ∨ b = a) ∧ ioAt ι' r.1 r.2.length = some a ∧ XSR X F ι' H ((r.1, r.2 ++ [d]) :: S) := by
  cases ι with
  | nil => have := s.lens; simp at this
  | cons q ι =>
    have hl := s.lens
    simp only [List.map_cons, List.cons.injEq, Prod.mk.injEq] at hl
    obtain ⟨⟨e1, e2⟩, e3⟩ := hl
    have im : ∀ l i b, ioAt (q :: ι) l i = some b → ioAt ((q.1, q.2 ++ [a]) :: ι) l i = some b := by
      intro l i b h
      unfold ioAt at h ⊢
      simp only
      split at h
      · rename_i e
        rw [if_pos e, List.getElem?_append_left (List.getElem?_eq_some_iff.mp h).1]; exact h
      · rename_i e
        rw [if_neg e]; exact h
    have back : ∀ l i b, ioAt ((q.1, q.2 ++ [a]) :: ι) l i = some b → ioAt (q :: ι) l i = some b ∨ (b = a ∧ l = q.1 ∧ i = q.2.length) := by
      intro l i b h
      unfold ioAt at h ⊢
      simp only at h
      split at h
      · rename_i e
        rw [if_pos e]
        rw [List.getElem?_append] at h
        split at h
        · exact .inl h
        · rename_i hlt
          have hi : i - q.2.length = 0 := by
            cases hh : i - q.2.length with
            | zero => rfl
            | succ n => rw [hh] at h; simp at h
          rw [hi] at h
          simp at h
          exact .inr ⟨h.symm, e, by omega⟩
      · rename_i e
        rw [if_neg e]; exact .inl h
    have E : Ext F (q :: ι) H F ((q.1, q.2 ++ [a]) :: ι) H := ⟨fun _ _ _ h => h, fun _ _ h => h, fun _ _ _ h => h, fun _ h => h, im⟩
    have hat : ioAt ((q.1, q.2 ++ [a]) :: ι) r.1 r.2.length = some a := by
      unfold ioAt
      simp only
      rw [if_pos e1.symm, ← e2]
      simp
    refine ⟨(q.1, q.2 ++ [a]) :: ι, im, fun b ⟨l, i, hb⟩ => ?_, hat, ?_⟩
    · rcases back l i b hb with h | h
      · exact .inl ⟨l, i, h⟩
      · exact .inr h.1
    · have lookb : ∀ l i d', look ((r.1, r.2 ++ [d]) :: S) l i = some d' → look (r :: S) l i = some d' ∨ (d' = d ∧ l = r.1 ∧ i = r.2.length) := by
        intro l i d' h
        unfold look at h ⊢
        simp only at h
        split at h
        · rename_i e
          rw [if_pos e]
          rw [List.getElem?_append] at h
          split at h
          · exact .inl h
          · have hi : i - r.2.length = 0 := by
              cases hh : i - r.2.length with
              | zero => rfl
              | succ n => rw [hh] at h; simp at h
            rw [hi] at h
            simp at h
            exact .inr ⟨h.symm, e, by omega⟩
        · rename_i e
          rw [if_neg e]; exact .inl h
      refine ⟨by simp [e1, e2, e3], s.srt, fun l i d' h => ?_, fun l i d' h => ?_, fun l i l' i' b h1 h2 => ?_, s.fdom, fun b f ⟨l, i, hb⟩ => ?_⟩
      · rcases lookb l i d' h with h | ⟨rfl, rfl, rfl⟩
        · obtain ⟨b, hb, tb⟩ := s.at_ l i d' h
          exact ⟨b, im l i b hb, tb.mono E fun _ h => h⟩
        · exact ⟨a, hat, t.mono E fun _ h => h⟩
      · rcases lookb l i d' h with h | ⟨rfl, rfl, rfl⟩
        · exact s.lev l i d' h
        · exact TopB.levs s.head_lev t
      · rcases back l i b h1 with g1 | ⟨eb, el, ei⟩
        · rcases back l' i' b h2 with g2 | ⟨eb, _, _⟩
          · exact s.inj _ _ _ _ _ g1 g2
          · subst eb; exact absurd ⟨l, i, g1⟩ ni
        · rcases back l' i' b h2 with g2 | ⟨_, el', ei'⟩
          · subst eb; exact absurd ⟨l', i', g2⟩ ni
          · exact ⟨el.trans el'.symm, ei.trans ei'.symm⟩
      · rcases back l i b hb with h | ⟨rfl, _⟩
        · exact s.fio b f ⟨l, i, h⟩
        · exact nf f

/-! ### slots -/
/-- the slots of a body; H0: the heap at the call's entry -/
structure Slots (X : Cx) (F : Addr → Prop) (ι : Io) (H H0 : Hp) (env : Env) (σ : L2.St) : Prop where
  at_ : ∀ (i : Nat) (d : D) (m : Bool), env[i]? = some (some (d, m)) → ∃ v : V, σ[i]? = some (some v) ∧ Sl X F ι H d m v ∧ (m = true → ∃ a, v = .ref a ∧ ¬ F a ∧ H0 a = none)
  one : ∀ (i j : Nat) (d d' : D) (a : Addr), env[i]? = some (some (d, true)) → env[j]? = some (some (d', true)) → σ[i]? = some (some (.ref a)) → σ[j]? = some (some (.ref a)) → i = j
theorem Slots.se (s : Slots X F ι H H0 env σ) : Se X F ι H env σ := fun i d m h => by
  obtain ⟨v, h1, h2, _⟩ := s.at_ i d m h
  exact ⟨v, h1, h2⟩
theorem Slots.mono (sl : Slots X F ι H H0 env σ) (s : XSR X F ι H S) (x : Stp F ι H F' ι' H') : Slots X F' ι' H' H0 env σ where
  at_ := fun i d m h => by
    obtain ⟨v, h1, h2, h3⟩ := sl.at_ i d m h
    refine ⟨v, h1, h2.mono s x, fun hm => ?_⟩
    obtain ⟨a, rfl, nf, hn⟩ := h3 hm
    refine ⟨a, rfl, fun f => ?_, hn⟩
    subst hm
    obtain ⟨a', ea, t, _⟩ := h2
    cases ea
    rcases x.fn a f with f | f
    · exact nf f
    · exact t.some f
  one := sl.one
theorem Slots.own (sl : Slots X F ι H H0 env σ) {i : Nat} {d : D} (h : env[i]? = some (some (d, true))) : ∃ a, σ[i]? = some (some (.ref a)) ∧ XTop X F ι H d a ∧ ¬ F a ∧ ¬ ioIn ι a ∧ H0 a = none := by
  obtain ⟨v, h1, ⟨a, rfl, t, ni⟩, h3⟩ := sl.at_ i d true h
  obtain ⟨a', ea, nf, hn⟩ := h3 rfl
  cases ea
  exact ⟨a, h1, t, nf, ni, hn⟩
theorem Slots.setF (sl : Slots X F ι H H0 env σ) {i : Nat} {d : D} {v : V} (r : XRep X F ι H d v) (hl : i < σ.length) : Slots X F ι H H0 (env.set i (some (d, false))) (σ.set i (some v)) where
  at_ := fun j d' m' hj => by
    rw [List.getElem?_set] at hj
    rw [List.getElem?_set]
    by_cases e : i = j
    · subst e
      rw [if_pos rfl] at hj
      split at hj
      · cases hj
        exact ⟨v, by rw [if_pos rfl, if_pos hl], r, fun z => by cases z⟩
      · cases hj
    · rw [if_neg e] at hj
      rw [if_neg e]
      exact sl.at_ j d' m' hj
  one := fun j k d1 d2 a h1 h2 h3 h4 => by
    have key : ∀ {j d1}, (env.set i (some (d, false)))[j]? = some (some (d1, true)) → i ≠ j ∧ env[j]? = some (some (d1, true)) := fun {j d1} h => by
      rw [List.getElem?_set] at h
      by_cases e : i = j
      · subst e
        rw [if_pos rfl] at h
        split at h <;> cases h
      · rw [if_neg e] at h; exact ⟨e, h⟩
    obtain ⟨e1, h1⟩ := key h1
    obtain ⟨e2, h2⟩ := key h2
    rw [List.getElem?_set, if_neg e1] at h3
    rw [List.getElem?_set, if_neg e2] at h4
    exact sl.one j k d1 d2 a h1 h2 h3 h4
theorem Slots.setO (sl : Slots X F ι H H0 env σ) {i : Nat} {d : D} {a : Addr} (t : XTop X F ι H d a) (nf : ¬ F a) (ni : ¬ ioIn ι a) (hn : H0 a = none) (hl : i < σ.length)
    (hd : ∀ (j : Nat) (d' : D), i ≠ j → env[j]? = some (some (d', true)) → σ[j]? ≠ some (some (.ref a))) : Slots X F ι H H0 (env.set i (some (d, true))) (σ.set i (some (.ref a))) where
  at_ := fun j d' m' hj => by
    rw [List.getElem?_set] at hj
    rw [List.getElem?_set]
    by_cases e : i = j
    · subst e
      rw [if_pos rfl] at hj
      split at hj
      · cases hj
        exact ⟨.ref a, by rw [if_pos rfl, if_pos hl], ⟨a, rfl, t, ni⟩, fun _ => ⟨a, rfl, nf, hn⟩⟩
      · cases hj
    · rw [if_neg e] at hj
      rw [if_neg e]
      exact sl.at_ j d' m' hj
  one := fun j k d1 d2 b h1 h2 h3 h4 => by
    rw [List.getElem?_set] at h1 h2 h3 h4
    by_cases e1 : i = j
    · by_cases e2 : i = k
      · exact e1.symm.trans e2
      · rw [if_neg e2] at h2 h4
        rw [if_pos e1, if_pos hl] at h3
        cases h3
        exact absurd h4 (hd k d2 e2 h2)
    · by_cases e2 : i = k
      · rw [if_neg e1] at h1 h3
        rw [if_pos e2, if_pos hl] at h4
        cases h4
        exact absurd h3 (hd j d1 e1 h1)
      · rw [if_neg e1] at h1 h3
        rw [if_neg e2] at h2 h4
        exact sl.one j k d1 d2 b h1 h2 h3 h4
/-- behind a write at a: the slots that hold other things -/
theorem Slots.write (sl : Slots X F ι H H0 env σ) {a : Addr} {o : HO} (mu : Mut (H a)) (nf : ¬ F a) (hd : ∀ (j : Nat) (d : D), env[j]? = some (some (d, true)) → σ[j]? ≠ some (some (.ref a))) : Slots X F ι (upd H a o) H0 env σ where
  at_ := fun j d m hj => by
    have E := Ext.write (ι := ι) (o := o) mu nf
    obtain ⟨v, h1, h2, h3⟩ := sl.at_ j d m hj
    refine ⟨v, h1, ?_, h3⟩
    cases m with
    | false => exact Rep.mono E h2
    | true =>
      obtain ⟨b, rfl, t, ni⟩ := h2
      have hne : b ≠ a := fun e => by subst e; exact hd j d hj h1
      exact ⟨b, rfl, t.mono E fun o h => by rw [upd_ne hne]; exact h, ni⟩
  one := sl.one
theorem Slots.write1 (sl : Slots X F ι H H0 env σ) {i : Nat} {c c' : D} {a : Addr} {o : HO} (hi : env[i]? = some (some (c, true))) (hs : σ[i]? = some (some (.ref a))) (mu : Mut (H a)) (nf : ¬ F a) (ni : ¬ ioIn ι a) (hn : H0 a = none) (t : XTop X F ι (upd H a o) c' a) :
    Slots X F ι (upd H a o) H0 (env.set i (some (c', true))) σ := by
  have hl : i < σ.length := (List.getElem?_eq_some_iff.mp hs).1
  have hle : i < env.length := (List.getElem?_eq_some_iff.mp hi).1
  have sl1 : Slots X F ι (upd H a o) H0 (env.set i none) σ := by
    have sl0 : Slots X F ι H H0 (env.set i none) σ := ⟨fun j d m hj => by
      rw [List.getElem?_set] at hj
      by_cases e : i = j
      · subst e; rw [if_pos rfl] at hj; split at hj <;> cases hj
      · rw [if_neg e] at hj; exact sl.at_ j d m hj, fun j k d1 d2 b h1 h2 h3 h4 => by
      rw [List.getElem?_set] at h1 h2
      by_cases e1 : i = j
      · rw [if_pos e1] at h1; split at h1 <;> cases h1
      · by_cases e2 : i = k
        · rw [if_pos e2] at h2; split at h2 <;> cases h2
        · rw [if_neg e1] at h1; rw [if_neg e2] at h2; exact sl.one j k d1 d2 b h1 h2 h3 h4⟩
    refine sl0.write mu nf fun j d hj hsj => ?_
    rw [List.getElem?_set] at hj
    by_cases e : i = j
    · rw [if_pos e] at hj; split at hj <;> cases hj
    · rw [if_neg e] at hj
      exact e (sl.one i j c d a hi hj hs hsj)
  have e : σ = σ.set i (some (.ref a)) := by
    refine List.ext_getElem? fun j => ?_
    rw [List.getElem?_set]
    split
    · rename_i e; subst e; first | exact hs | (rw [if_pos hl]; exact hs)
    · first | rfl | (split <;> first | rfl | omega)
  have r := sl1.setO (i := i) t nf ni hn hl fun j d' hne hj hsj => by
    rw [List.getElem?_set, if_neg hne] at hj
    exact hne (sl.one i j c d' a hi hj hs hsj)
  rw [← e] at r
  rw [List.set_set] at r
  exact r
theorem Slots.fzn (sl : Slots X F ι H H0 env σ) {i : Nat} {d : D} {a : Addr} (z : Fzn F ι H a F2 H2) (hi : env[i]? = some (some (d, true))) (hs : σ[i]? = some (some (.ref a))) (r : XRep X F2 ι H2 d (.ref a)) : Slots X F2 ι H2 H0 (env.set i (some (d, false))) σ where
  at_ := fun j d' m hj => by
    rw [List.getElem?_set] at hj
    by_cases e : i = j
    · subst e
      rw [if_pos rfl] at hj
      split at hj
      · cases hj
        exact ⟨_, hs, r, fun z => by cases z⟩
      · cases hj
    · rw [if_neg e] at hj
      obtain ⟨v, h1, h2, h3⟩ := sl.at_ j d' m hj
      refine ⟨v, h1, ?_, fun hm => ?_⟩
      · cases m with
        | false => exact Rep.mono z.ext h2
        | true =>
          obtain ⟨b, rfl, t, ni⟩ := h2
          exact ⟨b, rfl, t.mono z.ext fun o h => z.keep b o h fun eb => by subst eb; exact e (sl.one i j d d' b hi hj hs h1), ni⟩
      · subst hm
        obtain ⟨b, rfl, nf, hn⟩ := h3 rfl
        refine ⟨b, rfl, fun f => ?_, hn⟩
        rcases z.fn b f with f | f
        · exact nf f
        · subst f; exact e (sl.one i j d d' b hi hj hs h1)
  one := fun j k d1 d2 b h1 h2 h3 h4 => by
    rw [List.getElem?_set] at h1 h2
    by_cases e1 : i = j
    · rw [if_pos e1] at h1; split at h1 <;> cases h1
    · by_cases e2 : i = k
      · rw [if_pos e2] at h2; split at h2 <;> cases h2
      · rw [if_neg e1] at h1; rw [if_neg e2] at h2; exact sl.one j k d1 d2 b h1 h2 h3 h4
end
end Z
end
section
/-! ZR: statements. -/
namespace Z
open PySem L2 PySem.Spec PyProof.Rows
def wpS (X : Cx) (st : Stmt) (D : Ends) (σ : L2.St) (H : Hp) : Prop := ∀ pins s, Inv X pins σ H s → wpAny (model X.prog X.w) X.A (exec st X.env) (SP X pins D) X.xe s
def wpSs (X : Cx) (sts : List Stmt) (D : Ends) (σ : L2.St) (H : Hp) : Prop := ∀ pins s, Inv X pins σ H s → wpAny (model X.prog X.w) X.A (execs sts X.env) (SP X pins D) X.xe s
section
variable {X : Cx} {F F' F1 F2 F0 : Addr → Prop} {ι ι' ι1 ι2 ι0 : Io} {H H' H1 H2 H0 : Hp} {S S' : Sto} {σ : L2.St} {pos : Pos} {env env' : Env}
theorem ps_w (st : Stmt) : PS X st (wpS X st) := ⟨fun pins s _ _ _ I h => h pins s I⟩
theorem pss_w (sts : List Stmt) : PSs X sts (wpSs X sts) := ⟨fun pins s _ _ _ I h => h pins s I⟩
theorem wpS.of {st : Stmt} {t : TS} (h : PS X st t) {D : Ends} (q : t D σ H) : wpS X st D σ H := fun pins s I => h.run pins s σ H D I q
theorem wpSs.of {sts : List Stmt} {t : TS} (h : PSs X sts t) {D : Ends} (q : t D σ H) : wpSs X sts D σ H := fun pins s I => h.run pins s σ H D I q
def Ends.le (D D' : Ends) : Prop := (∀ σ H, D.nx σ H → D'.nx σ H) ∧ (∀ v H, D.rt v H → D'.rt v H) ∧ (∀ σ H, D.bk σ H → D'.bk σ H) ∧ ∀ σ H, D.ct σ H → D'.ct σ H
theorem SP.mono {pins : List (Addr × Obj)} {D D' : Ends} (h : Ends.le D D') {f : Flow} {s : Shared} (q : SP X pins D f s) : SP X pins D' f s := by
  cases f with
  | next => obtain ⟨σ, H, I, q⟩ := q; exact ⟨σ, H, I, h.1 _ _ q⟩
  | brk => obtain ⟨σ, H, I, q⟩ := q; exact ⟨σ, H, I, h.2.2.1 _ _ q⟩
  | cont => obtain ⟨σ, H, I, q⟩ := q; exact ⟨σ, H, I, h.2.2.2 _ _ q⟩
  | ret u => obtain ⟨v, σ, H, I, r, q⟩ := q; exact ⟨v, σ, H, I, r, h.2.1 _ _ q⟩
theorem wpS.mono {st : Stmt} {D D' : Ends} (w : wpS X st D σ H) (h : Ends.le D D') : wpS X st D' σ H := fun pins s I => thn (w pins s I) fun _ _ q => SP.mono h q
theorem wpSs.mono {sts : List Stmt} {D D' : Ends} (w : wpSs X sts D σ H) (h : Ends.le D D') : wpSs X sts D' σ H := fun pins s I => thn (w pins s I) fun _ _ q => SP.mono h q
/-- a state of a body: base at the call's entry, from where it is reached -/
def StA (X : Cx) (F0 : Addr → Prop) (ι0 : Io) (H0 : Hp) (F : Addr → Prop) (ι : Io) (H : Hp) (env : Env) (S : Sto) (σ : L2.St) (H' : Hp) : Prop :=
  ∃ F' ι', Stp F0 ι0 H0 F' ι' H' ∧ Ext F ι H F' ι' H' ∧ XSR X F' ι' H' S ∧ Slots X F' ι' H' H0 env σ
def RtA (X : Cx) (F0 : Addr → Prop) (ι0 : Io) (H0 : Hp) (d : D) (k : K3) (S : Sto) (v : V) (H' : Hp) : Prop := k ≠ .vw ∧ ∃ F' ι', Stp F0 ι0 H0 F' ι' H' ∧ XSR X F' ι' H' S ∧ Rs X F' ι' H0 H' d k v
def EndsOf (X : Cx) (F0 : Addr → Prop) (ι0 : Io) (H0 : Hp) (F : Addr → Prop) (ι : Io) (H : Hp) (f : Fl) : Ends where
  nx := fun σ H' => match f with | .nx env S => StA X F0 ι0 H0 F ι H env S σ H' | _ => False
  rt := fun v H' => match f with | .rt d k S => RtA X F0 ι0 H0 d k S v H' | _ => False
  bk := fun σ H' => match f with | .bk env S => StA X F0 ι0 H0 F ι H env S σ H' | _ => False
  ct := fun σ H' => match f with | .ct env S => StA X F0 ι0 H0 F ι H env S σ H' | _ => False
def GS (X : Cx) (st : Stmt) (g : Env → Sto → Out Fl) : Prop := ∀ env S f, g env S = .ok f → ∀ F0 ι0 H0 F ι σ H, Stp F0 ι0 H0 F ι H → XSR X F ι H S → Slots X F ι H H0 env σ → wpS X st (EndsOf X F0 ι0 H0 F ι H f) σ H
def GSs (X : Cx) (sts : List Stmt) (g : Env → Sto → Out Fl) : Prop := ∀ env S f, g env S = .ok f → ∀ F0 ι0 H0 F ι σ H, Stp F0 ι0 H0 F ι H → XSR X F ι H S → Slots X F ι H H0 env σ → wpSs X sts (EndsOf X F0 ι0 H0 F ι H f) σ H
theorem GS.congr {st : Stmt} {g g' : Env → Sto → Out Fl} (h : GS X st g) (c : ∀ env S, g' env S = g env S) : GS X st g' := fun env S r q => h env S r (by rw [← c]; exact q)
theorem GSs.congr {sts : List Stmt} {g g' : Env → Sto → Out Fl} (h : GSs X sts g) (c : ∀ env S, g' env S = g env S) : GSs X sts g' := fun env S r q => h env S r (by rw [← c]; exact q)
theorem EndsOf.later {f : Fl} (e : Ext F ι H F1 ι1 H1) : Ends.le (EndsOf X F0 ι0 H0 F1 ι1 H1 f) (EndsOf X F0 ι0 H0 F ι H f) := by
  have tr : ∀ {F2 ι2 H2}, Ext F1 ι1 H1 F2 ι2 H2 → Ext F ι H F2 ι2 H2 := fun {F2 ι2 H2} x => ⟨fun a o f h => x.f a o (e.fm a f) (e.f a o f h), fun a xs h => x.t a xs (e.t a xs h), fun a o u h => x.z a o u (e.z a o u h), fun a h => x.fm a (e.fm a h), fun l i a h => x.im l i a (e.im l i a h)⟩
  have st : ∀ {env S σ H'}, StA X F0 ι0 H0 F1 ι1 H1 env S σ H' → StA X F0 ι0 H0 F ι H env S σ H' := fun {env S σ H'} ⟨F', ι', x, y, s, sl⟩ => ⟨F', ι', x, tr y, s, sl⟩
  cases f with
  | nx env S => exact ⟨fun _ _ h => st h, fun _ _ h => h, fun _ _ h => h, fun _ _ h => h⟩
  | rt d k S => exact ⟨fun _ _ h => h, fun _ _ h => h, fun _ _ h => h, fun _ _ h => h⟩
  | bk env S => exact ⟨fun _ _ h => h, fun _ _ h => h, fun _ _ h => st h, fun _ _ h => h⟩
  | ct env S => exact ⟨fun _ _ h => h, fun _ _ h => h, fun _ _ h => h, fun _ _ h => st h⟩
theorem Ext.tr (e : Ext F ι H F1 ι1 H1) (x : Ext F1 ι1 H1 F2 ι2 H2) : Ext F ι H F2 ι2 H2 := ⟨fun a o f h => x.f a o (e.fm a f) (e.f a o f h), fun a xs h => x.t a xs (e.t a xs h), fun a o u h => x.z a o u (e.z a o u h), fun a h => x.fm a (e.fm a h), fun l i a h => x.im l i a (e.im l i a h)⟩
/-! ### blocks -/
theorem gss_nil : GSs X [] fun env S => .ok (.nx env S) := fun env S f q F0 ι0 H0 F ι σ H b s sl => by
  cases q
  exact .of pss_nil ⟨F, ι, b, .refl, s, sl⟩
theorem gss_cons {st : Stmt} {sts : List Stmt} {g : Env → Sto → Out Fl} {gs : Env → Sto → Out Fl} (h : GS X st g) (hs : GSs X sts gs) :
    GSs X (st :: sts) fun env S => (g env S).bind fun f => match f with | .nx env S => gs env S | f => .ok f := by
  intro env S f q F0 ι0 H0 F ι σ H b s sl
  obtain ⟨f1, h1, q⟩ := bind_ok q
  have w := h env S f1 h1 F0 ι0 H0 F ι σ H b s sl
  refine .of (pss_cons (ps_w st) (pss_w sts)) ?_
  show wpS X st _ σ H
  cases f1 with
  | nx env1 S1 =>
    refine w.mono ⟨fun σ1 H1 ⟨F1, ι1, b1, e1, s1, sl1⟩ => ?_, fun _ _ h => h.elim, fun _ _ h => h.elim, fun _ _ h => h.elim⟩
    exact (hs env1 S1 f q F0 ι0 H0 F1 ι1 σ1 H1 b1 s1 sl1).mono (EndsOf.later e1)
  | rt d k S1 => cases q; exact w.mono ⟨fun _ _ h => h.elim, fun _ _ h => h, fun _ _ h => h.elim, fun _ _ h => h.elim⟩
  | bk env1 S1 => cases q; exact w.mono ⟨fun _ _ h => h.elim, fun _ _ h => h.elim, fun _ _ h => h, fun _ _ h => h.elim⟩
  | ct env1 S1 => cases q; exact w.mono ⟨fun _ _ h => h.elim, fun _ _ h => h.elim, fun _ _ h => h.elim, fun _ _ h => h⟩
/-! ### freezing slots -/
theorem frz_ok {pins : List (Addr × Obj)} {sh : Shared} : ∀ (is : List Nat) {F : Addr → Prop} {H : Hp}, Inv X pins σ H sh → Stp F0 ι0 H0 F ι H → XSR X F ι H S → Slots X F ι H H0 env σ →
    ∃ F2 H2, Inv X pins σ H2 sh ∧ Stp F0 ι0 H0 F2 ι H2 ∧ Ext F ι H F2 ι H2 ∧ XSR X F2 ι H2 S ∧ Slots X F2 ι H2 H0 (frz env is) σ
  | [], F, H, I, b, s, sl => ⟨F, H, I, b, .refl, s, sl⟩
  | i :: is, F, H, I, b, s, sl => by
    obtain ⟨F1, H1, I1, b1, e1, s1, sl1⟩ := frz_ok is I b s sl
    unfold frz
    split
    · rename_i d m hi
      cases m with
      | true =>
        obtain ⟨a, hs, t, nf, ni, hn⟩ := sl1.own hi
        obtain ⟨F2, H2, I2, z, r⟩ := freeze_ok I1 t nf ni
        exact ⟨F2, H2, I2, z.stp b1 hn, e1.tr z.ext, z.sr s1, sl1.fzn z hi hs r⟩
      | false =>
        have e : (frz env is).set i (some (d, false)) = frz env is := by
          refine List.ext_getElem? fun j => ?_
          rw [List.getElem?_set]
          split
          · rename_i e; subst e; rw [if_pos (List.getElem?_eq_some_iff.mp hi).1, hi]
          · rfl
        rw [e]
        exact ⟨F1, H1, I1, b1, e1, s1, sl1⟩
    · exact ⟨F1, H1, I1, b1, e1, s1, sl1⟩
theorem gs_pre {st : Stmt} {g : Env → Sto → Out Fl} (is : List Nat) (h : GS X st g) : GS X st fun env S => g (frz env is) S := by
  intro env S f q F0 ι0 H0 F ι σ H b s sl pins sh I
  obtain ⟨F2, H2, I2, b2, e2, s2, sl2⟩ := frz_ok is I b s sl
  exact ((h _ S f q F0 ι0 H0 F2 ι σ H2 b2 s2 sl2).mono (EndsOf.later e2)) pins sh I2
/-! ### name = value -/
/-- what stands behind a value that a slot takes -/
theorem set_sta {env' : Env} {r : Res} {i : Nat} {v : V} (h : setE env i r.1 r.2.1 = .ok env') (b : Stp F0 ι0 H0 F ι H) (s : XSR X F ι H S) (sl : Slots X F ι H H0 env σ) (hl : i < σ.length) (p : Post X F ι H r v H1) :
    StA X F0 ι0 H0 F ι H env' r.2.2 (σ.set i (some v)) H1 := by
  obtain ⟨F1, ι1, x, s1, q⟩ := p
  have sl1 := sl.mono s x
  obtain ⟨d, k, S1⟩ := r
  cases k with
  | fz => cases h; exact ⟨F1, ι1, b.trans x, x.ext s, s1, sl1.setF q hl⟩
  | fr =>
    cases h
    obtain ⟨a, rfl, t, nf, ni, hn⟩ := q
    refine ⟨F1, ι1, b.trans x, x.ext s, s1, sl1.setO t nf ni (none_of_dom (b.dom a) hn) hl fun j d' _ hj hsj => ?_⟩
    obtain ⟨a', hs', t', _⟩ := sl.own hj
    rw [hsj] at hs'; cases hs'
    exact t'.some hn
  | vw => cases h
/-- an assignment to a name -/
def GAs (X : Cx) (st : Stmt) (i : Nat) (g : Env → Sto → Out Res) : Prop := ∀ env S r, g env S = .ok r → ∀ F ι σ H (D : Ends), XSR X F ι H S → Se X F ι H env σ → (∀ v H1, σ.length = X.N.length → Post X F ι H r v H1 → D.nx (σ.set i (some v)) H1) → wpS X st D σ H
theorem gas_set {i : Nat} {x : Str} {e : Expr} {pos' : Pos} {g : Env → Sto → Out Res} (hN : X.N.Nodup) (hi : X.N[i]? = some x) (hx : Loc X.env.scope x) (hs : swapsWith e (some (.Name x pos')) pos.line X.env = pure false) (hf : X.fn x = true ∨ X.env.scope.names.lookup x = some .local) (he : GE X e g) :
    GAs X (.Assign [.Name x pos'] e pos) i g := by
  intro env S r q F ι σ H D s se k pins sh I
  exact wpS.of (ps_set hN hi hx (pe_w e) hs hf) (show wpE X e σ H _ from (he env S r q F ι σ H s se).mono fun v H1 p => k v H1 I.len p) pins sh I
theorem gs_set {st : Stmt} {i : Nat} {g : Env → Sto → Out Res} (hi : i < X.N.length) (h : GAs X st i g) : GS X st fun env S => (g env S).bind fun r => (setE env i r.1 r.2.1).bind fun env' => .ok (.nx env' r.2.2) := by
  intro env S f q F0 ι0 H0 F ι σ H b s sl
  obtain ⟨r, h1, q⟩ := bind_ok q
  obtain ⟨env', h2, q⟩ := bind_ok q
  cases q
  exact h env S r h1 F ι σ H _ s sl.se fun v H1 hl p => set_sta h2 b s sl (by rw [hl]; exact hi) p
theorem gs_setSh {st : Stmt} {i : Nat} {g : Env → Sto → Out Res} (hi : i < X.N.length) (h : GAs X st i g) : GS X st fun env S => (g env S).bind fun r => match r.2.1 with
    | .fr => (newS r.1 r.2.2).bind fun q => .ok (.nx (env.set i (some (q.1, false))) q.2)
    | _ => .no := by
  intro env S f q F0 ι0 H0 F ι σ H b s sl
  obtain ⟨⟨d, k, S1⟩, h1, q⟩ := bind_ok q
  cases k <;> try (cases q; done)
  obtain ⟨⟨rd, S2⟩, h2, q⟩ := bind_ok q
  cases q
  refine h env S _ h1 F ι σ H _ s sl.se fun v H1 hl p => ?_
  obtain ⟨F1, ι1, x, s1, a, rfl, t, nf, ni, hn⟩ := p
  cases S1 with
  | nil => cases h2
  | cons rg S1 =>
    cases h2
    obtain ⟨ι2, im, inn, hat, s2⟩ := s1.new t nf ni
    have x2 : Stp F ι H F1 ι2 H1 := ⟨x.keep, x.dom, x.fm, x.fn, fun l i a h => im l i a (x.im l i a h), fun b hb => by
      rcases inn b hb with hb | rfl
      · exact x.inn b hb
      · exact .inr hn⟩
    exact ⟨F1, ι2, b.trans x2, x2.ext s, s2, (sl.mono s x2).setF (.ref hat) (by rw [hl]; exact hi)⟩
/-! ### a, b, .. = a tuple -/
theorem Slots.setAll {is : List Nat} {ds : List D} {vs : List V} (sl : Slots X F ι H H0 env σ) (h : bindTu is ds env = .ok env') (r : XRepL X F ι H ds vs) (hl : ∀ i ∈ is, i < σ.length) : is.length = vs.length ∧ Slots X F ι H H0 env' (Z.setAll is vs σ) := by
  induction is generalizing ds vs env σ with
  | nil =>
    cases ds with
    | nil => cases h; cases r; exact ⟨rfl, sl⟩
    | cons => cases h
  | cons i is ih =>
    cases ds with
    | nil => cases h
    | cons d ds =>
      cases r with
      | @cons _ _ v vs r1 r2 =>
        obtain ⟨h1, h2⟩ := ih (sl.setF r1 (hl i (by simp))) h r2 fun j hj => by rw [List.length_set]; exact hl j (by simp [hj])
        exact ⟨by simp [h1], h2⟩
theorem gs_setTu {is : List Nat} {e tgE : Expr} {g : Env → Sto → Out Res} (hs : swapsWithSole [tgE] e pos.line X.env = pure false) (hw : swappedStores [tgE] e X.env = pure none) (h1 : (assignEach [tgE] X.env).map (·.2) = [assign tgE X.env])
    (hg : PG X tgE (gT X.K (.tu is))) (hi : ∀ i ∈ is, i < X.N.length) (he : GE X e g) : GS X (.Assign [tgE] e pos) fun env S => (g env S).bind fun r => (bindO (.tu is) r.1 env).bind fun env' => .ok (.nx env' r.2.2) := by
  intro env S f q F0 ι0 H0 F ι σ H b s sl pins sh I
  obtain ⟨r, h2, q⟩ := bind_ok q
  obtain ⟨env', h3, q⟩ := bind_ok q
  cases q
  refine wpS.of (ps_asg (pe_w e) hg hs hw h1) ?_ pins sh I
  refine (he env S r h2 F ι σ H s sl.se).mono fun v H1 ⟨F1, ι1, x, s1, p⟩ => ?_
  obtain ⟨d, k, S1⟩ := r
  cases d with
  | tup ds =>
    obtain ⟨a, vs, rfl, hq, rr⟩ := p.cv.tup
    obtain ⟨hl, sl2⟩ := (sl.mono s x).setAll h3 rr fun i hh => by rw [I.len]; exact hi i hh
    exact ⟨a, vs, rfl, .inl hq, hl.symm, gSets_ok is vs σ hl ⟨F1, ι1, b.trans x, x.ext s, s1, sl2⟩⟩
  | lst ds =>
    obtain ⟨a, vs, rfl, hq, rr⟩ := p.cv.lst
    obtain ⟨hl, sl2⟩ := (sl.mono s x).setAll h3 rr fun i hh => by rw [I.len]; exact hi i hh
    exact ⟨a, vs, rfl, .inr hq, hl.symm, gSets_ok is vs σ hl ⟨F1, ι1, b.trans x, x.ext s, s1, sl2⟩⟩
  | _ => cases h3
/-! ### return, expressions -/
theorem gs_ret {e : Expr} {g : Env → Sto → Out Res} (he : GE X e g) : GS X (.Return (some e) pos) fun env S => (g env S).bind fun r => (kept r).bind fun _ => .ok (.rt r.1 r.2.1 r.2.2) := by
  intro env S f q F0 ι0 H0 F ι σ H b s sl
  obtain ⟨r, h1, q⟩ := bind_ok q
  obtain ⟨y, h2, q⟩ := bind_ok q
  cases q
  refine wpS.of (ps_ret (pe_w e)) (show wpE X e σ H _ from (he env S r h1 F ι σ H s sl.se).mono fun v H1 p => ?_)
  obtain ⟨F1, ι1, x, s1, q⟩ := Post.later b p
  refine ⟨fun hk => ?_, F1, ι1, x, s1, q⟩
  unfold kept at h2
  rw [hk] at h2
  cases h2
theorem gs_retV {i : Nat} {x : Str} {p : Pos} (hN : X.N[i]? = some x) (hv : Vis X.env.scope x) (hd : (x == ("__debug__" : Str)) = false) (hcd : (x == ("__classdict__" : Str)) = false) :
    GS X (.Return (some (.Name x p)) pos) fun env S => match env[i]? with
      | some (some (d, m)) => .ok (.rt d (if m then .fr else .fz) S)
      | _ => .no := by
  intro env S f q F0 ι0 H0 F ι σ H b s sl
  dsimp only at q
  split at q
  · rename_i d m hi
    cases q
    obtain ⟨v, hs, h2, h3⟩ := sl.at_ i d m hi
    refine wpS.of (ps_ret (pe_var hN hv hd hcd)) ⟨v, hs, ?_⟩
    cases m with
    | false => exact ⟨by simp, F, ι, b, s, h2⟩
    | true =>
      obtain ⟨a, rfl, t, ni⟩ := h2
      obtain ⟨a', ea, nf, hn⟩ := h3 rfl
      cases ea
      exact ⟨by simp, F, ι, b, s, a, rfl, t, nf, ni, hn⟩
  · cases q
theorem gs_exp {e : Expr} {g : Env → Sto → Out Res} (hs : swapsWith e none pos.line X.env = pure false) (he : GE X e g) : GS X (.Expr e pos) fun env S => (g env S).bind fun r => .ok (.nx env r.2.2) := by
  intro env S f q F0 ι0 H0 F ι σ H b s sl
  obtain ⟨r, h1, q⟩ := bind_ok q
  cases q
  refine wpS.of (ps_expr (pe_w e) hs) (show wpE X e σ H _ from (he env S r h1 F ι σ H s sl.se).mono fun v H1 ⟨F1, ι1, x, s1, _⟩ => ?_)
  exact ⟨F1, ι1, b.trans x, x.ext s, s1, sl.mono s x⟩
/-! ### if -/
theorem gs_ife {c : Expr} {as bs : List Stmt} {gt : Env → Sto → Out (Bool × Sto)} {ga gb : Env → Sto → Out Fl} (hc : GT X c gt) (ha : GSs X as ga) (hb : GSs X bs gb) : GS X (.If c as bs pos) fun env S => (gt env S).bind fun r => if r.1 then ga env r.2 else gb env r.2 := by
  intro env S f q F0 ι0 H0 F ι σ H b s sl
  obtain ⟨⟨r, S1⟩, h1, q⟩ := bind_ok q
  refine wpS.of (ps_if (pt_w c) (pss_w as) (pss_w bs)) (show wpT X c σ H _ from (hc env S _ h1 F ι σ H s sl.se).mono fun v H1 ⟨e, F1, ι1, x, s1⟩ => ?_)
  change v = r at e; subst e
  cases v with
  | true => exact (ha env S1 f q F0 ι0 H0 F1 ι1 σ H1 (b.trans x) s1 (sl.mono s x)).mono (EndsOf.later (x.ext s))
  | false => exact (hb env S1 f q F0 ι0 H0 F1 ι1 σ H1 (b.trans x) s1 (sl.mono s x)).mono (EndsOf.later (x.ext s))
end
end Z
end
section
/-! ZS: objects changed, loops. -/
namespace Z
open PySem L2 PySem.Spec PyProof.Rows
section
variable {X : Cx} {F F' F1 F2 F0 : Addr → Prop} {ι ι' ι1 ι2 ι0 : Io} {H H' H1 H2 H0 : Hp} {S S' : Sto} {σ : L2.St} {pos : Pos} {env env' : Env}
/-! ### the thing in a slot, changed -/
theorem Stp.write {a : Addr} {o : HO} (b : Stp F0 ι0 H0 F ι H) (h : H0 a = none ∨ ioIn ι0 a) : Stp F0 ι0 H0 F ι (upd H a o) where
  keep := fun c u h1 n => by
    rw [upd_ne (fun e => by
      subst e
      rcases h with h | h
      · rw [h] at h1; cases h1
      · exact n h)]
    exact b.keep c u h1 n
  dom := upd_dom b.dom
  fm := b.fm
  fn := b.fn
  im := b.im
  inn := b.inn
theorem mod_ok {g : D → Out D} {i : Nat} {z : Env × Sto} (b : Stp F0 ι0 H0 F ι H) (s : XSR X F ι H S) (sl : Slots X F ι H H0 env σ) (h : modE g i env S = .ok z) :
    ∃ a c c', σ[i]? = some (some (.ref a)) ∧ XTop X F ι H c a ∧ ¬ F a ∧ g c = .ok c' ∧ (∃ d m, env[i]? = some (some (d, m)) ∧ (d = c ∨ ∃ l j, d = .ref l j ∧ ioAt ι l j = some a)) ∧
      ∀ o, XTop X F ι (upd H a o) c' a → Stp F0 ι0 H0 F ι (upd H a o) ∧ Ext F ι H F ι (upd H a o) ∧ XSR X F ι (upd H a o) z.2 ∧ Slots X F ι (upd H a o) H0 z.1 σ := by
  unfold modE at h
  split at h
  · rename_i l j m hi
    obtain ⟨c, h1, h⟩ := bind_ok h
    obtain ⟨c', h2, h⟩ := bind_ok h
    obtain ⟨S', h3, h⟩ := bind_ok h
    cases h
    have hc := of_ok h1
    obtain ⟨v, hs, hsl, _⟩ := sl.at_ i _ m hi
    have hm : m = false := by
      cases m with
      | false => rfl
      | true => obtain ⟨a, rfl, t, _⟩ := hsl; cases t
    subst hm
    have hr : XRep X F ι H (.ref l j) v := hsl
    have key : ∃ a, v = .ref a ∧ ioAt ι l j = some a := by
      cases hr with
      | ref ha => exact ⟨_, rfl, ha⟩
      | obj _ t => cases t
    obtain ⟨a, rfl, ha⟩ := key
    obtain ⟨c0, hc0, t⟩ := s.top ha
    rw [hc] at hc0; cases hc0
    have hio : ioIn ι a := ⟨l, j, ha⟩
    have mu := s.mutIn hio
    have nf : ¬ F a := fun f => s.fio a f hio
    refine ⟨a, c, c', hs, t, nf, h2, ⟨_, _, hi, .inr ⟨l, j, rfl, ha⟩⟩, fun o t' => ?_⟩
    have hlev : c'.lev l = true ∧ S' = Z.put S l j c' := by
      cases S with
      | nil => simp [look] at hc
      | cons r S =>
        replace h3 : (if l = r.1 then Out.ok (Z.put (r :: S) l j c') else if c'.lev l then .ok (Z.put (r :: S) l j c') else .no) = .ok S' := h3
        by_cases e : l = r.1
        · rw [if_pos e] at h3
          cases h3
          exact ⟨by rw [e]; exact TopB.levs s.head_lev t', rfl⟩
        · rw [if_neg e] at h3
          by_cases hl : c'.lev l = true
          · rw [if_pos hl] at h3
            cases h3
            exact ⟨hl, rfl⟩
          · rw [if_neg hl] at h3
            cases h3
    rw [hlev.2]
    have h0 : H0 a = none ∨ ioIn ι0 a := by
      rcases b.inn a hio with q | q
      · exact .inr q
      · exact .inl q
    refine ⟨b.write h0, Ext.write mu nf, s.put ha hc t' hlev.1, sl.write mu nf fun k d hk hsk => ?_⟩
    obtain ⟨a', hs', _, _, ni', _⟩ := sl.own hk
    rw [hsk] at hs'; cases hs'
    exact ni' hio
  · rename_i c hne hi
    obtain ⟨c', h2, h⟩ := bind_ok h
    cases h
    obtain ⟨a, hs, t, nf, ni, hn⟩ := sl.own hi
    refine ⟨a, c, c', hs, t, nf, h2, ⟨_, _, hi, .inl rfl⟩, fun o t' => ?_⟩
    have mu := t.mut
    exact ⟨b.write (.inl hn), Ext.write mu nf, s.write mu nf ni, sl.write1 hi hs mu nf ni hn t'⟩
  · cases h
theorem mod2_ok {g : D → Out (D × D)} {i : Nat} {z : D × Env} (b : Stp F0 ι0 H0 F ι H) (s : XSR X F ι H S) (sl : Slots X F ι H H0 env σ) (h : modE2 g i env = .ok z) :
    ∃ a c c', σ[i]? = some (some (.ref a)) ∧ XTop X F ι H c a ∧ ¬ F a ∧ g c = .ok (z.1, c') ∧ env[i]? = some (some (c, true)) ∧ z.2 = env.set i (some (c', true)) ∧
      ∀ o, XTop X F ι (upd H a o) c' a → Stp F0 ι0 H0 F ι (upd H a o) ∧ Ext F ι H F ι (upd H a o) ∧ XSR X F ι (upd H a o) S ∧ Slots X F ι (upd H a o) H0 z.2 σ := by
  unfold modE2 at h
  split at h
  · rename_i c hi
    obtain ⟨⟨r, c'⟩, h2, h⟩ := bind_ok h
    cases h
    obtain ⟨a, hs, t, nf, ni, hn⟩ := sl.own hi
    refine ⟨a, c, c', hs, t, nf, h2, hi, rfl, fun o t' => ?_⟩
    have mu := t.mut
    exact ⟨b.write (.inl hn), Ext.write mu nf, s.write mu nf ni, sl.write1 hi hs mu nf ni hn t'⟩
  · cases h
/-- the slots hold lists and dicts: what they look like to a later method call -/
theorem slot_name {i : Nat} {x : Str} {p : Pos} {a : Addr} (hN : X.N[i]? = some x) (hv : Vis X.env.scope x) (hd : (x == ("__debug__" : Str)) = false) (hcd : (x == ("__classdict__" : Str)) = false) (hs : σ[i]? = some (some (.ref a))) {Q : VK} (q : Q (.ref a) H) : wpE X (.Name x p) σ H Q :=
  .of (pe_var hN hv hd hcd) ⟨_, hs, q⟩
/-! ### c[k] = v -/
def wSet (X : Cx) : TSet := fun o i v H Q => ∀ pins s σ ov iv u, Inv X pins σ H s → RelV o ov → RelV i iv → RelV v u → wpAny (model X.prog X.w) X.A (setItem ov iv u) (fun _ s' => ∃ H', Inv X pins σ H' s' ∧ Q H') X.xe s
theorem pset_w : PSet X (wSet X) := fun pins s σ H o i v ov iv u Q I r1 r2 r3 q => q pins s σ ov iv u I r1 r2 r3
theorem gs_setIx {n i : Nat} {x : Str} {p p2 : Pos} {k v : Expr} {gk gv : Env → Sto → Out Res} (hr : Room n X.A) (hN : X.N[i]? = some x) (hv : Vis X.env.scope x) (hd : (x == ("__debug__" : Str)) = false) (hcd : (x == ("__classdict__" : Str)) = false)
    (ha : ∀ v, assign (.Subscript (.Name x p) k p2) X.env v = (do
      let ov ← holding [v] (eval (.Name x p) X.env)
      let iv ← holding [v, ov] (eval k X.env)
      standAt p2
      holding [v, ov, iv] (setItem ov iv v)
      release [v, ov, iv] []))
    (hs : swapsWithSole [.Subscript (.Name x p) k p2] v pos.line X.env = pure false) (hw : swappedStores [.Subscript (.Name x p) k p2] v X.env = pure none) (h1 : (assignEach [.Subscript (.Name x p) k p2] X.env).map (·.2) = [assign (.Subscript (.Name x p) k p2) X.env]) (hgk : GE X k gk) (hgv : GE X v gv) :
    GS X (.Assign [.Subscript (.Name x p) k p2] v pos) fun env S => (gv env S).bind fun r => (kept r).bind fun x => (gk env x.2).bind fun q => (kept q).bind fun y => (modE (fun c => putO c y.1 x.1) i env y.2).bind fun z => .ok (.nx z.1 z.2) := by
  intro env S f q F0 ι0 H0 F ι σ H b s sl
  obtain ⟨r, e1, q⟩ := bind_ok q
  obtain ⟨xv, e2, q⟩ := bind_ok q
  obtain ⟨r2, e3, q⟩ := bind_ok q
  obtain ⟨yv, e4, q⟩ := bind_ok q
  obtain ⟨z, e5, q⟩ := bind_ok q
  cases q
  refine wpS.of (ps_asg (pe_w v) (pg_sub (pe_w (.Name x p)) (pe_w k) pset_w ha) hs hw h1) (show wpE X v σ H _ from ?_)
  refine ((hgv env S r e1 F ι σ H s sl.se).kept e2).mono fun vv H1 ⟨F1, ι1, x1, s1, p1⟩ => ?_
  have sl1 := sl.mono s x1
  have w2 : wpE X k σ H1 (Post X F1 ι1 H1 (yv.1, .fz, yv.2)) := (hgk env _ r2 e3 F1 ι1 σ H1 s1 sl1.se).kept e4
  -- the slot's thing, as it stands ahead of the index
  have hslot : ∃ a, σ[i]? = some (some (.ref a)) := by
    unfold modE at e5
    split at e5
    · rename_i l j m hi
      obtain ⟨w, hw, hsl, _⟩ := sl1.at_ i _ m hi
      cases m with
      | false =>
        have hr : XRep X F1 ι1 H1 (.ref l j) w := hsl
        cases hr with
        | ref _ => exact ⟨_, hw⟩
        | obj _ t => exact ⟨_, hw⟩
      | true => obtain ⟨a, rfl, _⟩ := hsl; exact ⟨a, hw⟩
    · rename_i c _ hi
      obtain ⟨a, hw, _⟩ := sl1.own hi
      exact ⟨a, hw⟩
    · cases e5
  obtain ⟨a, hsa⟩ := hslot
  refine slot_name hN hv hd hcd hsa (w2.mono fun kv H2 ⟨F2, ι2, x2, s2, p2'⟩ => ?_)
  have b2 := b.trans (x1.trans x2)
  have sl2 := sl1.mono s1 x2
  obtain ⟨a', c, c', hs', t, nf, hg, _, fin⟩ := mod_ok b2 s2 sl2 e5
  rw [hsa] at hs'; cases hs'
  intro pins sh σ' ov iv u I r1 r2 r3
  cases r1
  refine thn (put_ok hr hg t nf p2' (Rep.mono (x2.ext s1) p1) I r2 r3) fun _ s' ⟨H', I', o, eH, t'⟩ => ?_
  subst eH
  obtain ⟨b3, e3', s3, sl3⟩ := fin o t'
  exact ⟨_, I', F2, ι2, b3, ((x1.trans x2).ext s).tr e3', s3, sl3⟩
/-! ### methods that change -/
theorem mt_w (id : String) : MtR X id (wMt X id) := fun pins s σ H x xs v us Q I rx rxs q => q pins s σ v us I rx rxs
theorem wMt.of {id : String} {r : V → List V → Hp → VK → Prop} (h : MtM X id r) {x : V} {xs : List V} {Q : VK} (q : r x xs H Q) : wMt X id x xs H Q := fun pins s σ v us I rx rxs => h pins s σ H x xs v us Q I rx rxs q
/-- c.append(x), by values -/
theorem app_reads {c x c' : D} {a : Addr} {y : V} {Q : VK} (h : appO c x = .ok c') (t : XTop X F ι H c a) (nf : ¬ F a) (ry : XRep X F ι H x y) (q : ∀ o, XTop X F ι (upd H a o) c' a → Q .non (upd H a o)) :
    (∃ xs, SqL X.K H a xs) ∧ wMt X "list.append" (.ref a) [y] H Q := by
  cases c with
  | lst ds =>
    simp only [appO] at h
    split at h
    · rename_i hl
      cases h
      cases t with
      | @lst _ vs _ hH r =>
        have mu : Mut (H a) := by rw [hH]; trivial
        have E := Ext.write (ι := ι) (o := .lst (vs ++ [y])) mu nf
        exact ⟨⟨vs, SqL.of hH⟩, wMt.of mt_append ⟨a, vs, y, rfl, rfl, hH, by rw [line_eq, ← r.length]; exact hl, q _ (.lst upd_same ((RepL.mono E r).append (.cons (Rep.mono E ry) .nil)))⟩⟩
    · cases h
  | _ => cases h
theorem top_tyL {d c : D} {m : Bool} {i : Nat} {a : Addr} {x c' : D} (s : XSR X F ι H S) (sl : Slots X F ι H H0 env σ) (hi : env[i]? = some (some (d, m))) (hs : σ[i]? = some (some (.ref a))) (hl : (∃ ds, d = .lst ds) ∨ ∃ l j, d = .ref l j ∧ ∃ ds, look S l j = some (.lst ds)) : ∃ xs, SqL X.K H a xs := by
  obtain ⟨v, h1, h2, _⟩ := sl.at_ i d m hi
  rw [hs] at h1; cases h1
  rcases hl with ⟨ds, rfl⟩ | ⟨l, j, rfl, ds, hlk⟩
  · obtain ⟨p, vs, e, hq, _⟩ := h2.cv.lst
    cases e
    exact ⟨vs, hq⟩
  · have cv := deref_cv (d := .ref l j) (by simpa [deref] using hlk) s h2.cv
    obtain ⟨p, vs, e, hq, _⟩ := cv.lst
    cases e
    exact ⟨vs, hq⟩
/-- a method call on a slot's thing, one argument -/
theorem meth1 {T id : String} {name x : Str} {p apos : Pos} {e : Expr} {a : Addr} {i : Nat} {Q : VK} (pa : PlainAttrs T) (slot : Slot T name id) (hty : typeOf (.builtin id) = pure (.type "method_descriptor"))
    (hN : X.N[i]? = some x) (hv : Vis X.env.scope x) (hd : (x == ("__debug__" : Str)) = false) (hcd : (x == ("__classdict__" : Str)) = false) (hline : (apos.endLine == pos.line) = true) (hst : starEach [e] X.env = [(false, eval e X.env)])
    (hs : σ[i]? = some (some (.ref a))) (ty : tyV X.K T (.ref a) H) (w : wpE X e σ H fun v H' => wMt X id (.ref a) [v] H' Q) : wpE X (.Call (.Attribute (.Name x p) name apos) [e] [] pos) σ H Q :=
  wpE.of (pe_bm pa slot hty (mt_w id) (pe_w (.Name x p)) (pa_w [e]) rfl (by rw [hst]; rfl) hline hst rfl) (slot_name hN hv hd hcd hs ⟨ty, wpA.cons hst (w.mono fun v H' q => wpA.nil q)⟩)
theorem gs_app {i : Nat} {x : Str} {p apos p3 : Pos} {e : Expr} {g : Env → Sto → Out Res} (hN : X.N[i]? = some x) (hv : Vis X.env.scope x) (hd : (x == ("__debug__" : Str)) = false) (hcd : (x == ("__classdict__" : Str)) = false) (hline : (apos.endLine == p3.line) = true) (hst : starEach [e] X.env = [(false, eval e X.env)])
    (he : GE X e g) : GS X (.Expr (.Call (.Attribute (.Name x p) "append" apos) [e] [] p3) pos) fun env S => (g env S).bind fun r => (kept r).bind fun x => (modE2 (fun c => (appO c x.1).bind fun c' => .ok (.non, c')) i env).bind fun z => .ok (.nx z.2 x.2) := by
  intro env S f q F0 ι0 H0 F ι σ H b s sl
  obtain ⟨r, e1, q⟩ := bind_ok q
  obtain ⟨xv, e2, q⟩ := bind_ok q
  obtain ⟨z, e3, q⟩ := bind_ok q
  cases q
  refine wpS.of (ps_expr (pe_w _) rfl) (show wpE X _ σ H _ from ?_)
  have hown : ∃ ds, env[i]? = some (some (.lst ds, true)) := by
    unfold modE2 at e3
    split at e3
    · rename_i c hi
      obtain ⟨y, e4, _⟩ := bind_ok e3
      obtain ⟨c', e5, _⟩ := bind_ok e4
      cases c with
      | lst ds => exact ⟨ds, hi⟩
      | _ => cases e5
    · cases e3
  obtain ⟨ds, hi⟩ := hown
  obtain ⟨a, hs, t, _⟩ := sl.own hi
  have ty : tyV X.K "list" (.ref a) H := by
    cases t with
    | lst h _ => exact .inl ⟨rfl, _, SqL.of h⟩
  refine meth1 PySem.F.plainAttrs_list PySem.F.slot_list_append PySem.F.type_list_append hN hv hd hcd hline hst hs ty ?_
  refine ((he env S r e1 F ι σ H s sl.se).kept e2).mono fun v H1 ⟨F1, ι1, x1, s1, p1⟩ => ?_
  have sl1 := sl.mono s x1
  obtain ⟨a', c, c', hs', t1, nf, hg, hi', ez, fin⟩ := mod2_ok (b.trans x1) s1 sl1 e3
  rw [hs] at hs'; cases hs'
  obtain ⟨c2, hg1, hg2⟩ := bind_ok hg
  have e9 : c2 = c' := (Prod.mk.inj (ok_inj hg2)).2
  subst e9
  refine (app_reads hg1 t1 nf p1 fun o t' => ?_).2
  obtain ⟨b3, e3', s3, sl3⟩ := fin o t'
  exact ⟨F1, ι1, b3, (x1.ext s).tr e3', s3, sl3⟩
end
end Z
end
section
/-! ZT: pop, setdefault, parallel assignment, loops. -/
namespace Z
open PySem L2 PySem.Spec PyProof.Rows
section
variable {X : Cx} {F F' F1 F2 F0 : Addr → Prop} {ι ι' ι1 ι2 ι0 : Io} {H H' H1 H2 H0 : Hp} {S S' : Sto} {σ : L2.St} {pos : Pos} {env env' : Env}
/-- a method call, whatever the receiver is known by -/
theorem methW {T id : String} {name : Str} {o e : Expr} {es : List Expr} {apos cpos : Pos} {Q : VK} (pa : PlainAttrs T) (slot : Slot T name id) (hty : typeOf (.builtin id) = pure (.type "method_descriptor"))
    (hbase : attributeBase o name X.env (eval o X.env) = eval o X.env)
    (hfew : ((backTo cpos (starEach (e :: es) X.env)).all (fun x => !x.1) && (backToKw cpos (keywordEach [] X.env)).all (fun x => x.1.isSome)
      && decide ((e :: es).length + ([] : List Keyword).length + (if ([] : List Keyword).isEmpty then 0 else 1) < 30)) = true)
    (hline : (apos.endLine == cpos.line) = true) (hs : starEach (e :: es) X.env = (false, eval e X.env) :: starEach es X.env) (hplain : (backTo cpos (starEach es X.env)).any (·.1) = false)
    (w : wpE X o σ H fun x H1 => (∀ pins s v, Inv X pins σ H1 s → RelV x v → s.TypeIs v T ∧ ∀ a, v = .ref a → ∃ ob, s.heap.get? a = some ob ∧ ob.dict = none) ∧ wpA X (e :: es) σ H1 fun xs H2 => wMt X id x xs H2 Q) :
    wpE X (.Call (.Attribute o name apos) (e :: es) [] cpos) σ H Q := by
  intro pins s I
  refine wpAny_Call_method_late hbase hfew hline rfl (thn (w pins s I) fun v s1 ⟨x, H1, I1, r1, ty, q1⟩ => ?_)
  obtain ⟨h1, h2⟩ := ty pins s1 v I1 r1
  refine ⟨T, id, pa, slot, hty, h1, h2, ?_⟩
  have hA := q1 cpos pins s1 I1
  rw [hs] at hA ⊢
  refine Calls.callWith_builtin (by show (false || (backTo cpos (starEach es X.env)).any (·.1)) = false; rw [hplain] <;> rfl) (Calls.evalArgs_plain ?_)
  exact thn hA fun us s2 ⟨vs, H2, I2, r2, q2⟩ => q2 pins s2 σ v us I2 r1 r2
theorem dic_ty {b : Bool} {ks ds : List D} {a : Addr} (t : XTopB X F ι H b (.dic ks ds) a) : ∀ pins s v, Inv X pins σ H s → RelV (.ref a) v → s.TypeIs v "dict" ∧ ∀ c, v = .ref c → ∃ ob, s.heap.get? c = some ob ∧ ob.dict = none := by
  intro pins s v I r
  cases r
  obtain ⟨_, es, ep, vs, ⟨o, ho, hx, hd⟩, _⟩ := dic_raw I t
  refine ⟨⟨o, ho, hx.1⟩, fun c e => ?_⟩
  cases e
  exact ⟨o, ho, hx.2.1⟩
/-! ### pop -/
theorem pop_reads {c k : D} {z : D × D} {a : Addr} {y : V} {Q : VK} (h : popO c k = .ok z) (t : XTop X F ι H c a) (nf : ¬ F a) (cy : Cv X F ι H k y) (q : ∀ o v, XTop X F ι (upd H a o) z.2 a → XRep X F ι (upd H a o) z.1 v → Q v (upd H a o)) :
    wMt X "list.pop" (.ref a) [y] H Q := by
  cases c with
  | lst ds =>
    cases k with
    | int i =>
      have ey := cy.int; subst ey
      simp only [popO] at h
      split at h
      · rename_i j hj
        split at h
        · rename_i x hx
          cases h
          cases t with
          | @lst _ vs _ hH r =>
            intro pins s σ v us I rx rxs
            have hz := (I.lstM hH).1
            rw [line_eq] at hz
            have hsl : line = 16777216 := rfl
            obtain ⟨q1, q2, q3, q4⟩ := ixN_seq hj
            obtain ⟨xv, hxv, rv⟩ := r.at_ hx
            have hl := r.length
            have mu : Mut (H a) := by rw [hH]; trivial
            have E := Ext.write (ι := ι) (o := .lst (vs.eraseIdx j)) mu nf
            exact wMt.of mt_popAt ⟨a, vs, i, j, xv, rfl, rfl, hH, by omega, by omega, by rw [← hl]; exact q1, hxv, q _ _ (.lst upd_same ((RepL.mono E r).eraseIdx j)) (Rep.mono E rv)⟩ pins s σ v us I rx rxs
        · cases h
      · cases h
    | _ => simp [popO] at h
  | _ => simp [popO] at h
theorem own_lst {x : D} {i : Nat} {z : D × Env} (h : modE2 (fun c => (appO c x).bind fun c' => .ok (.non, c')) i env = .ok z) : ∃ ds, env[i]? = some (some (.lst ds, true)) := by
  unfold modE2 at h
  split at h
  · rename_i c hi
    obtain ⟨y, e4, _⟩ := bind_ok h
    obtain ⟨c', e5, _⟩ := bind_ok e4
    cases c with
    | lst ds => exact ⟨ds, hi⟩
    | _ => cases e5
  · cases h
theorem list_ty {ds : List D} {a : Addr} (t : XTop X F ι H (.lst ds) a) : tyV X.K "list" (.ref a) H := by
  cases t with
  | lst h _ => exact .inl ⟨rfl, _, SqL.of h⟩
theorem own_back {g : D → Out (D × D)} {i j : Nat} {y : D × Env} {ds : List D} (h : modE2 g j env = .ok y) (hi : y.2[i]? = some (some (.lst ds, true))) (hg : ∀ c r c', g c = .ok (r, c') → (∃ ds', c' = .lst ds') → ∃ ds, c = .lst ds) : ∃ ds, env[i]? = some (some (.lst ds, true)) := by
  unfold modE2 at h
  split at h
  · rename_i c hj
    obtain ⟨⟨r, c'⟩, e4, e5⟩ := bind_ok h
    cases e5
    rw [List.getElem?_set] at hi
    by_cases e : j = i
    · subst e
      rw [if_pos rfl] at hi
      split at hi
      · cases hi
        obtain ⟨ds', rfl⟩ := hg _ _ _ e4 ⟨_, rfl⟩
        exact ⟨ds', hj⟩
      · cases hi
    · rw [if_neg e] at hi
      exact ⟨ds, hi⟩
  · cases h
theorem pop_lst {c k : D} {r c' : D} (h : popO c k = .ok (r, c')) (_ : ∃ ds', c' = D.lst ds') : ∃ ds, c = .lst ds := by
  cases c with
  | lst ds => exact ⟨ds, rfl⟩
  | _ => simp [popO] at h
theorem sd_dic {c k v : D} {z : D × D} (h : sdO c k v = .ok z) : (∃ ks vs, c = .dic ks vs) ∧ ∃ ks vs, z.2 = .dic ks vs := by
  cases c with
  | dic ks vs =>
    refine ⟨⟨_, _, rfl⟩, ?_⟩
    simp only [sdO] at h
    split at h
    · split at h
      · cases h; exact ⟨_, _, rfl⟩
      · cases h; exact ⟨_, _, rfl⟩
    · cases h
  | _ => simp [sdO] at h
theorem gs_appPop {i j : Nat} {x x2 : Str} {p apos p3 q1 apos2 q3 : Pos} {e : Expr} {g : Env → Sto → Out Res} (hN : X.N[i]? = some x) (hv : Vis X.env.scope x) (hd : (x == ("__debug__" : Str)) = false) (hcd : (x == ("__classdict__" : Str)) = false)
    (hN2 : X.N[j]? = some x2) (hv2 : Vis X.env.scope x2) (hd2 : (x2 == ("__debug__" : Str)) = false) (hcd2 : (x2 == ("__classdict__" : Str)) = false)
    (hline : (apos.endLine == p3.line) = true) (hline2 : (apos2.endLine == q3.line) = true) (hst : starEach [e] X.env = [(false, eval e X.env)])
    (he : GE X e g) : GS X (.Expr (.Call (.Attribute (.Name x p) "append" apos) [.Call (.Attribute (.Name x2 q1) "pop" apos2) [e] [] q3] [] p3) pos) fun env S =>
      (g env S).bind fun r => (modE2 (fun c => popO c r.1) j env).bind fun y => (modE2 (fun c => (appO c y.1).bind fun c' => .ok (.non, c')) i y.2).bind fun z => .ok (.nx z.2 r.2.2) := by
  intro env S f q F0 ι0 H0 F ι σ H b s sl
  obtain ⟨r, e1, q⟩ := bind_ok q
  obtain ⟨y, e2, q⟩ := bind_ok q
  obtain ⟨z, e3, q⟩ := bind_ok q
  cases q
  refine wpS.of (ps_expr (pe_w _) rfl) (show wpE X _ σ H _ from ?_)
  obtain ⟨ds1, hi1⟩ := own_lst e3
  obtain ⟨ds0, hi0⟩ := own_back e2 hi1 fun c r c' h h' => pop_lst h h'
  obtain ⟨a, hs, t, _⟩ := sl.own hi0
  obtain ⟨aj, cj, cj', hsj, tj, _, hgj, hj, _, _⟩ := mod2_ok b s sl e2
  obtain ⟨dsj, rfl⟩ : ∃ ds, cj = .lst ds := by
    cases cj with
    | lst ds => exact ⟨ds, rfl⟩
    | _ => simp [popO] at hgj
  refine meth1 PySem.F.plainAttrs_list PySem.F.slot_list_append PySem.F.type_list_append hN hv hd hcd hline rfl hs (list_ty t) ?_
  refine meth1 PySem.F.plainAttrs_list PySem.F.slot_list_pop PySem.F.type_list_pop hN2 hv2 hd2 hcd2 hline2 hst hsj (list_ty tj) ?_
  refine (he env S r e1 F ι σ H s sl.se).mono fun kv H1 ⟨F1, ι1, x1, s1, p1⟩ => ?_
  have sl1 := sl.mono s x1
  obtain ⟨a1, c1, c1', hs1, t1, nf1, hg1, _, _, fin1⟩ := mod2_ok (b.trans x1) s1 sl1 e2
  rw [hsj] at hs1; cases hs1
  refine pop_reads hg1 t1 nf1 p1.cv fun o v t' rv => ?_
  obtain ⟨b2, e2', s2, sl2⟩ := fin1 o t'
  obtain ⟨a3, c3, c3', hs3, t3, nf3, hg3, _, _, fin3⟩ := mod2_ok b2 s2 sl2 e3
  rw [hs] at hs3; cases hs3
  obtain ⟨c4, hg4, hg5⟩ := bind_ok hg3
  have e9 : c4 = c3' := (Prod.mk.inj (ok_inj hg5)).2
  subst e9
  refine (app_reads hg4 t3 nf3 rv fun o2 t2 => ?_).2
  obtain ⟨b5, e5, s5, sl5⟩ := fin3 o2 t2
  exact ⟨F1, ι1, b5, ((x1.ext s).tr e2').tr e5, s5, sl5⟩
/-! ### setdefault -/
theorem sd_reads {n : Nat} {c k v : D} {z : D × D} {a : Addr} {x y : V} {Q : VK} (hr : Room n X.A) (h : sdO c k v = .ok z) (t : XTop X F ι H c a) (nf : ¬ F a) (rk : XRep X F ι H k x) (ry : XRep X F ι H v y) (q0 : ∀ w, z.2 = c → XRep X F ι H z.1 w → Q w H)
    (q : ∀ o w, XTop X F ι (upd H a o) z.2 a → XRep X F ι (upd H a o) z.1 w → Q w (upd H a o)) : wMt X "dict.setdefault" (.ref a) [x, y] H Q := by
  intro pins s σ u us I rx rxs
  cases rx
  obtain ⟨u1, u2, rfl, r1, r2⟩ := Vals.two rxs
  refine thn (sd_ok hr h t nf rk ry I r1 r2) fun _ s' ⟨w, H', I', rw', rz, q'⟩ => ⟨w, H', I', rw', ?_⟩
  rcases q' with ⟨rfl, e⟩ | ⟨o, rfl, t'⟩
  · exact q0 w e rz
  · exact q o w t' rz
theorem gs_appSd {n i j : Nat} {x x2 : Str} {p apos p3 q1 apos2 q3 : Pos} {k e : Expr} {gk g : Env → Sto → Out Res} (hr : Room n X.A) (hN : X.N[i]? = some x) (hv : Vis X.env.scope x) (hd : (x == ("__debug__" : Str)) = false) (hcd : (x == ("__classdict__" : Str)) = false)
    (hN2 : X.N[j]? = some x2) (hv2 : Vis X.env.scope x2) (hd2 : (x2 == ("__debug__" : Str)) = false) (hcd2 : (x2 == ("__classdict__" : Str)) = false)
    (hline : (apos.endLine == p3.line) = true) (hline2 : (apos2.endLine == q3.line) = true) (hst : starEach [k, e] X.env = (false, eval k X.env) :: starEach [e] X.env) (hst2 : starEach [e] X.env = [(false, eval e X.env)])
    (hk : GE X k gk) (he : GE X e g) : GS X (.Expr (.Call (.Attribute (.Name x p) "append" apos) [.Call (.Attribute (.Name x2 q1) "setdefault" apos2) [k, e] [] q3] [] p3) pos) fun env S =>
      (gk env S).bind fun r => (kept r).bind fun x => (g env x.2).bind fun q => (kept q).bind fun w => (modE2 (fun c => sdO c x.1 w.1) j env).bind fun y => (modE2 (fun c => (appO c y.1).bind fun c' => .ok (.non, c')) i y.2).bind fun z => .ok (.nx z.2 w.2) := by
  intro env S f q F0 ι0 H0 F ι σ H b s sl
  obtain ⟨rk, e1, q⟩ := bind_ok q
  obtain ⟨xk, e2, q⟩ := bind_ok q
  obtain ⟨re, e3, q⟩ := bind_ok q
  obtain ⟨xe, e4, q⟩ := bind_ok q
  obtain ⟨y, e5, q⟩ := bind_ok q
  obtain ⟨z, e6, q⟩ := bind_ok q
  cases q
  refine wpS.of (ps_expr (pe_w _) rfl) (show wpE X _ σ H _ from ?_)
  obtain ⟨ds1, hi1⟩ := own_lst e6
  obtain ⟨ds0, hi0⟩ := own_back e5 hi1 fun c r c' h h' => by
    obtain ⟨_, ks, vs, e⟩ := sd_dic h
    obtain ⟨ds', e'⟩ := h'
    rw [e'] at e; cases e
  obtain ⟨a, hs, t, _⟩ := sl.own hi0
  obtain ⟨aj, cj, cj', hsj, tj, _, hgj, hj, _, _⟩ := mod2_ok b s sl e5
  obtain ⟨⟨ksj, vsj, rfl⟩, _⟩ := sd_dic hgj
  refine meth1 PySem.F.plainAttrs_list PySem.F.slot_list_append PySem.F.type_list_append hN hv hd hcd hline rfl hs (list_ty t) ?_
  refine methW PySem.F.plainAttrs_dict PySem.F.slot_dict_setdefault PySem.F.type_dict_setdefault rfl (by rw [hst, hst2]; rfl) hline2 hst (by rw [hst2]; rfl) (slot_name hN2 hv2 hd2 hcd2 hsj ⟨dic_ty tj, ?_⟩)
  refine wpA.cons hst (((hk env S rk e1 F ι σ H s sl.se).kept e2).mono fun kv H1 ⟨F1, ι1, x1, s1, p1⟩ => ?_)
  have sl1 := sl.mono s x1
  refine wpA.cons hst2 (((he env _ re e3 F1 ι1 σ H1 s1 sl1.se).kept e4).mono fun ev H2 ⟨F2, ι2, x2', s2, p2⟩ => wpA.nil ?_)
  have sl2 := sl1.mono s1 x2'
  have b2 := b.trans (x1.trans x2')
  have fin : ∀ {H3 v}, Ext F ι H F2 ι2 H3 → Stp F0 ι0 H0 F2 ι2 H3 → XSR X F2 ι2 H3 xe.2 → Slots X F2 ι2 H3 H0 y.2 σ → XRep X F2 ι2 H3 y.1 v → wMt X "list.append" (.ref a) [v] H3 fun x H1 => (EndsOf X F0 ι0 H0 F ι H (.nx z.2 xe.2)).nx σ H1 := fun {H3 v} ex b3 s3 sl3 rv => by
    obtain ⟨a3, c3, c3', hs3, t3, nf3, hg3, _, _, fin3⟩ := mod2_ok b3 s3 sl3 e6
    rw [hs] at hs3; cases hs3
    obtain ⟨c4, hg4, hg5⟩ := bind_ok hg3
    have e9 : c4 = c3' := (Prod.mk.inj (ok_inj hg5)).2
    subst e9
    refine (app_reads hg4 t3 nf3 rv fun o2 t2 => ?_).2
    obtain ⟨b5, e5, s5, sl5⟩ := fin3 o2 t2
    exact ⟨F2, ι2, b5, ex.tr e5, s5, sl5⟩
  obtain ⟨a1, c1, c1', hs1, t1, nf1, hg1, hj1, ey, fin1⟩ := mod2_ok b2 s2 sl2 e5
  rw [hsj] at hs1; cases hs1
  refine sd_reads hr hg1 t1 nf1 (Rep.mono (x2'.ext s1) p1) p2 (fun w hc rz => ?_) fun o w t' rz => ?_
  · have hc' : c1' = c1 := hc
    have e : y.2 = env := by
      rw [ey, hc']
      refine List.ext_getElem? fun k => ?_
      rw [List.getElem?_set]
      split
      · rename_i e; subst e; rw [if_pos (List.getElem?_eq_some_iff.mp hj1).1, hj1]
      · rfl
    exact fin ((x1.trans x2').ext s) b2 s2 (by rw [e]; exact sl2) rz
  · obtain ⟨b3, e3', s3, sl3⟩ := fin1 o t'
    exact fin (((x1.trans x2').ext s).tr e3') b3 s3 sl3 rz
/-- row = c.setdefault(k, {}) -/
theorem gs_setSd {n i r : Nat} {x x2 : Str} {p apos p3 p4 p5 : Pos} {k : Expr} {gk : Env → Sto → Out Res} (hr : Room n X.A) (hN : X.N[i]? = some x) (hv : Vis X.env.scope x) (hd : (x == ("__debug__" : Str)) = false) (hcd : (x == ("__classdict__" : Str)) = false)
    (hnd : X.N.Nodup) (hN2 : X.N[r]? = some x2) (hx2 : Loc X.env.scope x2) (hf : X.fn x2 = true ∨ X.env.scope.names.lookup x2 = some .local)
    (hline : (apos.endLine == p3.line) = true) (hst : starEach [k, .Dict [] [] p4] X.env = (false, eval k X.env) :: starEach [.Dict [] [] p4] X.env)
    (hk : GE X k gk) : GS X (.Assign [.Name x2 p5] (.Call (.Attribute (.Name x p) "setdefault" apos) [k, .Dict [] [] p4] [] p3) pos) fun env S =>
      (gk env S).bind fun q => (kept q).bind fun x => (newS (.dic [] []) x.2).bind fun w => (modE2 (fun c => sdO c x.1 w.1) i env).bind fun y => .ok (.nx (y.2.set r (some (y.1, false))) w.2) := by
  intro env S f q F0 ι0 H0 F ι σ H b s sl pins sh I
  obtain ⟨rk, e1, q⟩ := bind_ok q
  obtain ⟨xk, e2, q⟩ := bind_ok q
  obtain ⟨w, e3, q⟩ := bind_ok q
  obtain ⟨y, e4, q⟩ := bind_ok q
  cases q
  have hlen : r < σ.length := by rw [I.len]; exact (List.getElem?_eq_some_iff.mp hN2).1
  refine wpS.of (ps_set hnd hN2 hx2 (pe_w _) rfl hf) (show wpE X _ σ H _ from ?_) pins sh I
  obtain ⟨aj, cj, cj', hsj, tj, _, hgj, hj, _, _⟩ := mod2_ok b s sl e4
  obtain ⟨⟨ksj, vsj, rfl⟩, _⟩ := sd_dic hgj
  refine methW PySem.F.plainAttrs_dict PySem.F.slot_dict_setdefault PySem.F.type_dict_setdefault rfl (by rw [hst]; rfl) hline hst rfl (slot_name hN hv hd hcd hsj ⟨dic_ty tj, ?_⟩)
  refine wpA.cons hst (((hk env S rk e1 F ι σ H s sl.se).kept e2).mono fun kv H1 ⟨F1, ι1, x1, s1, p1⟩ => ?_)
  refine wpA.cons rfl (wpE.of pe_dnewK fun pd hpd => wpA.nil ?_)
  -- the new dict is a shared one from now on
  have s1' := s1.laid (o := .dK []) hpd
  have xl : Stp F1 ι1 H1 F1 ι1 (upd H1 pd (.dK [])) := .laid hpd
  cases hS : xk.2 with
  | nil => rw [hS] at e3; cases e3
  | cons rg S1 =>
    rw [hS] at e3 s1'
    cases e3
    have tnew : XTop X F1 ι1 (upd H1 pd (.dK [])) (.dic [] []) pd := .dicK (kvs := []) upd_same .nil
    obtain ⟨ι2, im, inn, hat, s2⟩ := s1'.new tnew (s1.none_F hpd) (s1.none_out hpd)
    have x2 : Stp F1 ι1 H1 F1 ι2 (upd H1 pd (.dK [])) := ⟨xl.keep, xl.dom, xl.fm, xl.fn, im, fun c hc => by
      rcases inn c hc with hc | rfl
      · exact .inl hc
      · exact .inr hpd⟩
    have b2 := b.trans (x1.trans x2)
    have sl2 := (sl.mono s x1).mono s1 x2
    obtain ⟨a1, c1, c1', hs1, t1, nf1, hg1, hj1, ey, fin1⟩ := mod2_ok b2 s2 sl2 e4
    rw [hsj] at hs1; cases hs1
    refine sd_reads hr hg1 t1 nf1 (Rep.mono (x2.ext s1) p1) (.ref hat) (fun wv hc rz => ?_) fun o wv t' rz => ?_
    · have hc' : c1' = c1 := hc
      have e : y.2 = env := by
        rw [ey, hc']
        refine List.ext_getElem? fun k => ?_
        rw [List.getElem?_set]
        split
        · rename_i e; subst e; rw [if_pos (List.getElem?_eq_some_iff.mp hj1).1, hj1]
        · rfl
      rw [e]
      exact ⟨F1, ι2, b2, (x1.trans x2).ext s, s2, sl2.setF rz hlen⟩
    · obtain ⟨b3, e3', s3, sl3⟩ := fin1 o t'
      exact ⟨F1, ι2, b3, ((x1.trans x2).ext s).tr e3', s3, sl3.setF rz hlen⟩
end
end Z
end
section
/-! ZU: parallel assignment, loops. -/
namespace Z
open PySem L2 PySem.Spec PyProof.Rows
section
variable {X : Cx} {F F' F1 F2 F0 : Addr → Prop} {ι ι' ι1 ι2 ι0 : Io} {H H' H1 H2 H0 : Hp} {S S' : Sto} {σ : L2.St} {pos : Pos} {env env' : Env}
/-! ### a, b = x, y -/
/-- results side by side, none of the new things twice -/
def ParOk (X : Cx) (F : Addr → Prop) (ι : Io) (H0 H : Hp) : List (D × K3) → List V → Prop
  | [], [] => True
  | r :: rs, v :: vs => Rs X F ι H0 H r.1 r.2 v ∧ (r.2 = .fr → ∀ (j : Nat) (r' : D × K3), rs[j]? = some r' → r'.2 = .fr → vs[j]? ≠ some v) ∧ ParOk X F ι H0 H rs vs
  | _, _ => False
theorem Rs.later {d : D} {k : K3} {v : V} (r : Rs X F ι H0 H d k v) (s : XSR X F ι H S) (x : Stp F ι H F' ι' H') : Rs X F' ι' H0 H' d k v := by
  cases k with
  | fz => exact Rep.mono (x.ext s) r
  | fr =>
    obtain ⟨a, rfl, t, nf, ni, hn⟩ := r
    refine ⟨a, rfl, t.mono (x.ext s) fun o h => x.keep a o h ni, fun f => ?_, fun f => ?_, hn⟩
    · rcases x.fn a f with f | f
      · exact nf f
      · exact t.some f
    · rcases x.inn a f with f | f
      · exact ni f
      · exact t.some f
  | vw =>
    obtain ⟨a, rfl, t, ni⟩ := r
    refine ⟨a, rfl, t.mono (x.ext s) fun o h => x.keep a o h ni, fun f => ?_⟩
    rcases x.inn a f with f | f
    · exact ni f
    · exact t.some f
theorem Rs.base {d : D} {k : K3} {v : V} (r : Rs X F ι H1 H d k v) (h : ∀ a, H0 a ≠ none → H1 a ≠ none) : Rs X F ι H0 H d k v := by
  cases k with
  | fz => exact r
  | fr => obtain ⟨a, rfl, t, nf, ni, hn⟩ := r; exact ⟨a, rfl, t, nf, ni, none_of_dom (h a) hn⟩
  | vw => exact r
theorem ParOk.base : ∀ {rs : List (D × K3)} {vs : List V}, ParOk X F ι H1 H rs vs → (∀ a, H0 a ≠ none → H1 a ≠ none) → ParOk X F ι H0 H rs vs
  | [], [], _, _ => trivial
  | [], _ :: _, h, _ => h.elim
  | _ :: _, [], h, _ => h.elim
  | r :: rs, v :: vs, ⟨h1, h2, h3⟩, hd => ⟨h1.base hd, h2, h3.base hd⟩
theorem ParOk.fresh : ∀ {rs : List (D × K3)} {vs : List V}, ParOk X F ι H0 H rs vs → ∀ (j : Nat) (r : D × K3) (a : Addr), rs[j]? = some r → r.2 = .fr → vs[j]? = some (.ref a) → H0 a = none
  | [], [], _, j, r, a, h, _, _ => by simp at h
  | [], _ :: _, h, _, _, _, _, _, _ => h.elim
  | _ :: _, [], h, _, _, _, _, _, _ => h.elim
  | r :: rs, v :: vs, ⟨h1, h2, h3⟩, 0, r', a, e, k, e2 => by
    simp at e e2
    subst e e2
    rw [k] at h1
    obtain ⟨b, eb, _, _, _, hn⟩ := h1
    cases eb
    exact hn
  | r :: rs, v :: vs, ⟨h1, h2, h3⟩, j + 1, r', a, e, k, e2 => ParOk.fresh h3 j r' a (by simpa using e) k (by simpa using e2)
def wPar (X : Cx) (es : List Expr) (gs : Env → Sto → Out (List (D × K3) × Sto)) : Prop := ∀ env S r, gs env S = .ok r → ∀ F ι σ H, XSR X F ι H S → Se X F ι H env σ → wpA X es σ H fun vs H' => ∃ F' ι', Stp F ι H F' ι' H' ∧ XSR X F' ι' H' r.2 ∧ ParOk X F' ι' H H' r.1 vs
theorem wPar.congr {es : List Expr} {g g' : Env → Sto → Out (List (D × K3) × Sto)} (h : wPar X es g) (c : ∀ env S, g' env S = g env S) : wPar X es g' := fun env S r q => h env S r (by rw [← c]; exact q)
theorem par_nil : wPar X [] fun _ S => .ok ([], S) := fun env S r q F ι σ H s se => by cases q; exact wpA.nil ⟨F, ι, .refl, s, trivial⟩
theorem par_cons {e : Expr} {es : List Expr} {g : Env → Sto → Out Res} {gs : Env → Sto → Out (List (D × K3) × Sto)} (hs : starEach (e :: es) X.env = (false, eval e X.env) :: starEach es X.env) (he : GE X e g) (hr : wPar X es gs) :
    wPar X (e :: es) fun env S => (g env S).bind fun r => (gs env r.2.2).bind fun q => .ok ((r.1, r.2.1) :: q.1, q.2) := by
  intro env S r q F ι σ H s se
  obtain ⟨r1, h1, q⟩ := bind_ok q
  obtain ⟨r2, h2, q⟩ := bind_ok q
  cases q
  refine wpA.cons hs ((he env S r1 h1 F ι σ H s se).mono fun v H1 ⟨F1, ι1, x1, s1, p1⟩ => ?_)
  refine (hr env _ r2 h2 F1 ι1 σ H1 s1 (se.mono s x1)).mono fun vs H2 ⟨F2, ι2, x2, s2, p2⟩ => ?_
  refine ⟨F2, ι2, x1.trans x2, s2, p1.later s1 x2, fun hk j r' hj hk' hv => ?_, p2.base x1.dom⟩
  change r1.2.1 = .fr at hk
  rw [hk] at p1
  obtain ⟨a, rfl, t, _⟩ := p1
  exact t.some (p2.fresh j r' a hj hk' hv)
theorem setEs_ok : ∀ {is : List Nat} {rs : List (D × K3)} {vs : List V} {env env' : Env} {σ : L2.St}, setEs is rs env = .ok env' → ParOk X F ι H0 H rs vs → Slots X F ι H H0 env σ → (∀ i ∈ is, i < σ.length) →
    (∀ (k : Nat) (d : D), env[k]? = some (some (d, true)) → ∀ (j : Nat) (r : D × K3), rs[j]? = some r → r.2 = .fr → ∀ v, vs[j]? = some v → σ[k]? ≠ some (some v)) → is.length = vs.length ∧ Slots X F ι H H0 env' (setAll is vs σ)
  | [], [], [], _, _, _, h, _, sl, _, _ => by cases h; exact ⟨rfl, sl⟩
  | [], [], _ :: _, _, _, _, _, p, _, _, _ => p.elim
  | [], _ :: _, _, _, _, _, h, _, _, _, _ => by cases h
  | _ :: _, [], _, _, _, _, h, _, _, _, _ => by cases h
  | _ :: _, _ :: _, [], _, _, _, _, p, _, _, _ => p.elim
  | i :: is, r :: rs, v :: vs, env, env', σ, h, ⟨p1, p2, p3⟩, sl, hl, hd => by
    unfold setEs at h
    obtain ⟨env1, h1, h⟩ := bind_ok h
    have hi : i < σ.length := hl i (by simp)
    have hl' : ∀ k ∈ is, k < (σ.set i (some v)).length := fun k hk => by rw [List.length_set]; exact hl k (by simp [hk])
    have fin : ∀ m, env1 = env.set i (some (r.1, m)) → (m = true → r.2 = .fr) → Slots X F ι H H0 env1 (σ.set i (some v)) → (i :: is).length = (v :: vs).length ∧ Slots X F ι H H0 env' (setAll (i :: is) (v :: vs) σ) := by
      intro m e hm sl1
      obtain ⟨q1, q2⟩ := setEs_ok (is := is) (rs := rs) (vs := vs) h p3 sl1 hl' fun k d hk j r' hj hk' u hu => by
        rw [List.getElem?_set]
        rw [e, List.getElem?_set] at hk
        by_cases ek : i = k
        · rw [if_pos ek] at hk ⊢
          split at hk
          · cases hk
            rw [if_pos hi]
            intro z
            cases z
            exact p2 (hm rfl) j r' hj hk' hu
          · cases hk
        · rw [if_neg ek] at hk ⊢
          exact hd k d hk (j + 1) r' (by simpa using hj) hk' u (by simpa using hu)
      exact ⟨by simp [q1], q2⟩
    obtain ⟨d, k⟩ := r
    cases k with
    | fz => cases h1; exact fin false rfl (fun z => by cases z) (sl.setF p1 hi)
    | fr =>
      cases h1
      obtain ⟨a, rfl, t, nf, ni, hn⟩ := p1
      exact fin true rfl (fun _ => rfl) (sl.setO t nf ni hn hi fun j d' _ hj hsj => hd j d' hj 0 (d, .fr) rfl rfl (.ref a) rfl hsj)
    | vw => cases h1
/-- the state behind a parallel assignment -/
theorem par_sta {is : List Nat} {rs : List (D × K3)} {vs : List V} (h : setEs is rs env = .ok env') (b : Stp F0 ι0 H0 F ι H) (s : XSR X F ι H S) (sl : Slots X F ι H H0 env σ) (hl : ∀ i ∈ is, i < σ.length) (x : Stp F ι H F1 ι1 H1) (s1 : XSR X F1 ι1 H1 S') (p : ParOk X F1 ι1 H H1 rs vs) :
    is.length = vs.length ∧ StA X F0 ι0 H0 F ι H env' S' (setAll is vs σ) H1 := by
  obtain ⟨q1, q2⟩ := setEs_ok h (p.base b.dom) (sl.mono s x) hl fun k d hk j r hj hr v hv hsk => by
    obtain ⟨a, hs, t, _⟩ := sl.own hk
    rw [hsk] at hs
    cases hs
    exact t.some (p.fresh j r a hj hr hv)
  exact ⟨q1, F1, ι1, b.trans x, x.ext s, s1, q2⟩
theorem gs_par2 {i j : Nat} {x y : Str} {a b : Expr} {px py pt : Pos} {kt k2 pt2} {gs : Env → Sto → Out (List (D × K3) × Sto)} (hc : X.calm = true) (hN : X.N.Nodup) (hi : X.N[i]? = some x) (hj : X.N[j]? = some y) (hij : i ≠ j)
    (hx : X.env.scope.names.lookup x = some .local) (hy : X.env.scope.names.lookup y = some .local)
    (hw : swappedStores [.Tuple [.Name x px, .Name y py] kt pt] (.Tuple [a, b] k2 pt2) X.env = pure (some [x, y])) (h : wPar X [a, b] gs) :
    GS X (.Assign [.Tuple [.Name x px, .Name y py] kt pt] (.Tuple [a, b] k2 pt2) pos) fun env S => (gs env S).bind fun r => (setEs [i, j] r.1 env).bind fun env' => .ok (.nx env' r.2) := by
  intro env S f q F0 ι0 H0 F ι σ H b s sl pins sh I
  obtain ⟨r, h1, q⟩ := bind_ok q
  obtain ⟨env', h2, q⟩ := bind_ok q
  cases q
  refine wpS.of (ps_par hc hN hi hj hij hx hy (pa_w _) hw rfl) ?_ pins sh I
  refine (h env S r h1 F ι σ H s sl.se).mono fun vs H1 ⟨F1, ι1, x1, s1, p⟩ => ?_
  obtain ⟨hl, st⟩ := par_sta h2 b s sl (fun k hk => by
    rw [I.len]
    rcases List.mem_cons.mp hk with rfl | hk
    · exact (List.getElem?_eq_some_iff.mp hi).1
    · rcases List.mem_cons.mp hk with rfl | hk
      · exact (List.getElem?_eq_some_iff.mp hj).1
      · simp at hk) x1 s1 p
  match vs, hl, st with
  | [v, w], _, st => exact ⟨v, w, rfl, st⟩
theorem gs_par3 {i j l : Nat} {x y z : Str} {a b c : Expr} {px py pz pt : Pos} {kt k2 pt2} {gs : Env → Sto → Out (List (D × K3) × Sto)} (hc : X.calm = true) (hN : X.N.Nodup) (hi : X.N[i]? = some x) (hj : X.N[j]? = some y) (hl : X.N[l]? = some z) (hij : i ≠ j) (hil : i ≠ l) (hjl : j ≠ l)
    (hx : X.env.scope.names.lookup x = some .local) (hy : X.env.scope.names.lookup y = some .local) (hz : X.env.scope.names.lookup z = some .local)
    (hw : swappedStores [.Tuple [.Name x px, .Name y py, .Name z pz] kt pt] (.Tuple [a, b, c] k2 pt2) X.env = pure (some [x, y, z])) (h : wPar X [a, b, c] gs) :
    GS X (.Assign [.Tuple [.Name x px, .Name y py, .Name z pz] kt pt] (.Tuple [a, b, c] k2 pt2) pos) fun env S => (gs env S).bind fun r => (setEs [i, j, l] r.1 env).bind fun env' => .ok (.nx env' r.2) := by
  intro env S f q F0 ι0 H0 F ι σ H b s sl pins sh I
  obtain ⟨r, h1, q⟩ := bind_ok q
  obtain ⟨env', h2, q⟩ := bind_ok q
  cases q
  refine wpS.of (ps_par3 hc hN hi hj hl hij hil hjl hx hy hz (pa_w _) hw rfl) ?_ pins sh I
  refine (h env S r h1 F ι σ H s sl.se).mono fun vs H1 ⟨F1, ι1, x1, s1, p⟩ => ?_
  obtain ⟨hl', st⟩ := par_sta h2 b s sl (fun k hk => by
    rw [I.len]
    rcases List.mem_cons.mp hk with rfl | hk
    · exact (List.getElem?_eq_some_iff.mp hi).1
    · rcases List.mem_cons.mp hk with rfl | hk
      · exact (List.getElem?_eq_some_iff.mp hj).1
      · rcases List.mem_cons.mp hk with rfl | hk
        · exact (List.getElem?_eq_some_iff.mp hl).1
        · simp at hk) x1 s1 p
  match vs, hl', st with
  | [v, w, u], _, st => exact ⟨v, w, u, rfl, st⟩
/-! ### while -/
theorem gs_wh {c : Expr} {body : List Stmt} {gt : Env → Sto → Out (Bool × Sto)} {gb : Env → Sto → Out Fl} (is : List Nat) (hp : PassesOwn (model X.prog X.w) X.A X.env X.xe) (hc : GT X c gt) (hb : GSs X body gb) :
    GS X (.While c body [] pos) fun env S => loopW gt gb is turns env S := by
  intro env S f q F0 ι0 H0 F ι σ H b s sl
  refine wpS.of (ps_while hp (pt_w c) (pss_w body)) ?_
  refine ⟨fun m σ' H' => ∃ env S F' ι', loopW gt gb is m env S = .ok f ∧ Stp F0 ι0 H0 F' ι' H' ∧ Ext F ι H F' ι' H' ∧ XSR X F' ι' H' S ∧ Slots X F' ι' H' H0 env σ', ⟨turns, env, S, F, ι, q, b, .refl, s, sl⟩, ?_⟩
  rintro m σ1 H1 ⟨env1, S1, F1, ι1, q, b1, e1, s1, sl1⟩
  cases m with
  | zero => cases q
  | succ m =>
    unfold loopW at q
    obtain ⟨⟨c1, S2⟩, h1, q⟩ := bind_ok q
    intro pins sh I
    obtain ⟨F2, H2, I2, b2, e2, s2, sl2⟩ := frz_ok is I b1 s1 sl1
    refine (hc _ S1 _ h1 F2 ι1 σ1 H2 s2 sl2.se).mono (fun t H3 ⟨et, F3, ι3, x3, s3⟩ => ?_) pins sh I2
    change t = c1 at et; subst et
    have sl3 := sl2.mono s2 x3
    have b3 := b2.trans x3
    have e3 : Ext F ι H F3 ι3 H3 := (e1.tr e2).tr (x3.ext s2)
    cases t with
    | true =>
      rw [if_pos rfl] at q ⊢
      obtain ⟨f1, h2, q⟩ := bind_ok q
      refine ⟨fun σ' H' => ∃ env S F' ι', loopW gt gb is m env S = .ok f ∧ Stp F0 ι0 H0 F' ι' H' ∧ Ext F ι H F' ι' H' ∧ XSR X F' ι' H' S ∧ Slots X F' ι' H' H0 env σ', fun σ' H' w => ⟨m, Nat.lt_succ_self m, w⟩, ?_⟩
      refine (hb _ S2 f1 h2 F0 ι0 H0 F3 ι3 σ1 H3 b3 s3 sl3).mono ?_
      cases f1 with
      | nx env4 S4 => exact ⟨fun σ' H' ⟨F4, ι4, b4, e4, s4, sl4⟩ => ⟨env4, S4, F4, ι4, q, b4, e3.tr e4, s4, sl4⟩, fun _ _ h => h.elim, fun _ _ h => h.elim, fun _ _ h => h.elim⟩
      | ct env4 S4 => exact ⟨fun _ _ h => h.elim, fun _ _ h => h.elim, fun _ _ h => h.elim, fun σ' H' ⟨F4, ι4, b4, e4, s4, sl4⟩ => ⟨env4, S4, F4, ι4, q, b4, e3.tr e4, s4, sl4⟩⟩
      | bk env4 S4 => cases q; exact ⟨fun _ _ h => h.elim, fun _ _ h => h.elim, fun σ' H' ⟨F4, ι4, b4, e4, s4, sl4⟩ => ⟨F4, ι4, b4, e3.tr e4, s4, sl4⟩, fun _ _ h => h.elim⟩
      | rt d k S4 => cases q; exact ⟨fun _ _ h => h.elim, fun _ _ h => h, fun _ _ h => h.elim, fun _ _ h => h.elim⟩
    | false =>
      rw [if_neg (by simp)] at q ⊢
      cases q
      exact ⟨F3, ι3, b3, e3, s3, sl3⟩
/-! ### for -/
theorem bind_slots {t : Tg} {d : D} {v : V} {Q : L2.St → Hp → Prop} (h : bindO t d env = .ok env') (r : XRep X F ι H d v) (sl : Slots X F ι H H0 env σ) (hl : ∀ i ∈ t.ix, i < σ.length) (q : ∀ σ', Slots X F ι H H0 env' σ' → Q σ' H) : gT X.K t v σ H Q := by
  cases t with
  | nm i => cases h; exact q _ (sl.setF r (hl i (by simp [Tg.ix])))
  | tu is =>
    cases d with
    | tup ds =>
      obtain ⟨a, vs, rfl, hs, rr⟩ := Cv.tup (.inl r)
      obtain ⟨h1, h2⟩ := sl.setAll h rr hl
      exact ⟨a, vs, rfl, .inl hs, h1.symm, gSets_ok is vs σ h1 (q _ h2)⟩
    | lst ds =>
      obtain ⟨a, vs, rfl, hs, rr⟩ := Cv.lst (.inl r)
      obtain ⟨h1, h2⟩ := sl.setAll h rr hl
      exact ⟨a, vs, rfl, .inr hs, h1.symm, gSets_ok is vs σ h1 (q _ h2)⟩
    | _ => cases h
theorem gs_for {tgE iter : Expr} {tg : Tg} {body : List Stmt} {gIt : Env → Sto → Out (List D × Bool × Sto)} {gb : Env → Sto → Out Fl} (hp : PassesOwn (model X.prog X.w) X.A X.env X.xe) (hc : X.calm = true) (hi : GI X tgE iter gIt) (hg : PG X tgE (gT X.K tg)) (hb : GSs X body gb) (hix : ∀ i ∈ tg.ix, i < X.N.length)
    (hs : ∀ x, foldedSetIterable iter X.env x = pure x) : GS X (.For tgE iter body [] pos) fun env S => (gIt env S).bind fun r => if r.2.1 then .no else loopF (fun d env S => (bindO tg d env).bind fun env' => gb env' S) r.1 env r.2.2 := by
  intro env S f q F0 ι0 H0 F ι σ H b s sl pins sh I
  obtain ⟨⟨ds, m, S1⟩, h1, q⟩ := bind_ok q
  cases m with
  | true => cases q
  | false =>
    change loopF (fun d env S => (bindO tg d env).bind fun env' => gb env' S) ds env S1 = .ok f at q
    have hl0 : σ.length = X.N.length := I.len
    refine wpS.of (ps_for hp hc (pi_w tgE iter) hg (pss_w body) hs) ?_ pins sh I
    intro pins sh I
    refine thn (hi env S _ h1 F ι σ H s sl.se pins sh I) fun v sh1 w => thn w fun itv sh2 w2 => ?_
    obtain ⟨it, fp, tn, J, H1, e, I2, T, st2, f2, F1, ι1, ws, x1, s1, hws, hw0, j⟩ := w2
    refine ⟨it, fp, tn, J, H1, e, I2, T, st2, f2, ?_⟩
    have hw := hw0 rfl
    subst hw
    let bd := fun (d : D) (env : Env) (S : Sto) => (bindO tg d env).bind fun env' => gb env' S
    let W : Nat → Nat → L2.St → Hp → Prop := fun i m σ' H' => m = ds.length - i ∧ i ≤ ds.length ∧ σ'.length = X.N.length ∧ ∃ env S F' ι', loopF bd (ds.drop i) env S = .ok f ∧ Stp F0 ι0 H0 F' ι' H' ∧ Ext F1 ι1 H1 F' ι' H' ∧ XSR X F' ι' H' S ∧ Slots X F' ι' H' H0 env σ'
    have e01 : Ext F ι H F1 ι1 H1 := x1.ext s
    refine ⟨W, ⟨ds.length, by simp, Nat.zero_le _, hl0, env, S1, F1, ι1, q, b.trans x1, .refl, s1, sl.mono s x1⟩, ?_⟩
    rintro i m σ2 H2 ⟨rfl, hi2, hlen, env2, S2, F2, ι2, q2, b2, e2, s2, sl2⟩
    have lx : Lx X F1 ι1 H1 [] F2 ι2 H2 := ⟨e2, fun p hp => by simp at hp⟩
    obtain ⟨j1, j2, j3⟩ := j i F2 ι2 H2 lx
    by_cases hlt : i < ds.length
    · refine .inr ⟨j1 hlt, W (i + 1) (ds.length - (i + 1)), fun σ' H' w => ⟨_, by omega, w⟩, fun v H3 y => ?_⟩
      have hd : ds[i]? = some ds[i] := List.getElem?_eq_getElem hlt
      obtain ⟨x3, s3, rd⟩ := j3 v H3 S2 y s2 _ hd
      have hdrop : ds.drop i = ds[i] :: ds.drop (i + 1) := by rw [List.drop_eq_getElem_cons hlt]
      rw [hdrop] at q2
      unfold loopF at q2
      obtain ⟨f1, hb1, q2⟩ := bind_ok q2
      obtain ⟨env3, hb2, hb3⟩ := bind_ok hb1
      have sl3 := sl2.mono s2 x3
      have b3 := b2.trans x3
      have e3 : Ext F1 ι1 H1 F2 ι2 H3 := e2.tr (x3.ext s2)
      refine bind_slots hb2 rd sl3 (fun k hk => by rw [hlen]; exact hix k hk) fun σ4 sl4 => ?_
      intro pins4 sh4 I4
      refine thn (hb env3 S2 f1 hb3 F0 ι0 H0 F2 ι2 σ4 H3 b3 s3 sl4 pins4 sh4 I4) fun fl sh5 q5 => ?_
      have nx : ∀ {σ5 H5 env5 S5}, Inv X pins4 σ5 H5 sh5 → loopF bd (ds.drop (i + 1)) env5 S5 = .ok f → StA X F0 ι0 H0 F2 ι2 H3 env5 S5 σ5 H5 → W (i + 1) (ds.length - (i + 1)) σ5 H5 := fun {σ5 H5 env5 S5} I5 q ⟨F5, ι5, b5, e5, s5, sl5⟩ => ⟨rfl, hlt, I5.len, env5, S5, F5, ι5, q, b5, e3.tr e5, s5, sl5⟩
      cases f1 with
      | nx env5 S5 =>
        cases fl with
        | next => obtain ⟨σ5, H5, I5, p5⟩ := q5; exact ⟨σ5, H5, I5, nx I5 q2 p5⟩
        | brk => obtain ⟨σ5, H5, I5, p5⟩ := q5; exact p5.elim
        | cont => obtain ⟨σ5, H5, I5, p5⟩ := q5; exact p5.elim
        | ret u => obtain ⟨v5, σ5, H5, I5, r5, p5⟩ := q5; exact p5.elim
      | ct env5 S5 =>
        cases fl with
        | next => obtain ⟨σ5, H5, I5, p5⟩ := q5; exact p5.elim
        | brk => obtain ⟨σ5, H5, I5, p5⟩ := q5; exact p5.elim
        | cont => obtain ⟨σ5, H5, I5, p5⟩ := q5; exact ⟨σ5, H5, I5, nx I5 q2 p5⟩
        | ret u => obtain ⟨v5, σ5, H5, I5, r5, p5⟩ := q5; exact p5.elim
      | bk env5 S5 =>
        cases q2
        cases fl with
        | next => obtain ⟨σ5, H5, I5, p5⟩ := q5; exact p5.elim
        | brk => obtain ⟨σ5, H5, I5, F5, ι5, b5, e5, s5, sl5⟩ := q5; exact ⟨σ5, H5, I5, F5, ι5, b5, (e01.tr e3).tr e5, s5, sl5⟩
        | cont => obtain ⟨σ5, H5, I5, p5⟩ := q5; exact p5.elim
        | ret u => obtain ⟨v5, σ5, H5, I5, r5, p5⟩ := q5; exact p5.elim
      | rt d k S5 =>
        cases q2
        cases fl with
        | next => obtain ⟨σ5, H5, I5, p5⟩ := q5; exact p5.elim
        | brk => obtain ⟨σ5, H5, I5, p5⟩ := q5; exact p5.elim
        | cont => obtain ⟨σ5, H5, I5, p5⟩ := q5; exact p5.elim
        | ret u => obtain ⟨v5, σ5, H5, I5, r5, p5⟩ := q5; exact ⟨v5, σ5, H5, I5, r5, p5⟩
    · have e : i = ds.length := by omega
      subst e
      rw [List.drop_length] at q2
      cases q2
      exact .inl ⟨j2 rfl, F2, ι2, b2, e01.tr e2, s2, sl2⟩
end
end Z
end
section
/-! ZV: calls. -/
namespace Z
open PySem L2 PySem.Spec PyProof.Rows
/-! ### data of outer levels -/
mutual
theorem lev0 : ∀ d : D, d.lev 0 = true
  | .non => rfl
  | .bl _ => rfl
  | .int _ => rfl
  | .str _ => rfl
  | .tup ds => by simpa [D.lev] using levL0 ds
  | .lst ds => by simpa [D.lev] using levL0 ds
  | .dic ks vs => by simp [D.lev, levL0 ks, levL0 vs]
  | .ref _ _ => by simp [D.lev]
theorem levL0 : ∀ ds : List D, D.levL 0 ds = true
  | [] => rfl
  | d :: ds => by simp [D.levL, lev0 d, levL0 ds]
end
section
variable {P : Program} {w : World} {K : PySem.W.Frag} {F : Addr → Prop} {ι ι' : Io} {H : Hp} {m : Nat}
mutual
theorem Rep.restr (h : ∀ l i a, m ≤ l → ioAt ι l i = some a → ioAt ι' l i = some a) : ∀ {d : D} {v : V}, d.lev m = true → Rep P w K F ι H d v → Rep P w K F ι' H d v
  | _, _, _, .non => .non
  | _, _, _, .bl b => .bl b
  | _, _, _, .int i => .int i
  | _, _, _, .str x => .str x
  | _, _, l, .tup q r => .tup q (RepL.restr h (by simpa [D.lev] using l) r)
  | _, _, l, .lst f q r => .lst f q (RepL.restr h (by simpa [D.lev] using l) r)
  | _, _, l, .lstK q r => .lstK q (RepL.restr h (by simpa [D.lev] using l) r)
  | _, _, l, .obj f t => .obj f (TopB.restr h l t)
  | _, _, l, .ref q => .ref (h _ _ _ (by simpa [D.lev] using l) q)
theorem TopB.restr (h : ∀ l i a, m ≤ l → ioAt ι l i = some a → ioAt ι' l i = some a) : ∀ {b : Bool} {d : D} {a : Addr}, d.lev m = true → TopB P w K F ι H b d a → TopB P w K F ι' H b d a
  | _, _, _, l, .lst q r => .lst q (RepL.restr h (by simpa [D.lev] using l) r)
  | _, _, _, l, .dicK q r => .dicK q (RepL.restr h (by simp [D.lev] at l; exact l.2) r)
  | _, _, _, l, .dicT h0 h1 h2 r1 h3 h4 h5 h6 r2 => .dicT h0 h1 h2 (RepL.restr h (by simp [D.lev] at l; exact l.1) r1) h3 h4 h5 h6 (RepL.restr h (by simp [D.lev] at l; exact l.2) r2)
theorem RepL.restr (h : ∀ l i a, m ≤ l → ioAt ι l i = some a → ioAt ι' l i = some a) : ∀ {ds : List D} {vs : List V}, D.levL m ds = true → RepL P w K F ι H ds vs → RepL P w K F ι' H ds vs
  | _, _, _, .nil => .nil
  | _, _, l, .cons r t => .cons (Rep.restr h (by simp [D.levL] at l; exact l.1) r) (RepL.restr h (by simp [D.levL] at l; exact l.2) t)
end
/-- the innermost level is left -/
theorem SR.pop {q : Nat × List Addr} {r : Nat × List D} {S : Sto} (s : SR P w K F (q :: ι) H (r :: S)) : SR P w K F ι H S ∧ (∀ l i a, r.1 < l → ioAt (q :: ι) l i = some a → ioAt ι l i = some a) ∧ ∀ l i a, ioAt ι l i = some a → ioAt (q :: ι) l i = some a := by
  have hl := s.lens
  simp only [List.map_cons, List.cons.injEq, Prod.mk.injEq] at hl
  obtain ⟨⟨e1, e2⟩, e3⟩ := hl
  have srt := s.srt
  rw [List.map_cons, List.pairwise_cons] at srt
  have keys := lens_keys e3
  have down : ∀ l i a, r.1 < l → ioAt (q :: ι) l i = some a → ioAt ι l i = some a := fun l i a hl h => by
    unfold ioAt at h
    rw [if_neg (by omega)] at h
    exact h
  have mem : ∀ {ι : Io} {l i a}, ioAt ι l i = some a → l ∈ ι.map (·.1) := by
    intro ι
    induction ι with
    | nil => intro l i a h; simp [ioAt] at h
    | cons p ι ih =>
      intro l i a h
      unfold ioAt at h
      split at h
      · rename_i e; simp [e]
      · simp only [List.map_cons, List.mem_cons]; exact .inr (ih h)
  have up : ∀ l i a, ioAt ι l i = some a → ioAt (q :: ι) l i = some a := fun l i a h => by
    have hm := mem h
    rw [keys] at hm
    have := srt.1 _ hm
    unfold ioAt
    rw [if_neg (by omega)]
    exact h
  have memS : ∀ {S : Sto} {l i d}, look S l i = some d → l ∈ S.map (·.1) := by
    intro S
    induction S with
    | nil => intro l i a h; simp [look] at h
    | cons p S ih =>
      intro l i a h
      unfold look at h
      split at h
      · rename_i e; simp [e]
      · simp only [List.map_cons, List.mem_cons]; exact .inr (ih h)
  have upS : ∀ l i d, look S l i = some d → r.1 < l ∧ look (r :: S) l i = some d := fun l i d h => by
    have := srt.1 _ (memS h)
    refine ⟨this, ?_⟩
    unfold look
    rw [if_neg (by omega)]
    exact h
  refine ⟨⟨e3, srt.2, fun l i d h => ?_, fun l i d h => s.lev l i d (upS l i d h).2, fun l i l' i' a h1 h2 => s.inj _ _ _ _ _ (up _ _ _ h1) (up _ _ _ h2), s.fdom, fun a f ⟨l, i, h⟩ => s.fio a f ⟨l, i, up l i a h⟩⟩, down, up⟩
  obtain ⟨h1, h2⟩ := upS l i d h
  obtain ⟨a, ha, t⟩ := s.at_ l i d h2
  exact ⟨a, down l i a h1 ha, TopB.restr (m := l) (fun l' i a hl h => down l' i a (by omega) h) (s.lev l i d h2) t⟩
/-- a level begun -/
theorem SR.push {S : Sto} {l : Nat} (s : SR P w K F ι H S) (h : ∀ r ∈ S, l < r.1) : SR P w K F ((l, []) :: ι) H ((l, []) :: S) ∧ (∀ k i a, ioAt ι k i = some a → ioAt ((l, []) :: ι) k i = some a) ∧ ∀ a, ioIn ((l, []) :: ι) a → ioIn ι a := by
  have keys := lens_keys s.lens
  have mem : ∀ {ι : Io} {l i a}, ioAt ι l i = some a → l ∈ ι.map (·.1) := by
    intro ι
    induction ι with
    | nil => intro l i a h; simp [ioAt] at h
    | cons p ι ih =>
      intro l i a h
      unfold ioAt at h
      split at h
      · rename_i e; simp [e]
      · simp only [List.map_cons, List.mem_cons]; exact .inr (ih h)
  have up : ∀ k i a, ioAt ι k i = some a → ioAt ((l, []) :: ι) k i = some a := fun k i a hk => by
    have hm := mem hk
    rw [keys] at hm
    obtain ⟨r, hr, e⟩ := List.mem_map.mp hm
    have := h r hr
    unfold ioAt
    rw [if_neg (by simp only; omega)]
    exact hk
  have down : ∀ k i a, ioAt ((l, []) :: ι) k i = some a → ioAt ι k i = some a := fun k i a hk => by
    unfold ioAt at hk
    split at hk
    · simp at hk
    · exact hk
  have E : Ext F ι H F ((l, []) :: ι) H := ⟨fun _ _ _ h => h, fun _ _ h => h, fun _ _ _ h => h, fun _ h => h, up⟩
  have downS : ∀ k i d, look ((l, []) :: S) k i = some d → look S k i = some d := fun k i d hk => by
    unfold look at hk
    split at hk
    · simp at hk
    · exact hk
  refine ⟨⟨by simp [s.lens], ?_, fun k i d hk => ?_, fun k i d hk => s.lev k i d (downS k i d hk), fun k i k' i' a h1 h2 => s.inj _ _ _ _ _ (down _ _ _ h1) (down _ _ _ h2), s.fdom, fun a f ⟨k, i, hk⟩ => s.fio a f ⟨k, i, down k i a hk⟩⟩, up, fun a ⟨k, i, hk⟩ => ⟨k, i, down k i a hk⟩⟩
  · rw [List.map_cons, List.pairwise_cons]
    exact ⟨fun k hk => by obtain ⟨r, hr, e⟩ := List.mem_map.mp hk; rw [← e]; exact h r hr, s.srt⟩
  · obtain ⟨a, ha, t⟩ := s.at_ k i d (downS k i d hk)
    exact ⟨a, up k i a ha, t.mono E fun _ h => h⟩
end
/-! ### promises -/
def RsP (P : Program) (w : World) (K : PySem.W.Frag) (F : Addr → Prop) (ι : Io) (H H' : Hp) (d : D) (k : K3) (v : V) : Prop := match k with
  | .fz => Rep P w K F ι H' d v
  | .fr => ∃ a, v = .ref a ∧ Top P w K F ι H' d a ∧ ¬ F a ∧ ¬ ioIn ι a ∧ H a = none
  | .vw => ∃ a, v = .ref a ∧ Top P w K F ι H' d a ∧ ¬ ioIn ι a
def PostP (P : Program) (w : World) (K : PySem.W.Frag) (F : Addr → Prop) (ι : Io) (H : Hp) (r : Res) : VK := fun v H' => ∃ F' ι', Stp F ι H F' ι' H' ∧ SR P w K F' ι' H' r.2.2 ∧ RsP P w K F' ι' H H' r.1 r.2.1 v
theorem postP_eq (X : Cx) : PostP X.prog X.w X.K = Post X := by
  funext F ι H r v H'
  unfold PostP Post RsP Rs
  rfl
/-- what a def promises: it does what g tells -/
def spC (P : Program) (w : World) (K : PySem.W.Frag) (n : Nat) (g : List D → Sto → Out Res) : Sp := fun vs H Q _ => vs.length = n ∧ ∃ ds S r F ι, g ds S = .ok r ∧ RepL P w K F ι H ds vs ∧ SR P w K F ι H S ∧ ∀ v H', PostP P w K F ι H r v H' → Q v H'
section
variable {X : Cx} {pos : Pos}
theorem ge_call {k n : Nat} {f : Addr} {fd : FuncData} {ps : List Str} {x : Str} {p : Pos} {e : Expr} {es : List Expr} {g : List D → Sto → Out Res} {gs : Env → Sto → Out (List D × Sto)} (F : FnOk X.prog X.w X.K X.mg X.base CX0 k f fd ps (spC X.prog X.w X.K n g)) (hr : Room k X.A) (hg : Gl X x) (hm : X.mg x = some (.ref f)) (hk : PySem.W.keepIn X.K (.ref f) = true) (hb : Binds X.K fd ps [])
    (hdb : (x == ("__debug__" : Str)) = false) (he : starEach (e :: es) X.env = (false, eval e X.env) :: starEach es X.env) (hpl : (backTo pos (starEach es X.env)).any (·.1) = false) (hn : (e :: es).length = n) (ha : GA X (e :: es) gs) (hl : ∀ env S r, gs env S = .ok r → r.1.length = (e :: es).length) :
    GE X (.Call (.Name x p) (e :: es) [] pos) fun env S => (gs env S).bind fun r => g r.1 r.2 := by
  intro env S r q F0 ι σ H s se
  obtain ⟨r1, h1, q⟩ := bind_ok q
  refine .of (pe_call F hr hg hm hk hb .nil pass0 (pa_w (e :: es)) hdb he hpl) (show wpA X (e :: es) σ H _ from (ha env S r1 h1 F0 ι σ H s se).mono fun vs H1 ⟨F1, ι1, x1, s1, p1⟩ => ?_)
  rw [List.append_nil]
  refine ⟨by rw [← p1.length, hl env S r1 h1, hn], r1.1, r1.2, r, F1, ι1, q, p1, s1, fun v H' p => ?_⟩
  rw [postP_eq] at p
  exact Post.later x1 p
/-- .. the defaults dd fill up -/
theorem ge_callD {k n : Nat} {f : Addr} {fd : FuncData} {ps : List Str} {x : Str} {p : Pos} {e : Expr} {es : List Expr} {g : List D → Sto → Out Res} {gs : Env → Sto → Out (List D × Sto)} {us0 : List Value} {vs0 : List V} {dd : List D} (F : FnOk X.prog X.w X.K X.mg X.base CX0 k f fd ps (spC X.prog X.w X.K n g)) (hr : Room k X.A) (hg : Gl X x) (hm : X.mg x = some (.ref f)) (hk : PySem.W.keepIn X.K (.ref f) = true) (hb : Binds X.K fd ps us0) (hv : Vals vs0 us0) (hd : ∀ F ι H, XRepL X F ι H dd vs0)
    (hdb : (x == ("__debug__" : Str)) = false) (he : starEach (e :: es) X.env = (false, eval e X.env) :: starEach es X.env) (hpl : (backTo pos (starEach es X.env)).any (·.1) = false) (hn : (e :: es).length + dd.length = n) (ha : GA X (e :: es) gs) (hl : ∀ env S r, gs env S = .ok r → r.1.length = (e :: es).length) :
    GE X (.Call (.Name x p) (e :: es) [] pos) fun env S => (gs env S).bind fun r => g (r.1 ++ dd) r.2 := by
  intro env S r q F0 ι σ H s se
  obtain ⟨r1, h1, q⟩ := bind_ok q
  refine .of (pe_call F hr hg hm hk hb hv pass0 (pa_w (e :: es)) hdb he hpl) (show wpA X (e :: es) σ H _ from (ha env S r1 h1 F0 ι σ H s se).mono fun vs H1 ⟨F1, ι1, x1, s1, p1⟩ => ?_)
  have pa := p1.append (hd F1 ι1 H1)
  refine ⟨by rw [← pa.length, List.length_append, hl env S r1 h1, hn], r1.1 ++ dd, r1.2, r, F1, ι1, q, pa, s1, fun v H' p => ?_⟩
  rw [postP_eq] at p
  exact Post.later x1 p
theorem ge_callD0 {k n : Nat} {f : Addr} {fd : FuncData} {ps : List Str} {x : Str} {p : Pos} {g : List D → Sto → Out Res} {us0 : List Value} {vs0 : List V} {dd : List D} (F : FnOk X.prog X.w X.K X.mg X.base CX0 k f fd ps (spC X.prog X.w X.K n g)) (hr : Room k X.A) (hg : Gl X x) (hm : X.mg x = some (.ref f)) (hk : PySem.W.keepIn X.K (.ref f) = true) (hb : Binds X.K fd ps us0) (hv : Vals vs0 us0) (hd : ∀ F ι H, XRepL X F ι H dd vs0)
    (hdb : (x == ("__debug__" : Str)) = false) (hn : dd.length = n) : GE X (.Call (.Name x p) [] [] pos) fun env S => g dd S := by
  intro env S r q F0 ι σ H s se
  have pa := hd F0 ι H
  refine .of (pe_call0 F hr hg hm hk hb hv pass0 hdb) ⟨by rw [List.nil_append, ← pa.length, hn], dd, S, r, F0, ι, q, pa, s, fun v H' p => ?_⟩
  rw [postP_eq] at p
  exact p
theorem ge_call0 {k : Nat} {f : Addr} {fd : FuncData} {ps : List Str} {x : Str} {p : Pos} {g : List D → Sto → Out Res} (F : FnOk X.prog X.w X.K X.mg X.base CX0 k f fd ps (spC X.prog X.w X.K 0 g)) (hr : Room k X.A) (hg : Gl X x) (hm : X.mg x = some (.ref f)) (hk : PySem.W.keepIn X.K (.ref f) = true) (hb : Binds X.K fd ps [])
    (hdb : (x == ("__debug__" : Str)) = false) : GE X (.Call (.Name x p) [] [] pos) fun env S => g [] S := by
  intro env S r q F0 ι σ H s se
  refine .of (pe_call0 F hr hg hm hk hb .nil pass0 hdb) ⟨rfl, [], S, r, F0, ι, q, .nil, s, fun v H' p => ?_⟩
  rw [postP_eq] at p
  exact p
/-! keywords -/
def wpK (X : Cx) (kws : List Keyword) (σ : L2.St) (H : Hp) (Q : List V → Hp → Prop) : Prop := ∀ pos pins s, Inv X pins σ H s → wpAny (model X.prog X.w) X.A (evalAll ((backToKw pos (keywordEach kws X.env)).map (·.2))) (AP X pins σ Q) X.xe s
theorem pk_w (kws : List Keyword) : PK X kws (wpK X kws) := ⟨fun pos pins s _ _ _ I h => h pos pins s I⟩
theorem wpK.of {kws : List Keyword} {t : TA} (h : PK X kws t) {σ : L2.St} {H : Hp} {Q : List V → Hp → Prop} (q : t σ H Q) : wpK X kws σ H Q := fun pos pins s I => h.run pos pins s σ H Q I q
def GKw (X : Cx) (kws : List Keyword) (g : Env → Sto → Out (List D × Sto)) : Prop := ∀ env S r, g env S = .ok r → ∀ F ι σ H, XSR X F ι H S → Se X F ι H env σ → wpK X kws σ H (PostA X F ι H r)
theorem GKw.congr {kws : List Keyword} {g g' : Env → Sto → Out (List D × Sto)} (h : GKw X kws g) (c : ∀ env S, g' env S = g env S) : GKw X kws g' := fun env S r q => h env S r (by rw [← c]; exact q)
theorem gk_nil : GKw X [] fun _ S => .ok ([], S) := fun env S r q F ι σ H s se => by cases q; exact wpK.of pk_nil ⟨F, ι, .refl, s, .nil⟩
theorem gk_cons {nm : Option Str} {kpos : Pos} {e : Expr} {kws : List Keyword} {g : Env → Sto → Out Res} {gs : Env → Sto → Out (List D × Sto)} (he : GE X e g) (hr : GKw X kws gs) :
    GKw X (⟨nm, e, kpos⟩ :: kws) fun env S => (g env S).bind fun r => (kept r).bind fun y => (gs env y.2).bind fun q => .ok (y.1 :: q.1, q.2) := by
  intro env S r q F ι σ H s se
  obtain ⟨r1, h1, q⟩ := bind_ok q
  obtain ⟨y, h2, q⟩ := bind_ok q
  obtain ⟨r2, h3, q⟩ := bind_ok q
  cases q
  refine wpK.of (pk_cons (pe_w e) (pk_w kws)) (show wpE X e σ H _ from ((he env S r1 h1 F ι σ H s se).kept h2).mono fun x H1 ⟨F1, ι1, x1, s1, p1⟩ => ?_)
  intro pos pins sh I
  refine thn (hr env _ r2 h3 F1 ι1 σ H1 s1 (se.mono s x1) pos pins sh I) fun _ _ ⟨vs, H2, I2, rv, F2, ι2, x2, s2, p2⟩ => ?_
  exact ⟨vs, H2, I2, rv, F2, ι2, x1.trans x2, s2, .cons (Rep.mono (x2.ext s1) p1) p2⟩
def kG {α : Type} (n : Nat) (us ws : List α) : List α := if ws.length = n then us ++ ws else []
theorem kG_ok {α : Type} {n : Nat} {us ws : List α} (h : ws.length = n) : kG n us ws = us ++ ws := if_pos h
theorem ge_callK {k n : Nat} {f : Addr} {fd : FuncData} {ps ks : List Str} {x : Str} {p : Pos} {e : Expr} {es : List Expr} {kws : List Keyword} {g : List D → Sto → Out Res} {gs gk : Env → Sto → Out (List D × Sto)} (F : FnOk X.prog X.w X.K X.mg X.base CX0 k f fd ps (spC X.prog X.w X.K n g)) (hr : Room k X.A) (hg : Gl X x) (hm : X.mg x = some (.ref f)) (hk : PySem.W.keepIn X.K (.ref f) = true)
    (hb : KBinds X.K fd ps ks (kG ks.length) (kG ks.length)) (hdb : (x == ("__debug__" : Str)) = false) (he : starEach (e :: es) X.env = (false, eval e X.env) :: starEach es X.env) (hall : (backToKw pos (keywordEach kws X.env)).all (·.1.isSome) = true) (hks : (backToKw pos (keywordEach kws X.env)).filterMap (·.1) = ks)
    (hpl : ((backTo pos (starEach (e :: es) X.env)).any (·.1) || (backToKw pos (keywordEach kws X.env)).any (·.1.isNone)) = false) (ha : GA X (e :: es) gs) (hkw : GKw X kws gk) (hl : ∀ env S r env2 S2 r2, gs env S = .ok r → gk env2 S2 = .ok r2 → (r.1 ++ r2.1).length = n) (hl2 : ∀ env2 S2 r2, gk env2 S2 = .ok r2 → r2.1.length = ks.length) :
    GE X (.Call (.Name x p) (e :: es) kws pos) fun env S => (gs env S).bind fun r => (gk env r.2).bind fun q => g (r.1 ++ q.1) q.2 := by
  intro env S r q F0 ι σ H s se
  obtain ⟨r1, h1, q⟩ := bind_ok q
  obtain ⟨r2, h2, q⟩ := bind_ok q
  refine .of (pe_callK F hr hg hm hk hb pass0 (pa_w (e :: es)) (pk_w kws) hall hks hdb he hpl) (show wpA X (e :: es) σ H _ from (ha env S r1 h1 F0 ι σ H s se).mono fun vs H1 ⟨F1, ι1, x1, s1, p1⟩ => ?_)
  intro pos pins sh I
  refine thn (hkw env _ r2 h2 F1 ι1 σ H1 s1 (se.mono s x1) pos pins sh I) fun _ _ ⟨us, H2, I2, rv, F2, ι2, x2, s2, p2⟩ => ⟨us, H2, I2, rv, ?_⟩
  have pa := (RepL.mono (x2.ext s1) p1).append p2
  show spC X.prog X.w X.K n g (kG ks.length vs us) H2 _ _
  rw [kG_ok (by rw [← p2.length]; exact hl2 _ _ _ h2)]
  refine ⟨by rw [← pa.length]; exact hl _ _ _ _ _ _ h1 h2, r1.1 ++ r2.1, r2.2, r, F2, ι2, q, pa, s2, fun v H' p => ?_⟩
  rw [postP_eq] at p
  exact Post.later (x1.trans x2) p
theorem ge_callK0 {k n : Nat} {f : Addr} {fd : FuncData} {ps ks : List Str} {x : Str} {p : Pos} {kws : List Keyword} {g : List D → Sto → Out Res} {gk : Env → Sto → Out (List D × Sto)} (F : FnOk X.prog X.w X.K X.mg X.base CX0 k f fd ps (spC X.prog X.w X.K n g)) (hr : Room k X.A) (hg : Gl X x) (hm : X.mg x = some (.ref f)) (hk : PySem.W.keepIn X.K (.ref f) = true)
    (hb : KBinds X.K fd ps ks (kG ks.length) (kG ks.length)) (hdb : (x == ("__debug__" : Str)) = false) (hall : (backToKw pos (keywordEach kws X.env)).all (·.1.isSome) = true) (hks : (backToKw pos (keywordEach kws X.env)).filterMap (·.1) = ks)
    (hpl : ((backTo pos (starEach [] X.env)).any (·.1) || (backToKw pos (keywordEach kws X.env)).any (·.1.isNone)) = false) (hkw : GKw X kws gk) (hl : ∀ env2 S2 r2, gk env2 S2 = .ok r2 → r2.1.length = n) (hl2 : ∀ env2 S2 r2, gk env2 S2 = .ok r2 → r2.1.length = ks.length) :
    GE X (.Call (.Name x p) [] kws pos) fun env S => (gk env S).bind fun q => g q.1 q.2 := by
  intro env S r q F0 ι σ H s se
  obtain ⟨r2, h2, q⟩ := bind_ok q
  intro pins sh I
  refine wpAny_Call_Name_kw (ld_glob I hg hm ?_ hdb)
  refine PySem.W.callWith_KW0 (h₀ := X.base) I.ok.mod.kin hk hall (thn (hkw env _ r2 h2 F0 ι σ H s se pos pins sh I) fun ws s2 ⟨zs, H2, I2, rz, F2, ι2, x2, sr2, p2⟩ => ⟨I2.kIn, ?_⟩) hpl
  rw [hks]
  refine run_fnk (vs := []) (us := []) F hr hb pass0 I2 .nil rz ?_
  show spC X.prog X.w X.K n g (kG ks.length [] zs) H2 _ _
  rw [kG_ok (by rw [← p2.length]; exact hl2 _ _ _ h2)]
  refine ⟨by show zs.length = n; rw [← p2.length]; exact hl _ _ _ h2, r2.1, r2.2, r, F2, ι2, q, p2, sr2, fun v H' p => ?_⟩
  rw [postP_eq] at p
  exact Post.later x2 p
end
/-! ### a def keeps its promise -/
theorem leave_ok {X : Cx} {F F' : Addr → Prop} {ι ι' : Io} {H H' : Hp} {l : Nat} {d : D} {k : K3} {S' : Sto} {r : Res} {v : V} (h : leave l d k S' = .ok r) (hS : ∀ a, ioIn ((l, []) :: ι) a → ioIn ι a) (hup : ∀ j i a, ioAt ι j i = some a → j ≠ l ∧ ioAt ((l, []) :: ι) j i = some a)
    (hk : k ≠ .vw) (x : Stp F ((l, []) :: ι) H F' ι' H') (s : XSR X F' ι' H' S') (q : Rs X F' ι' H H' d k v) : Post X F ι H r v H' := by
  cases S' with
  | nil => cases h
  | cons rg S'' =>
    replace h : (if rg.1 = l then (match rg.2 with
      | [] => Out.ok (d, k, S'')
      | _ :: _ => if d.lev (l + 1) then .ok (d, k, S'') else .no) else .no) = .ok r := h
    split at h
    · rename_i hl
      cases ι' with
      | nil => have := s.lens; simp at this
      | cons g ι'' =>
        obtain ⟨s2, down, up⟩ := SR.pop s
        have hlen := s.lens
        simp only [List.map_cons, List.cons.injEq, Prod.mk.injEq] at hlen
        have hup' : ∀ j i a, ioAt ι j i = some a → ioAt ι'' j i = some a := fun j i a hj => by
          obtain ⟨h1, h2⟩ := hup j i a hj
          have h3 := x.im j i a h2
          unfold ioAt at h3
          rw [if_neg (by rw [hlen.1.1, hl]; exact h1)] at h3
          exact h3
        have y : Stp F ι H F' ι'' H' := ⟨fun a o h n => x.keep a o h fun z => n (hS a z), x.dom, x.fm, x.fn, hup', fun a ⟨j, i, hj⟩ => by
          rcases x.inn a ⟨j, i, up j i a hj⟩ with z | z
          · exact .inl (hS a z)
          · exact .inr z⟩
        have key : r = (d, k, S'') ∧ ∃ m, d.lev m = true ∧ ∀ j i a, m ≤ j → ioAt (g :: ι'') j i = some a → ioAt ι'' j i = some a := by
          split at h
          · rename_i hr
            cases h
            refine ⟨rfl, 0, lev0 d, fun j i a _ hj => ?_⟩
            unfold ioAt at hj
            split at hj
            · have : g.2 = [] := List.eq_nil_of_length_eq_zero (by rw [hlen.1.2, hr]; rfl)
              rw [this] at hj; simp at hj
            · exact hj
          · split at h
            · rename_i hd
              cases h
              exact ⟨rfl, l + 1, hd, fun j i a hj h => down j i a (by omega) h⟩
            · cases h
        obtain ⟨rfl, m, hm, hr⟩ := key
        refine ⟨F', ι'', y, s2, ?_⟩
        cases k with
        | fz => exact Rep.restr hr hm q
        | fr =>
          obtain ⟨a, rfl, t, nf, ni, hn⟩ := q
          exact ⟨a, rfl, TopB.restr hr hm t, nf, fun ⟨j, i, hj⟩ => ni ⟨j, i, up j i a hj⟩, hn⟩
        | vw => exact absurd rfl hk
    · cases h
theorem slots_start {X : Cx} {F : Addr → Prop} {ι : Io} {H : Hp} {N : List Str} {ds : List D} {vs : List V} {n : Nat} (r : XRepL X F ι H ds vs) : Slots X F ι H H (ds.map (fun d => some (d, false)) ++ List.replicate n none) (L2.start N vs) := by
  have key : ∀ (i : Nat) (d : D) (m : Bool), (ds.map (fun d => some (d, false)) ++ List.replicate n none)[i]? = some (some (d, m)) → m = false ∧ ds[i]? = some d := by
    intro i d m h
    rw [List.getElem?_append] at h
    split at h
    · rw [List.getElem?_map] at h
      obtain ⟨d', hd, e⟩ := Option.map_eq_some_iff.mp h
      cases e
      exact ⟨rfl, hd⟩
    · rw [List.getElem?_replicate] at h
      split at h <;> cases h
  refine ⟨fun i d m h => ?_, fun i j d d' a h _ _ _ => ?_⟩
  · obtain ⟨rfl, hd⟩ := key i d m h
    obtain ⟨v, hv, rv⟩ := r.at_ hd
    refine ⟨v, ?_, rv, fun z => by cases z⟩
    unfold L2.start
    rw [List.getElem?_append_left (by rw [List.length_map]; exact (List.getElem?_eq_some_iff.mp hv).1), List.getElem?_map, hv]
    rfl
  · obtain ⟨e, _⟩ := key i d true h
    cases e
theorem fn_ok {P : Program} {w : World} {K : PySem.W.Frag} {mg : Str → Option Value} {base : Heap} {x qual : Str} {st : Stmt} {f : Addr} {fd : FuncData} {N ps : List Str} {k l : Nat} {C : Cal} {fn : Fn} {dvs : List V} (Fn' : FunD K x qual (defArgs st) (defBody st) (defScope st) dvs [] f fd) (Sc : FnScope N ps (defScope st)) (hnp : fn.np = ps.length)
    (hbody : ∀ (cdv : Value) (A : Around) (outer : List PySem.Env) (s : Shared) (H : Hp) (E : XK), Room k (A.deeper (envOfC qual (defScope st) s.heap.objs.size f cdv)) → GSs (cxOf CX0 P w K mg base N qual (defScope st) f cdv A outer s H E).nox (defBody st) (evSs C fn.body)) :
    FnOk P w K mg base CX0 (k + 1) f fd ps (spC P w K ps.length (runF C l fn)) := by
  refine FunD.ok Fn' Sc (fun vs H Q E h => h.1) fun cdv A outer s H vs Q E hr hsp => ?_
  suffices z : ∃ t, PSs (cxOf CX0 P w K mg base N qual (defScope st) f cdv A outer s H E).nox (defBody st) t ∧ t { nx := fun _ H' => Q .non H', rt := Q } (L2.start N vs) H by
    obtain ⟨t, h, q⟩ := z
    exact ⟨t, h.nox, q⟩
  obtain ⟨hl, ds, S, r, F, ι, hg, rp, sr, q⟩ := hsp
  refine ⟨_, pss_w _, ?_⟩
  unfold runF at hg
  split at hg
  · rename_i hc
    simp only [Bool.and_eq_true, decide_eq_true_eq, List.all_eq_true] at hc
    obtain ⟨fl, h1, hg⟩ := bind_ok hg
    obtain ⟨sr2, up, down⟩ := sr.push hc.2
    have E1 : Ext F ι H F ((l, []) :: ι) H := ⟨fun _ _ _ h => h, fun _ _ h => h, fun _ _ _ h => h, fun _ h => h, up⟩
    have rp2 := RepL.mono E1 rp
    have keys := lens_keys sr.lens
    have hup : ∀ j i a, ioAt ι j i = some a → j ≠ l ∧ ioAt ((l, []) :: ι) j i = some a := fun j i a hj => by
      refine ⟨fun e => ?_, up j i a hj⟩
      have h2 := up j i a hj
      subst e
      unfold ioAt at h2
      simp at h2
    have w1 := hbody cdv A outer s H E hr _ _ fl h1 F ((l, []) :: ι) H F ((l, []) :: ι) (L2.start N vs) H .refl sr2 (slots_start (X := (cxOf CX0 P w K mg base N qual (defScope st) f cdv A outer s H E).nox) rp2)
    refine w1.mono ?_
    have fin : ∀ {d k S' v H'}, k ≠ K3.vw → leave l d k S' = .ok r → (∃ F' ι', Stp F ((l, []) :: ι) H F' ι' H' ∧ XSR (cxOf CX0 P w K mg base N qual (defScope st) f cdv A outer s H E).nox F' ι' H' S' ∧ Rs (cxOf CX0 P w K mg base N qual (defScope st) f cdv A outer s H E).nox F' ι' H H' d k v) → Q v H' := fun {d k S' v H'} hk hlv ⟨F', ι', x, s', q'⟩ => by
      refine q v H' ?_
      have p := leave_ok hlv down hup hk x s' q'
      exact p
    cases fl with
    | nx env' S' => exact ⟨fun σ' H' ⟨F', ι', b, e, s', sl⟩ => fin (by simp) hg ⟨F', ι', b, s', .non⟩, fun _ _ h => h.elim, fun _ _ h => h.elim, fun _ _ h => h.elim⟩
    | rt d k S' => exact ⟨fun _ _ h => h.elim, fun v H' ⟨hk, p⟩ => fin hk hg p, fun _ _ h => h.elim, fun _ _ h => h.elim⟩
    | bk env' S' => cases hg
    | ct env' S' => cases hg
  · cases hg
end Z
end
section
/-! ZW: dict displays; tuple displays taken apart. -/
namespace Z
open PySem L2 PySem.Spec PyProof.Rows
section
variable {X : Cx} {F F' F1 F2 F0 : Addr → Prop} {ι ι' ι1 ι2 ι0 : Io} {H H' H1 H2 H0 : Hp} {S S' : Sto} {σ : L2.St} {pos : Pos} {env env' : Env}
theorem ge_dic1 {k v : Expr} {gk gv : Env → Sto → Out Res} (hk : GE X k gk) (hv : GE X v gv) : GE X (.Dict [some k] [v] pos) fun env S =>
    (gk env S).bind fun r => (kept r).bind fun x => (gv env x.2).bind fun q => (kept q).bind fun y => if x.1.flatKey then .ok (.dic [x.1] [y.1], .fr, y.2) else .no := by
  intro env S r q F ι σ H s se
  obtain ⟨r1, e1, q⟩ := bind_ok q
  obtain ⟨x, e2, q⟩ := bind_ok q
  obtain ⟨r2, e3, q⟩ := bind_ok q
  obtain ⟨y, e4, q⟩ := bind_ok q
  split at q
  · rename_i hf
    cases q
    refine .of (pe_disp (pps_cons (pe_w k) (pe_w v) pps_nil) rfl rfl (by simp) (by simp)) fun p hp => ?_
    have xl : Stp F ι H F ι (upd H p (.dK [])) := .laid hp
    have sl := s.laid (o := .dK []) hp
    refine ((hk env S r1 e1 F ι σ _ sl (se.mono s xl)).kept e2).mono fun kv H1 ⟨F1, ι1, x1, s1, p1⟩ => ?_
    refine ((hv env _ r2 e3 F1 ι1 σ H1 s1 ((se.mono s xl).mono sl x1)).kept e4).mono fun vv H2 ⟨F2, ι2, x2, s2, p2⟩ => ?_
    have x12 := x1.trans x2
    have hp2 : H2 p = some (.dK []) := x12.keep p _ upd_same (s.none_out hp)
    have nf2 : ¬ F2 p := fun f => by
      rcases x12.fn p f with f | f
      · exact s.none_F hp f
      · rw [upd_same] at f; cases f
    have ni2 : ¬ ioIn ι2 p := fun f => by
      rcases x12.inn p f with f | f
      · exact s.none_out hp f
      · rw [upd_same] at f; cases f
    have ek := keyRel hf (Rep.mono (x2.ext s1) p1)
    subst ek
    have mu : Mut (H2 p) := by rw [hp2]; trivial
    have E := Ext.write (ι := ι2) (o := .dK [(keyOf x.1, vv)]) mu nf2
    refine ⟨hp2, [(keyOf x.1, vv)], rfl, by simp, F2, ι2, ?_, s2.write mu nf2 ni2, p, rfl, ?_, nf2, ni2, hp⟩
    · have t := xl.trans x12
      exact ⟨fun a o h n => by
        show upd H2 p _ a = _
        rw [upd_ne (fun e => by rw [e, hp] at h; cases h)]; exact t.keep a o h n, upd_dom t.dom, t.fm, t.fn, t.im, t.inn⟩
    · have ek : [x.1] = [(keyOf x.1, vv)].map (fun p => keyD p.1) := by
        show [x.1] = [keyD (keyOf x.1)]
        rw [keyD_of hf]
      exact top_K (kvs := [(keyOf x.1, vv)]) upd_same ek (.cons (Rep.mono E p2) .nil)
  · cases q
/-! ### a, b, .. = x, y, .. with stores in the tuple's order -/
theorem gs_parN {is : List Nat} {es : List Expr} {tgE : Expr} {k2 : Nat} {p2 : Pos} {gs : Env → Sto → Out (List (D × K3) × Sto)} (hs : swapsWithSole [tgE] (.Tuple es k2 p2) pos.line X.env = pure false) (hw : swappedStores [tgE] (.Tuple es k2 p2) X.env = pure none) (h1 : (assignEach [tgE] X.env).map (·.2) = [assign tgE X.env])
    (hg : PG X tgE (gT X.K (.tu is))) (hi : ∀ i ∈ is, i < X.N.length) (hz : es.length ≤ 1000) (h : wPar X es gs) (hlen : ∀ env S r, gs env S = .ok r → r.1.length = es.length) :
    GS X (.Assign [tgE] (.Tuple es k2 p2) pos) fun env S => (gs env S).bind fun r => (setEs is r.1 env).bind fun env' => .ok (.nx env' r.2) := by
  intro env S f q F0 ι0 H0 F ι σ H b s sl pins sh I
  obtain ⟨r, e1, q⟩ := bind_ok q
  obtain ⟨env', e2, q⟩ := bind_ok q
  cases q
  refine wpS.of (ps_asg (pe_tup (pa_w es)) hg hs hw h1) ?_ pins sh I
  refine (h env S r e1 F ι σ H s sl.se).mono fun vs H1 ⟨F1, ι1, x1, s1, p⟩ => ?_
  have hvl : vs.length = r.1.length := by
    have : ∀ {rs : List (D × K3)} {vs : List V}, ParOk X F1 ι1 H H1 rs vs → vs.length = rs.length := by
      intro rs
      induction rs with
      | nil => intro vs h; cases vs with
        | nil => rfl
        | cons => exact h.elim
      | cons r rs ih => intro vs h; cases vs with
        | nil => exact h.elim
        | cons v vs => simp [ih h.2.2]
    exact this p
  refine ⟨by rw [hvl, hlen env S r e1, line_eq]; have : line = 16777216 := rfl; omega, fun pt hpt => ?_⟩
  have xl : Stp F1 ι1 H1 F1 ι1 (upd H1 pt (.tup vs)) := .laid hpt
  have p' : ParOk X F1 ι1 H (upd H1 pt (.tup vs)) r.1 vs := by
    have : ∀ {rs : List (D × K3)} {vs' : List V}, ParOk X F1 ι1 H H1 rs vs' → ParOk X F1 ι1 H (upd H1 pt (.tup vs)) rs vs' := by
      intro rs
      induction rs with
      | nil => intro vs h; cases vs with
        | nil => trivial
        | cons => exact h.elim
      | cons r rs ih => intro vs h; cases vs with
        | nil => exact h.elim
        | cons v vs => exact ⟨h.1.later s1 xl, h.2.1, ih h.2.2⟩
    exact this p
  obtain ⟨hl, st⟩ := par_sta e2 b s sl (fun k hk => by rw [I.len]; exact hi k hk) (x1.trans xl) (s1.laid hpt) p'
  exact ⟨pt, vs, rfl, .inl (SqT.of upd_same), hl.symm, gSets_ok is vs σ hl st⟩
end
/-! ### the order of the stores, told off the text -/
def isStar : Expr → Bool
  | .Starred .. => true
  | _ => false
def swNames (sc : Scope) (line : Nat) : List Expr → List Str := fun ts => ts.filterMap fun
    | .Name id pos => if sc.names.lookup id == some .local && pos.line == line then some id else none
    | _ => none
def swP (sc : Scope) (ts vs : List Expr) : Option (Option (List Str)) :=
  if !(ts.length == 2 || ts.length == 3) || vs.length != ts.length then some none
  else if vs.any isStar then some none
  else if (swNames sc ((ts.head?.map (·.pos.line)).getD 0) ts).length != ts.length || (swNames sc ((ts.head?.map (·.pos.line)).getD 0) ts).eraseDups.length != (swNames sc ((ts.head?.map (·.pos.line)).getD 0) ts).length then some none
  else if vs.all (foldedForSure 8) then some none
  else if vs.all (constantsAlone 8) then none
  else some (some (swNames sc ((ts.head?.map (·.pos.line)).getD 0) ts))
theorem swP_ok {ts vs : List Expr} {kt k2 : Nat} {pt p2 : Pos} {env : PySem.Env} {r : Option (List Str)} (hk : env.scope.kind = .function) (h : swP env.scope ts vs = some r) : swappedStores [.Tuple ts kt pt] (.Tuple vs k2 p2) env = pure r := by
  have hb : env.blockKind = .function := by unfold PySem.Env.blockKind; rw [hk]; rfl
  have hb2 : (env.blockKind != .function) = false := by rw [hb]; rfl
  have hst : (vs.any fun | .Starred .. => true | _ => false) = vs.any isStar := by
    congr 1
  have hn : (ts.filterMap fun
    | .Name id pos => if env.kindOf id == some .local && pos.line == (ts.head?.map (·.pos.line)).getD 0 then some id else none
    | _ => none) = swNames env.scope ((ts.head?.map (·.pos.line)).getD 0) ts := rfl
  unfold swP at h
  unfold swappedStores
  simp only [hb2, Bool.or_false, pure_bind]
  by_cases h1 : (!(ts.length == 2 || ts.length == 3) || vs.length != ts.length) = true
  · rw [if_pos h1] at h
    cases h
    exact if_pos h1
  · rw [if_neg h1] at h
    refine (if_neg h1).trans ?_
    by_cases h2 : vs.any isStar = true
    · rw [if_pos h2] at h
      cases h
      exact if_pos h2
    · rw [if_neg h2] at h
      refine (if_neg h2).trans ?_
      by_cases h3 : ((swNames env.scope ((ts.head?.map (·.pos.line)).getD 0) ts).length != ts.length || (swNames env.scope ((ts.head?.map (·.pos.line)).getD 0) ts).eraseDups.length != (swNames env.scope ((ts.head?.map (·.pos.line)).getD 0) ts).length) = true
      · rw [if_pos h3] at h
        cases h
        exact if_pos h3
      · rw [if_neg h3] at h
        refine (if_neg h3).trans ?_
        by_cases h4 : vs.all (foldedForSure 8) = true
        · rw [if_pos h4] at h
          cases h
          exact if_pos h4
        · rw [if_neg h4] at h
          refine (if_neg h4).trans ?_
          by_cases h5 : vs.all (constantsAlone 8) = true
          · rw [if_pos h5] at h
            cases h
          · rw [if_neg h5] at h
            cases h
            exact if_neg h5
end Z
end
section
/-! ZX: expressions told off the text. -/
namespace Z
open PySem L2 PySem.Spec PyProof.Rows
/-- what is known of a text when it is read -/
structure Cc where
  N : List Str
  sc : Scope
  fn : Str → Bool
  fns : List (Str × Nat × Nat × List (List Str))
  blt : List Str
  cis : List (Str × D)
  dfl : List (Str × List D)
  sh : List Str
def Cc.blk (c : Cc) (scope : Scope) : Cc := { c with sc := relS scope c.sc, fn := fun x => scope.names.lookup x == some .cell }
def Cc.df (c : Cc) (x : Str) : List D := (c.dfl.lookup x).getD []
def dbgB (x : Str) : Bool := x == ("__debug__" : Str) || x == ("__classdict__" : Str) || x == ("__name__" : Str)
def slotOf (c : Cc) (x : Str) : Option Nat := match c.N.findIdx? (· == x) with
  | some i => if c.N[i]? = some x then some i else none
  | none => none
def visB (sc : Scope) (x : Str) : Bool := match sc.names.lookup x with
  | some .local | some .cell | some .free => true
  | _ => false
def glB (sc : Scope) (x : Str) : Bool := match sc.names.lookup x with
  | some .globalImplicit => true
  | _ => false
def locB (c : Cc) (x : Str) : Bool := match c.sc.names.lookup x with
  | some .local => true
  | some .cell => c.fn x
  | _ => false
theorem slotOf_ok {c : Cc} {x : Str} {i : Nat} (h : slotOf c x = some i) : c.N[i]? = some x := by
  unfold slotOf at h
  split at h
  · split at h
    · cases h; assumption
    · cases h
  · cases h
theorem visB_ok {sc : Scope} {x : Str} (h : visB sc x = true) : Vis sc x := by
  unfold visB at h
  split at h
  · exact .inl (by assumption)
  · exact .inr (.inl (by assumption))
  · exact .inr (.inr (by assumption))
  · cases h
theorem glB_ok {sc : Scope} {x : Str} (h : glB sc x = true) : sc.names.lookup x = some .globalImplicit := by
  unfold glB at h
  split at h
  · assumption
  · cases h
theorem dbgB_ok {x : Str} (h : dbgB x = false) : (x == ("__debug__" : Str)) = false ∧ (x == ("__classdict__" : Str)) = false ∧ x ≠ "__name__" := by
  unfold dbgB at h
  simp only [Bool.or_eq_false_iff] at h
  exact ⟨h.1.1, h.1.2, fun e => by subst e; simp at h⟩
def bopOf : Operator → Option BOp
  | .Add => some .add
  | .Sub => some .sub
  | .Mult => some .mul
  | .FloorDiv => some .fdiv
  | .Mod => some .mod
  | .Pow => some .pow
  | _ => none
def copOf : CmpOp → COp
  | .Eq => .eq | .NotEq => .ne | .Lt => .lt | .LtE => .le | .Gt => .gt | .GtE => .ge | .Is => .is | .IsNot => .isn | .In => .inn | .NotIn => .nin
def cstOf : Const → Option D
  | .none => some .non
  | .bool b => some (.bl b)
  | .int i => some (.int i)
  | .str x => some (.str x)
  | _ => none
def p1T (x : Str) : Option (P1 × Bool) :=
  if x = "len" then some (.len, false) else if x = "int" then some (.int, true) else if x = "abs" then some (.abs, false) else if x = "tuple" then some (.tuple, true) else if x = "list" then some (.list, true)
  else if x = "sorted" then some (.sorted, false) else if x = "any" then some (.any, false) else if x = "all" then some (.all, false) else if x = "sum" then some (.sum, false) else if x = "max" then some (.max, false) else if x = "min" then some (.min, false) else if x = "dict" then some (.dict, true) else none
def p2T (x : Str) : Option P2 := if x = "max" then some .max else if x = "min" then some .min else none
def tyT (x : Str) : Option Ty := if x = "tuple" then some .tuple else if x = "int" then some .int else if x = "bool" then some .bool else if x = "str" then some .str else if x = "list" then some .list else none
def plainIxB : Expr → Bool
  | .Name .. | .Constant .. | .BinOp .. | .Call .. | .Subscript .. | .IfExp .. | .UnaryOp .. => true
  | _ => false
def plainTB : Expr → Bool
  | .Name .. | .Constant .. | .BinOp .. | .Call .. | .Subscript .. | .List .. | .Tuple .. | .ListComp .. => true
  | _ => false
def isSetB : Expr → Bool
  | .Set .. => true
  | _ => false
def isTupB : Expr → Bool
  | .Tuple .. => true
  | _ => false
def baseB : Expr → Bool
  | .Call .. => false
  | _ => true
def compNm (c : Cc) : Expr → Option Nat
  | .Name x _ => if locB c x then slotOf c x else none
  | _ => none
def compNms (c : Cc) : List Expr → Option (List Nat)
  | [] => some []
  | e :: es => match compNm c e, compNms c es with
    | some i, some is => some (i :: is)
    | _, _ => none
def compTg (c : Cc) : Expr → Option Tg
  | .Name x p => (compNm c (.Name x p)).map .nm
  | .Tuple es _ _ => (compNms c es).map .tu
  | _ => none
def ownOf (c : Cc) (scope : Scope) : List (Str × Nat) := scope.names.filterMap fun y => match y.2 with
  | .local | .cell => (slotOf c y.1).map fun i => (y.1, i)
  | _ => none
def kwNames (kws : List Keyword) : List Str := kws.filterMap (·.arg)

/-- range, enumerate, zip? -/
def itK (c : Cc) (tup : Bool) : Expr → Nat
  | .Call (.Name x _) es [] _ => if dbgB x || !glB c.sc x || !c.blt.contains x || (c.fns.lookup x).isSome || es.any isStar then 0
    else if x = "range" then 1 else if tup && decide (x = "enumerate") then 2 else if tup && decide (x = "zip") then 3 else 0
  | _ => 0
mutual
def compE : Nat → Cc → Expr → Option E
  | 0, _, _ => none
  | n + 1, c, e => match e with
    | .Constant v _ _ => (cstOf v).map .cst
    | .Name x _ => if dbgB x then none else match slotOf c x with
      | some i => if visB c.sc x then some (.var i) else none
      | none => if glB c.sc x then (c.cis.lookup x).map fun d => .cst d else none
    | .Tuple es _ _ => (compEs n c es).map .tup
    | .List es _ => (compEs n c es).map .lst
    | .Dict ks vs _ => match ks, vs with
      | [], [] => some .dic0
      | [some k], [v] => match compE n c k, compE n c v with
        | some a, some b => some (.dic1 a b)
        | _, _ => none
      | _, _ => none
    | .BinOp a op b _ => match bopOf op, compE n c a, compE n c b with
      | some o, some x, some y => some (.bin o x y)
      | _, _, _ => none
    | .UnaryOp op a _ => match op with
      | .USub => (compE n c a).map .neg
      | .Not => (compE n c a).map .notv
      | _ => none
    | .BoolOp op vs _ => compV n c op vs
    | .Compare a ops bs _ => match ops, bs with
      | [op], [b] => if behindInMarks op b then none else match compE n c a, compE n c b with
        | some x, some y => some (.cmp (copOf op) x y)
        | _, _ => none
      | _, _ => none
    | .IfExp t a b _ => match compT n c t, compE n c a, compE n c b with
      | some x, some y, some z => some (.ifx x y z)
      | _, _, _ => none
    | .Subscript a b _ => match b with
      | .Slice lo hi st _ => match st with
        | none => match compE n c a, compO n c lo, compO n c hi with
          | some x, some l, some h => some (.cut x l h)
          | _, _, _ => none
        | some _ => none
      | b => if plainIxB b then match compE n c a, compE n c b with
        | some x, some y => some (.idx x y)
        | _, _ => none else none
    | .Call f es kws cpos => match f with
      | .Name x _ => if dbgB x || !glB c.sc x then none else match c.fns.lookup x with
        | some (i, ar, kwl) => if es.any isStar || es.length + kws.length != ar then (if es.any isStar || !kws.isEmpty || decide (ar < es.length) || decide ((c.df x).length < ar - es.length) then none else (compEs n c es).map fun a => .call i (a ++ ((c.df x).drop ((c.df x).length - (ar - es.length))).map .cst)) else match kws with
          | [] => (compEs n c es).map (.call i)
          | kw :: kwr => if (kw :: kwr).all (fun q => q.arg.isSome) && kwl.contains (kwNames (kw :: kwr)) then match compEs n c es, compKs n c (kw :: kwr) with
            | some a, some b => some (.call i (a ++ b))
            | _, _ => none else none
        | none => if !c.blt.contains x || !kws.isEmpty || es.any isStar then none else match es with
          | [a] => match p1T x, compE n c a with
            | some p, some y => some (.p1 p.1 y)
            | _, _ => none
          | [a, b] => if x = "isinstance" then match b with
              | .Name y _ => if dbgB y || !glB c.sc y || !c.blt.contains y || (c.fns.lookup y).isSome then none else match tyT y, compE n c a with
                | some t, some z => some (.isa t z)
                | _, _ => none
              | _ => none
            else match p2T x, compE n c a, compE n c b with
              | some p, some y, some z => some (.p2 p y z)
              | _, _, _ => none
          | _ => none
      | .Attribute a m apos => if m = "index" && kws.isEmpty && baseB a && (apos.endLine == cpos.line) && !es.any isStar then match es with
        | [b] => match compE n c a, compE n c b with
          | some x, some y => some (.index x y)
          | _, _ => none
        | _ => none else none
      | _ => none
    | .ListComp elt gs scope _ => match gs with
      | [⟨tg, iter, ifs, as⟩] => if as = 0 && blkC c.N c.sc scope (ownOf c scope) && !isSetB iter then match compTg (c.blk scope) tg, compIt n c (isTupB tg) iter, compTo n (c.blk scope) ifs, compE n (c.blk scope) elt with
        | some t, some it, some f, some x => if t.ix.all (fun i => decide (i ∈ (ownOf c scope).map (·.2))) then some (.comp x t it f ((ownOf c scope).map (·.2))) else none
        | _, _, _, _ => none else none
      | _ => none
    | _ => none
def compEs : Nat → Cc → List Expr → Option (List E)
  | 0, _, _ => none
  | n + 1, c, es => match es with
    | [] => some []
    | e :: es => if isStar e then none else match compE n c e, compEs n c es with
      | some x, some xs => some (x :: xs)
      | _, _ => none
def compKs : Nat → Cc → List Keyword → Option (List E)
  | 0, _, _ => none
  | n + 1, c, es => match es with
    | [] => some []
    | e :: es => match compE n c e.value, compKs n c es with
      | some x, some xs => some (x :: xs)
      | _, _ => none
def compO : Nat → Cc → Option Expr → Option (Option E)
  | 0, _, _ => none
  | n + 1, c, e => match e with
    | none => some none
    | some e => (compE n c e).map some
def compV : Nat → Cc → BoolOp → List Expr → Option E
  | 0, _, _, _ => none
  | n + 1, c, op, es => match es with
    | [] => none
    | [a] => compE n c a
    | a :: b :: rest => match compE n c a, compV n c op (b :: rest) with
      | some x, some y => some (match op with | .And => .andv x y | .Or => .orv x y)
      | _, _ => none
def compT : Nat → Cc → Expr → Option T
  | 0, _, _ => none
  | n + 1, c, e => match e with
    | .UnaryOp op a _ => match op with
      | .Not => (compT n c a).map .not
      | _ => none
    | .BoolOp op vs _ => compW n c op vs
    | .Compare a ops bs _ => match ops, bs with
      | [op], [b] => if behindInMarks op b then none else match compE n c a, compE n c b with
        | some x, some y => some (.cmp (copOf op) x y)
        | _, _ => none
      | _, _ => none
    | .IfExp t a b _ => match compT n c t, compT n c a, compT n c b with
      | some x, some y, some z => some (.ifx x y z)
      | _, _, _ => none
    | e => if plainTB e then (compE n c e).map .val else none
def compW : Nat → Cc → BoolOp → List Expr → Option T
  | 0, _, _, _ => none
  | n + 1, c, op, es => match es with
    | [] => none
    | [a] => compT n c a
    | a :: b :: rest => match compT n c a, compW n c op (b :: rest) with
      | some x, some y => some (match op with | .And => .and x y | .Or => .or x y)
      | _, _ => none
def compTo : Nat → Cc → List Expr → Option (Option T)
  | 0, _, _ => none
  | n + 1, c, es => match es with
    | [] => some none
    | [t] => (compT n c t).map some
    | _ => none
def compIt : Nat → Cc → Bool → Expr → Option It
  | 0, _, _, _ => none
  | n + 1, c, tup, e => match itK c tup e with
    | 1 => match e with
      | .Call _ es _ _ => match es with
        | [a] => (compE n c a).map fun x => .rng (.cst (.int 0)) x
        | [a, b] => match compE n c a, compE n c b with
          | some x, some y => some (.rng x y)
          | _, _ => none
        | _ => none
      | _ => none
    | 2 => match e with
      | .Call _ es _ _ => match es with
        | [a] => (compE n c a).map .enum
        | _ => none
      | _ => none
    | 3 => match e with
      | .Call _ es _ _ => match es with
        | [a, b] => match compE n c a, compE n c b with
          | some x, some y => some (.zip x y)
          | _, _ => none
        | _ => none
      | _ => none
    | _ => (compE n c e).map .seq
end
end Z
end
section
/-! ZY: what is told off the text is what runs: expressions. -/
namespace Z
open PySem L2 PySem.Spec PyProof.Rows
/-- a def that may be called -/
def CallF (P : Program) (w : World) (K : PySem.W.Frag) (mg : Str → Option Value) (base : Heap) (k : Nat) (x : Str) (n : Nat) (kwl : List (List Str)) (dd : List D) (g : List D → Sto → Out Res) : Prop :=
  ∃ f fd ps, mg x = some (.ref f) ∧ PySem.W.keepIn K (.ref f) = true ∧ Binds K fd ps [] ∧ (∀ ks ∈ kwl, KBinds K fd ps ks (kG ks.length) (kG ks.length)) ∧ FnOk P w K mg base CX0 k f fd ps (spC P w K n g) ∧ ∀ j, j < dd.length → ∃ us vs, Binds K fd ps us ∧ Vals vs us ∧ ∀ F ι H, RepL P w K F ι H (dd.drop j) vs
structure Rt (c : Cc) (C : Cal) (k : Nat) (X : Cx) : Prop where
  N : X.N = c.N
  nd : X.N.Nodup
  calm : X.calm = true
  room : Room k X.A
  sc : X.env.scope = c.sc
  kind : c.sc.kind = .function
  fn : X.fn = c.fn
  blt : ∀ x ∈ c.blt, X.mg x = none
  cis : ∀ x d, c.cis.lookup x = some d → ∃ u v, X.mg x = some u ∧ RelV v u ∧ ∀ F ι H, XRep X F ι H d v
  fns : ∀ x i n kwl, c.fns.lookup x = some (i, n, kwl) → CallF X.prog X.w X.K X.mg X.base k x n kwl (c.df x) (C i)
section
variable {c : Cc} {C : Cal} {k : Nat} {X : Cx}
theorem Rt.vis (R : Rt c C k X) {x : Str} (h : visB c.sc x = true) : Vis X.env.scope x := by rw [R.sc]; exact visB_ok h
theorem Rt.gl (R : Rt c C k X) {x : Str} (h : glB c.sc x = true) : Gl X x := by
  show X.env.scope.names.lookup x = some .globalImplicit
  rw [R.sc]; exact glB_ok h
theorem Rt.slot (R : Rt c C k X) {x : Str} {i : Nat} (h : slotOf c x = some i) : X.N[i]? = some x := by rw [R.N]; exact slotOf_ok h
theorem Rt.loc (R : Rt c C k X) {x : Str} (h : locB c x = true) : Loc X.env.scope x ∧ (X.fn x = true ∨ X.env.scope.names.lookup x = some .local) := by
  rw [R.sc, R.fn]
  unfold locB at h
  split at h
  · exact ⟨.inl (by assumption), .inr (by assumption)⟩
  · exact ⟨.inr (by assumption), .inl h⟩
  · cases h
theorem Rt.blk (R : Rt c C k X) {scope : Scope} (hk : scope.kind = .function) (s0 : Shared) (H0 : Hp) (Ca : Addr) (cl : List (Str × Addr)) (fp : List Addr) : Rt (c.blk scope) C k (Bk X scope s0 H0 Ca cl fp) where
  N := R.N
  nd := R.nd
  calm := R.calm
  room := R.room
  sc := by
    show relS scope X.env.scope = relS scope c.sc
    rw [R.sc]
  kind := hk
  fn := rfl
  blt := R.blt
  cis := R.cis
  fns := R.fns
theorem isStar_ok {e : Expr} {es : List Expr} {env : PySem.Env} (h : isStar e = false) : starEach (e :: es) env = (false, eval e env) :: starEach es env := by
  cases e <;> first | rfl | cases h
theorem star_any {es : List Expr} {env : PySem.Env} {pos : Pos} (h : es.any isStar = false) : (backTo pos (starEach es env)).any (·.1) = false := by
  induction es with
  | nil => rfl
  | cons e es ih =>
    simp only [List.any_cons, Bool.or_eq_false_iff] at h
    rw [isStar_ok h.1]
    show (false || (backTo pos (starEach es env)).any (·.1)) = false
    rw [ih h.2]; rfl
theorem plainIx_ok {b : Expr} (h : plainIxB b = true) : PlainIx b := by
  cases b <;> first | exact fun _ _ => rfl | cases h
theorem plainT_ok {e : Expr} (h : plainTB e = true) (env : PySem.Env) : ∀ whole, isTrue e env whole = (do let v ← whole; standAt e.pos; holding [v] (truthy v)) := by
  cases e <;> first | exact fun _ => rfl | cases h
theorem set_ok {e : Expr} (h : isSetB e = false) (env : PySem.Env) : ∀ x, foldedSetIterable e env x = pure x := by
  cases e <;> first | exact fun _ => rfl | cases h
theorem base_ok {e : Expr} {m : Str} {env : PySem.Env} {whole : Sem Value} (h : baseB e = true) : attributeBase e m env whole = whole := by
  cases e <;> first | rfl | cases h
theorem cs_op (hr : Room k X.A) : ∀ op : CmpOp, CmpS X (compareOp op) (cmpO (copOf op))
  | .Eq => cs_eq hr
  | .NotEq => cs_ne hr
  | .Lt => cs_lt
  | .LtE => cs_le
  | .Gt => cs_gt
  | .GtE => cs_ge
  | .Is => cs_is
  | .IsNot => cs_isn
  | .In => fun a b d h F ι H S x y s ca cb => by
    cases b with
    | lst ds => exact in_seq hr false (.inl ⟨ds, rfl⟩) h ca cb
    | tup ds => exact in_seq hr false (.inr ⟨ds, rfl⟩) h ca cb
    | dic ks vs =>
      have hk : dicOk a ks = true := by
        have h' : (if dicOk a ks then Out.ok (dGet a ks vs).isSome else .no) = .ok d := h
        split at h'
        · assumption
        · cases h'
      exact dic_in hr false rfl h (cv_key hk ca) cb
    | _ => cases h
  | .NotIn => fun a b d h F ι H S x y s ca cb => by
    have h' : (inO a b).bind (fun c => .ok (!c)) = .ok d := h
    obtain ⟨d', h1, h2⟩ := bind_ok h'
    cases h2
    cases b with
    | lst ds => exact in_seq hr true (.inl ⟨ds, rfl⟩) h1 ca cb
    | tup ds => exact in_seq hr true (.inr ⟨ds, rfl⟩) h1 ca cb
    | dic ks vs =>
      have hk : dicOk a ks = true := by
        have h' : (if dicOk a ks then Out.ok (dGet a ks vs).isSome else .no) = .ok d' := h1
        split at h'
        · assumption
        · cases h'
      exact dic_in hr true rfl h1 (cv_key hk ca) cb
    | _ => cases h1
theorem bop_ok {op : Operator} {o : BOp} (h : bopOf op = some o) : OpS X (binaryOp op) (binO o) := by
  cases op <;> first | (cases h; done) | (cases h; first | exact ops_add | exact ops_sub | exact ops_mul | exact ops_fdiv | exact ops_mod | exact ops_pow)
theorem ge_const {v : Const} {d : D} {n : Nat} {pos : Pos} (h : cstOf v = some d) : GE X (.Constant v n pos) fun _ S => .ok (d, .fz, S) := by
  cases v <;> first | (cases h; done) | (cases h; first | exact ge_cst pe_non fun _ _ _ => .non | exact ge_cst pe_bl fun _ _ _ => .bl _ | exact ge_cst pe_int fun _ _ _ => .int _ | exact ge_cst pe_str fun _ _ _ => .str _)
theorem ite_some {α : Type} {c : Prop} [Decidable c] {a r : α} {b : Option α} (h : (if c then some a else b) = some r) : (c ∧ a = r) ∨ b = some r := by
  by_cases e : c
  · rw [if_pos e] at h; exact .inl ⟨e, Option.some.inj h⟩
  · rw [if_neg e] at h; exact .inr h
def P1ok (X : Cx) (p : P1) (x : Str) : Prop := (∃ id, CallS X (.builtin id) (p1O p) ∧ bootBuiltins x = some (.builtin id)) ∨ ∃ T, CallS X (.type T) (p1O p) ∧ bootBuiltins x = some (.type T)
theorem p1T_ok (hc : X.calm = true) (hr : Room k X.A) {x : Str} {p : P1 × Bool} (h : p1T x = some p) : P1ok X p.1 x := by
  unfold p1T at h
  rcases ite_some h with ⟨e, e2⟩ | h
  · subst e e2; exact .inl ⟨_, p1_len, boot_len⟩
  rcases ite_some h with ⟨e, e2⟩ | h
  · subst e e2; exact .inr ⟨_, p1_int, boot_int⟩
  rcases ite_some h with ⟨e, e2⟩ | h
  · subst e e2; exact .inl ⟨_, p1_abs, boot_abs⟩
  rcases ite_some h with ⟨e, e2⟩ | h
  · subst e e2; exact .inr ⟨_, p1_tuple, boot_tuple⟩
  rcases ite_some h with ⟨e, e2⟩ | h
  · subst e e2; exact .inr ⟨_, p1_list hc, boot_list⟩
  rcases ite_some h with ⟨e, e2⟩ | h
  · subst e e2; exact .inl ⟨_, p1_sorted hr, boot_sorted⟩
  rcases ite_some h with ⟨e, e2⟩ | h
  · subst e e2; exact .inl ⟨_, p1_any hc, boot_any⟩
  rcases ite_some h with ⟨e, e2⟩ | h
  · subst e e2; exact .inl ⟨_, p1_all hc, boot_all⟩
  rcases ite_some h with ⟨e, e2⟩ | h
  · subst e e2; exact .inl ⟨_, p1_sum hc, boot_sum⟩
  rcases ite_some h with ⟨e, e2⟩ | h
  · subst e e2; exact .inl ⟨_, p1_max hc, boot_max⟩
  rcases ite_some h with ⟨e, e2⟩ | h
  · subst e e2; exact .inl ⟨_, p1_min hc, boot_min⟩
  rcases ite_some h with ⟨e, e2⟩ | h
  · subst e e2; exact .inr ⟨_, p1_dict hc hr, PyProof.Rows.boot_dict⟩
  · cases h
theorem p2T_ok (hc : X.calm = true) {x : Str} {p : P2} (h : p2T x = some p) : ∃ id, Call2S X (.builtin id) (p2O p) ∧ bootBuiltins x = some (.builtin id) := by
  unfold p2T at h
  rcases ite_some h with ⟨e, e2⟩ | h
  · subst e e2; exact ⟨_, p2_max hc, boot_max⟩
  rcases ite_some h with ⟨e, e2⟩ | h
  · subst e e2; exact ⟨_, p2_min hc, boot_min⟩
  · cases h
theorem tyT_ok {x : Str} {t : Ty} (h : tyT x = some t) : bootBuiltins x = some (.type t.name) := by
  unfold tyT at h
  rcases ite_some h with ⟨e, e2⟩ | h
  · subst e e2; exact boot_tuple
  rcases ite_some h with ⟨e, e2⟩ | h
  · subst e e2; exact boot_int
  rcases ite_some h with ⟨e, e2⟩ | h
  · subst e e2; exact boot_bool
  rcases ite_some h with ⟨e, e2⟩ | h
  · subst e e2; exact boot_str
  rcases ite_some h with ⟨e, e2⟩ | h
  · subst e e2; exact boot_list
  · cases h
/-! ### targets -/
theorem compNm_ok (R : Rt c C k X) {e : Expr} {i : Nat} (h : compNm c e = some i) : (∃ x p, e = .Name x p ∧ X.N[i]? = some x ∧ Loc X.env.scope x ∧ (X.fn x = true ∨ X.env.scope.names.lookup x = some .local)) := by
  cases e with
  | Name x p =>
    simp only [compNm] at h
    split at h
    · rename_i hl
      exact ⟨x, p, rfl, R.slot h, R.loc hl⟩
    · cases h
  | _ => cases h
theorem compNms_ok (R : Rt c C k X) : ∀ {es : List Expr} {is : List Nat}, compNms c es = some is → PGs X es (gSets is) ∧ (assignEach es X.env).length = is.length ∧ (assignEach es X.env).findIdx? (·.1) = none ∧ ∀ i ∈ is, i < X.N.length
  | [], is, h => by cases h; exact ⟨pgs_nil, rfl, rfl, fun _ h => by simp at h⟩
  | e :: es, is, h => by
    simp only [compNms] at h
    split at h
    · rename_i i is' h1 h2
      cases h
      obtain ⟨x, p, rfl, hi, hl, hf⟩ := compNm_ok R h1
      obtain ⟨q1, q2, q3, q4⟩ := compNms_ok R h2
      refine ⟨pgs_cons (pg_name R.nd hi hl hf) q1 rfl, ?_, ?_, fun j hj => ?_⟩
      · show (assignEach es X.env).length + 1 = _
        rw [q2]; rfl
      · show ((false, assign (.Name x p) X.env) :: assignEach es X.env).findIdx? (·.1) = none
        rw [List.findIdx?_cons]
        simp [q3]
      · rcases List.mem_cons.mp hj with rfl | hj
        · exact (List.getElem?_eq_some_iff.mp hi).1
        · exact q4 j hj
    · cases h
theorem compTg_ok (R : Rt c C k X) {e : Expr} {t : Tg} (h : compTg c e = some t) : PG X e (gT X.K t) ∧ (∀ i ∈ t.ix, i < X.N.length) ∧ (assignEach [e] X.env).map (·.2) = [assign e X.env] := by
  cases e with
  | Name x p =>
    obtain ⟨i, h1, rfl⟩ := Option.map_eq_some_iff.mp h
    obtain ⟨y, q, e, hi, hl, hf⟩ := compNm_ok R h1
    cases e
    exact ⟨pg_name R.nd hi hl hf, fun j hj => by simp [Tg.ix] at hj; subst hj; exact (List.getElem?_eq_some_iff.mp hi).1, rfl⟩
  | Tuple es n p =>
    obtain ⟨is, h1, rfl⟩ := Option.map_eq_some_iff.mp h
    obtain ⟨q1, q2, q3, q4⟩ := compNms_ok R h1
    exact ⟨pg_sq R.calm q1 q2 q3, q4, rfl⟩
  | _ => cases h
theorem bind_assoc' {α β γ : Type} (x : Out α) (f : α → Out β) (g : β → Out γ) : (x.bind f).bind g = x.bind fun a => (f a).bind g := by cases x <;> rfl
theorem bind_congr {α β : Type} {x : Out α} {f g : α → Out β} (h : ∀ a, f a = g a) : x.bind f = x.bind g := by
  cases x with
  | ok a => exact h a
  | _ => rfl
theorem evEs_append {env : Env} : ∀ (as bs : List E) (S : Sto), evEs C (as ++ bs) env S = (evEs C as env S).bind fun r => (evEs C bs env r.2).bind fun q => .ok (r.1 ++ q.1, q.2)
  | [], bs, S => by
    show evEs C bs env S = (evEs C bs env S).bind fun q => .ok (q.1, q.2)
    cases evEs C bs env S <;> rfl
  | a :: as, bs, S => by
    have e1 : evEs C (a :: as ++ bs) env S = (evE C a env S).bind fun r => (kept r).bind fun y => (evEs C (as ++ bs) env y.2).bind fun q => .ok (y.1 :: q.1, q.2) := rfl
    have e2 : evEs C (a :: as) env S = (evE C a env S).bind fun r => (kept r).bind fun y => (evEs C as env y.2).bind fun q => .ok (y.1 :: q.1, q.2) := rfl
    rw [e1, e2, bind_assoc']
    refine bind_congr fun r => ?_
    rw [bind_assoc']
    refine bind_congr fun y => ?_
    rw [evEs_append as bs y.2, bind_assoc', bind_assoc']
    refine bind_congr fun q => ?_
    show ((evEs C bs env q.2).bind _).bind _ = (evEs C bs env q.2).bind _
    rw [bind_assoc']
    refine bind_congr fun z => rfl
theorem evEs_len {env : Env} : ∀ {es : List E} {S : Sto} {r : List D × Sto}, evEs C es env S = .ok r → r.1.length = es.length
  | [], S, r, h => by cases h; rfl
  | e :: es, S, r, h => by
    replace h : ((evE C e env S).bind fun r => (kept r).bind fun y => (evEs C es env y.2).bind fun q => .ok (y.1 :: q.1, q.2)) = .ok r := h
    obtain ⟨r1, h1, h⟩ := bind_ok h
    obtain ⟨y, h2, h⟩ := bind_ok h
    obtain ⟨q, h3, h⟩ := bind_ok h
    cases h
    simp [evEs_len h3]
theorem kw_len {kws : List Keyword} (h : kws.all (fun q => q.arg.isSome) = true) : (kwNames kws).length = kws.length := by
  induction kws with
  | nil => rfl
  | cons q kws ih =>
    simp only [List.all_cons, Bool.and_eq_true] at h
    obtain ⟨nm, e, p⟩ := q
    cases nm with
    | none => simp at h
    | some nm =>
      show (nm :: kwNames kws).length = _
      simp [ih h.2]
theorem kw_all {kws : List Keyword} {env : PySem.Env} {pos : Pos} (h : kws.all (fun q => q.arg.isSome) = true) : (backToKw pos (keywordEach kws env)).all (·.1.isSome) = true ∧ (backToKw pos (keywordEach kws env)).filterMap (·.1) = kwNames kws ∧ (backToKw pos (keywordEach kws env)).any (·.1.isNone) = false := by
  induction kws with
  | nil => exact ⟨rfl, rfl, rfl⟩
  | cons q kws ih =>
    simp only [List.all_cons, Bool.and_eq_true] at h
    obtain ⟨i1, i2, i3⟩ := ih h.2
    obtain ⟨nm, e, p⟩ := q
    cases nm with
    | none => simp at h
    | some nm =>
      refine ⟨?_, ?_, ?_⟩
      · show (true && (backToKw pos (keywordEach kws env)).all (·.1.isSome)) = true
        rw [i1]; rfl
      · show nm :: (backToKw pos (keywordEach kws env)).filterMap (·.1) = nm :: kwNames kws
        rw [i2]
      · show (false || (backToKw pos (keywordEach kws env)).any (·.1.isNone)) = false
        rw [i3]; rfl
end
end Z
end
section
/-! ZZ: what is told off the text is what runs. -/
namespace Z
open PySem L2 PySem.Spec PyProof.Rows
structure CO (C : Cal) (n : Nat) : Prop where
  e : ∀ c x g k X, compE n c x = some g → Rt c C k X → GE X x (evE C g)
  es : ∀ c xs gs k X, compEs n c xs = some gs → Rt c C k X → GA X xs (evEs C gs) ∧ gs.length = xs.length
  ks : ∀ c xs gs k X, compKs n c xs = some gs → Rt c C k X → GKw X xs (evEs C gs) ∧ gs.length = xs.length
  o : ∀ c x g k X, compO n c x = some g → Rt c C k X → GO X x (evO C g)
  v : ∀ c op xs g k X pos, compV n c op xs = some g → Rt c C k X → GE X (.BoolOp op xs pos) (evE C g)
  t : ∀ c x g k X, compT n c x = some g → Rt c C k X → GT X x (evT C g)
  w : ∀ c op xs g k X pos, compW n c op xs = some g → Rt c C k X → GW X (.BoolOp op xs pos) (evT C g)
  to : ∀ c xs g k X, compTo n c xs = some g → Rt c C k X → GTs X xs (evTo C g)
  it : ∀ c tup x g k X tg, compIt n c tup x = some g → (tup = true → ∃ es m p, tg = .Tuple es m p) → Rt c C k X → GI X tg x (evIt C g)
theorem map_some {α β : Type} {x : Option α} {f : α → β} {b : β} (h : x.map f = some b) : ∃ a, x = some a ∧ f a = b := Option.map_eq_some_iff.mp h
theorem co_zero (C : Cal) : CO C 0 where
  e := fun c x g k X h => by cases h
  es := fun c x g k X h => by cases h
  ks := fun c x g k X h => by cases h
  o := fun c x g k X h => by cases h
  v := fun c op xs g k X pos h => by cases h
  t := fun c x g k X h => by cases h
  w := fun c op xs g k X pos h => by cases h
  to := fun c x g k X h => by cases h
  it := fun c tup x g k X tg h => by cases h
section
variable {C : Cal} {n : Nat}
theorem evEs_csts {dd : List D} : ∀ (es : List E) (env : Env) (S : Sto), evEs C (es ++ dd.map .cst) env S = (evEs C es env S).bind fun r => .ok (r.1 ++ dd, r.2)
  | [], env, S => by
    show evEs C (dd.map .cst) env S = .ok ([] ++ dd, S)
    rw [List.nil_append]
    induction dd with
    | nil => rfl
    | cons d dd ih => rw [List.map_cons, evEs, evE, Out.bind_ok]; show (Out.ok (d, S)).bind _ = _; rw [Out.bind_ok, ih]; rfl
  | e :: es, env, S => by
    rw [List.cons_append, evEs, evEs]
    cases evE C e env S with
    | no => rfl
    | ex c d q => rfl
    | ok r =>
      show (kept r).bind _ = ((kept r).bind _).bind _
      cases kept r with
      | no => rfl
      | ex c d q => rfl
      | ok y =>
        show (evEs C (es ++ dd.map .cst) env y.2).bind _ = ((evEs C es env y.2).bind _).bind _
        rw [evEs_csts es env y.2]
        cases evEs C es env y.2 <;> rfl
theorem co_call (ih : CO C n) {c : Cc} {k : Nat} {X : Cx} (R : Rt c C k X) {x : Str} {p cpos : Pos} {es : List Expr} {kws : List Keyword} {g : E}
    (h : (if dbgB x || !glB c.sc x then none else match c.fns.lookup x with
        | some (i, ar, kwl) => if es.any isStar || es.length + kws.length != ar then (if es.any isStar || !kws.isEmpty || decide (ar < es.length) || decide ((c.df x).length < ar - es.length) then none else (compEs n c es).map fun a => .call i (a ++ ((c.df x).drop ((c.df x).length - (ar - es.length))).map .cst)) else match kws with
          | [] => (compEs n c es).map (E.call i)
          | kw :: kwr => if (kw :: kwr).all (fun q => q.arg.isSome) && kwl.contains (kwNames (kw :: kwr)) then match compEs n c es, compKs n c (kw :: kwr) with
            | some a, some b => some (.call i (a ++ b))
            | _, _ => none else none
        | none => if !c.blt.contains x || !kws.isEmpty || es.any isStar then none else match es with
          | [a] => match p1T x, compE n c a with
            | some p, some y => some (.p1 p.1 y)
            | _, _ => none
          | [a, b] => if x = "isinstance" then match b with
              | .Name y _ => if dbgB y || !glB c.sc y || !c.blt.contains y || (c.fns.lookup y).isSome then none else match tyT y, compE n c a with
                | some t, some z => some (.isa t z)
                | _, _ => none
              | _ => none
            else match p2T x, compE n c a, compE n c b with
              | some p, some y, some z => some (.p2 p y z)
              | _, _, _ => none
          | _ => none) = some g) : GE X (.Call (.Name x p) es kws cpos) (evE C g) := by
  by_cases h0 : (dbgB x || !glB c.sc x) = true
  · rw [if_pos h0] at h; cases h
  rw [if_neg h0] at h
  simp only [Bool.or_eq_true, not_or, Bool.not_eq_true, Bool.not_eq_false'] at h0
  obtain ⟨hd1, hd2, hn⟩ := dbgB_ok h0.1
  have hgl := R.gl (by simpa using h0.2)
  cases hf : c.fns.lookup x with
  | some q =>
    obtain ⟨i, ar, kwl⟩ := q
    rw [hf] at h
    simp only at h
    by_cases h1 : (es.any isStar || es.length + kws.length != ar) = true
    · rw [if_pos h1] at h
      by_cases h2 : (es.any isStar || !kws.isEmpty || decide (ar < es.length) || decide ((c.df x).length < ar - es.length)) = true
      · rw [if_pos h2] at h; cases h
      rw [if_neg h2] at h
      simp only [Bool.or_eq_true, not_or, Bool.not_eq_true, decide_eq_false_iff_not, Bool.not_eq_false'] at h2
      obtain ⟨⟨⟨s1, s2⟩, s3⟩, s4⟩ := h2
      have hk0 : kws = [] := by simpa using s2
      subst hk0
      rw [s1] at h1
      have s5 : es.length ≠ ar := by simpa using h1
      obtain ⟨gs, e1, rfl⟩ := map_some h
      obtain ⟨f, fd, ps, m1, m2, m3, m4, m5, m6⟩ := R.fns x i ar kwl hf
      obtain ⟨q1, q2⟩ := ih.es c es gs k X e1 R
      obtain ⟨us0, vs0, b1, b2, b3⟩ := m6 ((c.df x).length - (ar - es.length)) (by omega)
      have hdl : ((c.df x).drop ((c.df x).length - (ar - es.length))).length = ar - es.length := by rw [List.length_drop]; omega
      cases es with
      | nil =>
        have : gs = [] := List.eq_nil_of_length_eq_zero (by rw [q2]; rfl)
        subst this
        refine (ge_callD0 m5 R.room hgl m1 m2 b1 b2 b3 hd1 (by rw [hdl]; simp)).congr fun env S => ?_
        rw [evE, evEs_csts [] env S]
        rfl
      | cons e es =>
        simp only [List.any_cons, Bool.or_eq_false_iff] at s1
        refine (ge_callD m5 R.room hgl m1 m2 b1 b2 b3 hd1 (isStar_ok s1.1) (star_any s1.2) (by rw [hdl]; simp only [List.length_cons] at *; omega) q1 fun env S r hr => by rw [evEs_len hr, q2]).congr fun env S => ?_
        rw [evE, evEs_csts gs env S]
        cases evEs C gs env S <;> rfl
    rw [if_neg h1] at h
    simp only [Bool.or_eq_true, not_or, Bool.not_eq_true, bne_eq_false_iff_eq] at h1
    obtain ⟨f, fd, ps, m1, m2, m3, m4, m5, m6⟩ := R.fns x i ar kwl hf
    cases kws with
    | nil =>
      obtain ⟨gs, e1, rfl⟩ := map_some h
      have hl : es.length = ar := by simpa using h1.2
      obtain ⟨q1, q2⟩ := ih.es c es gs k X e1 R
      cases es with
      | nil =>
        have : gs = [] := List.eq_nil_of_length_eq_zero (by rw [q2]; rfl)
        subst this
        subst hl
        exact (ge_call0 m5 R.room hgl m1 m2 m3 hd1).congr fun env S => rfl
      | cons e es =>
        have hs := h1.1
        simp only [List.any_cons, Bool.or_eq_false_iff] at hs
        exact (ge_call m5 R.room hgl m1 m2 m3 hd1 (isStar_ok hs.1) (star_any hs.2) hl q1 fun env S r hr => by rw [evEs_len hr, q2]).congr fun env S => rfl
    | cons kw kwr =>
      simp only at h
      split at h
      · rename_i hkw
        simp only [Bool.and_eq_true] at hkw
        split at h
        · rename_i a b e1 e2
          cases h
          obtain ⟨q1, q2⟩ := ih.es c es a k X e1 R
          obtain ⟨q3, q4⟩ := ih.ks c (kw :: kwr) b k X e2 R
          obtain ⟨w1, w2, w3⟩ := kw_all (env := X.env) (pos := cpos) hkw.1
          have hkb := m4 _ (by simpa using hkw.2)
          cases es with
          | nil =>
            have : a = [] := List.eq_nil_of_length_eq_zero (by rw [q2]; rfl)
            subst this
            exact (ge_callK0 m5 R.room hgl m1 m2 hkb hd1 w1 w2 (by rw [w3]; rfl) q3 (fun env S r hr => by rw [evEs_len hr, q4]; simpa using h1.2) fun env S r hr => by rw [evEs_len hr, q4, kw_len hkw.1]).congr fun env S => rfl
          | cons e es =>
            have hs := h1.1
            have hs2 := hs
            simp only [List.any_cons, Bool.or_eq_false_iff] at hs
            refine (ge_callK m5 R.room hgl m1 m2 hkb hd1 (isStar_ok hs.1) w1 w2 (by rw [w3, star_any hs2]; rfl) q1 q3 (fun env S r env2 S2 r2 hr hr2 => by rw [List.length_append, evEs_len hr, evEs_len hr2, q2, q4]; exact h1.2) fun env S r hr => by rw [evEs_len hr, q4, kw_len hkw.1]).congr fun env S => ?_
            show (evEs C (a ++ b) env S).bind (fun r => C i r.1 r.2) = _
            rw [evEs_append, bind_assoc']
            refine bind_congr fun r => ?_
            rw [bind_assoc']
            try exact bind_congr fun q => rfl
        · cases h
      · cases h
  | none =>
    rw [hf] at h
    simp only at h
    by_cases h1 : (!c.blt.contains x || !kws.isEmpty || es.any isStar) = true
    · rw [if_pos h1] at h; cases h
    rw [if_neg h1] at h
    simp only [Bool.or_eq_true, not_or, Bool.not_eq_true, Bool.not_eq_false'] at h1
    have hb := R.blt x (by have := h1.1.1; simpa using this)
    have hk0 : kws = [] := by have := h1.1.2; simpa using this
    subst hk0
    have hs := h1.2
    cases es with
    | nil => cases h
    | cons a es1 =>
      cases es1 with
      | nil =>
        simp only at h
        split at h
        · rename_i p' y e1 e2
          cases h
          simp only [List.any_cons, Bool.or_eq_false_iff] at hs
          rcases p1T_ok R.calm R.room e1 with ⟨id, hc, hv⟩ | ⟨T, hc, hv⟩
          · exact (ge_p1 hc hgl hb hv hn hd1 (isStar_ok hs.1) (ih.e c a y k X e2 R)).congr fun env S => rfl
          · exact (ge_p1T hc hgl hb hv hn hd1 (isStar_ok hs.1) (ih.e c a y k X e2 R)).congr fun env S => rfl
        · cases h
      | cons b es2 =>
        cases es2 with
        | cons => cases h
        | nil =>
          change (ite _ _ _) = some g at h
          simp only [List.any_cons, Bool.or_eq_false_iff] at hs
          by_cases hx : x = "isinstance"
          · rw [if_pos hx] at h
            subst hx
            cases b with
            | Name y p2 =>
              simp only at h
              by_cases h2 : (dbgB y || !glB c.sc y || !c.blt.contains y || (c.fns.lookup y).isSome) = true
              · rw [if_pos h2] at h; cases h
              rw [if_neg h2] at h
              simp only [Bool.or_eq_true, not_or, Bool.not_eq_true, Bool.not_eq_false'] at h2
              split at h
              · rename_i t z e1 e2
                cases h
                obtain ⟨k1, k2, k3⟩ := dbgB_ok h2.1.1.1
                exact (ge_isa hgl hb PyProof.Rows.boot_isinstance hn hd1 (R.gl (by simpa using h2.1.1.2)) (R.blt y (by have := h2.1.2; simpa using this)) (tyT_ok e1) k3 k1 (isStar_ok hs.1) (ih.e c a z k X e2 R)).congr fun env S => rfl
              · cases h
            | _ => cases h
          · rw [if_neg hx] at h
            split at h
            · rename_i p' y z e1 e2 e3
              cases h
              obtain ⟨id, hc, hv⟩ := p2T_ok R.calm e1
              exact (ge_p2 hc hgl hb hv hn hd1 (isStar_ok hs.1) (isStar_ok hs.2.1) (ih.e c a y k X e2 R) (ih.e c b z k X e3 R)).congr fun env S => rfl
            · cases h
theorem co_e (ih : CO C n) : ∀ c x g k X, compE (n + 1) c x = some g → Rt c C k X → GE X x (evE C g) := by
  intro c x g k X h R
  cases x with
  | Constant v m pos =>
    obtain ⟨d, h1, rfl⟩ := map_some h
    exact (ge_const h1).congr fun env S => rfl
  | Name x pos =>
    replace h : (if dbgB x then none else match slotOf c x with
      | some i => if visB c.sc x then some (E.var i) else none
      | none => if glB c.sc x then (c.cis.lookup x).map fun d => .cst d else none) = some g := h
    by_cases h0 : dbgB x = true
    · rw [if_pos h0] at h; cases h
    rw [if_neg h0] at h
    obtain ⟨hd1, hd2, hn⟩ := dbgB_ok (by simpa using h0)
    split at h
    · rename_i i hi
      split at h
      · rename_i hv
        cases h
        exact (ge_var (R.slot hi) (R.vis hv) hd1 hd2).congr fun env S => rfl
      · cases h
    · split at h
      · rename_i hg
        obtain ⟨i, h1, rfl⟩ := map_some h
        obtain ⟨u, v, hm, hr, hp⟩ := R.cis x i h1
        exact (ge_cst (pe_glob (R.gl hg) hm hr hd1) hp).congr fun env S => rfl
      · cases h
  | Tuple es m pos =>
    obtain ⟨gs, h1, rfl⟩ := map_some h
    exact (ge_tup (ih.es c es gs k X h1 R).1).congr fun env S => rfl
  | List es pos =>
    obtain ⟨gs, h1, rfl⟩ := map_some h
    exact (ge_lst (ih.es c es gs k X h1 R).1).congr fun env S => rfl
  | Dict ks vs pos =>
    simp only [compE] at h
    split at h
    · cases h; exact ge_dic0.congr fun env S => rfl
    · split at h
      · rename_i a b e1 e2
        cases h
        exact (ge_dic1 (ih.e c _ a k X e1 R) (ih.e c _ b k X e2 R)).congr fun env S => rfl
      · cases h
    · cases h
  | BinOp a op b pos =>
    simp only [compE] at h
    split at h
    · rename_i o x y e1 e2 e3
      cases h
      exact (ge_bin (bop_ok e1) (ih.e c a x k X e2 R) (ih.e c b y k X e3 R)).congr fun env S => rfl
    · cases h
  | UnaryOp op a pos =>
    cases op with
    | USub =>
      obtain ⟨y, h1, rfl⟩ := map_some h
      exact (ge_neg (ih.e c a y k X h1 R)).congr fun env S => rfl
    | Not =>
      obtain ⟨y, h1, rfl⟩ := map_some h
      exact (ge_notv (ih.e c a y k X h1 R)).congr fun env S => rfl
    | _ => cases h
  | BoolOp op vs pos => exact ih.v c op vs g k X pos h R
  | Compare a ops bs pos =>
    simp only [compE] at h
    split at h
    · rename_i op b
      split at h
      · cases h
      · rename_i hm
        split at h
        · rename_i x y e1 e2
          cases h
          exact (ge_cmp (cs_op R.room op) (by simpa using hm) (ih.e c a x k X e1 R) (ih.e c b y k X e2 R)).congr fun env S => rfl
        · cases h
    · cases h
  | IfExp t a b pos =>
    simp only [compE] at h
    split at h
    · rename_i x y z e1 e2 e3
      cases h
      exact (ge_ifx (ih.t c t x k X e1 R) (ih.e c a y k X e2 R) (ih.e c b z k X e3 R)).congr fun env S => rfl
    · cases h
  | Subscript a b pos =>
    have plain : (if plainIxB b then match compE n c a, compE n c b with
        | some x, some y => some (E.idx x y)
        | _, _ => none else none) = some g → GE X (.Subscript a b pos) (evE C g) := fun h => by
      split at h
      · rename_i hp
        split at h
        · rename_i x y e1 e2
          cases h
          exact (ge_idx R.room (plainIx_ok hp) (ih.e c a x k X e1 R) (ih.e c b y k X e2 R)).congr fun env S => rfl
        · cases h
      · cases h
    cases b with
    | Slice lo hi st p2 =>
      cases st with
      | none =>
        simp only [compE] at h
        split at h
        · rename_i x l u e1 e2 e3
          cases h
          exact (ge_cut (ih.e c a x k X e1 R) (ih.o c lo l k X e2 R) (ih.o c hi u k X e3 R)).congr fun env S => rfl
        · cases h
      | some _ => cases h
    | _ => exact plain h
  | Call f es kws cpos =>
    cases f with
    | Name x p => exact co_call ih R h
    | Attribute a m apos =>
      simp only [compE] at h
      split at h
      · rename_i hc
        simp only [Bool.and_eq_true, decide_eq_true_eq, Bool.not_eq_true'] at hc
        obtain ⟨⟨⟨⟨rfl, hk⟩, hb⟩, hl⟩, hs⟩ := hc
        have hk0 : kws = [] := by simpa using hk
        subst hk0
        split at h
        · rename_i b
          split at h
          · rename_i x y e1 e2
            cases h
            simp only [List.any_cons, Bool.or_eq_false_iff] at hs
            exact (ge_index R.room (base_ok hb) hl (isStar_ok hs.1) (ih.e c a x k X e1 R) (ih.e c b y k X e2 R)).congr fun env S => rfl
          · cases h
        · cases h
      · cases h
    | _ => cases h
  | ListComp elt gs scope pos =>
    simp only [compE] at h
    split at h
    · rename_i tg iter ifs as
      split at h
      · rename_i hc
        simp only [Bool.and_eq_true, decide_eq_true_eq, Bool.not_eq_true'] at hc
        obtain ⟨⟨rfl, hb⟩, hset⟩ := hc
        split at h
        · rename_i t it f y e1 e2 e3 e4
          split at h
          · rename_i hix
            cases h
            have hok : BlkOk X.N X.env.scope scope (ownOf c scope) := by
              rw [R.N, R.sc]; exact blkOk_by hb
            have Rb := fun s0 H0 Ca cl fp => R.blk hok.kind s0 H0 Ca cl fp
            refine (ge_comp (own := ownOf c scope) (tg := t) R.calm R.nd (ih.it c _ iter it k X tg e2 (fun ht => ?_) R) hok (fun i hi => by simpa using List.all_eq_true.mp hix i hi) (fun s0 H0 Ca cl fp => (compTg_ok (Rb s0 H0 Ca cl fp) e1).1)
              (fun s0 H0 Ca cl fp => ih.to _ ifs f k _ e3 (Rb s0 H0 Ca cl fp)) (fun s0 H0 Ca cl fp => ih.e _ elt y k _ e4 (Rb s0 H0 Ca cl fp)) (set_ok hset X.env)).congr fun env S => rfl
            cases tg with
            | Tuple es m p => exact ⟨es, m, p, rfl⟩
            | _ => cases ht
          · cases h
        · cases h
      · cases h
    · cases h
  | _ => cases h
theorem co_it (ih : CO C n) : ∀ c tup x g k X tg, compIt (n + 1) c tup x = some g → (tup = true → ∃ es m p, tg = .Tuple es m p) → Rt c C k X → GI X tg x (evIt C g) := by
  intro c tup x g k X tg h ht R
  have seq : (compE n c x).map It.seq = some g → GI X tg x (evIt C g) := fun h => by
    obtain ⟨y, h1, rfl⟩ := map_some h
    exact (gi_seq (ih.e c x y k X h1 R)).congr fun env S => rfl
  simp only [compIt] at h
  split at h
  · rename_i hk
    cases x with
    | Call f es kws cpos =>
      cases f with
      | Name x p =>
        cases kws with
        | nil =>
          simp only [itK] at hk
          split at hk
          · cases hk
          · rename_i h0
            simp only [Bool.or_eq_true, not_or, Bool.not_eq_true, Bool.not_eq_false'] at h0
            split at hk
            · rename_i hx
              subst hx
              have hgl := R.gl (by have := h0.1.1.1.2; simpa using this)
              have hb := R.blt _ (by have := h0.1.1.2; simpa using this)
              simp only at h
              split at h
              · rename_i a
                have hs := h0.2
                simp only [List.any_cons, Bool.or_eq_false_iff] at hs
                obtain ⟨y, h1, rfl⟩ := map_some h
                exact (gi_range1 hgl hb (isStar_ok hs.1) (ih.e c a y k X h1 R)).congr fun env S => bind_congr (x := evE C y env S) fun q => by
                  obtain ⟨d, k3, S3⟩ := q
                  cases d <;> rfl
              · rename_i a b
                have hs := h0.2
                simp only [List.any_cons, Bool.or_eq_false_iff] at hs
                split at h
                · rename_i y z e1 e2
                  cases h
                  have s2 : starEach [b] X.env = [(false, eval b X.env)] := isStar_ok hs.2.1
                  exact (gi_range2 hgl hb (by rw [isStar_ok hs.1, s2]) s2 (ih.e c a y k X e1 R) (ih.e c b z k X e2 R)).congr fun env S => rfl
                · cases h
              · cases h
            · split at hk
              · cases hk
              · split at hk <;> cases hk
        | cons => cases hk
      | _ => cases hk
    | _ => cases hk
  · rename_i hk
    cases x with
    | Call f es kws cpos =>
      cases f with
      | Name x p =>
        cases kws with
        | nil =>
          simp only [itK] at hk
          split at hk
          · cases hk
          · rename_i h0
            simp only [Bool.or_eq_true, not_or, Bool.not_eq_true, Bool.not_eq_false'] at h0
            split at hk
            · cases hk
            · split at hk
              · rename_i hx
                simp only [Bool.and_eq_true, decide_eq_true_eq] at hx
                obtain ⟨htup, rfl⟩ := hx
                obtain ⟨es', m, p', rfl⟩ := ht htup
                have hgl := R.gl (by have := h0.1.1.1.2; simpa using this)
                have hb := R.blt _ (by have := h0.1.1.2; simpa using this)
                simp only at h
                split at h
                · rename_i a
                  have hs := h0.2
                  simp only [List.any_cons, Bool.or_eq_false_iff] at hs
                  obtain ⟨y, h1, rfl⟩ := map_some h
                  exact (gi_enum hgl hb (isStar_ok hs.1) (ih.e c a y k X h1 R)).congr fun env S => rfl
                · cases h
              · split at hk <;> cases hk
        | cons => cases hk
      | _ => cases hk
    | _ => cases hk
  · rename_i hk
    cases x with
    | Call f es kws cpos =>
      cases f with
      | Name x p =>
        cases kws with
        | nil =>
          simp only [itK] at hk
          split at hk
          · cases hk
          · rename_i h0
            simp only [Bool.or_eq_true, not_or, Bool.not_eq_true, Bool.not_eq_false'] at h0
            split at hk
            · cases hk
            · split at hk
              · cases hk
              · split at hk
                · rename_i hx
                  simp only [Bool.and_eq_true, decide_eq_true_eq] at hx
                  obtain ⟨htup, rfl⟩ := hx
                  obtain ⟨es', m, p', rfl⟩ := ht htup
                  have hgl := R.gl (by have := h0.1.1.1.2; simpa using this)
                  have hb := R.blt _ (by have := h0.1.1.2; simpa using this)
                  simp only at h
                  split at h
                  · rename_i a b
                    have hs := h0.2
                    simp only [List.any_cons, Bool.or_eq_false_iff] at hs
                    split at h
                    · rename_i y z e1 e2
                      cases h
                      have s2 : starEach [b] X.env = [(false, eval b X.env)] := isStar_ok hs.2.1
                      exact (gi_zip hgl hb (isStar_ok hs.1) s2 (by rw [s2]; rfl) (ih.e c a y k X e1 R) (ih.e c b z k X e2 R)).congr fun env S => rfl
                    · cases h
                  · cases h
                · cases hk
        | cons => cases hk
      | _ => cases hk
    | _ => cases hk
  · exact seq h
theorem co_succ (ih : CO C n) : CO C (n + 1) where
  e := co_e ih
  es := fun c xs gs k X h R => by
    cases xs with
    | nil => cases h; exact ⟨ga_nil.congr fun env S => rfl, rfl⟩
    | cons e es =>
      simp only [compEs] at h
      split at h
      · cases h
      · rename_i hs
        split at h
        · rename_i x xs e1 e2
          cases h
          obtain ⟨q1, q2⟩ := ih.es c es xs k X e2 R
          exact ⟨(ga_cons (isStar_ok (by simpa using hs)) (ih.e c e x k X e1 R) q1).congr fun env S => rfl, by simp [q2]⟩
        · cases h
  ks := fun c xs gs k X h R => by
    cases xs with
    | nil => cases h; exact ⟨gk_nil.congr fun env S => rfl, rfl⟩
    | cons e es =>
      simp only [compKs] at h
      split at h
      · rename_i x xs e1 e2
        cases h
        obtain ⟨q1, q2⟩ := ih.ks c es xs k X e2 R
        obtain ⟨nm, ex, p⟩ := e
        exact ⟨(gk_cons (ih.e c ex x k X e1 R) q1).congr fun env S => rfl, by simp [q2]⟩
      · cases h
  o := fun c x g k X h R => by
    cases x with
    | none => cases h; exact go_none.congr fun env S => rfl
    | some e =>
      obtain ⟨y, h1, rfl⟩ := map_some h
      exact (go_some (ih.e c e y k X h1 R)).congr fun env S => rfl
  v := fun c op xs g k X pos h R => by
    match xs, h with
    | [], h => cases h
    | [a], h => exact ge_one (ih.e c a g k X h R)
    | a :: b :: rest, h =>
      simp only [compV] at h
      split at h
      · rename_i x y e1 e2
        cases h
        cases op with
        | And => exact (ge_and (ih.e c a x k X e1 R) (ih.v c .And (b :: rest) y k X pos e2 R)).congr fun env S => rfl
        | Or => exact (ge_or (ih.e c a x k X e1 R) (ih.v c .Or (b :: rest) y k X pos e2 R)).congr fun env S => rfl
      · cases h
  t := fun c x g k X h R => by
    have plain : (if plainTB x then (compE n c x).map T.val else none) = some g → GT X x (evT C g) := fun h => by
      split at h
      · rename_i hp
        obtain ⟨y, h1, rfl⟩ := map_some h
        exact (gt_val (plainT_ok hp X.env) (ih.e c x y k X h1 R)).congr fun env S => rfl
      · cases h
    cases x with
    | UnaryOp op a pos =>
      cases op with
      | Not =>
        obtain ⟨y, h1, rfl⟩ := map_some h
        exact (gt_not (ih.t c a y k X h1 R)).congr fun env S => rfl
      | _ => cases h
    | BoolOp op vs pos => exact (ih.w c op vs g k X pos h R).gt
    | Compare a ops bs pos =>
      simp only [compT] at h
      split at h
      · rename_i op b
        split at h
        · cases h
        · rename_i hm
          split at h
          · rename_i x y e1 e2
            cases h
            exact (gt_cmp (cs_op R.room op) (by simpa using hm) (ih.e c a x k X e1 R) (ih.e c b y k X e2 R)).congr fun env S => rfl
          · cases h
      · cases h
    | IfExp t a b pos =>
      simp only [compT] at h
      split at h
      · rename_i x y z e1 e2 e3
        cases h
        exact (gt_ifx (ih.t c t x k X e1 R) (ih.t c a y k X e2 R) (ih.t c b z k X e3 R)).congr fun env S => rfl
      · cases h
    | _ => exact plain h
  w := fun c op xs g k X pos h R => by
    match xs, h with
    | [], h => cases h
    | [a], h =>
      cases op with
      | And => exact gw_and1 (ih.t c a g k X h R)
      | Or => exact gw_or1 (ih.t c a g k X h R)
    | a :: b :: rest, h =>
      simp only [compW] at h
      split at h
      · rename_i x y e1 e2
        cases h
        cases op with
        | And => exact fun env S r q => gw_and (ih.t c a x k X e1 R) (ih.w c .And (b :: rest) y k X pos e2 R) env S r q
        | Or => exact fun env S r q => gw_or (ih.t c a x k X e1 R) (ih.w c .Or (b :: rest) y k X pos e2 R) env S r q
      · cases h
  to := fun c xs g k X h R => by
    match xs, h with
    | [], h => cases h; exact gts_nil.congr fun env S => rfl
    | [t], h =>
      obtain ⟨y, h1, rfl⟩ := map_some h
      exact (gts_one (ih.t c t y k X h1 R)).congr fun env S => rfl
    | _ :: _ :: _, h => cases h
  it := co_it ih
theorem comp_ok (C : Cal) : ∀ n, CO C n
  | 0 => co_zero C
  | n + 1 => co_succ (comp_ok C n)
end
end Z
end
section
/-! ZZA: statements told off the text. -/
namespace Z
open PySem L2 PySem.Spec PyProof.Rows
/-! ### what escapes (a hint only) -/
def slotL (c : Cc) (x : Str) : List Nat := match slotOf c x with
  | some i => [i]
  | none => []
def esc : Nat → Cc → Bool → Expr → List Nat
  | 0, _, _, _ => []
  | n + 1, c, k, e => match e with
    | .Name x _ => if k then slotL c x else []
    | .Tuple es _ _ => es.flatMap (esc n c true)
    | .List es _ => es.flatMap (esc n c true)
    | .Dict ks vs _ => (ks.filterMap id).flatMap (esc n c true) ++ vs.flatMap (esc n c true)
    | .BinOp a _ b _ => esc n c false a ++ esc n c false b
    | .UnaryOp _ a _ => esc n c false a
    | .BoolOp _ vs _ => vs.flatMap (esc n c false)
    | .Compare a _ bs _ => esc n c false a ++ bs.flatMap (esc n c false)
    | .IfExp t a b _ => esc n c false t ++ esc n c k a ++ esc n c k b
    | .Subscript a b _ => esc n c false a ++ esc n c false b
    | .Slice lo hi _ _ => (lo.toList ++ hi.toList).flatMap (esc n c false)
    | .Call f es kws _ => (match f with
        | .Name x _ => if (c.fns.lookup x).isSome then es.flatMap (esc n c true) ++ kws.flatMap (fun q => esc n c true q.value) else es.flatMap (esc n c false)
        | .Attribute a m _ => if m = "index" then esc n c false a ++ es.flatMap (esc n c false) else es.flatMap (esc n c true)
        | _ => [])
    | .ListComp elt gs _ _ => esc n c true elt ++ gs.flatMap fun g => esc n c false g.iter ++ g.ifs.flatMap (esc n c false)
    | _ => []
/-- what a for walks -/
def escF (n : Nat) (c : Cc) (e : Expr) : List Nat := match e with
  | .Call (.Name x _) es _ _ => if (c.fns.lookup x).isSome then esc n c true e else if x = "range" then es.flatMap (esc n c false) else es.flatMap (esc n c true)
  | e => esc n c true e
def mkPre (is : List Nat) (s : St) : St := if is.isEmpty then s else .pre is s
def isLC : Expr → Bool
  | .ListComp .. | .SetComp .. | .DictComp .. => true
  | _ => false
def isTupE : Expr → Bool
  | .Tuple .. => true
  | _ => false
def callIn (sh : List Str) : Expr → Bool
  | .Call (.Name x _) _ _ _ => sh.contains x
  | _ => false
def isSd : Expr → Bool
  | .Call (.Attribute (.Name _ _) m _) [_, .Dict [] [] _] [] _ => decide (m = "setdefault")
  | _ => false
/-- the parts of o.m(..), o a name -/
def mParts : Expr → Option (Str × Str × Pos × Pos × List Expr × Pos)
  | .Call (.Attribute (.Name x p) m apos) es [] cpos => some (x, m, p, apos, es, cpos)
  | _ => none
def nmOk (c : Cc) (x : Str) : Option Nat := if dbgB x || !visB c.sc x then none else slotOf c x
def compSd (n : Nat) (c : Cc) (x : Str) (e : Expr) : Option St := match e with
  | .Call (.Attribute (.Name y p) m apos) [k, .Dict [] [] p4] [] p3 => if m = "setdefault" && (apos.endLine == p3.line) && !isStar k then match nmOk c y, compNm c (.Name x p), compE n c k with
    | some i, some r, some g => some (mkPre (esc n c true k) (.setSd r i g))
    | _, _, _ => none else none
  | _ => none
def locLs (c : Cc) (xs : List Str) : Bool := xs.all fun x => match c.sc.names.lookup x with | some .local => true | _ => false
def compPar (n : Nat) (c : Cc) (tes ves : List Expr) : Option St := match compNms c tes, compEs n c ves with
  | some is, some gs => some (mkPre (ves.flatMap (esc n c true)) (.par is gs))
  | _, _ => none
def compApp (n : Nat) (c : Cc) (e : Expr) : Option St := match e with
  | .Call (.Attribute (.Name x p) m apos) [a] [] cpos => if m = "append" && (apos.endLine == cpos.line) && !isStar a then match nmOk c x with
    | some i => match a with
      | .Call (.Attribute (.Name y p2) m2 apos2) es2 [] cpos2 =>
        if m2 = "pop" && (apos2.endLine == cpos2.line) then match es2 with
          | [e2] => if isStar e2 then none else match nmOk c y, compE n c e2 with
            | some j, some g => some (mkPre (esc n c false e2) (.appPop i j g))
            | _, _ => none
          | _ => none
        else if m2 = "setdefault" && (apos2.endLine == cpos2.line) then match es2 with
          | [k2, e2] => if isStar k2 || isStar e2 then none else match nmOk c y, compE n c k2, compE n c e2 with
            | some j, some gk, some g => some (mkPre (esc n c true k2 ++ esc n c true e2) (.appSd i j gk g))
            | _, _, _ => none
          | _ => none
        else (compE n c a).map fun g => mkPre (esc n c true a) (.app i g)
      | a => (compE n c a).map fun g => mkPre (esc n c true a) (.app i g)
    | none => none else none
  | _ => none
def isLocB (c : Cc) (x : Str) : Bool := match c.sc.names.lookup x with
  | some .local => true
  | _ => false
def compNA (n : Nat) (c : Cc) (x : Str) (p : Pos) (e : Expr) : Option St :=
  match compNm c (.Name x p), compE n c e with
  | some i, some g => some (mkPre (esc n c true e) (if callIn c.sh e then .setSh i g else .set i g))
  | _, _ => none
def compLA (n : Nat) (c : Cc) (x : Str) (p : Pos) (e : Expr) : Option St := match e with
  | .ListComp _ _ scope q => if !isLocB c x then compNA n c x p e else if isLocB c x && (p.line == q.line) && !(scope.names.any fun (n, k) => n == x && (k == .local || k == .cell)) then match slotOf c x, compE n c e with
    | some i, some g => some (mkPre (esc n c false e) (.set i g))
    | _, _ => none else none
  | _ => none
def compP2 (n : Nat) (c : Cc) (names : List Str) (tes ves : List Expr) : Option St := match tes with
  | [.Name x _, .Name y _] => match ves with
    | [_, _] => if names = [x, y] && locLs c [x, y] && decide (slotOf c x ≠ slotOf c y) then compPar n c tes ves else none
    | _ => none
  | [.Name x _, .Name y _, .Name z _] => match ves with
    | [_, _, _] => if names = [x, y, z] && locLs c [x, y, z] && decide (slotOf c x ≠ slotOf c y) && decide (slotOf c x ≠ slotOf c z) && decide (slotOf c y ≠ slotOf c z) then compPar n c tes ves else none
    | _ => none
  | _ => none
def compTT (n : Nat) (c : Cc) (tes ves : List Expr) : Option St := if ves.length ≤ 1000 then match swP c.sc tes ves with
    | some (some names) => compP2 n c names tes ves
    | some none => compPar n c tes ves
    | none => none else none
def compTE (n : Nat) (c : Cc) (tes : List Expr) (e : Expr) : Option St := match compNms c tes, compE n c e with
  | some is, some g => some (mkPre (esc n c false e) (.setTu is g))
  | _, _ => none
def compTA (n : Nat) (c : Cc) (tes : List Expr) (e : Expr) : Option St := match e with
  | .Tuple ves _ _ => compTT n c tes ves
  | e => compTE n c tes e
def compIA (n : Nat) (c : Cc) (x : Str) (k e : Expr) : Option St := if plainIxB k then match nmOk c x, compE n c k, compE n c e with
  | some i, some gk, some g => some (mkPre (esc n c true k ++ esc n c true e) (.setIx i gk g))
  | _, _, _ => none else none
def compA (n : Nat) (c : Cc) (t e : Expr) : Option St := match t with
  | .Name x p => if isSd e then compSd n c x e else if isLC e then compLA n c x p e else compNA n c x p e
  | .Tuple tes _ _ => compTA n c tes e
  | .Subscript o k _ => match o with
    | .Name x _ => compIA n c x k e
    | _ => none
  | _ => none
mutual
def compS : Nat → Cc → Stmt → Option St
  | 0, _, _ => none
  | n + 1, c, st => match st with
    | .Assign ts e _ => match ts with
      | [t] => compA n c t e
      | _ => none
    | .Expr e pos => match compApp n c e with
      | some s => some s
      | none => if isLC e then none else (compE n c e).map fun g => mkPre (esc n c false e) (.exp g)
    | .If t a b _ => match compT n c t, compSs n c a, compSs n c b with
      | some x, some y, some z => some (mkPre (esc n c false t) (.ife x y z))
      | _, _, _ => none
    | .While t body orelse _ => match orelse with
      | [] => match compT n c t, compSs n c body with
        | some x, some y => some (.wh (esc n c false t) x y)
        | _, _ => none
      | _ => none
    | .For tg it body orelse _ => match orelse with
      | [] => if isSetB it then none else match compTg c tg, compIt n c (isTupB tg) it, compSs n c body with
        | some t, some i, some b => some (mkPre (escF n c it) (.for_ t i b))
        | _, _, _ => none
      | _ => none
    | .Return v _ => match v with
      | none => none
      | some e => match e with
        | .Name x _ => match nmOk c x with
          | some i => some (.retV i)
          | none => (compE n c e).map fun g => mkPre (esc n c true e) (.ret g)
        | e => (compE n c e).map fun g => mkPre (esc n c true e) (.ret g)
    | _ => none
def compSs : Nat → Cc → List Stmt → Option (List St)
  | 0, _, _ => none
  | n + 1, c, sts => match sts with
    | [] => some []
    | s :: ss => match compS n c s, compSs n c ss with
      | some x, some xs => some (x :: xs)
      | _, _ => none
end
end Z
end
section
/-! ZZB: what is told off the text is what runs: statements. -/
namespace Z
open PySem L2 PySem.Spec PyProof.Rows
section
variable {c : Cc} {C : Cal} {k n : Nat} {X : Cx}
theorem mkPre_ok {st : Stmt} {s : St} {is : List Nat} (h : GS X st (evS C s)) : GS X st (evS C (mkPre is s)) := by
  unfold mkPre
  split
  · exact h
  · exact (gs_pre is h).congr fun env S => rfl
theorem nmOk_ok (R : Rt c C k X) {x : Str} {i : Nat} (h : nmOk c x = some i) : X.N[i]? = some x ∧ Vis X.env.scope x ∧ (x == ("__debug__" : Str)) = false ∧ (x == ("__classdict__" : Str)) = false := by
  unfold nmOk at h
  by_cases h0 : (dbgB x || !visB c.sc x) = true
  · rw [if_pos h0] at h; cases h
  rw [if_neg h0] at h
  simp only [Bool.or_eq_true, not_or, Bool.not_eq_true, Bool.not_eq_false'] at h0
  obtain ⟨h1, h2, h3⟩ := dbgB_ok h0.1
  exact ⟨R.slot h, R.vis (by simpa using h0.2), h1, h2⟩
theorem swapsN {e : Expr} {t : Option Expr} {l : Nat} {env : PySem.Env} (h : isLC e = false) : swapsWith e t l env = pure false := by
  cases e <;> first | rfl | cases h
theorem swapsC {e : Expr} {x : Str} {p : Pos} {l : Nat} {env : PySem.Env} (h : (env.kindOf x == some .local) = false) (hl : ∃ a g s q, e = .ListComp a g s q) : swapsWith e (some (.Name x p)) l env = pure false := by
  obtain ⟨a, g, s, q, rfl⟩ := hl
  unfold swapsWith
  simp only [h]
  simp
theorem swapsS {e o i : Expr} {p : Pos} {l : Nat} {env : PySem.Env} : swapsWithSole [.Subscript o i p] e l env = pure false := by
  cases e <;> rfl
theorem swapsT {e : Expr} {es : List Expr} {m : Nat} {p : Pos} {l : Nat} {env : PySem.Env} : swapsWithSole [.Tuple es m p] e l env = pure false := by
  cases e <;> rfl
theorem storesS {e o i : Expr} {p : Pos} {env : PySem.Env} : swappedStores [.Subscript o i p] e env = pure none := by
  cases e <;> rfl
theorem storesT {e : Expr} {es : List Expr} {m : Nat} {p : Pos} {env : PySem.Env} (h : isTupE e = false) : swappedStores [.Tuple es m p] e env = pure none := by
  cases e <;> first | rfl | cases h
theorem assign_sub {o k : Expr} {p : Pos} {env : PySem.Env} (h : plainIxB k = true) : ∀ v, assign (.Subscript o k p) env v = (do
      let ov ← holding [v] (eval o env)
      let iv ← holding [v, ov] (eval k env)
      standAt p
      holding [v, ov, iv] (setItem ov iv v)
      release [v, ov, iv] []) := by
  cases k <;> first | exact fun _ => rfl | cases h
theorem evPar_cons {e : E} {es : List E} {env : Env} {S : Sto} : evPar C (e :: es) env S = (evE C e env S).bind fun r => (evPar C es env r.2.2).bind fun q => .ok ((r.1, r.2.1) :: q.1, q.2) := rfl
theorem par_of (R : Rt c C k X) : ∀ {m : Nat} {xs : List Expr} {gs : List E}, compEs m c xs = some gs → wPar X xs (evPar C gs) ∧ gs.length = xs.length
  | 0, _, _, h => by cases h
  | m + 1, [], _, h => by cases h; exact ⟨par_nil.congr fun env S => rfl, rfl⟩
  | m + 1, e :: es, gs, h => by
    simp only [compEs] at h
    split at h
    · cases h
    · rename_i hs
      split at h
      · rename_i x xs e1 e2
        cases h
        obtain ⟨q1, q2⟩ := par_of R e2
        exact ⟨(par_cons (isStar_ok (by simpa using hs)) ((comp_ok C m).e c e x k X e1 R) q1).congr fun env S => rfl, by simp [q2]⟩
      · cases h
theorem evPar_len {env : Env} : ∀ {es : List E} {S : Sto} {r : List (D × K3) × Sto}, evPar C es env S = .ok r → r.1.length = es.length
  | [], S, r, h => by cases h; rfl
  | e :: es, S, r, h => by
    rw [evPar_cons] at h
    obtain ⟨r1, h1, h⟩ := bind_ok h
    obtain ⟨q, h3, h⟩ := bind_ok h
    cases h
    simp [evPar_len h3]
theorem gas_comp {elt tgE iter : Expr} {ifs : List Expr} {scope : Scope} {own : List (Str × Nat)} {tg : Tg} {gIt : Env → Sto → Out (List D × Bool × Sto)} {gi : Env → Sto → Out (Bool × Sto)} {ge : Env → Sto → Out Res} {i : Nat} {y : Str} {py spos pos : Pos} (hc : X.calm = true) (hN : X.N.Nodup) (hy : X.N[i]? = some y) (hyl : X.env.scope.names.lookup y = some .local)
    (hsw : swapsWith (.ListComp elt [⟨tgE, iter, ifs, 0⟩] scope pos) (some (.Name y py)) spos.line X.env = pure true)
    (hi : GI X tgE iter gIt) (ok : BlkOk X.N X.env.scope scope own) (hix : ∀ i ∈ tg.ix, i ∈ own.map (·.2)) (hg : ∀ s0 H0 C cl fp, PG (Bk X scope s0 H0 C cl fp) tgE (gT X.K tg)) (ht : ∀ s0 H0 C cl fp, GTs (Bk X scope s0 H0 C cl fp) ifs gi) (he : ∀ s0 H0 C cl fp, GE (Bk X scope s0 H0 C cl fp) elt ge) (hs : ∀ x, foldedSetIterable iter X.env x = pure x) :
    GAs X (.Assign [.Name y py] (.ListComp elt [⟨tgE, iter, ifs, 0⟩] scope pos) spos) i fun env S => (gIt env S).bind fun r => (loopC (fun d S => (bindO tg d (wipeE env (own.map (·.2)))).bind fun env2 => (gi env2 S).bind fun c => if c.1 then (ge env2 c.2).bind fun x => (kept x).bind fun y => .ok (some y.1, y.2) else .ok (none, c.2)) r.1 r.2.2 []).bind fun z => .ok (.lst z.1, .fr, z.2) := by
  intro env S r q F ι σ H D s se kk pins sh I
  exact (ps_setComp hc hN hy hyl hsw ok hg hs).run pins sh σ H D I (comp_reads hi ok hix ht he q s se I.len fun v H1 p => kk v H1 I.len p)
theorem GAs.congr {st : Stmt} {i : Nat} {g g' : Env → Sto → Out Res} (h : GAs X st i g) (cc : ∀ env S, g' env S = g env S) : GAs X st i g' := fun env S r q => h env S r (by rw [← cc]; exact q)
theorem lc_gas (R : Rt c C k X) {elt : Expr} {gs : List Comprehension} {scope : Scope} {q p pos : Pos} {x : Str} {i : Nat} {g : E} (hl : c.sc.names.lookup x = some .local) (hp : (p.line == q.line) = true) (ha : (scope.names.any fun (n, k) => n == x && (k == .local || k == .cell)) = false)
    (hi : slotOf c x = some i) (h : compE (n + 1) c (.ListComp elt gs scope q) = some g) : GAs X (.Assign [.Name x p] (.ListComp elt gs scope q) pos) i (evE C g) := by
  have ih := comp_ok C n
  simp only [compE] at h
  split at h
  · rename_i tg iter ifs as
    split at h
    · rename_i hc
      simp only [Bool.and_eq_true, decide_eq_true_eq, Bool.not_eq_true'] at hc
      obtain ⟨⟨rfl, hb⟩, hset⟩ := hc
      split at h
      · rename_i t it f y e1 e2 e3 e4
        split at h
        · rename_i hix
          cases h
          have hok : BlkOk X.N X.env.scope scope (ownOf c scope) := by
            rw [R.N, R.sc]; exact blkOk_by hb
          have Rb := fun s0 H0 Ca cl fp => R.blk hok.kind s0 H0 Ca cl fp
          have hyl : X.env.scope.names.lookup x = some .local := by rw [R.sc]; exact hl
          refine (gas_comp (own := ownOf c scope) (tg := t) R.calm R.nd (R.slot hi) hyl (sw_true (by rw [R.sc]; exact R.kind) hyl hp ha) (ih.it c _ iter it k X tg e2 (fun ht => ?_) R) hok (fun i hi => by simpa using List.all_eq_true.mp hix i hi) (fun s0 H0 Ca cl fp => (compTg_ok (Rb s0 H0 Ca cl fp) e1).1)
            (fun s0 H0 Ca cl fp => ih.to _ ifs f k _ e3 (Rb s0 H0 Ca cl fp)) (fun s0 H0 Ca cl fp => ih.e _ elt y k _ e4 (Rb s0 H0 Ca cl fp)) (set_ok hset X.env)).congr fun env S => rfl
          cases tg with
          | Tuple es m p => exact ⟨es, m, p, rfl⟩
          | _ => cases ht
        · cases h
      · cases h
    · cases h
  · cases h
theorem lt_of_slot (R : Rt c C k X) {x : Str} {i : Nat} (h : slotOf c x = some i) : i < X.N.length := (List.getElem?_eq_some_iff.mp (R.slot h)).1
theorem compApp_ok (R : Rt c C k X) {e : Expr} {g : St} {pos : Pos} (h : compApp n c e = some g) : GS X (.Expr e pos) (evS C g) := by
  unfold compApp at h
  split at h
  · rename_i x p m apos a cpos
    split at h
    · rename_i hc
      simp only [Bool.and_eq_true, decide_eq_true_eq, Bool.not_eq_true'] at hc
      obtain ⟨⟨rfl, hl⟩, hs⟩ := hc
      cases hn : nmOk c x with
      | none => rw [hn] at h; cases h
      | some i =>
        rw [hn] at h
        obtain ⟨a1, a2, a3, a4⟩ := nmOk_ok R hn
        have plain : (compE n c a).map (fun g => mkPre (esc n c true a) (.app i g)) = some g → GS X (.Expr (.Call (.Attribute (.Name x p) "append" apos) [a] [] cpos) pos) (evS C g) := fun h => by
          obtain ⟨y, h1, rfl⟩ := map_some h
          exact mkPre_ok ((gs_app a1 a2 a3 a4 hl (isStar_ok hs) ((comp_ok C n).e c a y k X h1 R)).congr fun env S => rfl)
        simp only at h
        split at h
        · rename_i y p2 m2 apos2 es2 cpos2
          split at h
          · rename_i hc2
            simp only [Bool.and_eq_true, decide_eq_true_eq] at hc2
            obtain ⟨rfl, hl2⟩ := hc2
            split at h
            · rename_i e2
              split at h
              · cases h
              · rename_i hs2
                split at h
                · rename_i j g2 e3 e4
                  cases h
                  obtain ⟨b1, b2, b3, b4⟩ := nmOk_ok R e3
                  exact mkPre_ok ((gs_appPop a1 a2 a3 a4 b1 b2 b3 b4 hl hl2 (isStar_ok (by simpa using hs2)) ((comp_ok C n).e c e2 g2 k X e4 R)).congr fun env S => rfl)
                · cases h
            · cases h
          · split at h
            · rename_i hc2
              simp only [Bool.and_eq_true, decide_eq_true_eq] at hc2
              obtain ⟨rfl, hl2⟩ := hc2
              split at h
              · rename_i k2 e2
                split at h
                · cases h
                · rename_i hs2
                  simp only [Bool.or_eq_true, not_or, Bool.not_eq_true] at hs2
                  split at h
                  · rename_i j gk g2 e3 e4 e5
                    cases h
                    obtain ⟨b1, b2, b3, b4⟩ := nmOk_ok R e3
                    exact mkPre_ok ((gs_appSd R.room a1 a2 a3 a4 b1 b2 b3 b4 hl hl2 (isStar_ok hs2.1) (isStar_ok hs2.2) ((comp_ok C n).e c k2 gk k X e4 R) ((comp_ok C n).e c e2 g2 k X e5 R)).congr fun env S => rfl)
                  · cases h
              · cases h
            · exact plain h
        · exact plain h
    · cases h
  · cases h
theorem compSd_ok (R : Rt c C k X) {x : Str} {p pos : Pos} {e : Expr} {g : St} (h : compSd n c x e = some g) : GS X (.Assign [.Name x p] e pos) (evS C g) := by
  unfold compSd at h
  split at h
  · rename_i y q m apos kk p4 p3
    split at h
    · rename_i hc
      simp only [Bool.and_eq_true, decide_eq_true_eq, Bool.not_eq_true'] at hc
      obtain ⟨⟨rfl, hl⟩, hs⟩ := hc
      split at h
      · rename_i i r g2 e1 e2 e3
        cases h
        obtain ⟨a1, a2, a3, a4⟩ := nmOk_ok R e1
        obtain ⟨x', p', ex, b1, b2, b3⟩ := compNm_ok R e2
        cases ex
        exact mkPre_ok ((gs_setSd R.room a1 a2 a3 a4 R.nd b1 b2 b3 hl (isStar_ok hs) ((comp_ok C n).e c kk g2 k X e3 R)).congr fun env S => rfl)
      · cases h
    · cases h
  · cases h
theorem nmS_of (R : Rt c C k X) {e : Expr} {i : Nat} (h : compNm c e = some i) : ∃ x p, e = .Name x p ∧ slotOf c x = some i := by
  cases e with
  | Name x p =>
    simp only [compNm] at h
    split at h
    · exact ⟨x, p, rfl, h⟩
    · cases h
  | _ => cases h
theorem locLs_ok (R : Rt c C k X) {xs : List Str} (h : locLs c xs = true) : ∀ x ∈ xs, X.env.scope.names.lookup x = some .local := fun x hx => by
  rw [R.sc]
  have := List.all_eq_true.mp h x hx
  split at this
  · assumption
  · cases this
structure CS (C : Cal) (n : Nat) : Prop where
  s : ∀ c st g k X, compS n c st = some g → Rt c C k X → X.xe = (fun _ _ => False) → GS X st (evS C g)
  ss : ∀ c st g k X, compSs n c st = some g → Rt c C k X → X.xe = (fun _ _ => False) → GSs X st (evSs C g)
theorem passes (h : X.xe = fun _ _ => False) : PassesOwn (model X.prog X.w) X.A X.env X.xe := by rw [h]; exact PassesOwn.never
theorem compNA_ok (R : Rt c C k X) {x : Str} {p pos : Pos} {e : Expr} {g : St} (hlc : swapsWith e (some (.Name x p)) pos.line X.env = pure false) (h : compNA n c x p e = some g) : GS X (.Assign [.Name x p] e pos) (evS C g) := by
  unfold compNA at h
  split at h
  · rename_i i y e1 e2
    cases h
    obtain ⟨x', p', ex, b1, b2, b3⟩ := compNm_ok R e1
    cases ex
    have hg := gas_set (pos := pos) (pos' := p) R.nd b1 b2 hlc b3 ((comp_ok C n).e c e y k X e2 R)
    have hi := (List.getElem?_eq_some_iff.mp b1).1
    refine mkPre_ok ?_
    split
    · exact (gs_setSh hi hg).congr fun env S => rfl
    · exact (gs_set hi hg).congr fun env S => rfl
  · cases h
theorem compLA_ok (R : Rt c C k X) {x : Str} {p pos : Pos} {e : Expr} {g : St} (h : compLA n c x p e = some g) : GS X (.Assign [.Name x p] e pos) (evS C g) := by
  unfold compLA at h
  split at h
  · rename_i elt gs scope q
    by_cases hloc : (!isLocB c x) = true
    · rw [if_pos hloc] at h
      refine compNA_ok R (swapsC ?_ ⟨_, _, _, _, rfl⟩) h
      show (X.env.scope.names.lookup x == some .local) = false
      rw [R.sc]
      simp only [Bool.not_eq_true'] at hloc
      unfold isLocB at hloc
      split at hloc
      · cases hloc
      · rename_i hne
        exact beq_eq_false_iff_ne.mpr hne
    rw [if_neg hloc] at h
    split at h
    · rename_i hc
      simp only [Bool.and_eq_true, Bool.not_eq_true'] at hc
      obtain ⟨⟨h1, h2⟩, h3⟩ := hc
      split at h
      · rename_i i y e1 e2
        cases h
        cases n with
        | zero => cases e2
        | succ n =>
          have hl : c.sc.names.lookup x = some .local := by
            unfold isLocB at h1
            split at h1
            · assumption
            · cases h1
          exact mkPre_ok ((gs_set (lt_of_slot R e1) (lc_gas R hl h2 h3 e1 e2)).congr fun env S => rfl)
      · cases h
    · cases h
  · cases h
theorem compP2_ok (R : Rt c C k X) {names : List Str} {tes ves : List Expr} {kt k2 : Nat} {pt p2 pos : Pos} {g : St} (hw : swappedStores [.Tuple tes kt pt] (.Tuple ves k2 p2) X.env = pure (some names)) (h : compP2 n c names tes ves = some g) :
    GS X (.Assign [.Tuple tes kt pt] (.Tuple ves k2 p2) pos) (evS C g) := by
  unfold compP2 at h
  split at h
  · rename_i x px y py
    split at h
    · rename_i a b
      split at h
      · rename_i hc
        simp only [Bool.and_eq_true, decide_eq_true_eq] at hc
        obtain ⟨⟨rfl, hl⟩, hne⟩ := hc
        unfold compPar at h
        split at h
        · rename_i is gs e1 e2
          cases h
          simp only [compNms] at e1
          split at e1
          · rename_i i is' n1 e1'
            split at e1'
            · rename_i j is'' n2 e1''
              cases e1''; cases e1'; cases e1
              obtain ⟨x1, p1, ex1, s1⟩ := nmS_of R n1
              obtain ⟨x2, p2, ex2, s2⟩ := nmS_of R n2
              cases ex1; cases ex2
              obtain ⟨w1, w2⟩ := par_of R e2
              exact mkPre_ok ((gs_par2 R.calm R.nd (R.slot s1) (R.slot s2) (fun e => hne (by rw [s1, s2, e])) (locLs_ok R hl x (by simp)) (locLs_ok R hl y (by simp)) hw w1).congr fun env S => rfl)
            · cases e1'
          · cases e1
        · cases h
      · cases h
    · cases h
  · rename_i x px y py z pz
    split at h
    · rename_i a b d
      split at h
      · rename_i hc
        simp only [Bool.and_eq_true, decide_eq_true_eq] at hc
        obtain ⟨⟨⟨⟨rfl, hl⟩, hne1⟩, hne2⟩, hne3⟩ := hc
        unfold compPar at h
        split at h
        · rename_i is gs e1 e2
          cases h
          simp only [compNms] at e1
          split at e1
          · rename_i i is' n1 e1'
            split at e1'
            · rename_i j is'' n2 e1''
              split at e1''
              · rename_i l is3 n3 e13
                cases e13; cases e1''; cases e1'; cases e1
                obtain ⟨x1, p1, ex1, s1⟩ := nmS_of R n1
                obtain ⟨x2, p2, ex2, s2⟩ := nmS_of R n2
                obtain ⟨x3, p3, ex3, s3⟩ := nmS_of R n3
                cases ex1; cases ex2; cases ex3
                obtain ⟨w1, w2⟩ := par_of R e2
                exact mkPre_ok ((gs_par3 R.calm R.nd (R.slot s1) (R.slot s2) (R.slot s3) (fun e => hne1 (by rw [s1, s2, e])) (fun e => hne2 (by rw [s1, s3, e])) (fun e => hne3 (by rw [s2, s3, e])) (locLs_ok R hl x (by simp)) (locLs_ok R hl y (by simp)) (locLs_ok R hl z (by simp)) hw w1).congr fun env S => rfl)
              · cases e1''
            · cases e1'
          · cases e1
        · cases h
      · cases h
    · cases h
  · cases h
theorem compTT_ok (R : Rt c C k X) {tes ves : List Expr} {kt k2 : Nat} {pt p2 pos : Pos} {g : St} (h : compTT n c tes ves = some g) : GS X (.Assign [.Tuple tes kt pt] (.Tuple ves k2 p2) pos) (evS C g) := by
  unfold compTT at h
  split at h
  · rename_i hz
    split at h
    · rename_i names hsw
      rw [← R.sc] at hsw
      exact compP2_ok R (swP_ok (by rw [R.sc]; exact R.kind) hsw) h
    · rename_i hsw
      rw [← R.sc] at hsw
      have hw := swP_ok (kt := kt) (k2 := k2) (pt := pt) (p2 := p2) (env := X.env) (by rw [R.sc]; exact R.kind) hsw
      unfold compPar at h
      split at h
      · rename_i is gs e1 e2
        cases h
        obtain ⟨q1, q2, q3, q4⟩ := compNms_ok R e1
        obtain ⟨w1, w2⟩ := par_of R e2
        exact mkPre_ok ((gs_parN swapsT hw rfl (pg_sq R.calm q1 q2 q3) q4 hz w1 fun env S r hr => by rw [evPar_len hr, w2]).congr fun env S => rfl)
      · cases h
    · cases h
  · cases h
theorem compTE_ok (R : Rt c C k X) {tes : List Expr} {e : Expr} {kt : Nat} {pt pos : Pos} {g : St} (hne : isTupE e = false) (h : compTE n c tes e = some g) : GS X (.Assign [.Tuple tes kt pt] e pos) (evS C g) := by
  unfold compTE at h
  split at h
  · rename_i is y e1 e2
    cases h
    obtain ⟨q1, q2, q3, q4⟩ := compNms_ok R e1
    exact mkPre_ok ((gs_setTu swapsT (storesT hne) rfl (pg_sq R.calm q1 q2 q3) q4 ((comp_ok C n).e c e y k X e2 R)).congr fun env S => rfl)
  · cases h
theorem compIA_ok (R : Rt c C k X) {x : Str} {p p2 pos : Pos} {kx e : Expr} {g : St} (h : compIA n c x kx e = some g) : GS X (.Assign [.Subscript (.Name x p) kx p2] e pos) (evS C g) := by
  unfold compIA at h
  split at h
  · rename_i hpl
    split at h
    · rename_i i gk gv e1 e2 e3
      cases h
      obtain ⟨a1, a2, a3, a4⟩ := nmOk_ok R e1
      exact mkPre_ok ((gs_setIx R.room a1 a2 a3 a4 (assign_sub hpl) swapsS storesS rfl ((comp_ok C n).e c kx gk k X e2 R) ((comp_ok C n).e c e gv k X e3 R)).congr fun env S => rfl)
    · cases h
  · cases h
theorem compA_ok (R : Rt c C k X) {t e : Expr} {pos : Pos} {g : St} (h : compA n c t e = some g) : GS X (.Assign [t] e pos) (evS C g) := by
  cases t with
  | Name x p =>
    replace h : (if isSd e then compSd n c x e else if isLC e then compLA n c x p e else compNA n c x p e) = some g := h
    split at h
    · exact compSd_ok R h
    · split at h
      · exact compLA_ok R h
      · rename_i hlc
        exact compNA_ok R (swapsN (by simpa using hlc)) h
  | Tuple tes kt pt =>
    cases e with
    | Tuple ves k2 p2 => exact compTT_ok R h
    | _ => exact compTE_ok R rfl h
  | Subscript o kx p2 =>
    cases o with
    | Name x p => exact compIA_ok R h
    | _ => cases h
  | _ => cases h
theorem cs_s (ih : CS C n) : ∀ c st g k X, compS (n + 1) c st = some g → Rt c C k X → X.xe = (fun _ _ => False) → GS X st (evS C g) := by
  intro c st g k X h R hx
  have ce := comp_ok C n
  cases st with
  | Assign ts e pos =>
    match ts, h with
    | [t], h => exact compA_ok R h
    | [], h => cases h
    | _ :: _ :: _, h => cases h
  | Expr e pos =>
    simp only [compS] at h
    split at h
    · rename_i s e1
      cases h
      exact compApp_ok R e1
    · split at h
      · cases h
      · rename_i hlc
        obtain ⟨y, h1, rfl⟩ := map_some h
        exact mkPre_ok ((gs_exp (swapsN (by simpa using hlc)) (ce.e c e y k X h1 R)).congr fun env S => rfl)
  | If t a b pos =>
    simp only [compS] at h
    split at h
    · rename_i x y z e1 e2 e3
      cases h
      exact mkPre_ok ((gs_ife (ce.t c t x k X e1 R) (ih.ss c a y k X e2 R hx) (ih.ss c b z k X e3 R hx)).congr fun env S => rfl)
    · cases h
  | While t body orelse pos =>
    simp only [compS] at h
    split at h
    · split at h
      · rename_i x y e1 e2
        cases h
        exact (gs_wh (esc n c false t) (passes hx) (ce.t c t x k X e1 R) (ih.ss c body y k X e2 R hx)).congr fun env S => rfl
      · cases h
    · cases h
  | For tg it body orelse pos =>
    simp only [compS] at h
    split at h
    · split at h
      · cases h
      · rename_i hset
        split at h
        · rename_i t i b e1 e2 e3
          cases h
          obtain ⟨q1, q2, q3⟩ := compTg_ok R e1
          refine mkPre_ok ((gs_for (tg := t) (passes hx) R.calm (ce.it c _ it i k X tg e2 (fun ht => ?_) R) q1 (ih.ss c body b k X e3 R hx) q2 (set_ok (by simpa using hset) X.env)).congr fun env S => rfl)
          cases tg with
          | Tuple es m p => exact ⟨es, m, p, rfl⟩
          | _ => cases ht
        · cases h
    · cases h
  | Return v pos =>
    simp only [compS] at h
    split at h
    · cases h
    · rename_i e
      have plain : (compE n c e).map (fun g => mkPre (esc n c true e) (.ret g)) = some g → GS X (.Return (some e) pos) (evS C g) := fun h => by
        obtain ⟨y, h1, rfl⟩ := map_some h
        exact mkPre_ok ((gs_ret (ce.e c e y k X h1 R)).congr fun env S => rfl)
      split at h
      · rename_i x p
        split at h
        · rename_i i e1
          cases h
          obtain ⟨a1, a2, a3, a4⟩ := nmOk_ok R e1
          exact (gs_retV a1 a2 a3 a4).congr fun env S => rfl
        · exact plain h
      · exact plain h
  | _ => cases h
theorem cs_succ (ih : CS C n) : CS C (n + 1) where
  s := cs_s ih
  ss := fun c st g k X h R hx => by
    cases st with
    | nil => cases h; exact gss_nil.congr fun env S => rfl
    | cons s ss =>
      simp only [compSs] at h
      split at h
      · rename_i x xs e1 e2
        cases h
        refine (gss_cons (ih.s c s x k X e1 R hx) (ih.ss c ss xs k X e2 R hx)).congr fun env S => ?_
        show (evS C x env S).bind _ = (evS C x env S).bind _
        refine bind_congr fun f => ?_
        cases f <;> rfl
      · cases h
theorem cs_zero (C : Cal) : CS C 0 where
  s := fun c st g k X h => by cases h
  ss := fun c st g k X h => by cases h
theorem comp_sok (C : Cal) : ∀ n, CS C n
  | 0 => cs_zero C
  | n + 1 => cs_succ (comp_sok C n)
end
end Z
end
section
/-! ZZC: a module of defs. -/
namespace Z
open PySem L2 PySem.Spec PyProof.Rows
def defNm : Stmt → Str
  | .FunctionDef x _ _ _ _ _ _ _ _ _ => x
  | _ => ""
def defPs (st : Stmt) : List Str := (defArgs st).args.map (·.arg)
mutual
def scE : Nat → Expr → List Scope
  | 0, _ => []
  | n + 1, e => match e with
    | .Tuple es _ _ | .List es _ => es.flatMap (scE n)
    | .Dict ks vs _ => (ks.filterMap id).flatMap (scE n) ++ vs.flatMap (scE n)
    | .BinOp a _ b _ => scE n a ++ scE n b
    | .UnaryOp _ a _ => scE n a
    | .BoolOp _ vs _ => vs.flatMap (scE n)
    | .Compare a _ bs _ => scE n a ++ bs.flatMap (scE n)
    | .IfExp t a b _ => scE n t ++ scE n a ++ scE n b
    | .Subscript a b _ => scE n a ++ scE n b
    | .Slice lo hi _ _ => (lo.toList ++ hi.toList).flatMap (scE n)
    | .Call f es kws _ => scE n f ++ es.flatMap (scE n) ++ kws.flatMap fun q => scE n q.value
    | .Attribute a _ _ => scE n a
    | .ListComp elt gs scope _ => scope :: (scE n elt ++ gs.flatMap fun g => scE n g.iter ++ g.ifs.flatMap (scE n))
    | _ => []
def scS : Nat → Stmt → List Scope
  | 0, _ => []
  | n + 1, s => match s with
    | .Assign ts e _ => ts.flatMap (scE n) ++ scE n e
    | .Expr e _ => scE n e
    | .If t a b _ => scE n t ++ a.flatMap (scS n) ++ b.flatMap (scS n)
    | .While t a _ _ => scE n t ++ a.flatMap (scS n)
    | .For t i a _ _ => scE n t ++ scE n i ++ a.flatMap (scS n)
    | .Return v _ => v.toList.flatMap (scE n)
    | _ => []
end
def ownNames (s : Scope) : List Str := s.names.filterMap fun y => match y.2 with
  | .local | .cell => some y.1
  | _ => none
def addNew (xs : List Str) : List Str → List Str
  | [] => xs
  | y :: ys => addNew (if xs.contains y then xs else xs ++ [y]) ys
def namesOf (st : Stmt) : List Str := addNew (defPs st) (ownNames (defScope st) ++ ((defBody st).flatMap (scS 100)).flatMap ownNames)
structure Mdl where
  defs : List Stmt
  kw : List (Str × List (List Str))
  blt : List Str
  cis : List (Str × D)
  dfl : List (Str × List D)
  sh : List Str
def Mdl.fns (m : Mdl) : List (Str × Nat × Nat × List (List Str)) := m.defs.zipIdx.map fun p => (defNm p.1, p.2, (defPs p.1).length, (m.kw.lookup (defNm p.1)).getD [])
def Mdl.cc (m : Mdl) (st : Stmt) : Cc := ⟨namesOf st, defScope st, fun _ => true, m.fns, m.blt, m.cis, m.dfl, m.sh⟩
def Mdl.body (m : Mdl) (st : Stmt) : Option (List St) := compSs 100 (m.cc st) (defBody st)
end Z
end
section
/-! ZZD: from the defs of a module to their promises. -/
namespace Z
open PySem L2 PySem.Spec PyProof.Rows
def scOkB (st : Stmt) : Bool := decide ((defScope st).kind = .function) && decide ((defScope st).isCoroutine = false) && decide ((defScope st).isGenerator = false) && decide (namesOf st).Nodup && decide ((namesOf st).take (defPs st).length = defPs st) &&
  (defPs st).all (fun x => decide ((defScope st).names.lookup x = some .local ∨ (defScope st).names.lookup x = some .cell)) && (defScope st).names.all (fun y => decide (y.2 ≠ .free))
theorem scOk_of {st : Stmt} (h : scOkB st = true) : FnScope (namesOf st) (defPs st) (defScope st) := by
  unfold scOkB at h
  simp only [Bool.and_eq_true, decide_eq_true_eq, List.all_eq_true] at h
  obtain ⟨⟨⟨⟨⟨⟨h1, h2⟩, h3⟩, h4⟩, h5⟩, h6⟩, h7⟩ := h
  exact ⟨h1, h2, h3, h4, h5, h6, h7⟩
def leafV : D → V
  | .bl b => .bl b | .int i => .int i | .str x => .str x | _ => .non
def leafB : D → Bool
  | .non | .bl _ | .int _ | .str _ => true
  | _ => false
theorem leaf_rep {P : Program} {w : World} {K : PySem.W.Frag} {F : Addr → Prop} {ι : Io} {H : Hp} : ∀ {d : D}, leafB d = true → Rep P w K F ι H d (leafV d)
  | .non, _ => .non
  | .bl b, _ => .bl b
  | .int i, _ => .int i
  | .str x, _ => .str x
theorem leaf_repL {P : Program} {w : World} {K : PySem.W.Frag} {F : Addr → Prop} {ι : Io} {H : Hp} : ∀ {ds : List D}, ds.all leafB = true → RepL P w K F ι H ds (ds.map leafV)
  | [], _ => .nil
  | d :: ds, h => by
    simp only [List.all_cons, Bool.and_eq_true] at h
    exact .cons (leaf_rep h.1) (leaf_repL h.2)
def Mdl.fn (m : Mdl) (i : Nat) : Option Fn := (m.defs[i]?).bind fun st => (m.body st).map fun b => ⟨(defPs st).length, (namesOf st).length, b⟩
def Mdl.okB (m : Mdl) : Bool := (m.defs.all fun st => scOkB st && (m.body st).isSome) && m.dfl.all fun p => p.2.all leafB
def Mdl.df (m : Mdl) (x : Str) : List D := (m.dfl.lookup x).getD []
/-- what the top of the program gives of a def -/
def DefOk (K : PySem.W.Frag) (mg : Str → Option Value) (m : Mdl) (st : Stmt) : Prop :=
  ∃ f fd, mg (defNm st) = some (.ref f) ∧ FunD K (defNm st) (defNm st) (defArgs st) (defBody st) (defScope st) ((m.df (defNm st)).map leafV) [] f fd ∧ Binds K fd (defPs st) [] ∧ (m.df (defNm st) = [] → ∀ us : List Value, us.length = (defPs st).length → bindArgs fd ⟨us, []⟩ = pure ((defPs st).zip us)) ∧ (∀ ks ∈ (m.kw.lookup (defNm st)).getD [], ∀ us ws : List Value, ws.length = ks.length → (us ++ ws).length = (defPs st).length → bindArgs fd ⟨us, ks.zip ws⟩ = pure ((defPs st).zip (us ++ ws))) ∧ (∀ ks ∈ (m.kw.lookup (defNm st)).getD [], (defPs st).length ≠ 0) ∧
    ∀ j, j < (m.df (defNm st)).length → ∃ us, Binds K fd (defPs st) us ∧ Vals (((m.df (defNm st)).drop j).map leafV) us
/-- a def without defaults -/
theorem dok0 {K : PySem.W.Frag} {mg : Str → Option Value} {m : Mdl} {st : Stmt} {f : Addr} {oc : Value} {od an : Option Addr} {osl : Array (Option Value)} {kV doc pm cdv ct : Value} (hm : mg (defNm st) = some (.ref f)) (l : K.lookup f = some ⟨oc, od, .func (PySem.W.fnOf (defNm st) (defNm st) (defArgs st) (defBody st) (defScope st) .none kV doc pm an cdv ct), osl⟩)
    (c : PySem.W.codeIn K cdv (defNm st) = true) (k : PySem.W.keepIn K (.ref f) = true) (hd : m.df (defNm st) = []) (hb : ∀ us : List Value, us.length = (defPs st).length → bindArgs (PySem.W.fnOf (defNm st) (defNm st) (defArgs st) (defBody st) (defScope st) .none kV doc pm an cdv ct) ⟨us, []⟩ = pure ((defPs st).zip us))
    (hk : ∀ ks ∈ (m.kw.lookup (defNm st)).getD [], ∀ us ws : List Value, ws.length = ks.length → (us ++ ws).length = (defPs st).length → bindArgs (PySem.W.fnOf (defNm st) (defNm st) (defArgs st) (defBody st) (defScope st) .none kV doc pm an cdv ct) ⟨us, ks.zip ws⟩ = pure ((defPs st).zip (us ++ ws))) (hk2 : ∀ ks ∈ (m.kw.lookup (defNm st)).getD [], (defPs st).length ≠ 0) : DefOk K mg m st :=
  ⟨f, _, hm, ⟨⟨oc, od, .none, kV, doc, pm, an, cdv, ct, osl, rfl, l, c, .inl ⟨by rw [hd]; rfl, rfl⟩, .inl rfl⟩, k⟩, .all hb, fun _ => hb, hk, hk2, fun j hj => by rw [hd] at hj; cases hj⟩
/-- how the arguments bind where the defaults dd stand -/
def BindD (st : Stmt) (dd : List D) : Prop := ∀ j, j ≤ dd.length → ∀ (T : Addr) (kV doc pm : Value) (an : Option Addr) (cdv ct : Value) (us its : List Value), us.length = (defPs st).length - (dd.length - j) → its.length = dd.length →
  ∃ k, bindArgs (PySem.W.fnOf (defNm st) (defNm st) (defArgs st) (defBody st) (defScope st) (.ref T) kV doc pm an cdv ct) ⟨us, []⟩ = seqItems? (.ref T) >>= k ∧ k (some its.toArray) = pure ((defPs st).zip (us ++ its.drop j))
theorem dokD {K : PySem.W.Frag} {mg : Str → Option Value} {m : Mdl} {st : Stmt} {f T : Addr} {oc tc : Value} {od td an : Option Addr} {osl tsl : Array (Option Value)} {kV doc pm cdv ct : Value} {its : List Value} {n : Nat} {dd : List D} (hm : mg (defNm st) = some (.ref f)) (l : K.lookup f = some ⟨oc, od, .func (PySem.W.fnOf (defNm st) (defNm st) (defArgs st) (defBody st) (defScope st) (.ref T) kV doc pm an cdv ct), osl⟩)
    (lT : K.lookup T = some ⟨tc, td, .seq its.toArray n, tsl⟩) (c : PySem.W.codeIn K cdv (defNm st) = true) (k : PySem.W.keepIn K (.ref f) = true) (hd : m.df (defNm st) = dd) (hv : Vals (dd.map leafV) its) (hne : dd ≠ []) (hle : dd.length ≤ (defPs st).length) (hb : BindD st dd) (hk : (m.kw.lookup (defNm st)).getD [] = []) : DefOk K mg m st := by
  have F : FunD K (defNm st) (defNm st) (defArgs st) (defBody st) (defScope st) (dd.map leafV) [] f (PySem.W.fnOf (defNm st) (defNm st) (defArgs st) (defBody st) (defScope st) (.ref T) kV doc pm an cdv ct) :=
    ⟨⟨oc, od, .ref T, kV, doc, pm, an, cdv, ct, osl, rfl, l, c, .inr ⟨by simpa using hne, T, _, its, n, rfl, lT, rfl, hv⟩, .inl rfl⟩, k⟩
  have B : ∀ j, j ≤ dd.length → ∃ ds, Vals ((dd.map leafV).drop j) ds ∧ Binds K (PySem.W.fnOf (defNm st) (defNm st) (defArgs st) (defBody st) (defScope st) (.ref T) kV doc pm an cdv ct) (defPs st) ds := fun j hj =>
    F.binds1 (ps := defPs st) ((defPs st).length - (dd.length - j)) j (by simpa using hne) (by rw [List.length_map]; omega) fun T kV doc pm an cdv ct us its h1 h2 => hb j hj T kV doc pm an cdv ct us its h1 (by rw [h2, List.length_map])
  refine ⟨f, _, hm, by rw [hd]; exact F, ?_, fun h => absurd (hd.symm.trans h) hne, fun ks hks => by (rw [hk] at hks; cases hks), fun ks hks => by (rw [hk] at hks; cases hks), fun j hj => ?_⟩
  · obtain ⟨ds, h1, h2⟩ := B dd.length (Nat.le_refl _)
    rw [List.drop_of_length_le (by simp)] at h1
    cases h1
    exact h2
  · rw [hd] at hj ⊢
    obtain ⟨ds, h1, h2⟩ := B j (Nat.le_of_lt hj)
    exact ⟨ds, h2, by rw [List.map_drop]; exact h1⟩
theorem kbinds_of {K : PySem.W.Frag} {fd : FuncData} {ps ks : List Str} (h0 : ps.length ≠ 0) (h : ∀ us ws : List Value, ws.length = ks.length → (us ++ ws).length = ps.length → bindArgs fd ⟨us, ks.zip ws⟩ = pure (ps.zip (us ++ ws))) : KBinds K fd ps ks (kG ks.length) (kG ks.length) := by
  refine ⟨fun s us ws _ hl => ?_, fun {vs us zs ws} r r' => ?_⟩
  · unfold kG at hl ⊢
    split at hl
    · rename_i hw
      rw [if_pos hw]
      exact .of_eq (h us ws hw hl)
    · exact absurd hl.symm h0
  · unfold kG
    rw [r'.length]
    split
    · exact r.append r'
    · exact .nil
structure MOk (K : PySem.W.Frag) (mg : Str → Option Value) (m : Mdl) : Prop where
  ok : m.okB = true
  defs : ∀ st ∈ m.defs, DefOk K mg m st
  blt : ∀ x ∈ m.blt, mg x = none
  cis : ∀ p ∈ m.cis, ∃ u v, mg p.1 = some u ∧ RelV v u ∧ ∀ P w F ι H, Rep P w K F ι H p.2 v
theorem lookup_mem {α β : Type} [BEq α] [LawfulBEq α] {x : α} {b : β} : ∀ {l : List (α × β)}, l.lookup x = some b → (x, b) ∈ l
  | [], h => by simp at h
  | (a, c) :: l, h => by
    rw [List.lookup_cons] at h
    split at h
    · rename_i e
      cases h
      have : x = a := by simpa using e
      subst this
      simp
    · exact List.mem_cons_of_mem _ (lookup_mem h)
theorem fns_of {m : Mdl} {x : Str} {i n : Nat} {kwl : List (List Str)} (h : m.fns.lookup x = some (i, n, kwl)) : ∃ st, m.defs[i]? = some st ∧ x = defNm st ∧ n = (defPs st).length ∧ kwl = (m.kw.lookup (defNm st)).getD [] := by
  have hm := lookup_mem h
  unfold Mdl.fns at hm
  obtain ⟨⟨st, j⟩, hp, e⟩ := List.mem_map.mp hm
  simp only [Prod.mk.injEq] at e
  obtain ⟨e1, e2, e3, e4⟩ := e
  subst e2
  have := List.mem_zipIdx_iff_getElem?.mp hp
  exact ⟨st, by simpa using this, e1.symm, e3.symm, e4.symm⟩
section
variable {P : Program} {w : World} {K : PySem.W.Frag} {mg : Str → Option Value} {base : Heap} {m : Mdl}
theorem defs_ok (M : MOk K mg m) : ∀ (L : Nat) (i : Nat) (st : Stmt) (f : Addr) (fd : FuncData), m.defs[i]? = some st → FunD K (defNm st) (defNm st) (defArgs st) (defBody st) (defScope st) ((m.df (defNm st)).map leafV) [] f fd →
    FnOk P w K mg base CX0 L f fd (defPs st) (spC P w K (defPs st).length (callN m.fn L i))
  | 0, i, st, f, fd, hi, h2 => by
    refine ⟨fun vs H Q E h => h.1, fun A outer s H args us vs Q E _ _ _ _ hsp => ?_⟩
    obtain ⟨_, ds, S, r, F, ι, hg, _⟩ := hsp
    cases hg
  | L + 1, i, st, f, fd, hi, h2 => by
    have hok := M.ok
    unfold Mdl.okB at hok
    rw [Bool.and_eq_true] at hok
    have hb := List.all_eq_true.mp hok.1 st (List.mem_of_getElem? hi)
    simp only [Bool.and_eq_true] at hb
    obtain ⟨b, hb2⟩ := Option.isSome_iff_exists.mp hb.2
    have sc := scOk_of hb.1
    have hfn : m.fn i = some ⟨(defPs st).length, (namesOf st).length, b⟩ := by
      unfold Mdl.fn
      rw [hi]
      show (m.body st).map _ = _
      rw [hb2]
      rfl
    have e : callN m.fn (L + 1) i = runF (callN m.fn L) (L + 1) ⟨(defPs st).length, (namesOf st).length, b⟩ := by
      funext ds S
      show (match m.fn i with | some fn => runF (callN m.fn L) (L + 1) fn ds S | none => .no) = _
      rw [hfn]
    rw [e]
    refine fn_ok (fn := ⟨(defPs st).length, (namesOf st).length, b⟩) (l := L + 1) (C := callN m.fn L) h2 sc rfl fun cdv A outer s H E hr => ?_
    refine (comp_sok (callN m.fn L) 100).ss (m.cc st) (defBody st) b L _ hb2 ?_ rfl
    refine ⟨rfl, sc.nd, rfl, hr, rfl, sc.kind, rfl, M.blt, fun x j hj => ?_, fun x j n kwl hj => ?_⟩
    · obtain ⟨u, v, q1, q2, q3⟩ := M.cis (x, j) (lookup_mem hj)
      exact ⟨u, v, q1, q2, fun F ι H => q3 _ _ F ι H⟩
    · obtain ⟨st', g1, rfl, rfl, rfl⟩ := fns_of hj
      obtain ⟨f', fd', k1, k2, k3, k3', k4, k5, k6⟩ := M.defs st' (List.mem_of_getElem? g1)
      refine ⟨f', fd', defPs st', k1, k2.kp, k3, fun ks hks => kbinds_of (k5 ks hks) (k4 ks hks), defs_ok M L j st' f' fd' g1 k2, fun i hi => ?_⟩
      obtain ⟨us, b1, b2⟩ := k6 i hi
      refine ⟨us, _, b1, b2, fun F ι H => leaf_repL ?_⟩
      have hall : (m.df (defNm st')).all leafB = true := by
        unfold Mdl.df
        cases hq : m.dfl.lookup (defNm st') with
        | none => rfl
        | some dd => exact List.all_eq_true.mp hok.2 (_, dd) (lookup_mem hq)
      rw [List.all_eq_true] at hall ⊢
      exact fun d hd => hall d (List.mem_of_mem_drop hd)
/-- THE LAW'S HEAD -/
theorem law_sp {n : Nat} {g : List D → Sto → Out Res} {H : Hp} {a : Addr} {ns : List Int} (hS : SqL K H a (ns.map V.int)) (h : g [.lst (ns.map D.int)] [] = .ok (.bl true, .fz, [])) (E : XK) : spC P w K 1 g [.ref a] H (fun v _ => v = .bl true) E := by
  let F : Addr → Prop := fun b => H b ≠ none
  have rl : ∀ ns : List Int, RepL P w K F [] H (ns.map D.int) (ns.map V.int) := by
    intro ns
    induction ns with
    | nil => exact .nil
    | cons n ns ih => exact .cons (.int n) ih
  have rep : Rep P w K F [] H (.lst (ns.map D.int)) (.ref a) := by
    rcases hS with (h | ⟨o, h⟩) | h
    · exact .lst (by show H a ≠ none; rw [h]; simp) (.inl (.inl h)) (rl ns)
    · exact .lst (by show H a ≠ none; rw [h]; simp) (.inl (.inr ⟨o, h⟩)) (rl ns)
    · exact .lstK (.inr h) (rl ns)
  refine ⟨rfl, _, [], _, F, [], h, .cons rep .nil, ⟨rfl, by simp, fun l i d h => by simp [look] at h, fun l i d h => by simp [look] at h, fun l i l' i' a h => by simp [ioAt] at h, fun _ h => h, fun a _ ⟨l, i, h⟩ => by simp [ioAt] at h⟩, fun v H' ⟨F', ι', _, _, r⟩ => ?_⟩
  have r' : Rep P w K F' ι' H' (.bl true) v := r
  cases r' with
  | bl => rfl
  | obj _ t => cases t
theorem law_walk {l : PySem.W.OpenLaw} {q : Program} {loose : List Str} {XP : (Str → Option Value) → Heap → Prop} {YP : World → Heap → Prop} {d : DefRec} {K : Params → PySem.W.Frag} {m : Mdl} {L i : Nat} {st : Stmt} (hn : l.most = some 63) (hdf : d.params.defaults = []) (hr : Room L callerA)
    (hY : ∀ (w : World) (h : Heap), YP w h → (K w.params).In h) (hi : m.defs[i]? = some st) (hnm : defNm st = d.name) (hps : defPs st = [("script" : Str)]) (hdl : m.df (defNm st) = [])
    (M : ∀ (w : World) (mg : Str → Option Value) (h : Heap), (K w.params).In h → h.Ns mainGlobals mg → MOk (K w.params) mg m)
    (plain : ∀ ns : List Int, ns.length ≤ 63 → (∀ z ∈ ns, Builtin.Int.intBits z ≤ 1048576) → callN m.fn L i [.lst (ns.map D.int)] [] = .ok (.bl true, .fz, [])) :
    PySem.W.WalkO q loose XP YP l.row.toRowW d [] (fun f vs => PySem.call f vs) := by
  refine L2.walk_ofB (n := 63) (k := L) (x := "script") (CX := fun _ => CX0) (sp := fun w => spC l.prog w (K w.params) 1 (callN m.fn L i)) hn (by decide) hdf hr hY (fun w mg fa h KX G hmg => ?_) (fun w H a ns h1 h2 hO hS => law_sp (n := 1) hS (plain ns h1 h2) _) fun _ _ _ _ _ z => z
  have MM := M w mg h KX G
  obtain ⟨f, fd, h1, h2, h2', h3', h4, _⟩ := MM.defs st (List.mem_of_getElem? hi)
  have h3 := h3' hdl
  rw [hnm, hmg] at h1
  cases h1
  refine ⟨fd, fun s v => ?_, fun base _ _ => ?_⟩
  · have e := h3 [v] (by rw [hps]; rfl)
    rw [hps] at e
    exact .of_eq e
  · have q := defs_ok (P := l.prog) (w := w) (base := base) MM L i st fa fd hi h2
    rw [hps] at q
    exact q
end
end Z
end
section
namespace Z
open PySem L2 PySem.Spec PyProof.Rows
def top74 (i : Nat) : Stmt := PySem.Challenge.pw_leastsaid_k74_any_event_that_can_be.main.body.getD i (.Pass ⟨0, 0, 0, 0⟩)
def m74 : Mdl := ⟨[top74 1, top74 2, top74 3, top74 8, top74 12, top74 13, top74 14, top74 15, top74 16, top74 17, top74 18, top74 19, top74 20, top74 21, top74 22, top74 24, top74 25, top74 26, top74 27, top74 28, top74 29, top74 30, top74 31, top74 32, top74 33, top74 34, top74 35, top74 36, top74 37, top74 38, top74 39, top74 40, top74 41, top74 42, top74 43, top74 44, top74 45, top74 46, top74 47],
  [("can_event", [["value"]])],
  ["len", "int", "abs", "tuple", "list", "sorted", "any", "all", "max", "min", "dict", "range", "enumerate", "zip", "isinstance", "bool", "str"], [("DID", .str "did"), ("SAID", .str "said"), ("HEARD", .str "heard"), ("BEGIN", .int (-1)), ("EDITS", .tup [.str "behind", .str "away", .str "instead"])], [("is_number", [.int (0), .non]), ("is_tuple", [.non])], ["_law_box"]⟩
theorem ok74 : m74.okB = true := by decide +kernel
theorem bd74_1 : BindD (top74 2) [.int (0), .non] := by
  intro j hj T kV doc pm an cdv ct us its h1 h2
  match j, hj, us, its, h1, h2 with
  | 0, _, [u0], [w0, w1], _, _ => exact ⟨_, rfl, rfl⟩
  | 1, _, [u0, u1], [w0, w1], _, _ => exact ⟨_, rfl, rfl⟩
  | 2, _, [u0, u1, u2], [w0, w1], _, _ => exact ⟨_, rfl, rfl⟩
theorem bd74_2 : BindD (top74 3) [.non] := by
  intro j hj T kV doc pm an cdv ct us its h1 h2
  match j, hj, us, its, h1, h2 with
  | 0, _, [u0], [w0], _, _ => exact ⟨_, rfl, rfl⟩
  | 1, _, [u0, u1], [w0], _, _ => exact ⟨_, rfl, rfl⟩
theorem kw74_can_event (kV dc pm : Value) (an : Option Addr) (cd ct : Value) (ks : List Str) (hks : ks ∈ (m74.kw.lookup (defNm (top74 22))).getD []) (us ws : List Value) (hw : ws.length = ks.length) (hl : (us ++ ws).length = (defPs (top74 22)).length) :
    bindArgs (PySem.W.fnOf "can_event" "can_event" (defArgs (top74 22)) (defBody (top74 22)) (defScope (top74 22)) .none kV dc pm an cd ct) ⟨us, ks.zip ws⟩ = pure ((defPs (top74 22)).zip (us ++ ws)) := by
  have h2 : ks ∈ [(["value"] : List Str)] := hks
  have e : ks = (["value"] : List Str) := by simpa using h2
  rcases e with rfl
  ·
    have hw : ws.length = 1 := hw
    have hu : us.length = 3 := by
      have h3 : (us ++ ws).length = 4 := hl
      rw [List.length_append] at h3
      omega
    match us, ws, hu, hw with
    | [u0, u1, u2], [w0], _, _ => rfl
set_option maxHeartbeats 0 in
theorem mok74 {K : PySem.W.Frag} {h : Heap} {mg : Str → Option Value} (X : K.In h) (G : h.Ns mainGlobals mg)
    {f0 : Addr} {od0 an0 : Option Addr} {sl0 : Array (Option Value)} {oc0 kV0 dc0 pm0 cd0 ct0 : Value} (a0 : PySem.W.nsIn K mainGlobals "is_int" = some (some (.ref f0))) (l0 : K.lookup f0 = some ⟨oc0, od0, .func (PySem.W.fnOf "is_int" "is_int" (defArgs (top74 1)) (defBody (top74 1)) (defScope (top74 1)) .none kV0 dc0 pm0 an0 cd0 ct0), sl0⟩) (c0 : PySem.W.codeIn K cd0 "is_int" = true) (k0 : PySem.W.keepIn K (.ref f0) = true)
    {T1 : Addr} {tc1 : Value} {td1 : Option Addr} {ts1 : Array (Option Value)} {tn1 : Nat} {tk1 : Tok} {f1 : Addr} {od1 an1 : Option Addr} {sl1 : Array (Option Value)} {oc1 kV1 dc1 pm1 cd1 ct1 : Value} (a1 : PySem.W.nsIn K mainGlobals "is_number" = some (some (.ref f1))) (l1 : K.lookup f1 = some ⟨oc1, od1, .func (PySem.W.fnOf "is_number" "is_number" (defArgs (top74 2)) (defBody (top74 2)) (defScope (top74 2)) (.ref T1) kV1 dc1 pm1 an1 cd1 ct1), sl1⟩) (lt1 : K.lookup T1 = some ⟨tc1, td1, .seq #[.int (0) tk1, .none] tn1, ts1⟩) (c1 : PySem.W.codeIn K cd1 "is_number" = true) (k1 : PySem.W.keepIn K (.ref f1) = true)
    {T2 : Addr} {tc2 : Value} {td2 : Option Addr} {ts2 : Array (Option Value)} {tn2 : Nat} {f2 : Addr} {od2 an2 : Option Addr} {sl2 : Array (Option Value)} {oc2 kV2 dc2 pm2 cd2 ct2 : Value} (a2 : PySem.W.nsIn K mainGlobals "is_tuple" = some (some (.ref f2))) (l2 : K.lookup f2 = some ⟨oc2, od2, .func (PySem.W.fnOf "is_tuple" "is_tuple" (defArgs (top74 3)) (defBody (top74 3)) (defScope (top74 3)) (.ref T2) kV2 dc2 pm2 an2 cd2 ct2), sl2⟩) (lt2 : K.lookup T2 = some ⟨tc2, td2, .seq #[.none] tn2, ts2⟩) (c2 : PySem.W.codeIn K cd2 "is_tuple" = true) (k2 : PySem.W.keepIn K (.ref f2) = true)
    {f3 : Addr} {od3 an3 : Option Addr} {sl3 : Array (Option Value)} {oc3 kV3 dc3 pm3 cd3 ct3 : Value} (a3 : PySem.W.nsIn K mainGlobals "is_did" = some (some (.ref f3))) (l3 : K.lookup f3 = some ⟨oc3, od3, .func (PySem.W.fnOf "is_did" "is_did" (defArgs (top74 8)) (defBody (top74 8)) (defScope (top74 8)) .none kV3 dc3 pm3 an3 cd3 ct3), sl3⟩) (c3 : PySem.W.codeIn K cd3 "is_did" = true) (k3 : PySem.W.keepIn K (.ref f3) = true)
    {f4 : Addr} {od4 an4 : Option Addr} {sl4 : Array (Option Value)} {oc4 kV4 dc4 pm4 cd4 ct4 : Value} (a4 : PySem.W.nsIn K mainGlobals "spot_in" = some (some (.ref f4))) (l4 : K.lookup f4 = some ⟨oc4, od4, .func (PySem.W.fnOf "spot_in" "spot_in" (defArgs (top74 12)) (defBody (top74 12)) (defScope (top74 12)) .none kV4 dc4 pm4 an4 cd4 ct4), sl4⟩) (c4 : PySem.W.codeIn K cd4 "spot_in" = true) (k4 : PySem.W.keepIn K (.ref f4) = true)
    {f5 : Addr} {od5 an5 : Option Addr} {sl5 : Array (Option Value)} {oc5 kV5 dc5 pm5 cd5 ct5 : Value} (a5 : PySem.W.nsIn K mainGlobals "is_there" = some (some (.ref f5))) (l5 : K.lookup f5 = some ⟨oc5, od5, .func (PySem.W.fnOf "is_there" "is_there" (defArgs (top74 13)) (defBody (top74 13)) (defScope (top74 13)) .none kV5 dc5 pm5 an5 cd5 ct5), sl5⟩) (c5 : PySem.W.codeIn K cd5 "is_there" = true) (k5 : PySem.W.keepIn K (.ref f5) = true)
    {f6 : Addr} {od6 an6 : Option Addr} {sl6 : Array (Option Value)} {oc6 kV6 dc6 pm6 cd6 ct6 : Value} (a6 : PySem.W.nsIn K mainGlobals "put_right" = some (some (.ref f6))) (l6 : K.lookup f6 = some ⟨oc6, od6, .func (PySem.W.fnOf "put_right" "put_right" (defArgs (top74 14)) (defBody (top74 14)) (defScope (top74 14)) .none kV6 dc6 pm6 an6 cd6 ct6), sl6⟩) (c6 : PySem.W.codeIn K cd6 "put_right" = true) (k6 : PySem.W.keepIn K (.ref f6) = true)
    {f7 : Addr} {od7 an7 : Option Addr} {sl7 : Array (Option Value)} {oc7 kV7 dc7 pm7 cd7 ct7 : Value} (a7 : PySem.W.nsIn K mainGlobals "rows_after" = some (some (.ref f7))) (l7 : K.lookup f7 = some ⟨oc7, od7, .func (PySem.W.fnOf "rows_after" "rows_after" (defArgs (top74 15)) (defBody (top74 15)) (defScope (top74 15)) .none kV7 dc7 pm7 an7 cd7 ct7), sl7⟩) (c7 : PySem.W.codeIn K cd7 "rows_after" = true) (k7 : PySem.W.keepIn K (.ref f7) = true)
    {f8 : Addr} {od8 an8 : Option Addr} {sl8 : Array (Option Value)} {oc8 kV8 dc8 pm8 cd8 ct8 : Value} (a8 : PySem.W.nsIn K mainGlobals "taken_back" = some (some (.ref f8))) (l8 : K.lookup f8 = some ⟨oc8, od8, .func (PySem.W.fnOf "taken_back" "taken_back" (defArgs (top74 16)) (defBody (top74 16)) (defScope (top74 16)) .none kV8 dc8 pm8 an8 cd8 ct8), sl8⟩) (c8 : PySem.W.codeIn K cd8 "taken_back" = true) (k8 : PySem.W.keepIn K (.ref f8) = true)
    {f9 : Addr} {od9 an9 : Option Addr} {sl9 : Array (Option Value)} {oc9 kV9 dc9 pm9 cd9 ct9 : Value} (a9 : PySem.W.nsIn K mainGlobals "plain_duty" = some (some (.ref f9))) (l9 : K.lookup f9 = some ⟨oc9, od9, .func (PySem.W.fnOf "plain_duty" "plain_duty" (defArgs (top74 17)) (defBody (top74 17)) (defScope (top74 17)) .none kV9 dc9 pm9 an9 cd9 ct9), sl9⟩) (c9 : PySem.W.codeIn K cd9 "plain_duty" = true) (k9 : PySem.W.keepIn K (.ref f9) = true)
    {f10 : Addr} {od10 an10 : Option Addr} {sl10 : Array (Option Value)} {oc10 kV10 dc10 pm10 cd10 ct10 : Value} (a10 : PySem.W.nsIn K mainGlobals "last_settle" = some (some (.ref f10))) (l10 : K.lookup f10 = some ⟨oc10, od10, .func (PySem.W.fnOf "last_settle" "last_settle" (defArgs (top74 18)) (defBody (top74 18)) (defScope (top74 18)) .none kV10 dc10 pm10 an10 cd10 ct10), sl10⟩) (c10 : PySem.W.codeIn K cd10 "last_settle" = true) (k10 : PySem.W.keepIn K (.ref f10) = true)
    {f11 : Addr} {od11 an11 : Option Addr} {sl11 : Array (Option Value)} {oc11 kV11 dc11 pm11 cd11 ct11 : Value} (a11 : PySem.W.nsIn K mainGlobals "can_back" = some (some (.ref f11))) (l11 : K.lookup f11 = some ⟨oc11, od11, .func (PySem.W.fnOf "can_back" "can_back" (defArgs (top74 19)) (defBody (top74 19)) (defScope (top74 19)) .none kV11 dc11 pm11 an11 cd11 ct11), sl11⟩) (c11 : PySem.W.codeIn K cd11 "can_back" = true) (k11 : PySem.W.keepIn K (.ref f11) = true)
    {f12 : Addr} {od12 an12 : Option Addr} {sl12 : Array (Option Value)} {oc12 kV12 dc12 pm12 cd12 ct12 : Value} (a12 : PySem.W.nsIn K mainGlobals "is_entry" = some (some (.ref f12))) (l12 : K.lookup f12 = some ⟨oc12, od12, .func (PySem.W.fnOf "is_entry" "is_entry" (defArgs (top74 20)) (defBody (top74 20)) (defScope (top74 20)) .none kV12 dc12 pm12 an12 cd12 ct12), sl12⟩) (c12 : PySem.W.codeIn K cd12 "is_entry" = true) (k12 : PySem.W.keepIn K (.ref f12) = true)
    {f13 : Addr} {od13 an13 : Option Addr} {sl13 : Array (Option Value)} {oc13 kV13 dc13 pm13 cd13 ct13 : Value} (a13 : PySem.W.nsIn K mainGlobals "can_edit" = some (some (.ref f13))) (l13 : K.lookup f13 = some ⟨oc13, od13, .func (PySem.W.fnOf "can_edit" "can_edit" (defArgs (top74 21)) (defBody (top74 21)) (defScope (top74 21)) .none kV13 dc13 pm13 an13 cd13 ct13), sl13⟩) (c13 : PySem.W.codeIn K cd13 "can_edit" = true) (k13 : PySem.W.keepIn K (.ref f13) = true)
    {f14 : Addr} {od14 an14 : Option Addr} {sl14 : Array (Option Value)} {oc14 kV14 dc14 pm14 cd14 ct14 : Value} (a14 : PySem.W.nsIn K mainGlobals "can_event" = some (some (.ref f14))) (l14 : K.lookup f14 = some ⟨oc14, od14, .func (PySem.W.fnOf "can_event" "can_event" (defArgs (top74 22)) (defBody (top74 22)) (defScope (top74 22)) .none kV14 dc14 pm14 an14 cd14 ct14), sl14⟩) (c14 : PySem.W.codeIn K cd14 "can_event" = true) (k14 : PySem.W.keepIn K (.ref f14) = true)
    {f15 : Addr} {od15 an15 : Option Addr} {sl15 : Array (Option Value)} {oc15 kV15 dc15 pm15 cd15 ct15 : Value} (a15 : PySem.W.nsIn K mainGlobals "_law_box" = some (some (.ref f15))) (l15 : K.lookup f15 = some ⟨oc15, od15, .func (PySem.W.fnOf "_law_box" "_law_box" (defArgs (top74 24)) (defBody (top74 24)) (defScope (top74 24)) .none kV15 dc15 pm15 an15 cd15 ct15), sl15⟩) (c15 : PySem.W.codeIn K cd15 "_law_box" = true) (k15 : PySem.W.keepIn K (.ref f15) = true)
    {f16 : Addr} {od16 an16 : Option Addr} {sl16 : Array (Option Value)} {oc16 kV16 dc16 pm16 cd16 ct16 : Value} (a16 : PySem.W.nsIn K mainGlobals "_law_take" = some (some (.ref f16))) (l16 : K.lookup f16 = some ⟨oc16, od16, .func (PySem.W.fnOf "_law_take" "_law_take" (defArgs (top74 25)) (defBody (top74 25)) (defScope (top74 25)) .none kV16 dc16 pm16 an16 cd16 ct16), sl16⟩) (c16 : PySem.W.codeIn K cd16 "_law_take" = true) (k16 : PySem.W.keepIn K (.ref f16) = true)
    {f17 : Addr} {od17 an17 : Option Addr} {sl17 : Array (Option Value)} {oc17 kV17 dc17 pm17 cd17 ct17 : Value} (a17 : PySem.W.nsIn K mainGlobals "_law_pick" = some (some (.ref f17))) (l17 : K.lookup f17 = some ⟨oc17, od17, .func (PySem.W.fnOf "_law_pick" "_law_pick" (defArgs (top74 26)) (defBody (top74 26)) (defScope (top74 26)) .none kV17 dc17 pm17 an17 cd17 ct17), sl17⟩) (c17 : PySem.W.codeIn K cd17 "_law_pick" = true) (k17 : PySem.W.keepIn K (.ref f17) = true)
    {f18 : Addr} {od18 an18 : Option Addr} {sl18 : Array (Option Value)} {oc18 kV18 dc18 pm18 cd18 ct18 : Value} (a18 : PySem.W.nsIn K mainGlobals "_law_same" = some (some (.ref f18))) (l18 : K.lookup f18 = some ⟨oc18, od18, .func (PySem.W.fnOf "_law_same" "_law_same" (defArgs (top74 27)) (defBody (top74 27)) (defScope (top74 27)) .none kV18 dc18 pm18 an18 cd18 ct18), sl18⟩) (c18 : PySem.W.codeIn K cd18 "_law_same" = true) (k18 : PySem.W.keepIn K (.ref f18) = true)
    {f19 : Addr} {od19 an19 : Option Addr} {sl19 : Array (Option Value)} {oc19 kV19 dc19 pm19 cd19 ct19 : Value} (a19 : PySem.W.nsIn K mainGlobals "_law_least" = some (some (.ref f19))) (l19 : K.lookup f19 = some ⟨oc19, od19, .func (PySem.W.fnOf "_law_least" "_law_least" (defArgs (top74 28)) (defBody (top74 28)) (defScope (top74 28)) .none kV19 dc19 pm19 an19 cd19 ct19), sl19⟩) (c19 : PySem.W.codeIn K cd19 "_law_least" = true) (k19 : PySem.W.keepIn K (.ref f19) = true)
    {f20 : Addr} {od20 an20 : Option Addr} {sl20 : Array (Option Value)} {oc20 kV20 dc20 pm20 cd20 ct20 : Value} (a20 : PySem.W.nsIn K mainGlobals "_law_lamp_world" = some (some (.ref f20))) (l20 : K.lookup f20 = some ⟨oc20, od20, .func (PySem.W.fnOf "_law_lamp_world" "_law_lamp_world" (defArgs (top74 29)) (defBody (top74 29)) (defScope (top74 29)) .none kV20 dc20 pm20 an20 cd20 ct20), sl20⟩) (c20 : PySem.W.codeIn K cd20 "_law_lamp_world" = true) (k20 : PySem.W.keepIn K (.ref f20) = true)
    {f21 : Addr} {od21 an21 : Option Addr} {sl21 : Array (Option Value)} {oc21 kV21 dc21 pm21 cd21 ct21 : Value} (a21 : PySem.W.nsIn K mainGlobals "_law_answers" = some (some (.ref f21))) (l21 : K.lookup f21 = some ⟨oc21, od21, .func (PySem.W.fnOf "_law_answers" "_law_answers" (defArgs (top74 30)) (defBody (top74 30)) (defScope (top74 30)) .none kV21 dc21 pm21 an21 cd21 ct21), sl21⟩) (c21 : PySem.W.codeIn K cd21 "_law_answers" = true) (k21 : PySem.W.keepIn K (.ref f21) = true)
    {f22 : Addr} {od22 an22 : Option Addr} {sl22 : Array (Option Value)} {oc22 kV22 dc22 pm22 cd22 ct22 : Value} (a22 : PySem.W.nsIn K mainGlobals "_law_all_signs" = some (some (.ref f22))) (l22 : K.lookup f22 = some ⟨oc22, od22, .func (PySem.W.fnOf "_law_all_signs" "_law_all_signs" (defArgs (top74 31)) (defBody (top74 31)) (defScope (top74 31)) .none kV22 dc22 pm22 an22 cd22 ct22), sl22⟩) (c22 : PySem.W.codeIn K cd22 "_law_all_signs" = true) (k22 : PySem.W.keepIn K (.ref f22) = true)
    {f23 : Addr} {od23 an23 : Option Addr} {sl23 : Array (Option Value)} {oc23 kV23 dc23 pm23 cd23 ct23 : Value} (a23 : PySem.W.nsIn K mainGlobals "_law_lots_at" = some (some (.ref f23))) (l23 : K.lookup f23 = some ⟨oc23, od23, .func (PySem.W.fnOf "_law_lots_at" "_law_lots_at" (defArgs (top74 32)) (defBody (top74 32)) (defScope (top74 32)) .none kV23 dc23 pm23 an23 cd23 ct23), sl23⟩) (c23 : PySem.W.codeIn K cd23 "_law_lots_at" = true) (k23 : PySem.W.keepIn K (.ref f23) = true)
    {f24 : Addr} {od24 an24 : Option Addr} {sl24 : Array (Option Value)} {oc24 kV24 dc24 pm24 cd24 ct24 : Value} (a24 : PySem.W.nsIn K mainGlobals "_law_in" = some (some (.ref f24))) (l24 : K.lookup f24 = some ⟨oc24, od24, .func (PySem.W.fnOf "_law_in" "_law_in" (defArgs (top74 33)) (defBody (top74 33)) (defScope (top74 33)) .none kV24 dc24 pm24 an24 cd24 ct24), sl24⟩) (c24 : PySem.W.codeIn K cd24 "_law_in" = true) (k24 : PySem.W.keepIn K (.ref f24) = true)
    {f25 : Addr} {od25 an25 : Option Addr} {sl25 : Array (Option Value)} {oc25 kV25 dc25 pm25 cd25 ct25 : Value} (a25 : PySem.W.nsIn K mainGlobals "_law_says" = some (some (.ref f25))) (l25 : K.lookup f25 = some ⟨oc25, od25, .func (PySem.W.fnOf "_law_says" "_law_says" (defArgs (top74 34)) (defBody (top74 34)) (defScope (top74 34)) .none kV25 dc25 pm25 an25 cd25 ct25), sl25⟩) (c25 : PySem.W.codeIn K cd25 "_law_says" = true) (k25 : PySem.W.keepIn K (.ref f25) = true)
    {f26 : Addr} {od26 an26 : Option Addr} {sl26 : Array (Option Value)} {oc26 kV26 dc26 pm26 cd26 ct26 : Value} (a26 : PySem.W.nsIn K mainGlobals "_law_meaning" = some (some (.ref f26))) (l26 : K.lookup f26 = some ⟨oc26, od26, .func (PySem.W.fnOf "_law_meaning" "_law_meaning" (defArgs (top74 35)) (defBody (top74 35)) (defScope (top74 35)) .none kV26 dc26 pm26 an26 cd26 ct26), sl26⟩) (c26 : PySem.W.codeIn K cd26 "_law_meaning" = true) (k26 : PySem.W.keepIn K (.ref f26) = true)
    {f27 : Addr} {od27 an27 : Option Addr} {sl27 : Array (Option Value)} {oc27 kV27 dc27 pm27 cd27 ct27 : Value} (a27 : PySem.W.nsIn K mainGlobals "_law_is_number" = some (some (.ref f27))) (l27 : K.lookup f27 = some ⟨oc27, od27, .func (PySem.W.fnOf "_law_is_number" "_law_is_number" (defArgs (top74 36)) (defBody (top74 36)) (defScope (top74 36)) .none kV27 dc27 pm27 an27 cd27 ct27), sl27⟩) (c27 : PySem.W.codeIn K cd27 "_law_is_number" = true) (k27 : PySem.W.keepIn K (.ref f27) = true)
    {f28 : Addr} {od28 an28 : Option Addr} {sl28 : Array (Option Value)} {oc28 kV28 dc28 pm28 cd28 ct28 : Value} (a28 : PySem.W.nsIn K mainGlobals "_law_keeps" = some (some (.ref f28))) (l28 : K.lookup f28 = some ⟨oc28, od28, .func (PySem.W.fnOf "_law_keeps" "_law_keeps" (defArgs (top74 37)) (defBody (top74 37)) (defScope (top74 37)) .none kV28 dc28 pm28 an28 cd28 ct28), sl28⟩) (c28 : PySem.W.codeIn K cd28 "_law_keeps" = true) (k28 : PySem.W.keepIn K (.ref f28) = true)
    {f29 : Addr} {od29 an29 : Option Addr} {sl29 : Array (Option Value)} {oc29 kV29 dc29 pm29 cd29 ct29 : Value} (a29 : PySem.W.nsIn K mainGlobals "_law_good" = some (some (.ref f29))) (l29 : K.lookup f29 = some ⟨oc29, od29, .func (PySem.W.fnOf "_law_good" "_law_good" (defArgs (top74 38)) (defBody (top74 38)) (defScope (top74 38)) .none kV29 dc29 pm29 an29 cd29 ct29), sl29⟩) (c29 : PySem.W.codeIn K cd29 "_law_good" = true) (k29 : PySem.W.keepIn K (.ref f29) = true)
    {f30 : Addr} {od30 an30 : Option Addr} {sl30 : Array (Option Value)} {oc30 kV30 dc30 pm30 cd30 ct30 : Value} (a30 : PySem.W.nsIn K mainGlobals "_law_life_rows" = some (some (.ref f30))) (l30 : K.lookup f30 = some ⟨oc30, od30, .func (PySem.W.fnOf "_law_life_rows" "_law_life_rows" (defArgs (top74 39)) (defBody (top74 39)) (defScope (top74 39)) .none kV30 dc30 pm30 an30 cd30 ct30), sl30⟩) (c30 : PySem.W.codeIn K cd30 "_law_life_rows" = true) (k30 : PySem.W.keepIn K (.ref f30) = true)
    {f31 : Addr} {od31 an31 : Option Addr} {sl31 : Array (Option Value)} {oc31 kV31 dc31 pm31 cd31 ct31 : Value} (a31 : PySem.W.nsIn K mainGlobals "_law_backs" = some (some (.ref f31))) (l31 : K.lookup f31 = some ⟨oc31, od31, .func (PySem.W.fnOf "_law_backs" "_law_backs" (defArgs (top74 40)) (defBody (top74 40)) (defScope (top74 40)) .none kV31 dc31 pm31 an31 cd31 ct31), sl31⟩) (c31 : PySem.W.codeIn K cd31 "_law_backs" = true) (k31 : PySem.W.keepIn K (.ref f31) = true)
    {f32 : Addr} {od32 an32 : Option Addr} {sl32 : Array (Option Value)} {oc32 kV32 dc32 pm32 cd32 ct32 : Value} (a32 : PySem.W.nsIn K mainGlobals "_law_behind" = some (some (.ref f32))) (l32 : K.lookup f32 = some ⟨oc32, od32, .func (PySem.W.fnOf "_law_behind" "_law_behind" (defArgs (top74 41)) (defBody (top74 41)) (defScope (top74 41)) .none kV32 dc32 pm32 an32 cd32 ct32), sl32⟩) (c32 : PySem.W.codeIn K cd32 "_law_behind" = true) (k32 : PySem.W.keepIn K (.ref f32) = true)
    {f33 : Addr} {od33 an33 : Option Addr} {sl33 : Array (Option Value)} {oc33 kV33 dc33 pm33 cd33 ct33 : Value} (a33 : PySem.W.nsIn K mainGlobals "_law_hands_log" = some (some (.ref f33))) (l33 : K.lookup f33 = some ⟨oc33, od33, .func (PySem.W.fnOf "_law_hands_log" "_law_hands_log" (defArgs (top74 42)) (defBody (top74 42)) (defScope (top74 42)) .none kV33 dc33 pm33 an33 cd33 ct33), sl33⟩) (c33 : PySem.W.codeIn K cd33 "_law_hands_log" = true) (k33 : PySem.W.keepIn K (.ref f33) = true)
    {f34 : Addr} {od34 an34 : Option Addr} {sl34 : Array (Option Value)} {oc34 kV34 dc34 pm34 cd34 ct34 : Value} (a34 : PySem.W.nsIn K mainGlobals "_law_any_entry" = some (some (.ref f34))) (l34 : K.lookup f34 = some ⟨oc34, od34, .func (PySem.W.fnOf "_law_any_entry" "_law_any_entry" (defArgs (top74 43)) (defBody (top74 43)) (defScope (top74 43)) .none kV34 dc34 pm34 an34 cd34 ct34), sl34⟩) (c34 : PySem.W.codeIn K cd34 "_law_any_entry" = true) (k34 : PySem.W.keepIn K (.ref f34) = true)
    {f35 : Addr} {od35 an35 : Option Addr} {sl35 : Array (Option Value)} {oc35 kV35 dc35 pm35 cd35 ct35 : Value} (a35 : PySem.W.nsIn K mainGlobals "_law_any_event" = some (some (.ref f35))) (l35 : K.lookup f35 = some ⟨oc35, od35, .func (PySem.W.fnOf "_law_any_event" "_law_any_event" (defArgs (top74 44)) (defBody (top74 44)) (defScope (top74 44)) .none kV35 dc35 pm35 an35 cd35 ct35), sl35⟩) (c35 : PySem.W.codeIn K cd35 "_law_any_event" = true) (k35 : PySem.W.keepIn K (.ref f35) = true)
    {f36 : Addr} {od36 an36 : Option Addr} {sl36 : Array (Option Value)} {oc36 kV36 dc36 pm36 cd36 ct36 : Value} (a36 : PySem.W.nsIn K mainGlobals "_law_is_entry" = some (some (.ref f36))) (l36 : K.lookup f36 = some ⟨oc36, od36, .func (PySem.W.fnOf "_law_is_entry" "_law_is_entry" (defArgs (top74 45)) (defBody (top74 45)) (defScope (top74 45)) .none kV36 dc36 pm36 an36 cd36 ct36), sl36⟩) (c36 : PySem.W.codeIn K cd36 "_law_is_entry" = true) (k36 : PySem.W.keepIn K (.ref f36) = true)
    {f37 : Addr} {od37 an37 : Option Addr} {sl37 : Array (Option Value)} {oc37 kV37 dc37 pm37 cd37 ct37 : Value} (a37 : PySem.W.nsIn K mainGlobals "_law_can" = some (some (.ref f37))) (l37 : K.lookup f37 = some ⟨oc37, od37, .func (PySem.W.fnOf "_law_can" "_law_can" (defArgs (top74 46)) (defBody (top74 46)) (defScope (top74 46)) .none kV37 dc37 pm37 an37 cd37 ct37), sl37⟩) (c37 : PySem.W.codeIn K cd37 "_law_can" = true) (k37 : PySem.W.keepIn K (.ref f37) = true)
    {f38 : Addr} {od38 an38 : Option Addr} {sl38 : Array (Option Value)} {oc38 kV38 dc38 pm38 cd38 ct38 : Value} (a38 : PySem.W.nsIn K mainGlobals "law" = some (some (.ref f38))) (l38 : K.lookup f38 = some ⟨oc38, od38, .func (PySem.W.fnOf "law" "law" (defArgs (top74 47)) (defBody (top74 47)) (defScope (top74 47)) .none kV38 dc38 pm38 an38 cd38 ct38), sl38⟩) (c38 : PySem.W.codeIn K cd38 "law" = true) (k38 : PySem.W.keepIn K (.ref f38) = true)
    (z0 : PySem.W.nsIn K mainGlobals "len" = some none)
    (z1 : PySem.W.nsIn K mainGlobals "int" = some none)
    (z2 : PySem.W.nsIn K mainGlobals "abs" = some none)
    (z3 : PySem.W.nsIn K mainGlobals "tuple" = some none)
    (z4 : PySem.W.nsIn K mainGlobals "list" = some none)
    (z5 : PySem.W.nsIn K mainGlobals "sorted" = some none)
    (z6 : PySem.W.nsIn K mainGlobals "any" = some none)
    (z7 : PySem.W.nsIn K mainGlobals "all" = some none)
    (z8 : PySem.W.nsIn K mainGlobals "max" = some none)
    (z9 : PySem.W.nsIn K mainGlobals "min" = some none)
    (z10 : PySem.W.nsIn K mainGlobals "dict" = some none)
    (z11 : PySem.W.nsIn K mainGlobals "range" = some none)
    (z12 : PySem.W.nsIn K mainGlobals "enumerate" = some none)
    (z13 : PySem.W.nsIn K mainGlobals "zip" = some none)
    (z14 : PySem.W.nsIn K mainGlobals "isinstance" = some none)
    (z15 : PySem.W.nsIn K mainGlobals "bool" = some none)
    (z16 : PySem.W.nsIn K mainGlobals "str" = some none)
    {tk2 : Tok} (g0 : PySem.W.nsIn K mainGlobals "DID" = some (some (.str "did" tk2)))
    {tk3 : Tok} (g1 : PySem.W.nsIn K mainGlobals "SAID" = some (some (.str "said" tk3)))
    {tk4 : Tok} (g2 : PySem.W.nsIn K mainGlobals "HEARD" = some (some (.str "heard" tk4)))
    {tk5 : Tok} (g3 : PySem.W.nsIn K mainGlobals "BEGIN" = some (some (.int (-1) tk5)))
    {ce4 : Addr} {co4 : Option Addr} {cs4 : Array (Option Value)} {cn4 : Nat} {tk6 : Tok} {tk7 : Tok} {tk8 : Tok} (g4 : PySem.W.nsIn K mainGlobals "EDITS" = some (some (.ref ce4))) (h4 : K.lookup ce4 = some ⟨.type "tuple", co4, .seq #[.str "behind" tk6, .str "away" tk7, .str "instead" tk8] cn4, cs4⟩) : MOk K mg m74 where
  ok := ok74
  defs := List.forall_mem_cons.mpr ⟨dok0 (st := top74 1) (PySem.W.mg_of X G a0) l0 c0 k0 rfl (fun us hl => match us, hl with | [_], _ => rfl) (fun ks hks => (by cases hks)) (fun ks hks => (by cases hks)),
    List.forall_mem_cons.mpr ⟨dokD (st := top74 2) (dd := [.int (0), .non]) (its := [.int (0) tk1, .none]) (PySem.W.mg_of X G a1) l1 lt1 c1 k1 rfl (.cons (⟨tk1, rfl⟩) (.cons (rfl) (.nil))) (List.cons_ne_nil _ _) (by decide) bd74_1 rfl,
    List.forall_mem_cons.mpr ⟨dokD (st := top74 3) (dd := [.non]) (its := [.none]) (PySem.W.mg_of X G a2) l2 lt2 c2 k2 rfl (.cons (rfl) (.nil)) (List.cons_ne_nil _ _) (by decide) bd74_2 rfl,
    List.forall_mem_cons.mpr ⟨dok0 (st := top74 8) (PySem.W.mg_of X G a3) l3 c3 k3 rfl (fun us hl => match us, hl with | [_, _], _ => rfl) (fun ks hks => (by cases hks)) (fun ks hks => (by cases hks)),
    List.forall_mem_cons.mpr ⟨dok0 (st := top74 12) (PySem.W.mg_of X G a4) l4 c4 k4 rfl (fun us hl => match us, hl with | [_, _], _ => rfl) (fun ks hks => (by cases hks)) (fun ks hks => (by cases hks)),
    List.forall_mem_cons.mpr ⟨dok0 (st := top74 13) (PySem.W.mg_of X G a5) l5 c5 k5 rfl (fun us hl => match us, hl with | [_, _], _ => rfl) (fun ks hks => (by cases hks)) (fun ks hks => (by cases hks)),
    List.forall_mem_cons.mpr ⟨dok0 (st := top74 14) (PySem.W.mg_of X G a6) l6 c6 k6 rfl (fun us hl => match us, hl with | [_, _], _ => rfl) (fun ks hks => (by cases hks)) (fun ks hks => (by cases hks)),
    List.forall_mem_cons.mpr ⟨dok0 (st := top74 15) (PySem.W.mg_of X G a7) l7 c7 k7 rfl (fun us hl => match us, hl with | [_, _, _, _], _ => rfl) (fun ks hks => (by cases hks)) (fun ks hks => (by cases hks)),
    List.forall_mem_cons.mpr ⟨dok0 (st := top74 16) (PySem.W.mg_of X G a8) l8 c8 k8 rfl (fun us hl => match us, hl with | [_], _ => rfl) (fun ks hks => (by cases hks)) (fun ks hks => (by cases hks)),
    List.forall_mem_cons.mpr ⟨dok0 (st := top74 17) (PySem.W.mg_of X G a9) l9 c9 k9 rfl (fun us hl => match us, hl with | [_], _ => rfl) (fun ks hks => (by cases hks)) (fun ks hks => (by cases hks)),
    List.forall_mem_cons.mpr ⟨dok0 (st := top74 18) (PySem.W.mg_of X G a10) l10 c10 k10 rfl (fun us hl => match us, hl with | [_], _ => rfl) (fun ks hks => (by cases hks)) (fun ks hks => (by cases hks)),
    List.forall_mem_cons.mpr ⟨dok0 (st := top74 19) (PySem.W.mg_of X G a11) l11 c11 k11 rfl (fun us hl => match us, hl with | [_, _], _ => rfl) (fun ks hks => (by cases hks)) (fun ks hks => (by cases hks)),
    List.forall_mem_cons.mpr ⟨dok0 (st := top74 20) (PySem.W.mg_of X G a12) l12 c12 k12 rfl (fun us hl => match us, hl with | [_, _, _], _ => rfl) (fun ks hks => (by cases hks)) (fun ks hks => (by cases hks)),
    List.forall_mem_cons.mpr ⟨dok0 (st := top74 21) (PySem.W.mg_of X G a13) l13 c13 k13 rfl (fun us hl => match us, hl with | [_, _, _, _], _ => rfl) (fun ks hks => (by cases hks)) (fun ks hks => (by cases hks)),
    List.forall_mem_cons.mpr ⟨dok0 (st := top74 22) (PySem.W.mg_of X G a14) l14 c14 k14 rfl (fun us hl => match us, hl with | [_, _, _, _], _ => rfl) (fun ks hks => kw74_can_event _ _ _ _ _ _ ks hks) (fun _ _ => (by decide +kernel)),
    List.forall_mem_cons.mpr ⟨dok0 (st := top74 24) (PySem.W.mg_of X G a15) l15 c15 k15 rfl (fun us hl => match us, hl with | [_, _], _ => rfl) (fun ks hks => (by cases hks)) (fun ks hks => (by cases hks)),
    List.forall_mem_cons.mpr ⟨dok0 (st := top74 25) (PySem.W.mg_of X G a16) l16 c16 k16 rfl (fun us hl => match us, hl with | [_, _], _ => rfl) (fun ks hks => (by cases hks)) (fun ks hks => (by cases hks)),
    List.forall_mem_cons.mpr ⟨dok0 (st := top74 26) (PySem.W.mg_of X G a17) l17 c17 k17 rfl (fun us hl => match us, hl with | [_, _], _ => rfl) (fun ks hks => (by cases hks)) (fun ks hks => (by cases hks)),
    List.forall_mem_cons.mpr ⟨dok0 (st := top74 27) (PySem.W.mg_of X G a18) l18 c18 k18 rfl (fun us hl => match us, hl with | [_, _], _ => rfl) (fun ks hks => (by cases hks)) (fun ks hks => (by cases hks)),
    List.forall_mem_cons.mpr ⟨dok0 (st := top74 28) (PySem.W.mg_of X G a19) l19 c19 k19 rfl (fun us hl => match us, hl with | [_], _ => rfl) (fun ks hks => (by cases hks)) (fun ks hks => (by cases hks)),
    List.forall_mem_cons.mpr ⟨dok0 (st := top74 29) (PySem.W.mg_of X G a20) l20 c20 k20 rfl (fun us hl => match us, hl with | [], _ => rfl) (fun ks hks => (by cases hks)) (fun ks hks => (by cases hks)),
    List.forall_mem_cons.mpr ⟨dok0 (st := top74 30) (PySem.W.mg_of X G a21) l21 c21 k21 rfl (fun us hl => match us, hl with | [_, _, _], _ => rfl) (fun ks hks => (by cases hks)) (fun ks hks => (by cases hks)),
    List.forall_mem_cons.mpr ⟨dok0 (st := top74 31) (PySem.W.mg_of X G a22) l22 c22 k22 rfl (fun us hl => match us, hl with | [_], _ => rfl) (fun ks hks => (by cases hks)) (fun ks hks => (by cases hks)),
    List.forall_mem_cons.mpr ⟨dok0 (st := top74 32) (PySem.W.mg_of X G a23) l23 c23 k23 rfl (fun us hl => match us, hl with | [_, _], _ => rfl) (fun ks hks => (by cases hks)) (fun ks hks => (by cases hks)),
    List.forall_mem_cons.mpr ⟨dok0 (st := top74 33) (PySem.W.mg_of X G a24) l24 c24 k24 rfl (fun us hl => match us, hl with | [_, _], _ => rfl) (fun ks hks => (by cases hks)) (fun ks hks => (by cases hks)),
    List.forall_mem_cons.mpr ⟨dok0 (st := top74 34) (PySem.W.mg_of X G a25) l25 c25 k25 rfl (fun us hl => match us, hl with | [_, _], _ => rfl) (fun ks hks => (by cases hks)) (fun ks hks => (by cases hks)),
    List.forall_mem_cons.mpr ⟨dok0 (st := top74 35) (PySem.W.mg_of X G a26) l26 c26 k26 rfl (fun us hl => match us, hl with | [_, _, _], _ => rfl) (fun ks hks => (by cases hks)) (fun ks hks => (by cases hks)),
    List.forall_mem_cons.mpr ⟨dok0 (st := top74 36) (PySem.W.mg_of X G a27) l27 c27 k27 rfl (fun us hl => match us, hl with | [_, _], _ => rfl) (fun ks hks => (by cases hks)) (fun ks hks => (by cases hks)),
    List.forall_mem_cons.mpr ⟨dok0 (st := top74 37) (PySem.W.mg_of X G a28) l28 c28 k28 rfl (fun us hl => match us, hl with | [_, _], _ => rfl) (fun ks hks => (by cases hks)) (fun ks hks => (by cases hks)),
    List.forall_mem_cons.mpr ⟨dok0 (st := top74 38) (PySem.W.mg_of X G a29) l29 c29 k29 rfl (fun us hl => match us, hl with | [_, _, _, _], _ => rfl) (fun ks hks => (by cases hks)) (fun ks hks => (by cases hks)),
    List.forall_mem_cons.mpr ⟨dok0 (st := top74 39) (PySem.W.mg_of X G a30) l30 c30 k30 rfl (fun us hl => match us, hl with | [_], _ => rfl) (fun ks hks => (by cases hks)) (fun ks hks => (by cases hks)),
    List.forall_mem_cons.mpr ⟨dok0 (st := top74 40) (PySem.W.mg_of X G a31) l31 c31 k31 rfl (fun us hl => match us, hl with | [_], _ => rfl) (fun ks hks => (by cases hks)) (fun ks hks => (by cases hks)),
    List.forall_mem_cons.mpr ⟨dok0 (st := top74 41) (PySem.W.mg_of X G a32) l32 c32 k32 rfl (fun us hl => match us, hl with | [_, _, _], _ => rfl) (fun ks hks => (by cases hks)) (fun ks hks => (by cases hks)),
    List.forall_mem_cons.mpr ⟨dok0 (st := top74 42) (PySem.W.mg_of X G a33) l33 c33 k33 rfl (fun us hl => match us, hl with | [_, _, _, _], _ => rfl) (fun ks hks => (by cases hks)) (fun ks hks => (by cases hks)),
    List.forall_mem_cons.mpr ⟨dok0 (st := top74 43) (PySem.W.mg_of X G a34) l34 c34 k34 rfl (fun us hl => match us, hl with | [_, _, _], _ => rfl) (fun ks hks => (by cases hks)) (fun ks hks => (by cases hks)),
    List.forall_mem_cons.mpr ⟨dok0 (st := top74 44) (PySem.W.mg_of X G a35) l35 c35 k35 rfl (fun us hl => match us, hl with | [_, _, _, _, _], _ => rfl) (fun ks hks => (by cases hks)) (fun ks hks => (by cases hks)),
    List.forall_mem_cons.mpr ⟨dok0 (st := top74 45) (PySem.W.mg_of X G a36) l36 c36 k36 rfl (fun us hl => match us, hl with | [_, _, _], _ => rfl) (fun ks hks => (by cases hks)) (fun ks hks => (by cases hks)),
    List.forall_mem_cons.mpr ⟨dok0 (st := top74 46) (PySem.W.mg_of X G a37) l37 c37 k37 rfl (fun us hl => match us, hl with | [_, _, _, _], _ => rfl) (fun ks hks => (by cases hks)) (fun ks hks => (by cases hks)),
    List.forall_mem_cons.mpr ⟨dok0 (st := top74 47) (PySem.W.mg_of X G a38) l38 c38 k38 rfl (fun us hl => match us, hl with | [_], _ => rfl) (fun ks hks => (by cases hks)) (fun ks hks => (by cases hks)),
    List.forall_mem_nil _⟩⟩⟩⟩⟩⟩⟩⟩⟩⟩⟩⟩⟩⟩⟩⟩⟩⟩⟩⟩⟩⟩⟩⟩⟩⟩⟩⟩⟩⟩⟩⟩⟩⟩⟩⟩⟩⟩⟩
  blt := List.forall_mem_cons.mpr ⟨PySem.W.mg_none_of X G z0,
    List.forall_mem_cons.mpr ⟨PySem.W.mg_none_of X G z1,
    List.forall_mem_cons.mpr ⟨PySem.W.mg_none_of X G z2,
    List.forall_mem_cons.mpr ⟨PySem.W.mg_none_of X G z3,
    List.forall_mem_cons.mpr ⟨PySem.W.mg_none_of X G z4,
    List.forall_mem_cons.mpr ⟨PySem.W.mg_none_of X G z5,
    List.forall_mem_cons.mpr ⟨PySem.W.mg_none_of X G z6,
    List.forall_mem_cons.mpr ⟨PySem.W.mg_none_of X G z7,
    List.forall_mem_cons.mpr ⟨PySem.W.mg_none_of X G z8,
    List.forall_mem_cons.mpr ⟨PySem.W.mg_none_of X G z9,
    List.forall_mem_cons.mpr ⟨PySem.W.mg_none_of X G z10,
    List.forall_mem_cons.mpr ⟨PySem.W.mg_none_of X G z11,
    List.forall_mem_cons.mpr ⟨PySem.W.mg_none_of X G z12,
    List.forall_mem_cons.mpr ⟨PySem.W.mg_none_of X G z13,
    List.forall_mem_cons.mpr ⟨PySem.W.mg_none_of X G z14,
    List.forall_mem_cons.mpr ⟨PySem.W.mg_none_of X G z15,
    List.forall_mem_cons.mpr ⟨PySem.W.mg_none_of X G z16,
    List.forall_mem_nil _⟩⟩⟩⟩⟩⟩⟩⟩⟩⟩⟩⟩⟩⟩⟩⟩⟩
  cis := List.forall_mem_cons.mpr ⟨⟨_, .str "did", PySem.W.mg_of X G g0, ⟨tk2, rfl⟩, fun _ _ _ _ _ => leaf_rep (d := .str "did") rfl⟩,
    List.forall_mem_cons.mpr ⟨⟨_, .str "said", PySem.W.mg_of X G g1, ⟨tk3, rfl⟩, fun _ _ _ _ _ => leaf_rep (d := .str "said") rfl⟩,
    List.forall_mem_cons.mpr ⟨⟨_, .str "heard", PySem.W.mg_of X G g2, ⟨tk4, rfl⟩, fun _ _ _ _ _ => leaf_rep (d := .str "heard") rfl⟩,
    List.forall_mem_cons.mpr ⟨⟨_, .int (-1), PySem.W.mg_of X G g3, ⟨tk5, rfl⟩, fun _ _ _ _ _ => leaf_rep (d := .int (-1)) rfl⟩,
    List.forall_mem_cons.mpr ⟨⟨_, .ref ce4, PySem.W.mg_of X G g4, rfl, fun _ _ _ _ _ => .tup (vs := [.str "behind", .str "away", .str "instead"]) (.inr ⟨_, _, _, h4, rfl, rfl, (show 3 ≤ sizeLine by decide), .cons (⟨tk6, rfl⟩) (.cons (⟨tk7, rfl⟩) (.cons (⟨tk8, rfl⟩) (.nil)))⟩) (.cons (leaf_rep (d := .str "behind") rfl) (.cons (leaf_rep (d := .str "away") rfl) (.cons (leaf_rep (d := .str "instead") rfl) (.nil))))⟩,
    List.forall_mem_nil _⟩⟩⟩⟩⟩
end Z
end
section
namespace Z
open PySem
/-- "is_int" ["value"] -/
@[irreducible] def F74_0 : Fn := ⟨1, 1, [
    (.ret (.andv (.isa .int (.var 0)) (.notv (.isa .bool (.var 0)))))]⟩
theorem fn74_0 : m74.fn 0 = some F74_0 := by unfold F74_0; kernel_rfl
/-- "is_number" ["value", "least", "most"] -/
@[irreducible] def F74_1 : Fn := ⟨3, 3, [
    (.pre [0] (.ret (.andv (.call 0 [(.var 0)]) (.andv (.cmp .ge (.var 0) (.var 1)) (.orv (.cmp .is (.var 2) (.cst .non)) (.cmp .le (.var 0) (.var 2)))))))]⟩
theorem fn74_1 : m74.fn 1 = some F74_1 := by unfold F74_1; kernel_rfl
/-- "is_tuple" ["value", "many"] -/
@[irreducible] def F74_2 : Fn := ⟨2, 2, [
    (.ret (.andv (.isa .tuple (.var 0)) (.orv (.cmp .is (.var 1) (.cst .non)) (.cmp .eq (.p1 .len (.var 0)) (.var 1)))))]⟩
theorem fn74_2 : m74.fn 2 = some F74_2 := by unfold F74_2; kernel_rfl
/-- "is_did" ["world", "value", ".0", "told"] -/
@[irreducible] def F74_3 : Fn := ⟨2, 4, [
    (.pre [1] (.ife (.or (.not (.val (.call 2 [(.var 1), (.cst (.int 4))]))) (.or (.not (.val (.call 1 [(.idx (.var 1) (.cst (.int 1))), (.cst (.int 0)), (.bin .sub (.p1 .len (.idx (.idx (.var 0) (.cst (.int 0))) (.cst (.int 0)))) (.cst (.int 1)))]))) (.not (.val (.call 2 [(.idx (.var 1) (.cst (.int 2))), (.cst .non)]))))) [
    (.ret (.cst (.bl false)))] [
    ])),
    (.pre [3] (.ife (.or (.not (.val (.p1 .all (.comp (.call 1 [(.var 3), (.cst (.int 0)), (.cst .non)]) (.nm 3) (.seq (.idx (.var 1) (.cst (.int 2)))) none [2, 3])))) (.cmp .nin (.idx (.var 1) (.cst (.int 2))) (.idx (.var 0) (.cst (.int 3))))) [
    (.ret (.cst (.bl false)))] [
    ])),
    (.ret (.isa .bool (.idx (.var 1) (.cst (.int 3)))))]⟩
theorem fn74_3 : m74.fn 3 = some F74_3 := by unfold F74_3; kernel_rfl
/-- "spot_in" ["rows", "name", "spot", "row"] -/
@[irreducible] def F74_4 : Fn := ⟨2, 4, [
    (.ife (.cmp .eq (.var 1) (.cst (.int (-1)))) [
    (.ret (.cst (.int (-1))))] [
    ]),
    (.pre [0] (.for_ (.tu [2, 3]) (.enum (.var 0)) [
    (.ife (.cmp .eq (.idx (.var 3) (.cst (.int 0))) (.var 1)) [
    (.retV 2)] [
    ])])),
    (.ret (.cst .non))]⟩
theorem fn74_4 : m74.fn 4 = some F74_4 := by unfold F74_4; kernel_rfl
/-- "is_there" ["rows", "name", ".0", "row"] -/
@[irreducible] def F74_5 : Fn := ⟨2, 4, [
    (.ret (.p1 .any (.comp (.andv (.cmp .eq (.idx (.var 3) (.cst (.int 0))) (.var 1)) (.idx (.var 3) (.cst (.int 2)))) (.nm 3) (.seq (.var 0)) none [2, 3])))]⟩
theorem fn74_5 : m74.fn 5 = some F74_5 := by unfold F74_5; kernel_rfl
/-- "put_right" ["rows", "event", "name", "spot", "here"] -/
@[irreducible] def F74_6 : Fn := ⟨2, 5, [
    (.set 2 (.idx (.var 1) (.cst (.int 1)))),
    (.pre [0, 2] (.ife (.not (.val (.call 5 [(.var 0), (.var 2)]))) [
    (.retV 0)] [
    ])),
    (.pre [0, 2] (.set 3 (.call 4 [(.var 0), (.var 2)]))),
    (.pre [2] (.set 4 (.tup [(.var 2), (.ifx (.cmp .eq (.idx (.var 1) (.cst (.int 0))) (.cst (.str "away"))) (.idx (.idx (.var 0) (.var 3)) (.cst (.int 1))) (.idx (.var 1) (.cst (.int 2)))), (.cmp .eq (.idx (.var 1) (.cst (.int 0))) (.cst (.str "instead")))]))),
    (.pre [4] (.ret (.bin .add (.bin .add (.cut (.var 0) none (some (.var 3))) (.tup [(.var 4)])) (.cut (.var 0) (some (.bin .add (.var 3) (.cst (.int 1)))) none))))]⟩
theorem fn74_6 : m74.fn 6 = some F74_6 := by unfold F74_6; kernel_rfl
/-- "rows_after" ["rows", "number", "event", "is_gone", "spot", ".0", "row"] -/
@[irreducible] def F74_7 : Fn := ⟨4, 7, [
    (.ife (.cmp .eq (.idx (.var 2) (.cst (.int 0))) (.cst (.str "behind"))) [
    (.pre [0] (.set 4 (.bin .add (.call 4 [(.var 0), (.idx (.var 2) (.cst (.int 1)))]) (.cst (.int 1))))),
    (.pre [1] (.ret (.bin .add (.bin .add (.cut (.var 0) none (some (.var 4))) (.tup [(.tup [(.var 1), (.idx (.var 2) (.cst (.int 2))), (.notv (.var 3))])])) (.cut (.var 0) (some (.var 4)) none))))] [
    ]),
    (.ife (.cmp .eq (.idx (.var 2) (.cst (.int 0))) (.cst (.str "settle"))) [
    (.pre [6] (.ret (.p1 .tuple (.comp (.var 6) (.nm 6) (.seq (.var 0)) (some (.val (.idx (.var 6) (.cst (.int 2))))) [5, 6]))))] [
    ]),
    (.pre [0, 0, 2] (.ret (.ifx (.or (.cmp .eq (.idx (.var 2) (.cst (.int 0))) (.cst (.str "back"))) (.val (.var 3))) (.var 0) (.call 6 [(.var 0), (.var 2)]))))]⟩
theorem fn74_7 : m74.fn 7 = some F74_7 := by unfold F74_7; kernel_rfl
/-- "taken_back" ["events", ".0", "event"] -/
@[irreducible] def F74_8 : Fn := ⟨1, 3, [
    (.ret (.p1 .tuple (.comp (.idx (.var 2) (.cst (.int 1))) (.nm 2) (.seq (.var 0)) (some (.cmp .eq (.idx (.var 2) (.cst (.int 0))) (.cst (.str "back")))) [1, 2])))]⟩
theorem fn74_8 : m74.fn 8 = some F74_8 := by unfold F74_8; kernel_rfl
/-- "plain_duty" ["events", "gone", "rows", "number", "event"] -/
@[irreducible] def F74_9 : Fn := ⟨1, 5, [
    (.pre [0] (.par [1, 2] [(.call 8 [(.var 0)]), (.tup [])])),
    (.pre [0] (.for_ (.tu [3, 4]) (.enum (.var 0)) [
    (.pre [2, 3, 4] (.set 2 (.call 7 [(.var 2), (.var 3), (.var 4), (.cmp .inn (.var 3) (.var 1))])))])),
    (.retV 2)]⟩
theorem fn74_9 : m74.fn 9 = some F74_9 := by unfold F74_9; kernel_rfl
/-- "last_settle" ["events", ".0", "number", "event"] -/
@[irreducible] def F74_10 : Fn := ⟨1, 4, [
    (.pre [2] (.ret (.p1 .max (.bin .add (.lst [(.cst (.int (-1)))]) (.comp (.var 2) (.tu [2, 3]) (.enum (.var 0)) (some (.cmp .eq (.idx (.var 3) (.cst (.int 0))) (.cst (.str "settle")))) [1, 2, 3])))))]⟩
theorem fn74_10 : m74.fn 10 = some F74_10 := by unfold F74_10; kernel_rfl
/-- "can_back" ["events", "number"] -/
@[irreducible] def F74_11 : Fn := ⟨2, 2, [
    (.pre [1, 0, 0] (.ife (.or (.not (.val (.call 1 [(.var 1), (.bin .add (.call 10 [(.var 0)]) (.cst (.int 1))), (.bin .sub (.p1 .len (.var 0)) (.cst (.int 1)))]))) (.cmp .inn (.var 1) (.call 8 [(.var 0)]))) [
    (.ret (.cst (.bl false)))] [
    ])),
    (.ret (.cmp .inn (.idx (.idx (.var 0) (.var 1)) (.cst (.int 0))) (.cst (.tup [(.str "behind"), (.str "away"), (.str "instead")]))))]⟩
theorem fn74_11 : m74.fn 11 = some F74_11 := by unfold F74_11; kernel_rfl
/-- "is_entry" ["world", "many", "value"] -/
@[irreducible] def F74_12 : Fn := ⟨3, 3, [
    (.pre [2] (.ife (.or (.not (.val (.call 2 [(.var 2), (.cst .non)]))) (.or (.cmp .eq (.p1 .len (.var 2)) (.cst (.int 0))) (.not (.val (.isa .str (.idx (.var 2) (.cst (.int 0)))))))) [
    (.ret (.cst (.bl false)))] [
    ])),
    (.ife (.cmp .eq (.idx (.var 2) (.cst (.int 0))) (.cst (.str "did"))) [
    (.pre [0, 2] (.ret (.call 3 [(.var 0), (.var 2)])))] [
    ]),
    (.ret (.andv (.cmp .inn (.idx (.var 2) (.cst (.int 0))) (.tup [(.cst (.str "said")), (.cst (.str "heard"))])) (.andv (.cmp .eq (.p1 .len (.var 2)) (.cst (.int 2))) (.call 1 [(.idx (.var 2) (.cst (.int 1))), (.cst (.int 0)), (.bin .sub (.var 1) (.cst (.int 1)))]))))]⟩
theorem fn74_12 : m74.fn 12 = some F74_12 := by unfold F74_12; kernel_rfl
/-- "can_edit" ["rows", "world", "many", "value"] -/
@[irreducible] def F74_13 : Fn := ⟨4, 4, [
    (.ife (.or (.cmp .lt (.p1 .len (.var 3)) (.cst (.int 2))) (.not (.val (.call 1 [(.idx (.var 3) (.cst (.int 1))), (.cst (.int (-1))), (.cst .non)])))) [
    (.ret (.cst (.bl false)))] [
    ]),
    (.ife (.cmp .eq (.idx (.var 3) (.cst (.int 0))) (.cst (.str "away"))) [
    (.pre [0] (.ret (.andv (.cmp .eq (.p1 .len (.var 3)) (.cst (.int 2))) (.call 5 [(.var 0), (.idx (.var 3) (.cst (.int 1)))]))))] [
    ]),
    (.pre [1, 2] (.ife (.or (.cmp .ne (.p1 .len (.var 3)) (.cst (.int 3))) (.not (.val (.call 12 [(.var 1), (.var 2), (.idx (.var 3) (.cst (.int 2)))])))) [
    (.ret (.cst (.bl false)))] [
    ])),
    (.pre [0, 0] (.ret (.ifx (.cmp .eq (.idx (.var 3) (.cst (.int 0))) (.cst (.str "behind"))) (.cmp .isn (.call 4 [(.var 0), (.idx (.var 3) (.cst (.int 1)))]) (.cst .non)) (.call 5 [(.var 0), (.idx (.var 3) (.cst (.int 1)))]))))]⟩
theorem fn74_13 : m74.fn 13 = some F74_13 := by unfold F74_13; kernel_rfl
/-- "can_event" ["events", "world", "many", "value"] -/
@[irreducible] def F74_14 : Fn := ⟨4, 4, [
    (.pre [3] (.ife (.or (.not (.val (.call 2 [(.var 3), (.cst .non)]))) (.or (.cmp .eq (.p1 .len (.var 3)) (.cst (.int 0))) (.not (.val (.isa .str (.idx (.var 3) (.cst (.int 0)))))))) [
    (.ret (.cst (.bl false)))] [
    ])),
    (.ife (.cmp .inn (.idx (.var 3) (.cst (.int 0))) (.cst (.tup [(.str "behind"), (.str "away"), (.str "instead")]))) [
    (.pre [0, 1, 2, 3] (.ret (.call 13 [(.call 9 [(.var 0)]), (.var 1), (.var 2), (.var 3)])))] [
    ]),
    (.ife (.cmp .eq (.idx (.var 3) (.cst (.int 0))) (.cst (.str "back"))) [
    (.pre [0] (.ret (.andv (.cmp .eq (.p1 .len (.var 3)) (.cst (.int 2))) (.call 11 [(.var 0), (.idx (.var 3) (.cst (.int 1)))]))))] [
    ]),
    (.ret (.cmp .eq (.var 3) (.tup [(.cst (.str "settle"))])))]⟩
theorem fn74_14 : m74.fn 14 = some F74_14 := by unfold F74_14; kernel_rfl
/-- "_law_box" ["script", "k", "cell", "great"] -/
@[irreducible] def F74_15 : Fn := ⟨2, 4, [
    (.set 2 (.bin .add (.bin .mul (.cst (.int 35023)) (.var 1)) (.cst (.int 5303)))),
    (.ife (.cmp .lt (.var 1) (.p1 .len (.var 0))) [
    (.set 2 (.p1 .abs (.p1 .int (.idx (.var 0) (.var 1)))))] [
    (.ife (.cmp .gt (.p1 .len (.var 0)) (.cst (.int 0))) [
    (.set 2 (.bin .add (.var 2) (.bin .mul (.bin .mod (.p1 .int (.p1 .abs (.p1 .int (.idx (.var 0) (.bin .mod (.p1 .int (.var 1)) (.p1 .len (.var 0))))))) (.cst (.int 2147483563))) (.cst (.int 90149)))))] [
    ])]),
    (.pre [2] (.set 3 (.ifx (.cmp .ge (.var 2) (.bin .pow (.cst (.int 10)) (.cst (.int 18)))) (.var 2) (.cst (.int 0))))),
    (.pre [3] (.ret (.lst [(.var 3), (.bin .add (.bin .mod (.p1 .int (.bin .add (.bin .mul (.bin .mod (.p1 .int (.var 2)) (.cst (.int 2147483563))) (.cst (.int 54250013))) (.bin .mul (.cst (.int 5303)) (.var 1)))) (.cst (.int 2147483563))) (.cst (.int 1)))])))]⟩
theorem fn74_15 : m74.fn 15 = some F74_15 := by unfold F74_15; kernel_rfl
/-- "_law_take" ["box", "many", "digit", "raw"] -/
@[irreducible] def F74_16 : Fn := ⟨2, 4, [
    (.ife (.cmp .gt (.idx (.var 0) (.cst (.int 0))) (.cst (.int 0))) [
    (.set 2 (.bin .mod (.p1 .int (.idx (.var 0) (.cst (.int 0)))) (.var 1))),
    (.setIx 0 (.cst (.int 0)) (.bin .fdiv (.idx (.var 0) (.cst (.int 0))) (.var 1))),
    (.retV 2)] [
    ]),
    (.set 3 (.bin .mod (.p1 .int (.bin .add (.bin .mul (.idx (.var 0) (.cst (.int 1))) (.cst (.int 39373))) (.cst (.int 251)))) (.cst (.int 2147483647)))),
    (.setIx 0 (.cst (.int 1)) (.bin .add (.bin .mod (.p1 .int (.bin .add (.bin .mul (.var 3) (.cst (.int 40692))) (.cst (.int 113)))) (.cst (.int 2147483563))) (.cst (.int 1)))),
    (.ret (.bin .mod (.p1 .int (.bin .fdiv (.bin .add (.bin .mul (.var 3) (.cst (.int 2147483629))) (.idx (.var 0) (.cst (.int 1)))) (.cst (.int 8311)))) (.var 1)))]⟩
theorem fn74_16 : m74.fn 16 = some F74_16 := by unfold F74_16; kernel_rfl
/-- "_law_pick" ["box", "some"] -/
@[irreducible] def F74_17 : Fn := ⟨2, 2, [
    (.pre [0] (.ret (.idx (.var 1) (.call 16 [(.var 0), (.p1 .len (.var 1))]))))]⟩
theorem fn74_17 : m74.fn 17 = some F74_17 := by unfold F74_17; kernel_rfl
/-- "_law_same" ["told", "due", "one", "other"] -/
@[irreducible] def F74_18 : Fn := ⟨2, 4, [
    (.ife (.val (.isa .tuple (.var 1))) [
    (.ife (.or (.not (.val (.isa .tuple (.var 0)))) (.cmp .ne (.p1 .len (.var 0)) (.p1 .len (.var 1)))) [
    (.ret (.cst (.bl false)))] [
    ]),
    (.pre [0, 1] (.for_ (.tu [2, 3]) (.zip (.var 0) (.var 1)) [
    (.pre [2, 3] (.ife (.not (.val (.call 18 [(.var 2), (.var 3)]))) [
    (.ret (.cst (.bl false)))] [
    ]))])),
    (.ret (.cst (.bl true)))] [
    ]),
    (.ife (.cmp .is (.var 1) (.cst .non)) [
    (.ret (.cmp .is (.var 0) (.cst .non)))] [
    ]),
    (.ife (.or (.cmp .is (.var 1) (.cst (.bl true))) (.cmp .is (.var 1) (.cst (.bl false)))) [
    (.ret (.andv (.isa .bool (.var 0)) (.cmp .eq (.var 0) (.var 1))))] [
    ]),
    (.ife (.val (.isa .int (.var 1))) [
    (.ret (.andv (.isa .int (.var 0)) (.andv (.notv (.isa .bool (.var 0))) (.cmp .eq (.var 0) (.var 1)))))] [
    ]),
    (.ret (.andv (.isa .str (.var 0)) (.andv (.isa .str (.var 1)) (.cmp .eq (.var 0) (.var 1)))))]⟩
theorem fn74_18 : m74.fn 18 = some F74_18 := by unfold F74_18; kernel_rfl
/-- "_law_least" ["world", "ours", "theirs", "bells", "signs", "bad", "board", "kinds", "turn", "names", "later", "there", "told", "order", "spots", "spot", "mine", "other", ".0"] -/
@[irreducible] def F74_19 : Fn := ⟨1, 19, [
    (.setTu [1, 2, 3, 4, 5] (.var 0)),
    (.set 7 (.comp (.tup [(.idx (.var 4) (.var 6)), (.idx (.var 5) (.var 6))]) (.nm 6) (.rng (.cst (.int 0)) (.p1 .len (.var 4))) none [18, 6])),
    (.for_ (.nm 8) (.rng (.cst (.int 0)) (.bin .add (.p1 .len (.var 4)) (.cst (.int 1)))) [
    (.par [9, 10] [.dic0, (.lst [])]),
    (.for_ (.nm 6) (.rng (.cst (.int 0)) (.p1 .len (.var 4))) [
    (.set 12 (.tup [(.idx (.var 7) (.var 6)), (.p1 .tuple (.comp (.idx (.var 7) (.var 11)) (.nm 11) (.seq (.idx (.var 1) (.var 6))) none [18, 11])), (.p1 .tuple (.comp (.ifx (.cmp .is (.var 11) (.cst .non)) (.cst .non) (.idx (.var 7) (.var 11))) (.nm 11) (.seq (.idx (.var 2) (.var 6))) none [18, 11]))])),
    (.pre [12] (.appSd 10 9 (.var 12) (.p1 .len (.var 9))))]),
    (.pre [10] (.set 7 (.var 10)))]),
    (.par [13, 14, 15] [(.lst [(.cst (.int 0))]), (.dic1 (.idx (.var 7) (.cst (.int 0))) (.cst (.int 0))), (.cst (.int 0))]),
    (.wh [] (.cmp .lt (.var 15) (.p1 .len (.var 13))) [
    (.for_ (.nm 11) (.seq (.bin .add (.idx (.var 1) (.idx (.var 13) (.var 15))) (.idx (.var 2) (.idx (.var 13) (.var 15))))) [
    (.ife (.and (.cmp .isn (.var 11) (.cst .non)) (.cmp .nin (.idx (.var 7) (.var 11)) (.var 14))) [
    (.setIx 14 (.idx (.var 7) (.var 11)) (.p1 .len (.var 13))),
    (.pre [11] (.app 13 (.var 11)))] [
    ])]),
    (.set 15 (.bin .add (.var 15) (.cst (.int 1))))]),
    (.set 16 (.p1 .tuple (.comp (.p1 .tuple (.comp (.idx (.var 14) (.idx (.var 7) (.var 11))) (.nm 11) (.seq (.idx (.var 1) (.var 6))) none [18, 11])) (.nm 6) (.seq (.var 13)) none [18, 6]))),
    (.set 17 (.p1 .tuple (.comp (.p1 .tuple (.comp (.ifx (.cmp .is (.var 11) (.cst .non)) (.cst .non) (.idx (.var 14) (.idx (.var 7) (.var 11)))) (.nm 11) (.seq (.idx (.var 2) (.var 6))) none [18, 11])) (.nm 6) (.seq (.var 13)) none [18, 6]))),
    (.pre [16, 17, 3] (.ret (.tup [(.var 16), (.var 17), (.var 3), (.p1 .tuple (.comp (.idx (.var 4) (.var 6)) (.nm 6) (.seq (.var 13)) none [18, 6])), (.p1 .tuple (.comp (.idx (.var 5) (.var 6)) (.nm 6) (.seq (.var 13)) none [18, 6]))])))]⟩
theorem fn74_19 : m74.fn 19 = some F74_19 := by unfold F74_19; kernel_rfl
/-- "_law_lamp_world" ["ours", "theirs"] -/
@[irreducible] def F74_20 : Fn := ⟨0, 2, [
    (.set 0 (.tup [(.tup [(.cst (.int 0)), (.cst (.int 4))]), (.tup [(.cst (.int 4)), (.cst (.int 1))]), (.tup [(.cst (.int 1)), (.cst (.int 1))]), (.tup [(.cst (.int 0)), (.cst (.int 0))]), (.tup [(.cst (.int 4)), (.cst (.int 4))])])),
    (.set 1 (.tup [(.tup [(.cst (.int 0)), (.cst (.int 2))]), (.tup [(.cst (.int 1)), (.cst (.int 3))]), (.tup [(.cst (.int 2)), (.cst .non)]), (.tup [(.cst (.int 3)), (.cst .non)]), (.tup [(.cst .non), (.cst .non)])])),
    (.pre [0, 1] (.ret (.call 19 [(.tup [(.var 0), (.var 1), (.tup [(.cst (.bl true)), (.cst (.bl false))]), (.tup [(.tup [(.cst (.int 0))]), (.tup [(.cst (.int 0))]), (.tup [(.cst (.int 1))]), (.tup [(.cst (.int 1))]), (.tup [(.cst (.int 2))])]), (.tup [(.cst (.bl false)), (.cst (.bl false)), (.cst (.bl false)), (.cst (.bl false)), (.cst (.bl true))])])])))]⟩
theorem fn74_20 : m74.fn 20 = some F74_20 := by unfold F74_20; kernel_rfl
/-- "_law_answers" ["world", "lot", "deed", "found", "board", "here", "there", "rang", "row", ".0", "spot", "key"] -/
@[irreducible] def F74_21 : Fn := ⟨3, 12, [
    (.set 3 .dic0),
    (.pre [1] (.for_ (.nm 4) (.seq (.var 1)) [
    (.set 5 (.idx (.idx (.idx (.var 0) (.cst (.int 0))) (.var 4)) (.var 2))),
    (.pre [5, 6] (.for_ (.tu [7, 6]) (.seq (.bin .add (.lst [(.tup [(.cst (.bl false)), (.var 5)])]) (.comp (.tup [(.idx (.idx (.var 0) (.cst (.int 2))) (.var 10)), (.var 6)]) (.tu [10, 6]) (.enum (.idx (.idx (.var 0) (.cst (.int 1))) (.var 5))) (some (.cmp .isn (.var 6) (.cst .non))) [9, 10, 6]))) [
    (.ife (.or (.val (.idx (.idx (.var 0) (.cst (.int 4))) (.var 5))) (.val (.idx (.idx (.var 0) (.cst (.int 4))) (.var 6)))) [
    (.ret (.cst .non))] [
    ]),
    (.pre [7] (.setSd 8 3 (.tup [(.var 7), (.idx (.idx (.var 0) (.cst (.int 3))) (.var 6))]))),
    (.pre [6] (.setIx 8 (.var 6) (.cst (.bl true))))]))])),
    (.ret (.comp (.tup [(.idx (.var 11) (.cst (.int 0))), (.p1 .tuple (.p1 .sorted (.p1 .list (.idx (.var 3) (.var 11)))))]) (.nm 11) (.seq (.p1 .sorted (.p1 .list (.var 3)))) none [9, 11]))]⟩
theorem fn74_21 : m74.fn 21 = some F74_21 := by unfold F74_21; kernel_rfl
/-- "_law_all_signs" ["world", ".0", "board"] -/
@[irreducible] def F74_22 : Fn := ⟨1, 3, [
    (.ret (.p1 .sorted (.p1 .list (.p1 .dict (.comp (.tup [(.idx (.idx (.var 0) (.cst (.int 3))) (.var 2)), (.cst (.bl true))]) (.nm 2) (.rng (.cst (.int 0)) (.p1 .len (.idx (.var 0) (.cst (.int 3))))) (some (.not (.val (.idx (.idx (.var 0) (.cst (.int 4))) (.var 2))))) [1, 2])))))]⟩
theorem fn74_22 : m74.fn 22 = some F74_22 := by unfold F74_22; kernel_rfl
/-- "_law_lots_at" ["world", "signs", "rows", "board", ".0", "row"] -/
@[irreducible] def F74_23 : Fn := ⟨2, 6, [
    (.set 2 (.lst [(.tup [])])),
    (.pre [3] (.for_ (.nm 3) (.seq (.comp (.var 3) (.nm 3) (.rng (.cst (.int 0)) (.p1 .len (.idx (.var 0) (.cst (.int 3))))) (some (.and (.cmp .eq (.idx (.idx (.var 0) (.cst (.int 3))) (.var 3)) (.var 1)) (.not (.val (.idx (.idx (.var 0) (.cst (.int 4))) (.var 3)))))) [4, 3])) [
    (.pre [3] (.set 2 (.bin .add (.var 2) (.comp (.bin .add (.var 5) (.tup [(.var 3)])) (.nm 5) (.seq (.var 2)) none [4, 5]))))])),
    (.ret (.cut (.p1 .sorted (.var 2)) (some (.cst (.int 1))) none))]⟩
theorem fn74_23 : m74.fn 23 = some F74_23 := by unfold F74_23; kernel_rfl
/-- "_law_in" ["one", "two", ".0", "board"] -/
@[irreducible] def F74_24 : Fn := ⟨2, 4, [
    (.ret (.cmp .eq (.comp (.cst (.int 1)) (.nm 3) (.seq (.var 0)) (some (.cmp .nin (.var 3) (.var 1))) [2, 3]) (.lst [])))]⟩
theorem fn74_24 : m74.fn 24 = some F74_24 := by unfold F74_24; kernel_rfl
/-- "_law_says" ["book", "lot", ".0", "word"] -/
@[irreducible] def F74_25 : Fn := ⟨2, 4, [
    (.pre [1, 3] (.ret (.orv (.cmp .is (.var 0) (.cst .non)) (.cmp .ne (.comp (.cst (.int 1)) (.nm 3) (.seq (.var 0)) (some (.val (.call 24 [(.var 1), (.var 3)]))) [2, 3]) (.lst [])))))]⟩
theorem fn74_25 : m74.fn 25 = some F74_25 := by unfold F74_25; kernel_rfl
/-- "_law_meaning" ["world", "word", "signs", ".0", "board"] -/
@[irreducible] def F74_26 : Fn := ⟨3, 5, [
    (.pre [4] (.ret (.p1 .tuple (.comp (.var 4) (.nm 4) (.seq (.var 1)) (some (.cmp .eq (.idx (.idx (.var 0) (.cst (.int 3))) (.var 4)) (.var 2))) [3, 4]))))]⟩
theorem fn74_26 : m74.fn 26 = some F74_26 := by unfold F74_26; kernel_rfl
/-- "_law_is_number" ["value", "most"] -/
@[irreducible] def F74_27 : Fn := ⟨2, 2, [
    (.ret (.andv (.isa .int (.var 0)) (.andv (.notv (.isa .bool (.var 0))) (.andv (.cmp .le (.cst (.int 0)) (.var 0)) (.orv (.cmp .is (.var 1) (.cst .non)) (.cmp .le (.var 0) (.var 1)))))))]⟩
theorem fn74_27 : m74.fn 27 = some F74_27 := by unfold F74_27; kernel_rfl
/-- "_law_keeps" ["world", "book", "good", "signs", "lot", "changed", "later"] -/
@[irreducible] def F74_28 : Fn := ⟨2, 7, [
    (.set 2 .dic0),
    (.pre [0] (.for_ (.nm 3) (.seq (.call 22 [(.var 0)])) [
    (.pre [0, 3] (.for_ (.nm 4) (.seq (.call 23 [(.var 0), (.var 3)])) [
    (.pre [4] (.setIx 2 (.var 4) (.cst (.bl true))))]))])),
    (.set 5 (.cst (.bl true))),
    (.wh [] (.val (.var 5)) [
    (.set 6 .dic0),
    (.pre [2] (.for_ (.nm 4) (.seq (.var 2)) [
    (.pre [0, 1, 2, 4] (.ife (.cmp .ne (.call 29 [(.var 0), (.var 1), (.var 2), (.var 4)]) (.lst [])) [
    (.pre [4] (.setIx 6 (.var 4) (.cst (.bl true))))] [
    ]))])),
    (.pre [6] (.par [5, 2] [(.cmp .lt (.p1 .len (.var 6)) (.p1 .len (.var 2))), (.var 6)]))]),
    (.retV 2)]⟩
theorem fn74_28 : m74.fn 28 = some F74_28 := by unfold F74_28; kernel_rfl
/-- "_law_good" ["world", "book", "good", "lot", "found", "deed", "rows", ".0", "rang", "there"] -/
@[irreducible] def F74_29 : Fn := ⟨4, 10, [
    (.set 4 (.lst [])),
    (.for_ (.nm 5) (.rng (.cst (.int 0)) (.p1 .len (.idx (.idx (.var 0) (.cst (.int 0))) (.cst (.int 0))))) [
    (.pre [0, 3, 5] (.set 6 (.call 21 [(.var 0), (.var 3), (.var 5)]))),
    (.pre [1, 9] (.ife (.and (.cmp .isn (.var 6) (.cst .non)) (.cmp .eq (.comp (.cst (.int 1)) (.tu [8, 9]) (.seq (.var 6)) (some (.ifx (.and (.val (.var 8)) (.cmp .isn (.var 1) (.cst .non))) (.not (.val (.call 25 [(.var 1), (.var 9)]))) (.cmp .nin (.var 9) (.var 2)))) [7, 8, 9]) (.lst []))) [
    (.pre [5] (.app 4 (.var 5)))] [
    ]))]),
    (.retV 4)]⟩
theorem fn74_29 : m74.fn 29 = some F74_29 := by unfold F74_29; kernel_rfl
/-- "_law_life_rows" ["events", "event", "gone", "rows", "number", "names", "spot", ".0", "row"] -/
@[irreducible] def F74_30 : Fn := ⟨1, 9, [
    (.par [2, 3] [(.comp (.idx (.var 1) (.cst (.int 1))) (.nm 1) (.seq (.var 0)) (some (.cmp .eq (.idx (.var 1) (.cst (.int 0))) (.cst (.str "back")))) [7, 1]), (.lst [])]),
    (.pre [0] (.for_ (.tu [4, 1]) (.enum (.var 0)) [
    (.set 5 (.comp (.idx (.var 8) (.cst (.int 0))) (.nm 8) (.seq (.var 3)) none [7, 8])),
    (.ife (.cmp .eq (.idx (.var 1) (.cst (.int 0))) (.cst (.str "behind"))) [
    (.set 6 (.ifx (.cmp .lt (.idx (.var 1) (.cst (.int 1))) (.cst (.int 0))) (.cst (.int 0)) (.bin .add (.index (.var 5) (.idx (.var 1) (.cst (.int 1)))) (.cst (.int 1))))),
    (.pre [4] (.set 3 (.bin .add (.bin .add (.cut (.var 3) none (some (.var 6))) (.lst [(.lst [(.var 4), (.idx (.var 1) (.cst (.int 2))), (.cmp .nin (.var 4) (.var 2))])])) (.cut (.var 3) (some (.var 6)) none))))] [
    (.ife (.cmp .eq (.idx (.var 1) (.cst (.int 0))) (.cst (.str "settle"))) [
    (.pre [8] (.set 3 (.comp (.var 8) (.nm 8) (.seq (.var 3)) (some (.val (.idx (.var 8) (.cst (.int 2))))) [7, 8])))] [
    (.ife (.and (.cmp .inn (.idx (.var 1) (.cst (.int 0))) (.tup [(.cst (.str "away")), (.cst (.str "instead"))])) (.and (.cmp .nin (.var 4) (.var 2)) (.and (.cmp .inn (.idx (.var 1) (.cst (.int 1))) (.var 5)) (.val (.idx (.idx (.var 3) (.index (.var 5) (.idx (.var 1) (.cst (.int 1))))) (.cst (.int 2))))))) [
    (.set 6 (.index (.var 5) (.idx (.var 1) (.cst (.int 1))))),
    (.pre [6] (.setIx 3 (.var 6) (.lst [(.idx (.var 1) (.cst (.int 1))), (.ifx (.cmp .eq (.idx (.var 1) (.cst (.int 0))) (.cst (.str "away"))) (.idx (.idx (.var 3) (.var 6)) (.cst (.int 1))) (.idx (.var 1) (.cst (.int 2)))), (.cmp .eq (.idx (.var 1) (.cst (.int 0))) (.cst (.str "instead")))])))] [
    ])])])])),
    (.retV 3)]⟩
theorem fn74_30 : m74.fn 30 = some F74_30 := by unfold F74_30; kernel_rfl
/-- "_law_backs" ["events", "last", "gone", ".0", "number", "event"] -/
@[irreducible] def F74_31 : Fn := ⟨1, 6, [
    (.set 1 (.p1 .max (.bin .add (.lst [(.cst (.int 0))]) (.comp (.bin .add (.var 4) (.cst (.int 1))) (.tu [4, 5]) (.enum (.var 0)) (some (.cmp .eq (.idx (.var 5) (.cst (.int 0))) (.cst (.str "settle")))) [3, 4, 5])))),
    (.set 2 (.comp (.idx (.var 5) (.cst (.int 1))) (.nm 5) (.seq (.var 0)) (some (.cmp .eq (.idx (.var 5) (.cst (.int 0))) (.cst (.str "back")))) [3, 5])),
    (.pre [4] (.ret (.comp (.var 4) (.tu [4, 5]) (.enum (.var 0)) (some (.and (.cmp .ge (.var 4) (.var 1)) (.and (.cmp .inn (.idx (.var 5) (.cst (.int 0))) (.tup [(.cst (.str "behind")), (.cst (.str "away")), (.cst (.str "instead"))])) (.cmp .nin (.var 4) (.var 2))))) [3, 4, 5])))]⟩
theorem fn74_31 : m74.fn 31 = some F74_31 := by unfold F74_31; kernel_rfl
/-- "_law_behind" ["world", "lot", "told", "deed", "signs", "rang", "found", "board", "here", "there", "comes", "rings", ".0", "spot"] -/
@[irreducible] def F74_32 : Fn := ⟨3, 14, [
    (.setTu [3, 4, 5] (.var 2)),
    (.set 6 .dic0),
    (.pre [7] (.for_ (.nm 7) (.seq (.comp (.var 7) (.nm 7) (.seq (.var 1)) (some (.not (.val (.idx (.idx (.var 0) (.cst (.int 4))) (.var 7))))) [12, 7])) [
    (.set 8 (.idx (.idx (.idx (.var 0) (.cst (.int 0))) (.var 7)) (.var 3))),
    (.pre [8, 8, 9] (.set 10 (.ifx (.val (.idx (.idx (.var 0) (.cst (.int 4))) (.var 8))) (.lst [(.tup [(.cst (.bl false)), (.var 8)])]) (.bin .add (.lst [(.tup [(.cst (.bl false)), (.var 8)])]) (.comp (.tup [(.idx (.idx (.var 0) (.cst (.int 2))) (.var 13)), (.var 9)]) (.tu [13, 9]) (.enum (.idx (.idx (.var 0) (.cst (.int 1))) (.var 8))) (some (.cmp .isn (.var 9) (.cst .non))) [12, 13, 9]))))),
    (.pre [10] (.for_ (.tu [11, 9]) (.seq (.var 10)) [
    (.ife (.and (.cmp .eq (.var 11) (.var 5)) (.cmp .eq (.idx (.idx (.var 0) (.cst (.int 3))) (.var 9)) (.var 4))) [
    (.pre [9] (.setIx 6 (.var 9) (.cst (.bl true))))] [
    ])]))])),
    (.ret (.p1 .tuple (.p1 .sorted (.p1 .list (.var 6)))))]⟩
theorem fn74_32 : m74.fn 32 = some F74_32 := by unfold F74_32; kernel_rfl
/-- "_law_hands_log" ["box", "world", "book", "many", "lot", "board", "log", "good", "some", "deed", "here", "comes", "rang", "word", "words", "heard", ".0", "spot", "there"] -/
@[irreducible] def F74_33 : Fn := ⟨4, 19, [
    (.pre [1, 2] (.par [4, 5, 6, 7] [(.tup [(.cst (.int 0))]), (.cst (.int 0)), (.tup []), (.call 28 [(.var 1), (.var 2)])])),
    (.wh [] (.and (.cmp .lt (.p1 .len (.var 6)) (.var 3)) (.not (.val (.idx (.idx (.var 1) (.cst (.int 4))) (.var 5))))) [
    (.pre [1, 2, 7, 4] (.set 8 (.ifx (.cmp .inn (.var 4) (.var 7)) (.call 29 [(.var 1), (.var 2), (.var 7), (.var 4)]) (.lst [])))),
    (.pre [0, 0, 8, 0] (.set 9 (.ifx (.and (.cmp .ne (.var 8) (.lst [])) (.cmp .gt (.call 16 [(.var 0), (.cst (.int 6))]) (.cst (.int 0)))) (.call 17 [(.var 0), (.var 8)]) (.call 16 [(.var 0), (.p1 .len (.idx (.idx (.var 1) (.cst (.int 0))) (.cst (.int 0))))])))),
    (.set 10 (.idx (.idx (.idx (.var 1) (.cst (.int 0))) (.var 5)) (.var 9))),
    (.pre [10, 10, 18] (.set 11 (.ifx (.val (.idx (.idx (.var 1) (.cst (.int 4))) (.var 10))) (.lst [(.tup [(.cst (.bl false)), (.var 10)])]) (.bin .add (.lst [(.tup [(.cst (.bl false)), (.var 10)])]) (.comp (.tup [(.idx (.idx (.var 1) (.cst (.int 2))) (.var 17)), (.var 18)]) (.tu [17, 18]) (.enum (.idx (.idx (.var 1) (.cst (.int 1))) (.var 10))) (some (.cmp .isn (.var 18) (.cst .non))) [16, 17, 18]))))),
    (.pre [0, 11] (.setTu [12, 5] (.call 17 [(.var 0), (.var 11)]))),
    (.pre [9, 12, 1, 4, 9, 12] (.par [6, 4] [(.bin .add (.var 6) (.tup [(.tup [(.cst (.str "did")), (.var 9), (.idx (.idx (.var 1) (.cst (.int 3))) (.var 5)), (.var 12)])])), (.call 32 [(.var 1), (.var 4), (.tup [(.var 9), (.idx (.idx (.var 1) (.cst (.int 3))) (.var 5)), (.var 12)])])])),
    (.ife (.val (.var 12)) [
    (.pre [13, 4] (.set 14 (.comp (.var 13) (.nm 13) (.rng (.cst (.int 0)) (.p1 .len (.var 2))) (some (.and (.cmp .ne (.var 4) (.tup [])) (.val (.call 24 [(.var 4), (.idx (.var 2) (.var 13))])))) [16, 13]))),
    (.pre [0, 0, 14, 0] (.set 13 (.ifx (.and (.cmp .ne (.var 14) (.lst [])) (.cmp .gt (.call 16 [(.var 0), (.cst (.int 6))]) (.cst (.int 0)))) (.call 17 [(.var 0), (.var 14)]) (.call 16 [(.var 0), (.p1 .len (.var 2))])))),
    (.pre [0, 13, 0] (.set 15 (.ifx (.cmp .gt (.call 16 [(.var 0), (.cst (.int 8))]) (.cst (.int 0))) (.var 13) (.call 16 [(.var 0), (.p1 .len (.var 2))])))),
    (.pre [13, 15, 1] (.par [6, 4] [(.bin .add (.var 6) (.tup [(.tup [(.cst (.str "said")), (.var 13)]), (.tup [(.cst (.str "heard")), (.var 15)])])), (.call 26 [(.var 1), (.idx (.var 2) (.var 15)), (.idx (.idx (.var 1) (.cst (.int 3))) (.var 5))])]))] [
    ])]),
    (.pre [5] (.ret (.tup [(.cut (.var 6) none (some (.var 3))), (.var 5)])))]⟩
theorem fn74_33 : m74.fn 33 = some F74_33 := by unfold F74_33; kernel_rfl
/-- "_law_any_entry" ["box", "world", "many", "way"] -/
@[irreducible] def F74_34 : Fn := ⟨3, 4, [
    (.pre [0] (.set 3 (.call 16 [(.var 0), (.cst (.int 4))]))),
    (.ife (.cmp .gt (.var 3) (.cst (.int 1))) [
    (.pre [0, 2] (.ret (.tup [(.idx (.tup [(.cst (.str "said")), (.cst (.str "heard"))]) (.bin .sub (.var 3) (.cst (.int 2)))), (.call 16 [(.var 0), (.var 2)])])))] [
    ]),
    (.pre [0, 0, 0] (.ret (.tup [(.cst (.str "did")), (.call 16 [(.var 0), (.p1 .len (.idx (.idx (.var 1) (.cst (.int 0))) (.cst (.int 0))))]), (.call 17 [(.var 0), (.p1 .list (.idx (.var 1) (.cst (.int 3))))]), (.cmp .eq (.call 16 [(.var 0), (.cst (.int 3))]) (.cst (.int 0)))])))]⟩
theorem fn74_34 : m74.fn 34 = some F74_34 := by unfold F74_34; kernel_rfl
/-- "_law_any_event" ["box", "events", "world", "book", "log", "rows", "way", "there", "names", "backs", ".0", "row"] -/
@[irreducible] def F74_35 : Fn := ⟨5, 12, [
    (.pre [1, 0] (.par [5, 6] [(.call 30 [(.var 1)]), (.call 16 [(.var 0), (.cst (.int 14))])])),
    (.pre [1] (.par [7, 8, 9] [(.comp (.idx (.var 11) (.cst (.int 0))) (.nm 11) (.seq (.var 5)) (some (.val (.idx (.var 11) (.cst (.int 2))))) [10, 11]), (.bin .add (.lst [(.bin .sub (.cst (.int 0)) (.cst (.int 1)))]) (.comp (.idx (.var 11) (.cst (.int 0))) (.nm 11) (.seq (.var 5)) none [10, 11])), (.call 31 [(.var 1)])])),
    (.ife (.and (.cmp .eq (.var 6) (.cst (.int 0))) (.cmp .ne (.var 7) (.lst []))) [
    (.pre [0, 7] (.ret (.tup [(.cst (.str "away")), (.call 17 [(.var 0), (.var 7)])])))] [
    ]),
    (.ife (.and (.cmp .eq (.var 6) (.cst (.int 1))) (.cmp .ne (.var 7) (.lst []))) [
    (.pre [0, 7, 0, 2] (.ret (.tup [(.cst (.str "instead")), (.call 17 [(.var 0), (.var 7)]), (.call 34 [(.var 0), (.var 2), (.p1 .len (.var 3))])])))] [
    ]),
    (.ife (.and (.cmp .lt (.var 6) (.cst (.int 5))) (.cmp .ne (.var 9) (.lst []))) [
    (.pre [0, 9] (.ret (.tup [(.cst (.str "back")), (.call 17 [(.var 0), (.var 9)])])))] [
    ]),
    (.ife (.cmp .eq (.var 6) (.cst (.int 5))) [
    (.ret (.tup [(.cst (.str "settle"))]))] [
    ]),
    (.ife (.cmp .eq (.var 6) (.cst (.int 6))) [
    (.pre [0, 8, 0, 2] (.ret (.tup [(.cst (.str "behind")), (.call 17 [(.var 0), (.var 8)]), (.call 34 [(.var 0), (.var 2), (.p1 .len (.var 3))])])))] [
    ]),
    (.pre [0, 2] (.ret (.tup [(.cst (.str "behind")), (.idx (.var 8) (.bin .sub (.p1 .len (.var 8)) (.cst (.int 1)))), (.ifx (.cmp .lt (.p1 .len (.var 7)) (.p1 .len (.var 4))) (.idx (.var 4) (.p1 .len (.var 7))) (.call 34 [(.var 0), (.var 2), (.p1 .len (.var 3))]))])))]⟩
theorem fn74_35 : m74.fn 35 = some F74_35 := by unfold F74_35; kernel_rfl
/-- "_law_is_entry" ["world", "many", "value", ".0", "signs"] -/
@[irreducible] def F74_36 : Fn := ⟨3, 5, [
    (.ife (.or (.not (.val (.isa .tuple (.var 2)))) (.or (.cmp .eq (.var 2) (.tup [])) (.not (.val (.isa .str (.idx (.var 2) (.cst (.int 0)))))))) [
    (.ret (.cst (.bl false)))] [
    ]),
    (.ife (.cmp .eq (.idx (.var 2) (.cst (.int 0))) (.cst (.str "did"))) [
    (.ife (.or (.cmp .ne (.p1 .len (.var 2)) (.cst (.int 4))) (.or (.not (.val (.call 27 [(.idx (.var 2) (.cst (.int 1))), (.bin .sub (.p1 .len (.idx (.idx (.var 0) (.cst (.int 0))) (.cst (.int 0)))) (.cst (.int 1)))]))) (.or (.not (.val (.isa .tuple (.idx (.var 2) (.cst (.int 2)))))) (.not (.val (.isa .bool (.idx (.var 2) (.cst (.int 3))))))))) [
    (.ret (.cst (.bl false)))] [
    ]),
    (.pre [4] (.ret (.cmp .ne (.comp (.cst (.int 1)) (.nm 4) (.seq (.idx (.var 0) (.cst (.int 3)))) (some (.val (.call 18 [(.idx (.var 2) (.cst (.int 2))), (.var 4)]))) [3, 4]) (.lst []))))] [
    ]),
    (.ret (.andv (.cmp .inn (.idx (.var 2) (.cst (.int 0))) (.tup [(.cst (.str "said")), (.cst (.str "heard"))])) (.andv (.cmp .eq (.p1 .len (.var 2)) (.cst (.int 2))) (.call 27 [(.idx (.var 2) (.cst (.int 1))), (.bin .sub (.var 1) (.cst (.int 1)))]))))]⟩
theorem fn74_36 : m74.fn 36 = some F74_36 := by unfold F74_36; kernel_rfl
/-- "_law_can" ["events", "world", "many", "value", "rows", "long", ".0", "row"] -/
@[irreducible] def F74_37 : Fn := ⟨4, 8, [
    (.ife (.or (.not (.val (.isa .tuple (.var 3)))) (.or (.cmp .eq (.var 3) (.tup [])) (.not (.val (.isa .str (.idx (.var 3) (.cst (.int 0)))))))) [
    (.ret (.cst (.bl false)))] [
    ]),
    (.pre [0] (.par [4, 5] [(.call 30 [(.var 0)]), (.p1 .len (.var 3))])),
    (.ife (.cmp .eq (.idx (.var 3) (.cst (.int 0))) (.cst (.str "settle"))) [
    (.ret (.cmp .eq (.var 5) (.cst (.int 1))))] [
    ]),
    (.ife (.cmp .eq (.idx (.var 3) (.cst (.int 0))) (.cst (.str "back"))) [
    (.pre [0] (.ret (.andv (.cmp .eq (.var 5) (.cst (.int 2))) (.andv (.call 27 [(.idx (.var 3) (.cst (.int 1))), (.cst .non)]) (.cmp .inn (.idx (.var 3) (.cst (.int 1))) (.call 31 [(.var 0)]))))))] [
    ]),
    (.ife (.cmp .eq (.idx (.var 3) (.cst (.int 0))) (.cst (.str "behind"))) [
    (.pre [1, 2] (.ret (.andv (.cmp .eq (.var 5) (.cst (.int 3))) (.andv (.orv (.call 18 [(.idx (.var 3) (.cst (.int 1))), (.bin .sub (.cst (.int 0)) (.cst (.int 1)))]) (.andv (.call 27 [(.idx (.var 3) (.cst (.int 1))), (.cst .non)]) (.cmp .inn (.idx (.var 3) (.cst (.int 1))) (.comp (.idx (.var 7) (.cst (.int 0))) (.nm 7) (.seq (.var 4)) none [6, 7])))) (.call 36 [(.var 1), (.var 2), (.idx (.var 3) (.cst (.int 2)))])))))] [
    ]),
    (.ife (.or (.cmp .lt (.var 5) (.cst (.int 2))) (.or (.not (.val (.call 27 [(.idx (.var 3) (.cst (.int 1))), (.cst .non)]))) (.cmp .nin (.idx (.var 3) (.cst (.int 1))) (.comp (.idx (.var 7) (.cst (.int 0))) (.nm 7) (.seq (.var 4)) (some (.val (.idx (.var 7) (.cst (.int 2))))) [6, 7])))) [
    (.ret (.cst (.bl false)))] [
    ]),
    (.pre [1, 2] (.ret (.orv (.andv (.cmp .eq (.idx (.var 3) (.cst (.int 0))) (.cst (.str "away"))) (.cmp .eq (.var 5) (.cst (.int 2)))) (.andv (.cmp .eq (.idx (.var 3) (.cst (.int 0))) (.cst (.str "instead"))) (.andv (.cmp .eq (.var 5) (.cst (.int 3))) (.call 36 [(.var 1), (.var 2), (.idx (.var 3) (.cst (.int 2)))]))))))]⟩
theorem fn74_37 : m74.fn 37 = some F74_37 := by unfold F74_37; kernel_rfl
/-- "law" ["script", "k", "box", "world", "book", "many", "events", "plan", "turn", "entry", "number", "value", "odd", "some", ".0", "one"] -/
@[irreducible] def F74_38 : Fn := ⟨1, 16, [
    (.for_ (.nm 1) (.rng (.cst (.int 0)) (.p2 .max (.cst (.int 3)) (.p2 .min (.p1 .len (.var 0)) (.cst (.int 6))))) [
    (.pre [0, 1] (.setSh 2 (.call 15 [(.var 0), (.var 1)]))),
    (.par [3, 4] [(.call 20 []), (.tup [(.tup [(.cst (.int 0))]), (.tup [(.cst (.int 3))])])]),
    (.pre [2] (.par [5, 6] [(.bin .add (.cst (.int 1)) (.call 16 [(.var 2), (.cst (.int 2))])), (.tup [])])),
    (.pre [2, 3] (.set 7 (.idx (.call 33 [(.var 2), (.var 3), (.cut (.var 4) none (some (.var 5))), (.cst (.int 9))]) (.cst (.int 0))))),
    (.pre [2] (.for_ (.nm 8) (.rng (.cst (.int 0)) (.bin .add (.cst (.int 2)) (.call 16 [(.var 2), (.cst (.int 12))]))) [
    (.pre [2, 6, 3, 7] (.set 6 (.bin .add (.var 6) (.tup [(.call 35 [(.var 2), (.var 6), (.var 3), (.cut (.var 4) none (some (.var 5))), (.var 7)])]))))])),
    (.pre [2, 3, 5] (.set 9 (.call 34 [(.var 2), (.var 3), (.var 5)]))),
    (.for_ (.nm 10) (.rng (.bin .sub (.cst (.int 0)) (.cst (.int 1))) (.bin .add (.p1 .len (.var 6)) (.cst (.int 2)))) [
    (.pre [10, 10, 9, 10, 9, 10] (.for_ (.nm 11) (.seq (.lst [(.tup [(.cst (.str "away")), (.var 10)]), (.tup [(.cst (.str "instead")), (.var 10), (.var 9)]), (.tup [(.cst (.str "behind")), (.var 10), (.var 9)]), (.tup [(.cst (.str "back")), (.var 10)])])) [
    (.pre [6, 3, 5, 11, 6, 3, 5, 11] (.ife (.not (.val (.call 18 [(.call 14 [(.var 6), (.var 3), (.var 5), (.var 11)]), (.call 37 [(.var 6), (.var 3), (.var 5), (.var 11)])]))) [
    (.ret (.cst (.bl false)))] [
    ]))]))]),
    (.pre [5, 5] (.set 12 (.lst [(.cst .non), (.cst (.bl true)), (.bin .sub (.cst (.int 0)) (.cst (.int 1))), (.var 5), (.cst (.str "a")), (.tup [(.cst (.int 0))]), (.lst [(.cst (.int 0))]), (.tup [(.cst (.str "said")), (.var 5)]), (.tup [(.cst (.str "heard")), (.cst (.bl true))]), (.tup [(.cst (.str "said")), (.cst (.int 0)), (.cst (.int 0))]), (.tup [(.cst (.str "did")), (.cst (.int 0)), (.tup [(.cst (.int 0))]), (.cst (.int 1))])]))),
    (.set 12 (.bin .add (.var 12) (.lst [(.tup [(.cst (.str "did")), (.cst (.int 2)), (.tup [(.cst (.int 0))]), (.cst (.bl true))]), (.tup [(.cst (.str "did")), (.cst (.int 0)), (.tup [(.cst (.int 9))]), (.cst (.bl true))]), (.tup [(.cst (.str "did")), (.cst (.int 0)), (.lst [(.cst (.int 0))]), (.cst (.bl true))]), (.tup [(.cst (.str "did")), (.cst (.bl true)), (.tup [(.cst (.int 0))]), (.cst (.bl true))])]))),
    (.pre [15, 15, 15, 9] (.set 13 (.bin .add (.bin .add (.comp (.tup [(.cst (.str "instead")), (.cst (.int 0)), (.var 15)]) (.nm 15) (.seq (.var 12)) none [14, 15]) (.comp (.tup [(.cst (.str "behind")), (.bin .sub (.cst (.int 0)) (.cst (.int 1))), (.var 15)]) (.nm 15) (.seq (.var 12)) none [14, 15])) (.comp (.tup [(.cst (.str "behind")), (.var 15), (.var 9)]) (.nm 15) (.seq (.var 12)) none [14, 15])))),
    (.pre [15, 15] (.for_ (.nm 11) (.seq (.bin .add (.bin .add (.var 13) (.comp (.tup [(.var 15)]) (.nm 15) (.seq (.var 12)) none [14, 15])) (.comp (.tup [(.cst (.str "away")), (.var 15)]) (.nm 15) (.seq (.var 12)) none [14, 15]))) [
    (.pre [6, 3, 5, 11, 6, 3, 5, 11] (.ife (.not (.val (.call 18 [(.call 14 [(.var 6), (.var 3), (.var 5), (.var 11)]), (.call 37 [(.var 6), (.var 3), (.var 5), (.var 11)])]))) [
    (.ret (.cst (.bl false)))] [
    ]))])),
    (.pre [9] (.set 13 (.lst [(.tup []), (.cst (.str "settle")), (.tup [(.cst (.str "settle"))]), (.tup [(.cst (.str "settle")), (.cst (.int 0))]), (.lst [(.cst (.str "settle"))]), (.tup [(.cst (.str "back"))]), (.tup [(.cst (.str "away")), (.cst (.int 0)), (.cst (.int 0))]), (.tup [(.cst (.str "behind")), (.cst (.int 0))]), (.tup [(.cst (.str "behind")), (.cst (.int 0)), (.var 9), (.cst (.int 0))]), (.tup [(.cst (.str "instead")), (.cst (.int 0))])]))),
    (.for_ (.nm 11) (.seq (.bin .add (.bin .add (.var 12) (.var 13)) (.lst [(.tup [(.cst (.str "fact")), (.cst (.int 0))]), (.tup [(.cst (.str "back")), (.cst (.bl true))]), (.tup [(.cst (.str "did")), (.cst (.int 0)), (.tup [(.cst (.bl false))]), (.cst (.bl true))])]))) [
    (.pre [6, 3, 5, 11, 6, 3, 5, 11] (.ife (.not (.val (.call 18 [(.call 14 [(.var 6), (.var 3), (.var 5), (.var 11)]), (.call 37 [(.var 6), (.var 3), (.var 5), (.var 11)])]))) [
    (.ret (.cst (.bl false)))] [
    ]))])]),
    (.ret (.cst (.bl true)))]⟩
theorem fn74_38 : m74.fn 38 = some F74_38 := by unfold F74_38; kernel_rfl
end Z
end
section
namespace Z
open PySem
def P74 : Nat → Option Fn
  | 0 => some F74_0
  | 1 => some F74_1
  | 2 => some F74_2
  | 3 => some F74_3
  | 4 => some F74_4
  | 5 => some F74_5
  | 6 => some F74_6
  | 7 => some F74_7
  | 8 => some F74_8
  | 9 => some F74_9
  | 10 => some F74_10
  | 11 => some F74_11
  | 12 => some F74_12
  | 13 => some F74_13
  | 14 => some F74_14
  | 15 => some F74_15
  | 16 => some F74_16
  | 17 => some F74_17
  | 18 => some F74_18
  | 19 => some F74_19
  | 20 => some F74_20
  | 21 => some F74_21
  | 22 => some F74_22
  | 23 => some F74_23
  | 24 => some F74_24
  | 25 => some F74_25
  | 26 => some F74_26
  | 27 => some F74_27
  | 28 => some F74_28
  | 29 => some F74_29
  | 30 => some F74_30
  | 31 => some F74_31
  | 32 => some F74_32
  | 33 => some F74_33
  | 34 => some F74_34
  | 35 => some F74_35
  | 36 => some F74_36
  | 37 => some F74_37
  | 38 => some F74_38
  | _ => none
theorem fnP74 : m74.fn = P74 := by
  funext i
  match i with
  | 0 => exact fn74_0
  | 1 => exact fn74_1
  | 2 => exact fn74_2
  | 3 => exact fn74_3
  | 4 => exact fn74_4
  | 5 => exact fn74_5
  | 6 => exact fn74_6
  | 7 => exact fn74_7
  | 8 => exact fn74_8
  | 9 => exact fn74_9
  | 10 => exact fn74_10
  | 11 => exact fn74_11
  | 12 => exact fn74_12
  | 13 => exact fn74_13
  | 14 => exact fn74_14
  | 15 => exact fn74_15
  | 16 => exact fn74_16
  | 17 => exact fn74_17
  | 18 => exact fn74_18
  | 19 => exact fn74_19
  | 20 => exact fn74_20
  | 21 => exact fn74_21
  | 22 => exact fn74_22
  | 23 => exact fn74_23
  | 24 => exact fn74_24
  | 25 => exact fn74_25
  | 26 => exact fn74_26
  | 27 => exact fn74_27
  | 28 => exact fn74_28
  | 29 => exact fn74_29
  | 30 => exact fn74_30
  | 31 => exact fn74_31
  | 32 => exact fn74_32
  | 33 => exact fn74_33
  | 34 => exact fn74_34
  | 35 => exact fn74_35
  | 36 => exact fn74_36
  | 37 => exact fn74_37
  | 38 => exact fn74_38
  | (n + 39) => rfl
theorem P74_0 : P74 0 = some F74_0 := rfl
theorem P74_1 : P74 1 = some F74_1 := rfl
theorem P74_2 : P74 2 = some F74_2 := rfl
theorem P74_3 : P74 3 = some F74_3 := rfl
theorem P74_4 : P74 4 = some F74_4 := rfl
theorem P74_5 : P74 5 = some F74_5 := rfl
theorem P74_6 : P74 6 = some F74_6 := rfl
theorem P74_7 : P74 7 = some F74_7 := rfl
theorem P74_8 : P74 8 = some F74_8 := rfl
theorem P74_9 : P74 9 = some F74_9 := rfl
theorem P74_10 : P74 10 = some F74_10 := rfl
theorem P74_11 : P74 11 = some F74_11 := rfl
theorem P74_12 : P74 12 = some F74_12 := rfl
theorem P74_13 : P74 13 = some F74_13 := rfl
theorem P74_14 : P74 14 = some F74_14 := rfl
theorem P74_15 : P74 15 = some F74_15 := rfl
theorem P74_16 : P74 16 = some F74_16 := rfl
theorem P74_17 : P74 17 = some F74_17 := rfl
theorem P74_18 : P74 18 = some F74_18 := rfl
theorem P74_19 : P74 19 = some F74_19 := rfl
theorem P74_20 : P74 20 = some F74_20 := rfl
theorem P74_21 : P74 21 = some F74_21 := rfl
theorem P74_22 : P74 22 = some F74_22 := rfl
theorem P74_23 : P74 23 = some F74_23 := rfl
theorem P74_24 : P74 24 = some F74_24 := rfl
theorem P74_25 : P74 25 = some F74_25 := rfl
theorem P74_26 : P74 26 = some F74_26 := rfl
theorem P74_27 : P74 27 = some F74_27 := rfl
theorem P74_28 : P74 28 = some F74_28 := rfl
theorem P74_29 : P74 29 = some F74_29 := rfl
theorem P74_30 : P74 30 = some F74_30 := rfl
theorem P74_31 : P74 31 = some F74_31 := rfl
theorem P74_32 : P74 32 = some F74_32 := rfl
theorem P74_33 : P74 33 = some F74_33 := rfl
theorem P74_34 : P74 34 = some F74_34 := rfl
theorem P74_35 : P74 35 = some F74_35 := rfl
theorem P74_36 : P74 36 = some F74_36 := rfl
theorem P74_37 : P74 37 = some F74_37 := rfl
theorem P74_38 : P74 38 = some F74_38 := rfl
end Z
end
section
namespace Z
open PySem
abbrev Wd : D := (.tup [(.tup [(.tup [(.int 0), (.int 1)]), (.tup [(.int 1), (.int 1)]), (.tup [(.int 3), (.int 3)]), (.tup [(.int 1), (.int 3)]), (.tup [(.int 0), (.int 0)])]), (.tup [(.tup [(.int 0), (.int 2)]), (.tup [.non, .non]), (.tup [(.int 2), .non]), (.tup [(.int 3), (.int 4)]), (.tup [(.int 4), .non])]), (.tup [(.bl true), (.bl false)]), (.tup [(.tup [(.int 0)]), (.tup [(.int 2)]), (.tup [(.int 1)]), (.tup [(.int 0)]), (.tup [(.int 1)])]), (.tup [(.bl false), (.bl true), (.bl false), (.bl false), (.bl false)])])
abbrev Bok : D := .tup [.tup [.int 0], .tup [.int 3]]
abbrev Gd : D := .dic [(.tup [(.int 0)]), (.tup [(.int 3)]), (.tup [(.int 2)]), (.tup [(.int 4)])] [(.bl true), (.bl true), (.bl true), (.bl true)]
theorem c14 (bs : List D) : callN P74 24 20 [] [(25, bs)] = .ok (Wd, .fz, [(25, bs)]) := by kernel_rfl
def Bkk : Nat → D
  | 1 => .tup [.tup [.int 0]]
  | _ => Bok
def Gkk : Nat → D
  | 1 => .dic [] []
  | _ => Gd
theorem c21 (bs : List D) {mm : Nat} (h : mm = 1 ∨ mm = 2) : callN P74 23 28 [Wd, Bkk mm] [(24, []), (25, bs)] = .ok (Gkk mm, .fz, [(24, []), (25, bs)]) := by
  rcases h with rfl | rfl <;> kernel_rfl
end Z
end
section
namespace Z
open PySem
theorem call_at {P : Nat → Option Fn} {f l : Nat} {fn : Fn} (h : P f = some fn) (ds : List D) (S : Sto) : callN P (l + 1) f ds S = runF (callN P l) (l + 1) fn ds S := by
  simp [callN, h]
theorem take_ok {l i : Nat} {m a b : Int} {S : Sto} (hl : l < 24) (hS : S.all (fun r => decide (l + 1 < r.1)) = true) (hb : look S 25 i = some (.lst [.int a, .int b])) (hm : 0 < m) (hm2 : m < 1073741824) :
    ∃ d a' b' : Int, callN P74 (l + 1) 16 [.ref 25 i, .int m] S = .ok (.int d, .fz, put S 25 i (.lst [.int a', .int b'])) ∧ 0 ≤ d ∧ d < m := by
  have h25 : ¬ (25 = l + 1) := by omega
  have h25' : ¬ (l + 1 = 25) := by omega
  have hlk : ∀ r, look ((l + 1, r) :: S) 25 i = some (.lst [.int a, .int b]) := by intro r; simp only [look, h25, if_false, hb]
  have hlp : ∀ (S : Sto) (d e : D), look S 25 i = some e → look (put S 25 i d) 25 i = some d := by
    intro S d e h
    induction S with
    | nil => simp [look] at h
    | cons r S ih =>
      by_cases e : 25 = r.1
      · rw [look, if_pos e] at h
        have := (List.getElem?_eq_some_iff.mp h).1
        simp [put, look, e, this]
      · rw [look, if_neg e] at h
        simp [put, look, e, ih h]
  have hlq : ∀ d, look (put S 25 i d) 25 i = some d := fun d => hlp S d _ hb
  by_cases ha : a > 0
  · refine ⟨a % m, a / m, b, ?_, Int.emod_nonneg _ (by omega), Int.emod_lt_of_pos _ hm⟩
    rw [call_at P74_16]
    simp [runF, evSs, evS, evT, evTo, evE, evEs, evO, evPar, evIt, varO, deref, idxO, L2.atI, L2.ixN, cmpO, eqO, isO, p1O, p2O, binO, intO, modI, mulI, fdivI, powI, addO, kept, modE, modE2, putO, appO, popO, wr, D.lev, D.levL, put, look, setE, setEs, leave, frz, bindO, bindTu, wipeE, srcO, seqO, seq2O, zipO, truO, isaO, cutO, D.isNon, line, Out.bind_ok, Out.of_some, Out.of_none, hS, F74_16, hb, ha, hm, hm2, h25]
  · refine ⟨((b * 39373 + 251) % 2147483647 * 2147483629 + (((b * 39373 + 251) % 2147483647 * 40692 + 113) % 2147483563 + 1)) / 8311 % m, a, ((b * 39373 + 251) % 2147483647 * 40692 + 113) % 2147483563 + 1, ?_, Int.emod_nonneg _ (by omega), Int.emod_lt_of_pos _ hm⟩
    rw [call_at P74_16]
    simp [runF, evSs, evS, evT, evTo, evE, evEs, evO, evPar, evIt, varO, deref, idxO, L2.atI, L2.ixN, cmpO, eqO, isO, p1O, p2O, binO, intO, modI, mulI, fdivI, powI, addO, kept, modE, modE2, putO, appO, popO, wr, D.lev, D.levL, put, look, setE, setEs, leave, frz, bindO, bindTu, wipeE, srcO, seqO, seq2O, zipO, truO, isaO, cutO, D.isNon, line, Out.bind_ok, Out.of_some, Out.of_none, hS, F74_16, hb, ha, hm, hm2, h25, hlq]
theorem all_succ {l : Nat} {S : Sto} (hS : S.all (fun r => decide (l + 1 < r.1)) = true) : ((l + 1, []) :: S : Sto).all (fun r => decide (l < r.1)) = true := by
  simp only [List.all_cons, Bool.and_eq_true, decide_eq_true_eq]
  refine ⟨by omega, List.all_eq_true.mpr fun r hr => ?_⟩
  have := List.all_eq_true.mp hS r hr
  simp only [decide_eq_true_eq] at this ⊢
  omega
theorem look_fr {l i : Nat} {S : Sto} {x : D} (hl : l + 1 < 25) (hb : look S 25 i = some x) : look ((l + 1, []) :: S) 25 i = some x := by
  have h25 : ¬ (25 = l + 1) := by omega
  simp only [look, h25, if_false, hb]
theorem put_fr {l i : Nat} {S : Sto} {x : D} (hl : l + 1 < 25) : put ((l + 1, []) :: S) 25 i x = (l + 1, []) :: put S 25 i x := by
  have h25 : ¬ (25 = l + 1) := by omega
  simp only [put, h25, if_false]
theorem pick_ok {l i : Nat} {a b : Int} {S : Sto} {ds : List D} {c : D} (hl : l < 23) (hS : S.all (fun r => decide (l + 2 < r.1)) = true) (hb : look S 25 i = some (.lst [.int a, .int b])) (hc : c = .lst ds ∨ c = .tup ds) (hm : ds ≠ []) (hm2 : ds.length < 1073741824) :
    ∃ d ∈ ds, ∃ a' b' : Int, callN P74 (l + 2) 17 [.ref 25 i, c] S = .ok (d, .fz, put S 25 i (.lst [.int a', .int b'])) := by
  have h25 : ¬ (25 = l + 1 + 1) := by omega
  have h0 : 0 < ds.length := List.length_pos_iff.mpr hm
  obtain ⟨d, a', b', h, hd, hd2⟩ := take_ok (l := l) (i := i) (m := ds.length) (by omega) (all_succ hS) (look_fr (by omega) hb) (by omega) (by omega)
  rw [put_fr (by omega)] at h
  have hj : d.toNat < ds.length := by omega
  refine ⟨ds[d.toNat], List.getElem_mem hj, a', b', ?_⟩
  rw [call_at P74_17]
  have hd3 : ds[d.toNat]? = some ds[d.toNat] := List.getElem?_eq_getElem hj
  rcases hc with rfl | rfl <;> simp [runF, evSs, evS, evT, evTo, evE, evEs, evO, evPar, evIt, varO, deref, idxO, L2.atI, L2.ixN, cmpO, eqO, isO, p1O, p2O, binO, intO, modI, mulI, fdivI, powI, addO, kept, modE, modE2, putO, appO, popO, wr, D.lev, D.levL, put, look, setE, setEs, leave, frz, bindO, bindTu, wipeE, srcO, seqO, seq2O, zipO, truO, isaO, cutO, D.isNon, line, Out.bind_ok, Out.of_some, Out.of_none, hS, F74_17, h, hd, hd2, hd3]
inductive En : D → Prop
  | two (s : Str) (i : Int) : En (.tup [.str s, .int i])
  | four (s : Str) (i j : Int) (b : Bool) : En (.tup [.str s, .int i, .tup [.int j], .bl b])
end Z
end
section
namespace Z
open PySem
theorem lk_put : ∀ {S : Sto} {l i : Nat} {d e : D}, look S l i = some e → look (put S l i d) l i = some d
  | [], _, _, _, _, h => by simp [look] at h
  | r :: S, l, i, d, e, h => by
    by_cases e : l = r.1
    · rw [look, if_pos e] at h
      have := (List.getElem?_eq_some_iff.mp h).1
      simp [put, look, e, this]
    · rw [look, if_neg e] at h
      simp [put, look, e, lk_put h]
theorem pt_pt : ∀ {S : Sto} {l i : Nat} {d e : D}, put (put S l i d) l i e = put S l i e
  | [], _, _, _, _ => rfl
  | r :: S, l, i, d, e => by
    by_cases h : l = r.1
    · simp [put, h]
    · simp [put, h, pt_pt]
theorem al_put {p : Nat → Bool} : ∀ {S : Sto} {l i : Nat} {d : D}, (put S l i d).all (fun r => p r.1) = S.all (fun r => p r.1)
  | [], _, _, _ => rfl
  | r :: S, l, i, d => by
    by_cases h : l = r.1
    · simp [put, h]
    · simp [put, h, al_put]
def Bx (S : Sto) (i : Nat) : Prop := ∃ a b : Int, look S 25 i = some (.lst [.int a, .int b])
/-- the box i alone is another one -/
def Up (S : Sto) (i : Nat) (S' : Sto) : Prop := ∃ a b : Int, S' = put S 25 i (.lst [.int a, .int b])
def Above (l : Nat) (S : Sto) : Prop := S.all (fun r => decide (l < r.1)) = true
theorem Up.bx {S S' : Sto} {i : Nat} (u : Up S i S') (b : Bx S i) : Bx S' i := by
  obtain ⟨a, c, rfl⟩ := u
  obtain ⟨x, y, h⟩ := b
  exact ⟨a, c, lk_put h⟩
theorem Up.trans {S S' S'' : Sto} {i : Nat} (u : Up S i S') (v : Up S' i S'') : Up S i S'' := by
  obtain ⟨a, c, rfl⟩ := u
  obtain ⟨x, y, rfl⟩ := v
  exact ⟨x, y, pt_pt⟩
theorem Up.above {S S' : Sto} {i l : Nat} (u : Up S i S') (h : Above l S) : Above l S' := by
  obtain ⟨a, c, rfl⟩ := u
  unfold Above
  rw [al_put (p := fun n => decide (l < n))]
  exact h
theorem Above.fr {l : Nat} {S : Sto} (h : Above (l + 1) S) : Above l ((l + 1, []) :: S) := all_succ h
theorem Bx.fr {l i : Nat} {S : Sto} (h : Bx S i) (hl : l + 1 < 25) : Bx ((l + 1, []) :: S) i := by
  obtain ⟨a, c, h⟩ := h
  exact ⟨a, c, look_fr hl h⟩
theorem Up.fr {l i : Nat} {S S' : Sto} (h : Up ((l + 1, []) :: S) i S') (hl : l + 1 < 25) : ∃ S'', S' = (l + 1, []) :: S'' ∧ Up S i S'' := by
  obtain ⟨a, c, rfl⟩ := h
  exact ⟨_, put_fr hl, a, c, rfl⟩
theorem take_s {l i : Nat} {m : Int} {S : Sto} (hl : l < 24) (hS : Above (l + 1) S) (hb : Bx S i) (hm : 0 < m) (hm2 : m < 1073741824) :
    ∃ (d : Int) (S' : Sto), callN P74 (l + 1) 16 [.ref 25 i, .int m] S = .ok (.int d, .fz, S') ∧ Up S i S' ∧ 0 ≤ d ∧ d < m := by
  obtain ⟨a, b, hb⟩ := hb
  obtain ⟨d, a', b', h, h1, h2⟩ := take_ok hl hS hb hm hm2
  exact ⟨d, _, h, ⟨a', b', rfl⟩, h1, h2⟩
theorem pick_s {l i : Nat} {S : Sto} {ds : List D} {c : D} (hl : l < 23) (hS : Above (l + 2) S) (hb : Bx S i) (hc : c = .lst ds ∨ c = .tup ds) (hm : ds ≠ []) (hm2 : ds.length < 1073741824) :
    ∃ d ∈ ds, ∃ S' : Sto, callN P74 (l + 2) 17 [.ref 25 i, c] S = .ok (d, .fz, S') ∧ Up S i S' := by
  obtain ⟨a, b, hb⟩ := hb
  obtain ⟨d, hd, a', b', h⟩ := pick_ok hl hS hb hc hm hm2
  exact ⟨d, hd, _, h, a', b', rfl⟩
/-- a call from within: the frame about it stays -/
theorem take_f {l i : Nat} {m : Int} {S : Sto} (hl : l < 23) (hS : Above (l + 2) S) (hb : Bx S i) (hm : 0 < m) (hm2 : m < 1073741824) :
    ∃ (d : Int) (S' : Sto), callN P74 (l + 1) 16 [.ref 25 i, .int m] ((l + 2, []) :: S) = .ok (.int d, .fz, (l + 2, []) :: S') ∧ Up S i S' ∧ 0 ≤ d ∧ d < m := by
  obtain ⟨d, S', h, u, h1, h2⟩ := take_s (l := l) (by omega) hS.fr (hb.fr (by omega)) hm hm2
  obtain ⟨S'', rfl, u'⟩ := u.fr (by omega)
  exact ⟨d, S'', h, u', h1, h2⟩
theorem pick_f {l i : Nat} {S : Sto} {ds : List D} {c : D} (hl : l < 22) (hS : Above (l + 3) S) (hb : Bx S i) (hc : c = .lst ds ∨ c = .tup ds) (hm : ds ≠ []) (hm2 : ds.length < 1073741824) :
    ∃ d ∈ ds, ∃ S' : Sto, callN P74 (l + 2) 17 [.ref 25 i, c] ((l + 3, []) :: S) = .ok (d, .fz, (l + 3, []) :: S') ∧ Up S i S' := by
  obtain ⟨d, hd, S', h, u⟩ := pick_s (l := l) (c := c) (by omega) hS.fr (hb.fr (by omega)) hc hm hm2
  obtain ⟨S'', rfl, u'⟩ := u.fr (by omega)
  exact ⟨d, hd, S'', h, u'⟩
/-- an entry that is drawn, of words below mm -/
def EnM (mm : Nat) (e : D) : Prop := (∃ n : Nat, n < mm ∧ (e = .tup [.str "said", .int n] ∨ e = .tup [.str "heard", .int n])) ∨ ∃ (d j : Nat) (b : Bool), d < 2 ∧ j < 3 ∧ e = .tup [.str "did", .int d, .tup [.int j], .bl b]
theorem EnM.en {mm : Nat} {e : D} (h : EnM mm e) : En e := by
  rcases h with ⟨n, _, rfl | rfl⟩ | ⟨d, j, b, _, _, rfl⟩
  · exact .two _ _
  · exact .two _ _
  · exact .four _ _ _ _
theorem entry_s {l i mm : Nat} {S : Sto} (hm0 : 0 < mm) (hm1 : mm < 1000) (hl : l < 22) (hS : Above (l + 3) S) (hb : Bx S i) :
    ∃ e, EnM mm e ∧ ∃ S', callN P74 (l + 3) 34 [.ref 25 i, Wd, .int mm] S = .ok (e, .fz, S') ∧ Up S i S' := by
  obtain ⟨w, S1, h1, u1, w0, w1⟩ := take_f (l := l + 1) (m := 4) (by omega) hS hb (by decide) (by decide)
  have hw : w = 0 ∨ w = 1 ∨ w = 2 ∨ w = 3 := by omega
  by_cases hb2 : w > 1
  · obtain ⟨n, S2, h2, u2, n0, n1⟩ := take_f (l := l + 1) (m := mm) (by omega) (u1.above hS) (u1.bx hb) (by omega) (by omega)
    have en : n = (n.toNat : Nat) := (Int.toNat_of_nonneg n0).symm
    have h3 : w = 2 ∨ w = 3 := by omega
    rcases h3 with rfl | rfl
    · refine ⟨.tup [.str "said", .int n], .inl ⟨n.toNat, by omega, .inl (by rw [← en])⟩, S2, ?_, u1.trans u2⟩
      rw [call_at P74_34]
      simp [runF, evSs, evS, evT, evTo, evE, evEs, evO, evPar, evIt, varO, deref, idxO, L2.atI, L2.ixN, cmpO, eqO, isO, p1O, p2O, binO, intO, modI, mulI, fdivI, powI, addO, kept, modE, modE2, putO, appO, popO, wr, D.lev, D.levL, put, look, setE, setEs, leave, frz, bindO, bindTu, wipeE, srcO, seqO, seq2O, zipO, truO, isaO, cutO, D.isNon, line, Out.bind_ok, Out.of_some, Out.of_none, Above.eq_1 .. ▸ hS, F74_34, h1, h2, line]
    · refine ⟨.tup [.str "heard", .int n], .inl ⟨n.toNat, by omega, .inr (by rw [← en])⟩, S2, ?_, u1.trans u2⟩
      rw [call_at P74_34]
      simp [runF, evSs, evS, evT, evTo, evE, evEs, evO, evPar, evIt, varO, deref, idxO, L2.atI, L2.ixN, cmpO, eqO, isO, p1O, p2O, binO, intO, modI, mulI, fdivI, powI, addO, kept, modE, modE2, putO, appO, popO, wr, D.lev, D.levL, put, look, setE, setEs, leave, frz, bindO, bindTu, wipeE, srcO, seqO, seq2O, zipO, truO, isaO, cutO, D.isNon, line, Out.bind_ok, Out.of_some, Out.of_none, Above.eq_1 .. ▸ hS, F74_34, h1, h2, line]
  · obtain ⟨n, S2, h2, u2, n0, n1⟩ := take_f (l := l + 1) (m := 2) (by omega) (u1.above hS) (u1.bx hb) (by decide) (by decide)
    have en : n = (n.toNat : Nat) := (Int.toNat_of_nonneg n0).symm
    have u12 := u1.trans u2
    obtain ⟨d, hd, S3, h3, u3⟩ := pick_f (l := l) (c := .lst [(.tup [(.int 0)]), (.tup [(.int 2)]), (.tup [(.int 1)]), (.tup [(.int 0)]), (.tup [(.int 1)])]) (by omega) (u12.above hS) (u12.bx hb) (.inl rfl) (by simp) (by simp)
    have u13 := u12.trans u3
    obtain ⟨r, S4, h4, u4, r0, r1⟩ := take_f (l := l + 1) (m := 3) (by omega) (u13.above hS) (u13.bx hb) (by decide) (by decide)
    have hj : ∃ j : Nat, j < 3 ∧ d = .tup [.int j] := by
      simp only [List.mem_cons, List.mem_nil_iff, or_false] at hd
      rcases hd with h | h | h | h | h
      · exact ⟨0, by omega, h⟩
      · exact ⟨2, by omega, h⟩
      · exact ⟨1, by omega, h⟩
      · exact ⟨0, by omega, h⟩
      · exact ⟨1, by omega, h⟩
    obtain ⟨j, hj3, rfl⟩ := hj
    refine ⟨.tup [.str "did", .int n, .tup [.int j], .bl (decide (r = 0))], .inr ⟨n.toNat, j, decide (r = 0), by omega, hj3, by rw [← en]⟩, S4, ?_, u13.trans u4⟩
    rw [call_at P74_34]
    simp [runF, evSs, evS, evT, evTo, evE, evEs, evO, evPar, evIt, varO, deref, idxO, L2.atI, L2.ixN, cmpO, eqO, isO, p1O, p2O, binO, intO, modI, mulI, fdivI, powI, addO, kept, modE, modE2, putO, appO, popO, wr, D.lev, D.levL, put, look, setE, setEs, leave, frz, bindO, bindTu, wipeE, srcO, seqO, seq2O, zipO, truO, isaO, cutO, D.isNon, line, Out.bind_ok, Out.of_some, Out.of_none, Above.eq_1 .. ▸ hS, F74_34, h1, h2, h3, h4, line, hb2]
end Z
end
section
namespace Z
open PySem
inductive Ev where
  | beh (n : Int) (e : D) | away (n : Int) | inst (n : Int) (e : D) | back (n : Int) | settle
def Ev.d : Ev → D
  | .beh n e => .tup [.str "behind", .int n, e]
  | .away n => .tup [.str "away", .int n]
  | .inst n e => .tup [.str "instead", .int n, e]
  | .back n => .tup [.str "back", .int n]
  | .settle => .tup [.str "settle"]
def Ev.en : Ev → Prop
  | .beh _ e | .inst _ e => En e
  | _ => True
structure Row where
  nm : Int
  en : D
  th : Bool
def Row.t (r : Row) : D := .tup [.int r.nm, r.en, .bl r.th]
def Row.l (r : Row) : D := .lst [.int r.nm, r.en, .bl r.th]
abbrev Rows := List Row
def nms (rs : Rows) : List Int := rs.map Row.nm
/-- behind the row n -/
def insA (n : Int) (x : Row) : Rows → Rows
  | [] => [x]
  | r :: rs => if r.nm = n then r :: x :: rs else r :: insA n x rs
def turnR (n : Int) (f : Row → Row) (r : Row) : Row := if r.nm = n && r.th then f r else r
def stepR (k : Int) (g : Bool) (rs : Rows) : Ev → Rows
  | .beh n e => if n = -1 then ⟨k, e, !g⟩ :: rs else insA n ⟨k, e, !g⟩ rs
  | .settle => rs.filter Row.th
  | .back _ => rs
  | .away n => if g then rs else rs.map (turnR n fun r => ⟨r.nm, r.en, false⟩)
  | .inst n e => if g then rs else rs.map (turnR n fun r => ⟨r.nm, e, true⟩)
def rowsG (g : Int → Bool) : Nat → List Ev → Rows → Rows
  | _, [], rs => rs
  | k, e :: es, rs => rowsG g (k + 1) es (stepR k (g k) rs e)
def goneL (es : List Ev) : List Int := es.filterMap fun | .back n => some n | _ => none
def goneB (es : List Ev) (k : Int) : Bool := decide (k ∈ goneL es)
def rowsOf (es : List Ev) : Rows := rowsG (goneB es) 0 es []
/-- each event can be -/
def okE (rs : Rows) : Ev → Prop
  | .beh n _ => n = -1 ∨ n ∈ nms rs
  | _ => True
def Val (g : Int → Bool) : Nat → List Ev → Rows → Prop
  | _, [], _ => True
  | k, e :: es, rs => okE rs e ∧ e.en ∧ Val g (k + 1) es (stepR k (g k) rs e)
/-- names below k, each once, none negative -/
structure Fresh (k : Nat) (rs : Rows) : Prop where
  nd : (nms rs).Nodup
  lo : ∀ r ∈ rs, 0 ≤ r.nm
  hi : ∀ r ∈ rs, r.nm < k
  en : ∀ r ∈ rs, En r.en
theorem nms_insA {n : Int} {x : Row} : ∀ {rs : Rows}, n ∈ nms rs → ∃ a b, rs = a ++ b ∧ insA n x rs = a ++ x :: b ∧ (∀ j, a ≠ [] ∧ (a.getLast?.map Row.nm = some n)  ∨ j = 0)
  | [], h => by simp [nms] at h
  | r :: rs, h => by
    by_cases e : r.nm = n
    · exact ⟨[r], rs, rfl, by simp [insA, e], fun _ => .inl (by simp [e])⟩
    · have h' : n ∈ nms rs := by
        simp only [nms, List.map_cons, List.mem_cons] at h
        rcases h with h | h
        · exact absurd h.symm e
        · exact h
      obtain ⟨a, b, h1, h2, h3⟩ := nms_insA (x := x) h'
      refine ⟨r :: a, b, by rw [h1]; rfl, by simp [insA, e, h2], fun j => .inl ⟨by simp, ?_⟩⟩
      rcases h3 1 with ⟨h4, h5⟩ | h4
      · rw [List.getLast?_cons_of_ne_nil h4]
        exact h5
      · cases h4
theorem mem_insA {n : Int} {x y : Row} : ∀ {rs : Rows}, y ∈ insA n x rs ↔ y = x ∨ y ∈ rs
  | [] => by simp [insA]
  | r :: rs => by
    by_cases e : r.nm = n
    · simp only [insA, e, if_true, List.mem_cons]
      constructor <;> rintro (h | h | h) <;> simp [h]
    · simp only [insA, e, if_false, List.mem_cons, mem_insA (rs := rs)]
      constructor <;> rintro (h | h | h) <;> simp [h]
theorem nd_insA {n : Int} {x : Row} : ∀ {rs : Rows}, (nms rs).Nodup → x.nm ∉ nms rs → (nms (insA n x rs)).Nodup
  | [], _, _ => by simp [insA, nms]
  | r :: rs, h, hx => by
    simp only [nms, List.map_cons, List.nodup_cons, List.mem_cons, not_or] at h hx
    by_cases e : r.nm = n
    · simp only [insA, e, if_true, nms, List.map_cons, List.nodup_cons, List.mem_cons, not_or]
      refine ⟨⟨by rw [← e]; exact fun w => hx.1 w.symm, by rw [← e]; exact h.1⟩, hx.2, h.2⟩
    · simp only [insA, e, if_false, nms, List.map_cons, List.nodup_cons]
      refine ⟨?_, nd_insA h.2 hx.2⟩
      intro hm
      obtain ⟨y, hy, e2⟩ := List.mem_map.mp hm
      rcases mem_insA.mp hy with rfl | hy
      · exact hx.1 e2
      · exact h.1 (e2 ▸ List.mem_map.mpr ⟨y, hy, rfl⟩)
theorem nms_turn {n : Int} {f : Row → Row} (hf : ∀ r, (f r).nm = r.nm) (rs : Rows) : nms (rs.map (turnR n f)) = nms rs := by
  simp only [nms, List.map_map]
  apply List.map_congr_left
  intro r _
  simp only [Function.comp, turnR]
  split
  · exact hf r
  · rfl
theorem Fresh.turn {k : Nat} {rs : Rows} {n : Int} {f : Row → Row} (h : Fresh k rs) (hf : ∀ r, (f r).nm = r.nm) (he : ∀ r, En r.en → En (f r).en) : Fresh (k + 1) (rs.map (turnR n f)) := by
  have key : ∀ r ∈ rs.map (turnR n f), ∃ q ∈ rs, r.nm = q.nm ∧ (En q.en → En r.en) := by
    intro r hr
    obtain ⟨q, hq, rfl⟩ := List.mem_map.mp hr
    refine ⟨q, hq, ?_⟩
    unfold turnR
    split
    · exact ⟨hf q, he q⟩
    · exact ⟨rfl, id⟩
  refine ⟨by rw [nms_turn hf]; exact h.nd, fun r hr => ?_, fun r hr => ?_, fun r hr => ?_⟩
  · obtain ⟨q, hq, e, _⟩ := key r hr
    rw [e]; exact h.lo q hq
  · obtain ⟨q, hq, e, _⟩ := key r hr
    rw [e]; have := h.hi q hq; omega
  · obtain ⟨q, hq, _, e⟩ := key r hr
    exact e (h.en q hq)
theorem Fresh.up {k : Nat} {rs : Rows} (h : Fresh k rs) : Fresh (k + 1) rs := ⟨h.nd, h.lo, fun r hr => by have := h.hi r hr; omega, h.en⟩
theorem Fresh.step {k : Nat} {g : Bool} {rs : Rows} {e : Ev} (h : Fresh k rs) (he : e.en) : Fresh (k + 1) (stepR k g rs e) := by
  have hk : (k : Int) ∉ nms rs := by
    intro hm
    obtain ⟨y, hy, e2⟩ := List.mem_map.mp hm
    have := h.hi y hy
    omega
  cases e with
  | beh n e =>
    simp only [stepR]
    split
    · refine ⟨?_, ?_, ?_, ?_⟩
      · simp only [nms, List.map_cons, List.nodup_cons]
        exact ⟨hk, h.nd⟩
      · intro r hr
        rcases List.mem_cons.mp hr with rfl | hr
        · exact Int.natCast_nonneg k
        · exact h.lo r hr
      · intro r hr
        rcases List.mem_cons.mp hr with rfl | hr
        · show (k : Int) < _; omega
        · have := h.hi r hr; omega
      · intro r hr
        rcases List.mem_cons.mp hr with rfl | hr
        · exact he
        · exact h.en r hr
    · refine ⟨nd_insA h.nd hk, ?_, ?_, ?_⟩
      · intro r hr
        rcases mem_insA.mp hr with rfl | hr
        · exact Int.natCast_nonneg k
        · exact h.lo r hr
      · intro r hr
        rcases mem_insA.mp hr with rfl | hr
        · show (k : Int) < _; omega
        · have := h.hi r hr; omega
      · intro r hr
        rcases mem_insA.mp hr with rfl | hr
        · exact he
        · exact h.en r hr
  | settle =>
    refine ⟨?_, fun r hr => h.lo r (List.mem_filter.mp hr).1, fun r hr => by have := h.hi r (List.mem_filter.mp hr).1; omega, fun r hr => h.en r (List.mem_filter.mp hr).1⟩
    exact h.nd.sublist (List.Sublist.map _ List.filter_sublist)
  | back n => exact h.up
  | away n =>
    simp only [stepR]
    split
    · exact h.up
    · exact h.turn (fun _ => rfl) (fun _ => id)
  | inst n e =>
    simp only [stepR]
    split
    · exact h.up
    · exact h.turn (fun _ => rfl) (fun _ _ => he)
end Z
end
section
namespace Z
open PySem
theorem loopC_map {α : Type} {b : D → Sto → Out (Option D × Sto)} {t : α → D} {f : α → Option D} {S : Sto} : ∀ {xs : List α} {acc : List D}, (∀ x ∈ xs, b (t x) S = .ok (f x, S)) → acc.length + xs.length ≤ line → loopC b (xs.map t) S acc = .ok (acc ++ xs.filterMap f, S)
  | [], acc, _, _ => by simp [loopC]
  | x :: xs, acc, h, hl => by
    simp only [List.length_cons] at hl
    have hx := h x (List.mem_cons_self ..)
    have ih := fun (acc : List D) (hl) => loopC_map (xs := xs) (acc := acc) (b := b) (t := t) (f := f) (S := S) (fun y hy => h y (List.mem_cons_of_mem _ hy)) hl
    cases hf : f x with
    | none =>
      rw [hf] at hx
      simp only [List.map_cons, loopC, hx, Out.bind_ok]
      rw [ih acc (by omega)]
      simp [hf]
    | some y =>
      rw [hf] at hx
      have : acc.length < line := by omega
      simp only [List.map_cons, loopC, hx, Out.bind_ok, this, if_true]
      rw [ih (acc ++ [y]) (by simp only [List.length_append, List.length_cons, List.length_nil]; omega)]
      simp [hf]
theorem blsOf_map {α : Type} (f : α → Bool) : ∀ xs : List α, D.blsOf (xs.map fun x => D.bl (f x)) = some (xs.map f)
  | [] => rfl
  | x :: xs => by simp [D.blsOf, blsOf_map f xs]
def ixR (n : Int) : Rows → Nat
  | [] => 0
  | r :: rs => if r.nm = n then 0 else ixR n rs + 1
theorem enumD_cons (k : Nat) (d : D) (ds : List D) : enumD k (d :: ds) = .tup [.int k, d] :: enumD (k + 1) ds := rfl
theorem loop0 {b : D → Env → Sto → Out Fl} {n : Int} {R : Option (D × Bool)} {S : Sto}
    (hb : ∀ (k : Nat) (r : Row) x y, b (.tup [.int k, r.t]) [R, some (.int n, false), x, y] S = .ok (if r.nm = n then .rt (.int k) .fz S else .nx [R, some (.int n, false), some (.int k, false), some (r.t, false)] S)) :
    ∀ {rs : Rows} {k : Nat} {x y}, n ∈ nms rs → loopF b (enumD k (rs.map Row.t)) [R, some (.int n, false), x, y] S = .ok (.rt (.int ((k + ixR n rs : Nat) : Int)) .fz S)
  | [], _, _, _, h => by simp [nms] at h
  | r :: rs, k, x, y, h => by
    rw [List.map_cons, enumD_cons, loopF, hb]
    by_cases e : r.nm = n
    · simp only [e, if_true, Out.bind_ok, ixR, Nat.add_zero]
    · have h' : n ∈ nms rs := by
        simp only [nms, List.map_cons, List.mem_cons] at h
        rcases h with h | h
        · exact absurd h.symm e
        · exact h
      simp only [e, if_false, Out.bind_ok, ixR]
      rw [loop0 hb h']
      have e2 : k + 1 + ixR n rs = k + (ixR n rs + 1) := by omega
      rw [e2]
theorem spot_s {l : Nat} {S : Sto} {rs : Rows} {n : Int} (hS : Above (l + 1) S) (h : n = -1 ∨ n ∈ nms rs) : callN P74 (l + 1) 4 [.tup (rs.map Row.t), .int n] S = .ok (.int (if n = -1 then -1 else ixR n rs), .fz, S) := by
  rw [call_at P74_4]
  by_cases e : n = -1
  · simp [runF, evSs, evS, evT, evTo, evE, evEs, evO, evPar, evIt, varO, deref, idxO, L2.atI, L2.ixN, cmpO, eqO, isO, p1O, p2O, binO, intO, modI, mulI, fdivI, powI, addO, kept, modE, modE2, putO, appO, popO, wr, D.lev, D.levL, put, look, setE, setEs, leave, frz, bindO, bindTu, wipeE, srcO, seqO, seq2O, zipO, truO, isaO, cutO, D.isNon, line, Out.bind_ok, Out.of_some, Out.of_none, Above.eq_1 .. ▸ hS, F74_4, e]
  · have h : n ∈ nms rs := by simpa [e] using h
    simp only [runF, F74_4, evSs, evS, evT, evE, varO, cmpO, eqO, e, Out.bind_ok, evIt, srcO, seq2O, frz]
    simp [runF, evSs, evS, evT, evTo, evE, evEs, evO, evPar, evIt, varO, deref, idxO, L2.atI, L2.ixN, cmpO, eqO, isO, p1O, p2O, binO, intO, modI, mulI, fdivI, powI, addO, kept, modE, modE2, putO, appO, popO, wr, D.lev, D.levL, put, look, setE, setEs, leave, frz, bindO, bindTu, wipeE, srcO, seqO, seq2O, zipO, truO, isaO, cutO, D.isNon, line, Out.bind_ok, Out.of_some, Out.of_none, Above.eq_1 .. ▸ hS, e]
    rw [loop0 (rs := rs) (n := n) ?_ h]
    · simp [runF, evSs, evS, evT, evTo, evE, evEs, evO, evPar, evIt, varO, deref, idxO, L2.atI, L2.ixN, cmpO, eqO, isO, p1O, p2O, binO, intO, modI, mulI, fdivI, powI, addO, kept, modE, modE2, putO, appO, popO, wr, D.lev, D.levL, put, look, setE, setEs, leave, frz, bindO, bindTu, wipeE, srcO, seqO, seq2O, zipO, truO, isaO, cutO, D.isNon, line, Out.bind_ok, Out.of_some, Out.of_none]
    · intro k r x y
      by_cases e : r.nm = n <;> simp [runF, evSs, evS, evT, evTo, evE, evEs, evO, evPar, evIt, varO, deref, idxO, L2.atI, L2.ixN, cmpO, eqO, isO, p1O, p2O, binO, intO, modI, mulI, fdivI, powI, addO, kept, modE, modE2, putO, appO, popO, wr, D.lev, D.levL, put, look, setE, setEs, leave, frz, bindO, bindTu, wipeE, srcO, seqO, seq2O, zipO, truO, isaO, cutO, D.isNon, line, Out.bind_ok, Out.of_some, Out.of_none, Row.t, e, evSs]
theorem there_s {l : Nat} {S : Sto} {rs : Rows} {n : Int} (hS : Above (l + 1) S) (hl : rs.length ≤ line) : callN P74 (l + 1) 5 [.tup (rs.map Row.t), .int n] S = .ok (.bl (rs.any fun r => decide (r.nm = n) && r.th), .fz, S) := by
  rw [call_at P74_5]
  simp [runF, evSs, evS, evT, evTo, evE, evEs, evO, evPar, evIt, varO, deref, idxO, L2.atI, L2.ixN, cmpO, eqO, isO, p1O, p2O, binO, intO, modI, mulI, fdivI, powI, addO, kept, modE, modE2, putO, appO, popO, wr, D.lev, D.levL, put, look, setE, setEs, leave, frz, bindO, bindTu, wipeE, srcO, seqO, seq2O, zipO, truO, isaO, cutO, D.isNon, line, Out.bind_ok, Out.of_some, Out.of_none, Above.eq_1 .. ▸ hS, F74_5]
  rw [loopC_map (f := fun r : Row => some (.bl (decide (r.nm = n) && r.th)))]
  · simp [blsOf_map, Function.comp_def]
  · intro r _
    by_cases e : r.nm = n <;> simp [runF, evSs, evS, evT, evTo, evE, evEs, evO, evPar, evIt, varO, deref, idxO, L2.atI, L2.ixN, cmpO, eqO, isO, p1O, p2O, binO, intO, modI, mulI, fdivI, powI, addO, kept, modE, modE2, putO, appO, popO, wr, D.lev, D.levL, put, look, setE, setEs, leave, frz, bindO, bindTu, wipeE, srcO, seqO, seq2O, zipO, truO, isaO, cutO, D.isNon, line, Out.bind_ok, Out.of_some, Out.of_none, Row.t, e]
  · simpa using hl
end Z
end
section
namespace Z
open PySem
theorem n_behind_away : ¬ Str.ofString "behind" = Str.ofString "away" := by decide +kernel
theorem n_behind_instead : ¬ Str.ofString "behind" = Str.ofString "instead" := by decide +kernel
theorem n_behind_back : ¬ Str.ofString "behind" = Str.ofString "back" := by decide +kernel
theorem n_behind_settle : ¬ Str.ofString "behind" = Str.ofString "settle" := by decide +kernel
theorem n_away_behind : ¬ Str.ofString "away" = Str.ofString "behind" := by decide +kernel
theorem n_away_instead : ¬ Str.ofString "away" = Str.ofString "instead" := by decide +kernel
theorem n_away_back : ¬ Str.ofString "away" = Str.ofString "back" := by decide +kernel
theorem n_away_settle : ¬ Str.ofString "away" = Str.ofString "settle" := by decide +kernel
theorem n_instead_behind : ¬ Str.ofString "instead" = Str.ofString "behind" := by decide +kernel
theorem n_instead_away : ¬ Str.ofString "instead" = Str.ofString "away" := by decide +kernel
theorem n_instead_back : ¬ Str.ofString "instead" = Str.ofString "back" := by decide +kernel
theorem n_instead_settle : ¬ Str.ofString "instead" = Str.ofString "settle" := by decide +kernel
theorem n_back_behind : ¬ Str.ofString "back" = Str.ofString "behind" := by decide +kernel
theorem n_back_away : ¬ Str.ofString "back" = Str.ofString "away" := by decide +kernel
theorem n_back_instead : ¬ Str.ofString "back" = Str.ofString "instead" := by decide +kernel
theorem n_back_settle : ¬ Str.ofString "back" = Str.ofString "settle" := by decide +kernel
theorem n_settle_behind : ¬ Str.ofString "settle" = Str.ofString "behind" := by decide +kernel
theorem n_settle_away : ¬ Str.ofString "settle" = Str.ofString "away" := by decide +kernel
theorem n_settle_instead : ¬ Str.ofString "settle" = Str.ofString "instead" := by decide +kernel
theorem n_settle_back : ¬ Str.ofString "settle" = Str.ofString "back" := by decide +kernel
theorem cut_hi {ds : List D} {i : Nat} (h : i ≤ ds.length) : cutL ds none (some (i : Int)) = ds.take i := by
  unfold cutL
  rw [HT.sIx_none, HT.sIx_nat, Nat.min_eq_left h]
  simp
theorem cut_lo {ds : List D} {i : Nat} (h : i ≤ ds.length) : cutL ds (some (i : Int)) none = ds.drop i := by
  unfold cutL
  rw [HT.sIx_none, HT.sIx_nat, Nat.min_eq_left h]
  apply List.take_of_length_le
  simp
theorem turn_none {n : Int} {f : Row → Row} : ∀ {rs : Rows}, rs.any (fun r => decide (r.nm = n) && r.th) = false → rs.map (turnR n f) = rs
  | [], _ => rfl
  | r :: rs, h => by
    rw [List.any_cons, Bool.or_eq_false_iff] at h
    rw [List.map_cons, turn_none h.2]
    simp [turnR, h.1]
theorem turn_spot {n : Int} {f : Row → Row} : ∀ {rs : Rows}, (nms rs).Nodup → rs.any (fun r => decide (r.nm = n) && r.th) = true → ∃ r, rs[ixR n rs]? = some r ∧ r.nm = n ∧ n ∈ nms rs ∧ ixR n rs < rs.length ∧ rs.map (turnR n f) = rs.take (ixR n rs) ++ f r :: rs.drop (ixR n rs + 1)
  | [], _, h => by simp at h
  | r :: rs, nd, h => by
    have nd' : r.nm ∉ nms rs ∧ (nms rs).Nodup := by simpa [nms] using nd
    rw [List.any_cons, Bool.or_eq_true] at h
    by_cases e : r.nm = n
    · have hn : rs.any (fun r => decide (r.nm = n) && r.th) = false := by
        rw [List.any_eq_false]
        intro q hq hc
        simp only [Bool.and_eq_true, decide_eq_true_eq] at hc
        exact nd'.1 (by rw [e, ← hc.1]; exact List.mem_map.mpr ⟨q, hq, rfl⟩)
      have ht : r.th = true := by
        rcases h with h | h
        · simpa [e] using h
        · rw [hn] at h; cases h
      refine ⟨r, by simp [ixR, e], e, by simp [nms, e], by simp [ixR, e], ?_⟩
      rw [List.map_cons, turn_none hn]
      simp [ixR, e, turnR, ht]
    · have h' : rs.any (fun r => decide (r.nm = n) && r.th) = true := by
        rcases h with h | h
        · simp [e] at h
        · exact h
      obtain ⟨q, h1, h2, h3, h4, h5⟩ := turn_spot (f := f) nd'.2 h'
      refine ⟨q, by simp [ixR, e, h1], h2, by simp only [nms, List.map_cons, List.mem_cons]; exact .inr h3, by simp only [ixR, e, if_false, List.length_cons]; omega, ?_⟩
      simp [ixR, e, h5, turnR]
theorem addO_tup {xs ys : List D} (h : xs.length + ys.length ≤ line) : addO (.tup xs) (.tup ys) = .ok (.tup (xs ++ ys), .fz) := by
  simp [addO, h]
def Ev.turn : Ev → Row → Row
  | .away _ => fun r => ⟨r.nm, r.en, false⟩
  | .inst _ e => fun r => ⟨r.nm, e, true⟩
  | _ => id
theorem right_s {l : Nat} {S : Sto} {rs : Rows} {n : Int} {ev : Ev} (hS : Above (l + 2) S) (nd : (nms rs).Nodup) (hl : rs.length + 1 ≤ line) (hn : n ∈ nms rs → n ≠ -1) (he : ev = .away n ∨ ∃ e, ev = .inst n e) :
    callN P74 (l + 2) 6 [.tup (rs.map Row.t), ev.d] S = .ok (.tup ((rs.map (turnR n ev.turn)).map Row.t), .fz, S) := by
  have h3 := there_s (l := l) (S := (l + 2, []) :: S) (rs := rs) (n := n) hS.fr (by omega)
  rw [call_at P74_6]
  cases hc : rs.any (fun r => decide (r.nm = n) && r.th) with
  | false =>
    rw [hc] at h3
    rw [turn_none hc]
    rcases he with rfl | ⟨e, rfl⟩ <;> simp [runF, evSs, evS, evT, evTo, evE, evEs, evO, evPar, evIt, varO, deref, idxO, L2.atI, L2.ixN, cmpO, eqO, isO, p1O, p2O, binO, intO, modI, mulI, fdivI, powI, addO, kept, modE, modE2, putO, appO, popO, wr, D.lev, D.levL, put, look, setE, setEs, leave, frz, bindO, bindTu, wipeE, srcO, seqO, seq2O, zipO, truO, isaO, cutO, D.isNon, line, Out.bind_ok, Out.of_some, Out.of_none, Above.eq_1 .. ▸ hS, F74_6, Ev.d, h3, n_behind_away, n_behind_instead, n_behind_back, n_behind_settle, n_away_behind, n_away_instead, n_away_back, n_away_settle, n_instead_behind, n_instead_away, n_instead_back, n_instead_settle, n_back_behind, n_back_away, n_back_instead, n_back_settle, n_settle_behind, n_settle_away, n_settle_instead, n_settle_back]
  | true =>
    rw [hc] at h3
    obtain ⟨r, h1, h2, hm, h4, h5⟩ := turn_spot (f := ev.turn) nd hc
    have h0 := spot_s (l := l) (S := (l + 2, []) :: S) (rs := rs) (n := n) hS.fr (.inr hm)
    rw [if_neg (hn hm)] at h0
    have c1 : cutL (rs.map Row.t) none (some (ixR n rs : Int)) = (rs.map Row.t).take (ixR n rs) := cut_hi (by simpa using Nat.le_of_lt h4)
    have c2 : cutL (rs.map Row.t) (some ((ixR n rs : Int) + 1)) none = (rs.map Row.t).drop (ixR n rs + 1) := by
      have := cut_lo (ds := rs.map Row.t) (i := ixR n rs + 1) (by simp; omega)
      simpa using this
    have m1 : min (ixR n rs) rs.length = ixR n rs := Nat.min_eq_left (Nat.le_of_lt h4)
    have m2 : ixR n rs + 1 ≤ line := by omega
    have m3 : ixR n rs + (1 + (rs.length - (ixR n rs + 1))) ≤ line := by omega
    have m4 : ixR n rs + 1 + (rs.length - (ixR n rs + 1)) ≤ line := by omega
    have hg : rs[ixR n rs] = r := by simpa [h4] using h1
    rw [h5]
    rcases he with rfl | ⟨e, rfl⟩ <;> simp [runF, evSs, evS, evT, evTo, evE, evEs, evO, evPar, evIt, varO, deref, idxO, L2.atI, L2.ixN, cmpO, eqO, isO, p1O, p2O, binO, intO, modI, mulI, fdivI, powI, addO, kept, modE, modE2, putO, appO, popO, wr, D.lev, D.levL, put, look, setE, setEs, leave, frz, bindO, bindTu, wipeE, srcO, seqO, seq2O, zipO, truO, isaO, cutO, D.isNon, line, Out.bind_ok, Out.of_some, Out.of_none, Above.eq_1 .. ▸ hS, F74_6, Ev.d, h3, h0, c1, c2, m1, m2, m3, m4, h4, h1, Row.t, h2, Ev.turn, line, hg, n_behind_away, n_behind_instead, n_behind_back, n_behind_settle, n_away_behind, n_away_instead, n_away_back, n_away_settle, n_instead_behind, n_instead_away, n_instead_back, n_instead_settle, n_back_behind, n_back_away, n_back_instead, n_back_settle, n_settle_behind, n_settle_away, n_settle_instead, n_settle_back]
end Z
end
section
namespace Z
open PySem
theorem ins_at {n : Int} {x : Row} : ∀ {rs : Rows}, n ∈ nms rs → ixR n rs < rs.length ∧ insA n x rs = rs.take (ixR n rs + 1) ++ x :: rs.drop (ixR n rs + 1)
  | [], h => by simp [nms] at h
  | r :: rs, h => by
    by_cases e : r.nm = n
    · simp [ixR, e, insA]
    · have h' : n ∈ nms rs := by
        simp only [nms, List.map_cons, List.mem_cons] at h
        rcases h with h | h
        · exact absurd h.symm e
        · exact h
      obtain ⟨h1, h2⟩ := ins_at (x := x) h'
      refine ⟨by simp only [ixR, e, if_false, List.length_cons]; omega, ?_⟩
      simp [ixR, e, insA, h2]
theorem filterMap_th (rs : Rows) : rs.filterMap (fun r : Row => if r.th then some r.t else none) = (rs.filter Row.th).map Row.t := by
  induction rs with
  | nil => rfl
  | cons r rs ih => cases h : r.th <;> simp [h, ih]
theorem after_s {l k : Nat} {g : Bool} {S : Sto} {rs : Rows} {ev : Ev} (hS : Above (l + 3) S) (F : Fresh k rs) (hl : rs.length + 1 ≤ line) (ho : okE rs ev) :
    callN P74 (l + 3) 7 [.tup (rs.map Row.t), .int k, ev.d, .bl g] S = .ok (.tup ((stepR k g rs ev).map Row.t), .fz, S) := by
  rw [call_at P74_7]
  have hlo : ∀ n, n ∈ nms rs → n ≠ -1 := by
    intro n h
    obtain ⟨r, hr, rfl⟩ := List.mem_map.mp h
    have := F.lo r hr
    omega
  cases ev with
  | beh n e =>
    have h0 := spot_s (l := l + 1) (S := (l + 3, []) :: S) (rs := rs) (n := n) hS.fr ho
    by_cases hn : n = -1
    · subst hn
      rw [if_pos rfl] at h0
      have c1 : cutL (rs.map Row.t) none (some 0) = [] := by simpa using cut_hi (ds := rs.map Row.t) (i := 0) (by simp)
      have c2 : cutL (rs.map Row.t) (some 0) none = rs.map Row.t := by simpa using cut_lo (ds := rs.map Row.t) (i := 0) (by simp)
      have m1 : 1 + rs.length ≤ line := by omega
      simp [runF, evSs, evS, evT, evTo, evE, evEs, evO, evPar, evIt, varO, deref, idxO, L2.atI, L2.ixN, cmpO, eqO, isO, p1O, p2O, binO, intO, modI, mulI, fdivI, powI, addO, kept, modE, modE2, putO, appO, popO, wr, D.lev, D.levL, put, look, setE, setEs, leave, frz, bindO, bindTu, wipeE, srcO, seqO, seq2O, zipO, truO, isaO, cutO, D.isNon, line, Out.bind_ok, Out.of_some, Out.of_none, Above.eq_1 .. ▸ hS, F74_7, Ev.d, n_behind_away, n_behind_instead, n_behind_back, n_behind_settle, n_away_behind, n_away_instead, n_away_back, n_away_settle, n_instead_behind, n_instead_away, n_instead_back, n_instead_settle, n_back_behind, n_back_away, n_back_instead, n_back_settle, n_settle_behind, n_settle_away, n_settle_instead, n_settle_back, h0, stepR, Row.t, c1, c2, m1, hl]
    · have ho : n ∈ nms rs := by simpa [okE, hn] using ho
      obtain ⟨h4, h5⟩ := ins_at (x := ⟨k, e, !g⟩) ho
      rw [if_neg hn] at h0
      have c1 : cutL (rs.map Row.t) none (some ((ixR n rs : Int) + 1)) = (rs.map Row.t).take (ixR n rs + 1) := by
        have := cut_hi (ds := rs.map Row.t) (i := ixR n rs + 1) (by simp; omega)
        simpa using this
      have c2 : cutL (rs.map Row.t) (some ((ixR n rs : Int) + 1)) none = (rs.map Row.t).drop (ixR n rs + 1) := by
        have := cut_lo (ds := rs.map Row.t) (i := ixR n rs + 1) (by simp; omega)
        simpa using this
      have m1 : min (ixR n rs + 1) rs.length = ixR n rs + 1 := Nat.min_eq_left h4
      have m2 : ixR n rs + 1 + 1 ≤ 16777216 := by simp only [line] at hl; omega
      have m3 : ixR n rs + 1 + (1 + (rs.length - (ixR n rs + 1))) ≤ 16777216 := by simp only [line] at hl; omega
      have m4 : ixR n rs + 1 + 1 + (rs.length - (ixR n rs + 1)) ≤ 16777216 := by simp only [line] at hl; omega
      simp [runF, evSs, evS, evT, evTo, evE, evEs, evO, evPar, evIt, varO, deref, idxO, L2.atI, L2.ixN, cmpO, eqO, isO, p1O, p2O, binO, intO, modI, mulI, fdivI, powI, addO, kept, modE, modE2, putO, appO, popO, wr, D.lev, D.levL, put, look, setE, setEs, leave, frz, bindO, bindTu, wipeE, srcO, seqO, seq2O, zipO, truO, isaO, cutO, D.isNon, line, Out.bind_ok, Out.of_some, Out.of_none, Above.eq_1 .. ▸ hS, F74_7, Ev.d, n_behind_away, n_behind_instead, n_behind_back, n_behind_settle, n_away_behind, n_away_instead, n_away_back, n_away_settle, n_instead_behind, n_instead_away, n_instead_back, n_instead_settle, n_back_behind, n_back_away, n_back_instead, n_back_settle, n_settle_behind, n_settle_away, n_settle_instead, n_settle_back, h0, stepR, Row.t, c1, c2, m1, m2, m3, m4, hl, hn, h5]
  | settle =>
    simp [runF, evSs, evS, evT, evTo, evE, evEs, evO, evPar, evIt, varO, deref, idxO, L2.atI, L2.ixN, cmpO, eqO, isO, p1O, p2O, binO, intO, modI, mulI, fdivI, powI, addO, kept, modE, modE2, putO, appO, popO, wr, D.lev, D.levL, put, look, setE, setEs, leave, frz, bindO, bindTu, wipeE, srcO, seqO, seq2O, zipO, truO, isaO, cutO, D.isNon, line, Out.bind_ok, Out.of_some, Out.of_none, Above.eq_1 .. ▸ hS, F74_7, Ev.d, n_behind_away, n_behind_instead, n_behind_back, n_behind_settle, n_away_behind, n_away_instead, n_away_back, n_away_settle, n_instead_behind, n_instead_away, n_instead_back, n_instead_settle, n_back_behind, n_back_away, n_back_instead, n_back_settle, n_settle_behind, n_settle_away, n_settle_instead, n_settle_back, stepR]
    rw [loopC_map (f := fun r : Row => if r.th then some r.t else none)]
    · simp [filterMap_th]
    · intro r _
      cases h : r.th <;> simp [runF, evSs, evS, evT, evTo, evE, evEs, evO, evPar, evIt, varO, deref, idxO, L2.atI, L2.ixN, cmpO, eqO, isO, p1O, p2O, binO, intO, modI, mulI, fdivI, powI, addO, kept, modE, modE2, putO, appO, popO, wr, D.lev, D.levL, put, look, setE, setEs, leave, frz, bindO, bindTu, wipeE, srcO, seqO, seq2O, zipO, truO, isaO, cutO, D.isNon, line, Out.bind_ok, Out.of_some, Out.of_none, Row.t, h]
    · simp; omega
  | back n => simp [runF, evSs, evS, evT, evTo, evE, evEs, evO, evPar, evIt, varO, deref, idxO, L2.atI, L2.ixN, cmpO, eqO, isO, p1O, p2O, binO, intO, modI, mulI, fdivI, powI, addO, kept, modE, modE2, putO, appO, popO, wr, D.lev, D.levL, put, look, setE, setEs, leave, frz, bindO, bindTu, wipeE, srcO, seqO, seq2O, zipO, truO, isaO, cutO, D.isNon, line, Out.bind_ok, Out.of_some, Out.of_none, Above.eq_1 .. ▸ hS, F74_7, Ev.d, n_behind_away, n_behind_instead, n_behind_back, n_behind_settle, n_away_behind, n_away_instead, n_away_back, n_away_settle, n_instead_behind, n_instead_away, n_instead_back, n_instead_settle, n_back_behind, n_back_away, n_back_instead, n_back_settle, n_settle_behind, n_settle_away, n_settle_instead, n_settle_back, stepR]
  | away n =>
    have h4 := right_s (l := l) (S := (l + 3, []) :: S) (ev := .away n) hS.fr F.nd hl (hlo n) (.inl rfl)
    simp only [Ev.d] at h4
    cases g <;> simp [runF, evSs, evS, evT, evTo, evE, evEs, evO, evPar, evIt, varO, deref, idxO, L2.atI, L2.ixN, cmpO, eqO, isO, p1O, p2O, binO, intO, modI, mulI, fdivI, powI, addO, kept, modE, modE2, putO, appO, popO, wr, D.lev, D.levL, put, look, setE, setEs, leave, frz, bindO, bindTu, wipeE, srcO, seqO, seq2O, zipO, truO, isaO, cutO, D.isNon, line, Out.bind_ok, Out.of_some, Out.of_none, Above.eq_1 .. ▸ hS, F74_7, Ev.d, n_behind_away, n_behind_instead, n_behind_back, n_behind_settle, n_away_behind, n_away_instead, n_away_back, n_away_settle, n_instead_behind, n_instead_away, n_instead_back, n_instead_settle, n_back_behind, n_back_away, n_back_instead, n_back_settle, n_settle_behind, n_settle_away, n_settle_instead, n_settle_back, stepR, h4, Ev.turn]
  | inst n e =>
    have h4 := right_s (l := l) (S := (l + 3, []) :: S) (ev := .inst n e) hS.fr F.nd hl (hlo n) (.inr ⟨e, rfl⟩)
    simp only [Ev.d] at h4
    cases g <;> simp [runF, evSs, evS, evT, evTo, evE, evEs, evO, evPar, evIt, varO, deref, idxO, L2.atI, L2.ixN, cmpO, eqO, isO, p1O, p2O, binO, intO, modI, mulI, fdivI, powI, addO, kept, modE, modE2, putO, appO, popO, wr, D.lev, D.levL, put, look, setE, setEs, leave, frz, bindO, bindTu, wipeE, srcO, seqO, seq2O, zipO, truO, isaO, cutO, D.isNon, line, Out.bind_ok, Out.of_some, Out.of_none, Above.eq_1 .. ▸ hS, F74_7, Ev.d, n_behind_away, n_behind_instead, n_behind_back, n_behind_settle, n_away_behind, n_away_instead, n_away_back, n_away_settle, n_instead_behind, n_instead_away, n_instead_back, n_instead_settle, n_back_behind, n_back_away, n_back_instead, n_back_settle, n_settle_behind, n_settle_away, n_settle_instead, n_settle_back, stepR, h4, Ev.turn]
end Z
end
section
namespace Z
open PySem
def forB (C : Cal) (tg : Tg) (body : List St) : D → Env → Sto → Out Fl := fun d env S => (bindO tg d env).bind fun env' => evSs C body env' S
def cmpB (C : Cal) (elt : E) (tg : Tg) (ifs : Option T) (own : List Nat) (env : Env) : D → Sto → Out (Option D × Sto) := fun d S => (bindO tg d (wipeE env own)).bind fun env2 => (evTo C ifs env2 S).bind fun c => if c.1 then (evE C elt env2 c.2).bind fun x => (kept x).bind fun y => .ok (some y.1, y.2) else .ok (none, c.2)
theorem evE_cst (C : Cal) (d) (env : Env) (S : Sto) : evE C (.cst d) env S = .ok (d, .fz, S) := by first | (rw [evE]; done) | (rw [evE]; rfl)
theorem evE_var (C : Cal) (i) (env : Env) (S : Sto) : evE C (.var i) env S = (varO env i).bind fun r => .ok (r.1, r.2, S) := by first | (rw [evE]; done) | (rw [evE]; rfl)
theorem evE_tup (C : Cal) (es) (env : Env) (S : Sto) : evE C (.tup es) env S = (evEs C es env S).bind fun r => if r.1.length ≤ line then .ok (.tup r.1, .fz, r.2) else .no := by first | (rw [evE]; done) | (rw [evE]; rfl)
theorem evE_lst (C : Cal) (es) (env : Env) (S : Sto) : evE C (.lst es) env S = (evEs C es env S).bind fun r => if r.1.length ≤ line then .ok (.lst r.1, .fr, r.2) else .no := by first | (rw [evE]; done) | (rw [evE]; rfl)
theorem evE_dic0 (C : Cal)  (env : Env) (S : Sto) : evE C (.dic0) env S = .ok (.dic [] [], .fr, S) := by first | (rw [evE]; done) | (rw [evE]; rfl)
theorem evE_dic1 (C : Cal) (k) (v) (env : Env) (S : Sto) : evE C (.dic1 k v) env S = (evE C k env S).bind fun r => (kept r).bind fun x => (evE C v env x.2).bind fun q => (kept q).bind fun y => if x.1.flatKey then .ok (.dic [x.1] [y.1], .fr, y.2) else .no := by first | (rw [evE]; done) | (rw [evE]; rfl)
theorem evE_bin (C : Cal) (o) (a) (b) (env : Env) (S : Sto) : evE C (.bin o a b) env S = (evE C a env S).bind fun r => (evE C b env r.2.2).bind fun q => (binO o r.1 q.1).bind fun z => .ok (z.1, z.2, q.2.2) := by first | (rw [evE]; done) | (rw [evE]; rfl)
theorem evE_neg (C : Cal) (a) (env : Env) (S : Sto) : evE C (.neg a) env S = (evE C a env S).bind fun r => match r.1 with | .int i => .ok (.int (-i), .fz, r.2.2) | _ => .no := by first | (rw [evE]; done) | (rw [evE]; rfl)
theorem evE_notv (C : Cal) (a) (env : Env) (S : Sto) : evE C (.notv a) env S = (evE C a env S).bind fun r => match r.1 with | .bl c => .ok (.bl (!c), .fz, r.2.2) | _ => .no := by first | (rw [evE]; done) | (rw [evE]; rfl)
theorem evE_andv (C : Cal) (a) (b) (env : Env) (S : Sto) : evE C (.andv a b) env S = (evE C a env S).bind fun r => match r.1 with | .bl c => if c then evE C b env r.2.2 else .ok (.bl false, .fz, r.2.2) | _ => .no := by first | (rw [evE]; done) | (rw [evE]; rfl)
theorem evE_orv (C : Cal) (a) (b) (env : Env) (S : Sto) : evE C (.orv a b) env S = (evE C a env S).bind fun r => match r.1 with | .bl c => if c then .ok (.bl true, .fz, r.2.2) else evE C b env r.2.2 | _ => .no := by first | (rw [evE]; done) | (rw [evE]; rfl)
theorem evE_cmp (C : Cal) (o) (a) (b) (env : Env) (S : Sto) : evE C (.cmp o a b) env S = (evE C a env S).bind fun r => (evE C b env r.2.2).bind fun q => (cmpO o r.1 q.1).bind fun c => .ok (.bl c, .fz, q.2.2) := by first | (rw [evE]; done) | (rw [evE]; rfl)
theorem evE_ifx (C : Cal) (t) (a) (b) (env : Env) (S : Sto) : evE C (.ifx t a b) env S = (evT C t env S).bind fun r => if r.1 then evE C a env r.2 else evE C b env r.2 := by first | (rw [evE]; done) | (rw [evE]; rfl)
theorem evE_idx (C : Cal) (a) (b) (env : Env) (S : Sto) : evE C (.idx a b) env S = (evE C a env S).bind fun r => (evE C b env r.2.2).bind fun q => (Out.of (deref q.2.2 r.1)).bind fun c => (idxO c q.1).bind fun z => .ok (z, .fz, q.2.2) := by first | (rw [evE]; done) | (rw [evE]; rfl)
theorem evE_cut (C : Cal) (a) (lo) (hi) (env : Env) (S : Sto) : evE C (.cut a lo hi) env S = (evE C a env S).bind fun r => (evO C lo env r.2.2).bind fun l => (evO C hi env l.2).bind fun h => (cutO r.1 l.1 h.1).bind fun z => .ok (z.1, z.2, h.2) := by first | (rw [evE]; done) | (rw [evE]; rfl)
theorem evE_call (C : Cal) (f) (es) (env : Env) (S : Sto) : evE C (.call f es) env S = (evEs C es env S).bind fun r => C f r.1 r.2 := by first | (rw [evE]; done) | (rw [evE]; rfl)
theorem evE_p1 (C : Cal) (p) (a) (env : Env) (S : Sto) : evE C (.p1 p a) env S = (evE C a env S).bind fun r => (Out.of (deref r.2.2 r.1)).bind fun c => (p1O p c).bind fun z => .ok (z.1, z.2, r.2.2) := by first | (rw [evE]; done) | (rw [evE]; rfl)
theorem evE_p2 (C : Cal) (p) (a) (b) (env : Env) (S : Sto) : evE C (.p2 p a b) env S = (evE C a env S).bind fun r => (evE C b env r.2.2).bind fun q => (p2O p r.1 q.1).bind fun z => .ok (z.1, z.2, q.2.2) := by first | (rw [evE]; done) | (rw [evE]; rfl)
theorem evE_isa (C : Cal) (t) (a) (env : Env) (S : Sto) : evE C (.isa t a) env S = (evE C a env S).bind fun r => (isaO t r.1).bind fun c => .ok (.bl c, .fz, r.2.2) := by first | (rw [evE]; done) | (rw [evE]; rfl)
theorem evE_index (C : Cal) (a) (b) (env : Env) (S : Sto) : evE C (.index a b) env S = (evE C a env S).bind fun r => (evE C b env r.2.2).bind fun q => (indexO r.1 q.1).bind fun z => .ok (z, .fz, q.2.2) := by first | (rw [evE]; done) | (rw [evE]; rfl)
theorem evE_comp (C : Cal) (elt) (tg) (it) (ifs) (own) (env : Env) (S : Sto) : evE C (.comp elt tg it ifs own) env S = (evIt C it env S).bind fun r => (loopC (cmpB C elt tg ifs own env) r.1 r.2.2 []).bind fun z => .ok (.lst z.1, .fr, z.2) := by first | (rw [evE]; done) | (rw [evE]; rfl)
theorem evS_pre (C : Cal) (is) (s) (env : Env) (S : Sto) : evS C (.pre is s) env S = evS C s (frz env is) S := by first | (rw [evS]; done) | (rw [evS]; rfl)
theorem evS_set (C : Cal) (i) (e) (env : Env) (S : Sto) : evS C (.set i e) env S = (evE C e env S).bind fun r => (setE env i r.1 r.2.1).bind fun env' => .ok (.nx env' r.2.2) := by first | (rw [evS]; done) | (rw [evS]; rfl)
theorem evS_setSh (C : Cal) (i) (e) (env : Env) (S : Sto) : evS C (.setSh i e) env S = (evE C e env S).bind fun r => match r.2.1 with
    | .fr => (newS r.1 r.2.2).bind fun q => .ok (.nx (env.set i (some (q.1, false))) q.2)
    | _ => .no := by first | (rw [evS]; done) | (rw [evS]; rfl)
theorem evS_setTu (C : Cal) (is) (e) (env : Env) (S : Sto) : evS C (.setTu is e) env S = (evE C e env S).bind fun r => (bindO (.tu is) r.1 env).bind fun env' => .ok (.nx env' r.2.2) := by first | (rw [evS]; done) | (rw [evS]; rfl)
theorem evS_par (C : Cal) (is) (es) (env : Env) (S : Sto) : evS C (.par is es) env S = (evPar C es env S).bind fun r => (setEs is r.1 env).bind fun env' => .ok (.nx env' r.2) := by first | (rw [evS]; done) | (rw [evS]; rfl)
theorem evS_setIx (C : Cal) (i) (k) (v) (env : Env) (S : Sto) : evS C (.setIx i k v) env S = (evE C v env S).bind fun r => (kept r).bind fun x => (evE C k env x.2).bind fun q => (kept q).bind fun y => (modE (fun c => putO c y.1 x.1) i env y.2).bind fun z => .ok (.nx z.1 z.2) := by first | (rw [evS]; done) | (rw [evS]; rfl)
theorem evS_app (C : Cal) (i) (e) (env : Env) (S : Sto) : evS C (.app i e) env S = (evE C e env S).bind fun r => (kept r).bind fun x => (modE2 (fun c => (appO c x.1).bind fun c' => .ok (.non, c')) i env).bind fun z => .ok (.nx z.2 x.2) := by first | (rw [evS]; done) | (rw [evS]; rfl)
theorem evS_appPop (C : Cal) (i) (j) (e) (env : Env) (S : Sto) : evS C (.appPop i j e) env S = (evE C e env S).bind fun r => (modE2 (fun c => popO c r.1) j env).bind fun y => (modE2 (fun c => (appO c y.1).bind fun c' => .ok (.non, c')) i y.2).bind fun z => .ok (.nx z.2 r.2.2) := by first | (rw [evS]; done) | (rw [evS]; rfl)
theorem evS_appSd (C : Cal) (i) (j) (k) (e) (env : Env) (S : Sto) : evS C (.appSd i j k e) env S = (evE C k env S).bind fun r => (kept r).bind fun x => (evE C e env x.2).bind fun q => (kept q).bind fun w => (modE2 (fun c => sdO c x.1 w.1) j env).bind fun y => (modE2 (fun c => (appO c y.1).bind fun c' => .ok (.non, c')) i y.2).bind fun z => .ok (.nx z.2 w.2) := by first | (rw [evS]; done) | (rw [evS]; rfl)
theorem evS_setSd (C : Cal) (r) (i) (k) (env : Env) (S : Sto) : evS C (.setSd r i k) env S = (evE C k env S).bind fun q => (kept q).bind fun x => (newS (.dic [] []) x.2).bind fun w => (modE2 (fun c => sdO c x.1 w.1) i env).bind fun y => .ok (.nx (y.2.set r (some (y.1, false))) w.2) := by first | (rw [evS]; done) | (rw [evS]; rfl)
theorem evS_ife (C : Cal) (t) (a) (b) (env : Env) (S : Sto) : evS C (.ife t a b) env S = (evT C t env S).bind fun r => if r.1 then evSs C a env r.2 else evSs C b env r.2 := by first | (rw [evS]; done) | (rw [evS]; rfl)
theorem evS_for_ (C : Cal) (tg) (it) (body) (env : Env) (S : Sto) : evS C (.for_ tg it body) env S = (evIt C it env S).bind fun r => if r.2.1 then .no else loopF (forB C tg body) r.1 env r.2.2 := by first | (rw [evS]; done) | (rw [evS]; rfl)
theorem evS_wh (C : Cal) (is) (t) (body) (env : Env) (S : Sto) : evS C (.wh is t body) env S = loopW (fun env S => evT C t env S) (fun env S => evSs C body env S) is turns env S := by first | (rw [evS]; done) | (rw [evS]; rfl)
theorem evS_ret (C : Cal) (e) (env : Env) (S : Sto) : evS C (.ret e) env S = (evE C e env S).bind fun r => (kept r).bind fun _ => .ok (.rt r.1 r.2.1 r.2.2) := by first | (rw [evS]; done) | (rw [evS]; rfl)
theorem evS_retV (C : Cal) (i) (env : Env) (S : Sto) : evS C (.retV i) env S = match env[i]? with
    | some (some (d, m)) => .ok (.rt d (if m then .fr else .fz) S)
    | _ => .no := by first | (rw [evS]; done) | (rw [evS]; rfl)
theorem evS_exp (C : Cal) (e) (env : Env) (S : Sto) : evS C (.exp e) env S = (evE C e env S).bind fun r => .ok (.nx env r.2.2) := by first | (rw [evS]; done) | (rw [evS]; rfl)
end Z
end
section
namespace Z
open PySem
theorem ok_ints : ∀ xs : List Int, (xs.map D.int).all D.ok = true
  | [] => rfl
  | x :: xs => by simp [ok_ints xs, D.ok, D.okN]
theorem any_ints (k : Int) : ∀ xs : List Int, ((xs.map D.int).any fun d => D.eqv d (.int k)) = decide (k ∈ xs)
  | [] => by simp
  | x :: xs => by
    rw [List.map_cons, List.any_cons, any_ints k xs]
    by_cases h : x = k
    · simp [D.eqv, h]
    · have h' : ¬ k = x := fun e => h e.symm
      simp [D.eqv, h, h']
theorem in_ints {k : Int} {xs : List Int} {c : D} (hc : c = .lst (xs.map D.int) ∨ c = .tup (xs.map D.int)) : inO (.int k) c = .ok (decide (k ∈ xs)) := by
  rcases hc with rfl | rfl <;> simp only [inO, ok_ints, any_ints] <;> simp [D.ok, D.okN]
theorem filterMap_gone (es : List Ev) : es.filterMap (fun e : Ev => match e with | .back n => some (D.int n) | _ => none) = (goneL es).map D.int := by
  induction es with
  | nil => rfl
  | cons e es ih => cases e <;> simp [goneL] at ih ⊢ <;> exact ih
theorem taken_s {l : Nat} {S : Sto} {es : List Ev} (hS : Above (l + 1) S) (hl : es.length ≤ line) : callN P74 (l + 1) 8 [.tup (es.map Ev.d)] S = .ok (.tup ((goneL es).map D.int), .fz, S) := by
  rw [call_at P74_8]
  simp [runF, evSs, evS, evT, evTo, evE, evEs, evO, evPar, evIt, varO, deref, idxO, L2.atI, L2.ixN, cmpO, eqO, isO, p1O, p2O, binO, intO, modI, mulI, fdivI, powI, addO, kept, modE, modE2, putO, appO, popO, wr, D.lev, D.levL, put, look, setE, setEs, leave, frz, bindO, bindTu, wipeE, srcO, seqO, seq2O, zipO, truO, isaO, cutO, D.isNon, line, Out.bind_ok, Out.of_some, Out.of_none, Above.eq_1 .. ▸ hS, F74_8]
  rw [loopC_map (f := fun e : Ev => match e with | .back n => some (D.int n) | _ => none)]
  · simp [filterMap_gone]
  · intro e _
    cases e <;> simp [runF, evSs, evS, evT, evTo, evE, evEs, evO, evPar, evIt, varO, deref, idxO, L2.atI, L2.ixN, cmpO, eqO, isO, p1O, p2O, binO, intO, modI, mulI, fdivI, powI, addO, kept, modE, modE2, putO, appO, popO, wr, D.lev, D.levL, put, look, setE, setEs, leave, frz, bindO, bindTu, wipeE, srcO, seqO, seq2O, zipO, truO, isaO, cutO, D.isNon, line, Out.bind_ok, Out.of_some, Out.of_none, Ev.d, n_behind_away, n_behind_instead, n_behind_back, n_behind_settle, n_away_behind, n_away_instead, n_away_back, n_away_settle, n_instead_behind, n_instead_away, n_instead_back, n_instead_settle, n_back_behind, n_back_away, n_back_instead, n_back_settle, n_settle_behind, n_settle_away, n_settle_instead, n_settle_back]
  · simp; omega
theorem len_step {k : Int} {g : Bool} {rs : Rows} {e : Ev} : (stepR k g rs e).length ≤ rs.length + 1 := by
  have hi : ∀ {n : Int} {x : Row} {rs : Rows}, (insA n x rs).length = rs.length + 1 := by
    intro n x rs
    induction rs with
    | nil => rfl
    | cons r rs ih => by_cases h : r.nm = n <;> simp [insA, h, ih]
  cases e with
  | beh n e => by_cases h : n = -1 <;> simp [stepR, h, hi]
  | settle => exact Nat.le_succ_of_le (List.length_filter_le ..)
  | back n => exact Nat.le_succ _
  | away n => cases g <;> simp [stepR]
  | inst n e => cases g <;> simp [stepR]
theorem loop7 {b : D → Env → Sto → Out Fl} {g : Int → Bool} {E G : Option (D × Bool)} {S : Sto}
    (hb : ∀ (k : Nat) (e : Ev) (rs : Rows) x y, Fresh k rs → rs.length ≤ k → k < 100000 → okE rs e → b (.tup [.int k, e.d]) [E, G, some (.tup (rs.map Row.t), false), x, y] S = .ok (.nx [E, G, some (.tup ((stepR k (g k) rs e).map Row.t), false), some (.int k, false), some (e.d, false)] S)) :
    ∀ {es : List Ev} {k : Nat} {rs : Rows} {x y}, Fresh k rs → rs.length ≤ k → k + es.length ≤ 100000 → Val g k es rs → ∃ x' y', loopF b (enumD k (es.map Ev.d)) [E, G, some (.tup (rs.map Row.t), false), x, y] S = .ok (.nx [E, G, some (.tup ((rowsG g k es rs).map Row.t), false), x', y'] S)
  | [], _, _, x, y, _, _, _, _ => ⟨x, y, rfl⟩
  | e :: es, k, rs, x, y, F, hl, hk, hv => by
    simp only [List.length_cons] at hk
    rw [List.map_cons, enumD_cons, loopF, hb k e rs x y F hl (by omega) hv.1]
    simp only [Out.bind_ok]
    exact loop7 hb (F.step hv.2.1) (Nat.le_trans len_step (by omega)) (by omega) hv.2.2
theorem duty_s {l : Nat} {S : Sto} {es : List Ev} (hS : Above (l + 4) S) (hl : es.length ≤ 1000) (hv : Val (goneB es) 0 es []) : callN P74 (l + 4) 9 [.tup (es.map Ev.d)] S = .ok (.tup ((rowsOf es).map Row.t), .fz, S) := by
  have h6 := taken_s (l := l + 2) (S := (l + 4, []) :: S) (es := es) hS.fr (by simp only [line]; omega)
  rw [call_at P74_9]
  simp [runF, evSs, evT, evTo, evEs, evO, evPar, evIt, varO, deref, idxO, L2.atI, L2.ixN, cmpO, eqO, isO, p1O, p2O, binO, intO, modI, mulI, fdivI, powI, addO, kept, modE, modE2, putO, appO, popO, wr, D.lev, D.levL, put, look, setE, setEs, leave, frz, bindO, bindTu, wipeE, srcO, seqO, seq2O, zipO, truO, isaO, cutO, D.isNon, line, Out.bind_ok, Out.of_some, Out.of_none, evE_cst, evE_var, evE_tup, evE_lst, evE_dic0, evE_dic1, evE_bin, evE_neg, evE_notv, evE_andv, evE_orv, evE_cmp, evE_ifx, evE_idx, evE_cut, evE_call, evE_p1, evE_p2, evE_isa, evE_index, evE_comp, evS_pre, evS_set, evS_setSh, evS_setTu, evS_par, evS_setIx, evS_app, evS_appPop, evS_appSd, evS_setSd, evS_ife, evS_for_, evS_wh, evS_ret, evS_retV, evS_exp, Above.eq_1 .. ▸ hS, F74_9, h6]
  obtain ⟨x', y', h⟩ := loop7 (b := forB (callN P74 (l + 3)) (.tu [3, 4]) [(.pre [2, 3, 4] (.set 2 (.call 7 [(.var 2), (.var 3), (.var 4), (.cmp .inn (.var 3) (.var 1))])))]) (g := goneB es) (E := some (.tup (es.map Ev.d), false)) (G := some (.tup ((goneL es).map D.int), false)) (S := (l + 4, []) :: S) (by
    intro k e rs x y F hl hk ho
    have h5 := after_s (l := l) (k := k) (g := goneB es k) (S := (l + 4, []) :: S) (rs := rs) (ev := e) hS.fr F (by simp only [line]; omega) ho
    have hi := in_ints (k := k) (xs := goneL es) (.inr rfl)
    simp only [goneB] at h5 ⊢
    simp [runF, evSs, evT, evTo, evEs, evO, evPar, evIt, varO, deref, idxO, L2.atI, L2.ixN, cmpO, eqO, isO, p1O, p2O, binO, intO, modI, mulI, fdivI, powI, addO, kept, modE, modE2, putO, appO, popO, wr, D.lev, D.levL, put, look, setE, setEs, leave, frz, bindO, bindTu, wipeE, srcO, seqO, seq2O, zipO, truO, isaO, cutO, D.isNon, line, Out.bind_ok, Out.of_some, Out.of_none, evE_cst, evE_var, evE_tup, evE_lst, evE_dic0, evE_dic1, evE_bin, evE_neg, evE_notv, evE_andv, evE_orv, evE_cmp, evE_ifx, evE_idx, evE_cut, evE_call, evE_p1, evE_p2, evE_isa, evE_index, evE_comp, evS_pre, evS_set, evS_setSh, evS_setTu, evS_par, evS_setIx, evS_app, evS_appPop, evS_appSd, evS_setSd, evS_ife, evS_for_, evS_wh, evS_ret, evS_retV, evS_exp, forB, h5, hi]) (es := es) (k := 0) (rs := []) (x := none) (y := none) ⟨by simp [nms], by simp, by simp, by simp⟩ (by simp) (by omega) hv
  simp only [List.map_nil] at h
  rw [h]
  simp [runF, evSs, evT, evTo, evEs, evO, evPar, evIt, varO, deref, idxO, L2.atI, L2.ixN, cmpO, eqO, isO, p1O, p2O, binO, intO, modI, mulI, fdivI, powI, addO, kept, modE, modE2, putO, appO, popO, wr, D.lev, D.levL, put, look, setE, setEs, leave, frz, bindO, bindTu, wipeE, srcO, seqO, seq2O, zipO, truO, isaO, cutO, D.isNon, line, Out.bind_ok, Out.of_some, Out.of_none, evE_cst, evE_var, evE_tup, evE_lst, evE_dic0, evE_dic1, evE_bin, evE_neg, evE_notv, evE_andv, evE_orv, evE_cmp, evE_ifx, evE_idx, evE_cut, evE_call, evE_p1, evE_p2, evE_isa, evE_index, evE_comp, evS_pre, evS_set, evS_setSh, evS_setTu, evS_par, evS_setIx, evS_app, evS_appPop, evS_appSd, evS_setSd, evS_ife, evS_for_, evS_wh, evS_ret, evS_retV, evS_exp, rowsOf]
end Z
end
section
namespace Z
open PySem
def thereR (rs : Rows) : List D := rs.filterMap fun r => if r.th then some r.en else none
theorem map_there (rs : Rows) : (rs.filterMap fun r : Row => if r.th then some (D.tup [.int r.nm, r.en]) else none) = (rs.filter Row.th).map fun r => D.tup [.int r.nm, r.en] := by
  induction rs with
  | nil => rfl
  | cons r rs ih => cases h : r.th <;> simp [h, ih]
theorem there_map (rs : Rows) : ((rs.filter Row.th).filterMap fun r : Row => some r.en) = thereR rs := by
  induction rs with
  | nil => rfl
  | cons r rs ih => cases h : r.th <;> simp_all [thereR]
theorem in2_behind : inO (.str "behind") (.tup [.str "away", .str "instead"]) = .ok false := by kernel_rfl
theorem in2_away : inO (.str "away") (.tup [.str "away", .str "instead"]) = .ok true := by kernel_rfl
theorem in2_instead : inO (.str "instead") (.tup [.str "away", .str "instead"]) = .ok true := by kernel_rfl
theorem in2_back : inO (.str "back") (.tup [.str "away", .str "instead"]) = .ok false := by kernel_rfl
theorem findD_ix {n : Int} : ∀ {rs : Rows} {k : Nat}, n ∈ nms rs → findD (.int n) k ((nms rs).map D.int) = some (k + ixR n rs)
  | [], _, h => by simp [nms] at h
  | r :: rs, k, h => by
    by_cases e : r.nm = n
    · simp [nms, findD, ixR, e, D.eqv]
    · have h' : n ∈ nms rs := by
        simp only [nms, List.map_cons, List.mem_cons] at h
        rcases h with h | h
        · exact absurd h.symm e
        · exact h
      have := findD_ix (k := k + 1) h'
      simp only [nms] at this
      simp only [nms, List.map_cons, findD, D.eqv, ixR, e, if_false, beq_iff_eq, this]
      congr 1
      omega
theorem index_s {n : Int} {rs : Rows} (h : n ∈ nms rs) : indexO (.lst ((nms rs).map D.int)) (.int n) = .ok (.int (ixR n rs)) := by
  simp [indexO, ok_ints, findD_ix h, D.ok, D.okN]
theorem turn_set {n : Int} {f : Row → Row} : ∀ {rs : Rows}, (nms rs).Nodup → n ∈ nms rs → ∃ r, rs[ixR n rs]? = some r ∧ r.nm = n ∧ ixR n rs < rs.length ∧ rs.map (turnR n f) = if r.th then rs.set (ixR n rs) (f r) else rs
  | [], _, h => by simp [nms] at h
  | r :: rs, nd, h => by
    have nd' : r.nm ∉ nms rs ∧ (nms rs).Nodup := by simpa [nms] using nd
    by_cases e : r.nm = n
    · have hn : rs.any (fun r => decide (r.nm = n) && r.th) = false := by
        rw [List.any_eq_false]
        intro q hq hc
        simp only [Bool.and_eq_true, decide_eq_true_eq] at hc
        exact nd'.1 (by rw [e, ← hc.1]; exact List.mem_map.mpr ⟨q, hq, rfl⟩)
      refine ⟨r, by simp [ixR, e], e, by simp [ixR, e], ?_⟩
      rw [List.map_cons, turn_none hn]
      cases ht : r.th <;> simp [ixR, e, turnR, ht]
    · have h' : n ∈ nms rs := by
        simp only [nms, List.map_cons, List.mem_cons] at h
        rcases h with h | h
        · exact absurd h.symm e
        · exact h
      obtain ⟨q, h1, h2, h4, h5⟩ := turn_set (f := f) nd'.2 h'
      refine ⟨q, by simp [ixR, e, h1], h2, by simp only [ixR, e, if_false, List.length_cons]; omega, ?_⟩
      rw [List.map_cons, h5]
      cases q.th <;> simp [ixR, e, turnR]
end Z
end
section
namespace Z
open PySem
theorem cut_hiA {α : Type} {t : α → D} {rs : List α} {i : Nat} (h : i ≤ rs.length) : cutL (rs.map t) none (some (i : Int)) = (rs.take i).map t := by
  rw [cut_hi (by simpa using h), List.map_take]
theorem cut_loA {α : Type} {t : α → D} {rs : List α} {i : Nat} (h : i ≤ rs.length) : cutL (rs.map t) (some (i : Int)) none = (rs.drop i).map t := by
  rw [cut_lo (by simpa using h), List.map_drop]
theorem loop23 {b : D → Env → Sto → Out Fl} {g : Int → Bool} {E G : Option (D × Bool)} {S : Sto}
    (hb : ∀ (k : Nat) (e : Ev) (rs : Rows) x1 x4 x5 x6, Fresh k rs → rs.length ≤ k → k < 100000 → okE rs e → ∃ y5 y6, b (.tup [.int k, e.d]) [E, x1, G, some (.lst (rs.map Row.l), true), x4, x5, x6, none, none] S = .ok (.nx [E, some (e.d, false), G, some (.lst ((stepR k (g k) rs e).map Row.l), true), some (.int k, false), y5, y6, none, none] S)) :
    ∀ {es : List Ev} {k : Nat} {rs : Rows} {x1 x4 x5 x6}, Fresh k rs → rs.length ≤ k → k + es.length ≤ 100000 → Val g k es rs → ∃ y1 y4 y5 y6, loopF b (enumD k (es.map Ev.d)) [E, x1, G, some (.lst (rs.map Row.l), true), x4, x5, x6, none, none] S = .ok (.nx [E, y1, G, some (.lst ((rowsG g k es rs).map Row.l), true), y4, y5, y6, none, none] S)
  | [], _, _, x1, x4, x5, x6, _, _, _, _ => ⟨x1, x4, x5, x6, rfl⟩
  | e :: es, k, rs, x1, x4, x5, x6, F, hl, hk, hv => by
    simp only [List.length_cons] at hk
    obtain ⟨y5, y6, h⟩ := hb k e rs x1 x4 x5 x6 F hl (by omega) hv.1
    rw [List.map_cons, enumD_cons, loopF, h]
    simp only [Out.bind_ok]
    exact loop23 hb (F.step hv.2.1) (Nat.le_trans len_step (by omega)) (by omega) hv.2.2
theorem filterMap_gone2 (es : List Ev) : es.filterMap (fun e : Ev => match e with | .back n => some (D.int n) | _ => none) = (goneL es).map D.int := filterMap_gone es
theorem filterMap_thl (rs : Rows) : rs.filterMap (fun r : Row => if r.th then some r.l else none) = (rs.filter Row.th).map Row.l := by
  induction rs with
  | nil => rfl
  | cons r rs ih => cases h : r.th <;> simp [h, ih]
theorem map_nms (rs : Rows) : rs.filterMap (fun r : Row => some (D.int r.nm)) = (nms rs).map D.int := by
  induction rs with
  | nil => rfl
  | cons r rs ih => simp [nms] at ih ⊢
def B23 : List St := [
    (.set 5 (.comp (.idx (.var 8) (.cst (.int 0))) (.nm 8) (.seq (.var 3)) none [7, 8])),
    (.ife (.cmp .eq (.idx (.var 1) (.cst (.int 0))) (.cst (.str "behind"))) [
    (.set 6 (.ifx (.cmp .lt (.idx (.var 1) (.cst (.int 1))) (.cst (.int 0))) (.cst (.int 0)) (.bin .add (.index (.var 5) (.idx (.var 1) (.cst (.int 1)))) (.cst (.int 1))))),
    (.pre [4] (.set 3 (.bin .add (.bin .add (.cut (.var 3) none (some (.var 6))) (.lst [(.lst [(.var 4), (.idx (.var 1) (.cst (.int 2))), (.cmp .nin (.var 4) (.var 2))])])) (.cut (.var 3) (some (.var 6)) none))))] [
    (.ife (.cmp .eq (.idx (.var 1) (.cst (.int 0))) (.cst (.str "settle"))) [
    (.pre [8] (.set 3 (.comp (.var 8) (.nm 8) (.seq (.var 3)) (some (.val (.idx (.var 8) (.cst (.int 2))))) [7, 8])))] [
    (.ife (.and (.cmp .inn (.idx (.var 1) (.cst (.int 0))) (.tup [(.cst (.str "away")), (.cst (.str "instead"))])) (.and (.cmp .nin (.var 4) (.var 2)) (.and (.cmp .inn (.idx (.var 1) (.cst (.int 1))) (.var 5)) (.val (.idx (.idx (.var 3) (.index (.var 5) (.idx (.var 1) (.cst (.int 1))))) (.cst (.int 2))))))) [
    (.set 6 (.index (.var 5) (.idx (.var 1) (.cst (.int 1))))),
    (.pre [6] (.setIx 3 (.var 6) (.lst [(.idx (.var 1) (.cst (.int 1))), (.ifx (.cmp .eq (.idx (.var 1) (.cst (.int 0))) (.cst (.str "away"))) (.idx (.idx (.var 3) (.var 6)) (.cst (.int 1))) (.idx (.var 1) (.cst (.int 2)))), (.cmp .eq (.idx (.var 1) (.cst (.int 0))) (.cst (.str "instead")))])))] [
    ])])])]
theorem names23 (C : Cal) {rs : Rows} {a0 a1 a2 a3 a4 a5 a6 a7 a8 : Option (D × Bool)} {S : Sto} (hl : rs.length ≤ line) : loopC (cmpB C (.idx (.var 8) (.cst (.int 0))) (.nm 8) none [7, 8] [a0, a1, a2, a3, a4, a5, a6, a7, a8]) (rs.map Row.l) S [] = .ok ((nms rs).map D.int, S) := by
  rw [loopC_map (f := fun r : Row => some (D.int r.nm))]
  · simp [map_nms]
  · intro r _
    simp [runF, evSs, evT, evTo, evEs, evO, evPar, evIt, varO, deref, idxO, L2.atI, L2.ixN, cmpO, eqO, isO, p1O, p2O, binO, intO, modI, mulI, fdivI, powI, addO, kept, modE, modE2, putO, appO, popO, wr, D.lev, D.levL, put, look, setE, setEs, leave, frz, bindO, bindTu, wipeE, srcO, seqO, seq2O, zipO, truO, isaO, cutO, D.isNon, line, Out.bind_ok, Out.of_some, Out.of_none, evE_cst, evE_var, evE_tup, evE_lst, evE_dic0, evE_dic1, evE_bin, evE_neg, evE_notv, evE_andv, evE_orv, evE_cmp, evE_ifx, evE_idx, evE_cut, evE_call, evE_p1, evE_p2, evE_isa, evE_index, evE_comp, evS_pre, evS_set, evS_setSh, evS_setTu, evS_par, evS_setIx, evS_app, evS_appPop, evS_appSd, evS_setSd, evS_ife, evS_for_, evS_wh, evS_ret, evS_retV, evS_exp, cmpB, Row.l]
  · simpa using hl
theorem settle23 (C : Cal) {rs : Rows} {a0 a1 a2 a3 a4 a5 a6 a7 a8 : Option (D × Bool)} {S : Sto} (hl : rs.length ≤ line) : loopC (cmpB C (.var 8) (.nm 8) (some (.val (.idx (.var 8) (.cst (.int 2))))) [7, 8] [a0, a1, a2, a3, a4, a5, a6, a7, a8]) (rs.map Row.l) S [] = .ok ((rs.filter Row.th).map Row.l, S) := by
  rw [loopC_map (f := fun r : Row => if r.th then some r.l else none)]
  · simp [filterMap_thl]
  · intro r _
    cases h : r.th <;> simp [runF, evSs, evT, evTo, evEs, evO, evPar, evIt, varO, deref, idxO, L2.atI, L2.ixN, cmpO, eqO, isO, p1O, p2O, binO, intO, modI, mulI, fdivI, powI, addO, kept, modE, modE2, putO, appO, popO, wr, D.lev, D.levL, put, look, setE, setEs, leave, frz, bindO, bindTu, wipeE, srcO, seqO, seq2O, zipO, truO, isaO, cutO, D.isNon, line, Out.bind_ok, Out.of_some, Out.of_none, evE_cst, evE_var, evE_tup, evE_lst, evE_dic0, evE_dic1, evE_bin, evE_neg, evE_notv, evE_andv, evE_orv, evE_cmp, evE_ifx, evE_idx, evE_cut, evE_call, evE_p1, evE_p2, evE_isa, evE_index, evE_comp, evS_pre, evS_set, evS_setSh, evS_setTu, evS_par, evS_setIx, evS_app, evS_appPop, evS_appSd, evS_setSd, evS_ife, evS_for_, evS_wh, evS_ret, evS_retV, evS_exp, cmpB, Row.l, h]
  · simpa using hl
set_option maxHeartbeats 0 in
theorem body23 (C : Cal) {k : Nat} {g : Int → Bool} {gl : List Int} {e : Ev} {rs : Rows} {E : Option (D × Bool)} {S : Sto} {x1 x4 x5 x6} (hg : ∀ j, g j = decide (j ∈ gl)) (F : Fresh k rs) (hl : rs.length ≤ k) (hk : k < 100000) (ho : okE rs e) :
    ∃ y5 y6, forB C (.tu [4, 1]) B23 (.tup [.int k, e.d]) [E, x1, some (.lst (gl.map D.int), true), some (.lst (rs.map Row.l), true), x4, x5, x6, none, none] S = .ok (.nx [E, some (e.d, false), some (.lst (gl.map D.int), true), some (.lst ((stepR k (g k) rs e).map Row.l), true), some (.int k, false), y5, y6, none, none] S) := by
  have hl' : rs.length ≤ line := by simp only [line]; omega
  have hi := in_ints (k := k) (xs := gl) (.inl rfl)
  have hlo : ∀ n, n ∈ nms rs → 0 ≤ n := by
    intro n h
    obtain ⟨r, hr, rfl⟩ := List.mem_map.mp h
    exact F.lo r hr
  rw [← hg] at hi
  cases e with
  | back n => exact ⟨_, _, by simp [runF, evSs, evT, evTo, evEs, evO, evPar, evIt, varO, deref, idxO, L2.atI, L2.ixN, cmpO, eqO, isO, p1O, p2O, binO, intO, modI, mulI, fdivI, powI, addO, kept, modE, modE2, putO, appO, popO, wr, D.lev, D.levL, put, look, setE, setEs, leave, frz, bindO, bindTu, wipeE, srcO, seqO, seq2O, zipO, truO, isaO, cutO, D.isNon, line, Out.bind_ok, Out.of_some, Out.of_none, evE_cst, evE_var, evE_tup, evE_lst, evE_dic0, evE_dic1, evE_bin, evE_neg, evE_notv, evE_andv, evE_orv, evE_cmp, evE_ifx, evE_idx, evE_cut, evE_call, evE_p1, evE_p2, evE_isa, evE_index, evE_comp, evS_pre, evS_set, evS_setSh, evS_setTu, evS_par, evS_setIx, evS_app, evS_appPop, evS_appSd, evS_setSd, evS_ife, evS_for_, evS_wh, evS_ret, evS_retV, evS_exp, forB, B23, Ev.d, n_behind_away, n_behind_instead, n_behind_back, n_behind_settle, n_away_behind, n_away_instead, n_away_back, n_away_settle, n_instead_behind, n_instead_away, n_instead_back, n_instead_settle, n_back_behind, n_back_away, n_back_instead, n_back_settle, n_settle_behind, n_settle_away, n_settle_instead, n_settle_back, names23 C hl', in2_back, stepR]; first | exact ⟨rfl, rfl⟩ | rfl⟩
  | settle => exact ⟨_, _, by simp [runF, evSs, evT, evTo, evEs, evO, evPar, evIt, varO, deref, idxO, L2.atI, L2.ixN, cmpO, eqO, isO, p1O, p2O, binO, intO, modI, mulI, fdivI, powI, addO, kept, modE, modE2, putO, appO, popO, wr, D.lev, D.levL, put, look, setE, setEs, leave, frz, bindO, bindTu, wipeE, srcO, seqO, seq2O, zipO, truO, isaO, cutO, D.isNon, line, Out.bind_ok, Out.of_some, Out.of_none, evE_cst, evE_var, evE_tup, evE_lst, evE_dic0, evE_dic1, evE_bin, evE_neg, evE_notv, evE_andv, evE_orv, evE_cmp, evE_ifx, evE_idx, evE_cut, evE_call, evE_p1, evE_p2, evE_isa, evE_index, evE_comp, evS_pre, evS_set, evS_setSh, evS_setTu, evS_par, evS_setIx, evS_app, evS_appPop, evS_appSd, evS_setSd, evS_ife, evS_for_, evS_wh, evS_ret, evS_retV, evS_exp, forB, B23, Ev.d, n_behind_away, n_behind_instead, n_behind_back, n_behind_settle, n_away_behind, n_away_instead, n_away_back, n_away_settle, n_instead_behind, n_instead_away, n_instead_back, n_instead_settle, n_back_behind, n_back_away, n_back_instead, n_back_settle, n_settle_behind, n_settle_away, n_settle_instead, n_settle_back, names23 C hl', settle23 C hl', stepR]; first | exact ⟨rfl, rfl⟩ | rfl⟩
  | beh n e =>
    by_cases hn : n = -1
    · subst hn
      have c1 : cutL (rs.map Row.l) none (some 0) = [] := by simpa using cut_hi (ds := rs.map Row.l) (i := 0) (by simp)
      have c2 : cutL (rs.map Row.l) (some 0) none = rs.map Row.l := by simpa using cut_lo (ds := rs.map Row.l) (i := 0) (by simp)
      have m1 : 1 + rs.length ≤ 16777216 := by omega
      exact ⟨_, _, by simp [runF, evSs, evT, evTo, evEs, evO, evPar, evIt, varO, deref, idxO, L2.atI, L2.ixN, cmpO, eqO, isO, p1O, p2O, binO, intO, modI, mulI, fdivI, powI, addO, kept, modE, modE2, putO, appO, popO, wr, D.lev, D.levL, put, look, setE, setEs, leave, frz, bindO, bindTu, wipeE, srcO, seqO, seq2O, zipO, truO, isaO, cutO, D.isNon, line, Out.bind_ok, Out.of_some, Out.of_none, evE_cst, evE_var, evE_tup, evE_lst, evE_dic0, evE_dic1, evE_bin, evE_neg, evE_notv, evE_andv, evE_orv, evE_cmp, evE_ifx, evE_idx, evE_cut, evE_call, evE_p1, evE_p2, evE_isa, evE_index, evE_comp, evS_pre, evS_set, evS_setSh, evS_setTu, evS_par, evS_setIx, evS_app, evS_appPop, evS_appSd, evS_setSd, evS_ife, evS_for_, evS_wh, evS_ret, evS_retV, evS_exp, forB, B23, Ev.d, n_behind_away, n_behind_instead, n_behind_back, n_behind_settle, n_away_behind, n_away_instead, n_away_back, n_away_settle, n_instead_behind, n_instead_away, n_instead_back, n_instead_settle, n_back_behind, n_back_away, n_back_instead, n_back_settle, n_settle_behind, n_settle_away, n_settle_instead, n_settle_back, names23 C hl', stepR, hi, c1, c2, m1, Row.l]; first | exact ⟨rfl, rfl⟩ | rfl⟩
    · have ho : n ∈ nms rs := by simpa [okE, hn] using ho
      have h0 : ¬ n < 0 := by have := hlo n ho; omega
      obtain ⟨h4, h5⟩ := ins_at (x := ⟨k, e, !g k⟩) ho
      have c1 : cutL (rs.map Row.l) none (some ((ixR n rs : Int) + 1)) = (rs.map Row.l).take (ixR n rs + 1) := by
        have := cut_hi (ds := rs.map Row.l) (i := ixR n rs + 1) (by simp; omega)
        simpa using this
      have c2 : cutL (rs.map Row.l) (some ((ixR n rs : Int) + 1)) none = (rs.map Row.l).drop (ixR n rs + 1) := by
        have := cut_lo (ds := rs.map Row.l) (i := ixR n rs + 1) (by simp; omega)
        simpa using this
      have m1 : min (ixR n rs + 1) rs.length = ixR n rs + 1 := Nat.min_eq_left h4
      have m2 : ixR n rs + 1 + 1 ≤ 16777216 := by omega
      have m3 : ixR n rs + 1 + (1 + (rs.length - (ixR n rs + 1))) ≤ 16777216 := by omega
      have m4 : ixR n rs + 1 + 1 + (rs.length - (ixR n rs + 1)) ≤ 16777216 := by omega
      exact ⟨_, _, by simp [runF, evSs, evT, evTo, evEs, evO, evPar, evIt, varO, deref, idxO, L2.atI, L2.ixN, cmpO, eqO, isO, p1O, p2O, binO, intO, modI, mulI, fdivI, powI, addO, kept, modE, modE2, putO, appO, popO, wr, D.lev, D.levL, put, look, setE, setEs, leave, frz, bindO, bindTu, wipeE, srcO, seqO, seq2O, zipO, truO, isaO, cutO, D.isNon, line, Out.bind_ok, Out.of_some, Out.of_none, evE_cst, evE_var, evE_tup, evE_lst, evE_dic0, evE_dic1, evE_bin, evE_neg, evE_notv, evE_andv, evE_orv, evE_cmp, evE_ifx, evE_idx, evE_cut, evE_call, evE_p1, evE_p2, evE_isa, evE_index, evE_comp, evS_pre, evS_set, evS_setSh, evS_setTu, evS_par, evS_setIx, evS_app, evS_appPop, evS_appSd, evS_setSd, evS_ife, evS_for_, evS_wh, evS_ret, evS_retV, evS_exp, forB, B23, Ev.d, n_behind_away, n_behind_instead, n_behind_back, n_behind_settle, n_away_behind, n_away_instead, n_away_back, n_away_settle, n_instead_behind, n_instead_away, n_instead_back, n_instead_settle, n_back_behind, n_back_away, n_back_instead, n_back_settle, n_settle_behind, n_settle_away, n_settle_instead, n_settle_back, names23 C hl', stepR, hi, c1, c2, m1, m2, m3, m4, Row.l, hn, h0, index_s ho, h5]; first | exact ⟨rfl, rfl⟩ | rfl⟩
  | away n =>
    have hm := in_ints (k := n) (xs := nms rs) (.inl rfl)
    cases hgk : g k with
    | true =>
      rw [hgk] at hi
      exact ⟨_, _, by simp [runF, evSs, evT, evTo, evEs, evO, evPar, evIt, varO, deref, idxO, L2.atI, L2.ixN, cmpO, eqO, isO, p1O, p2O, binO, intO, modI, mulI, fdivI, powI, addO, kept, modE, modE2, putO, appO, popO, wr, D.lev, D.levL, put, look, setE, setEs, leave, frz, bindO, bindTu, wipeE, srcO, seqO, seq2O, zipO, truO, isaO, cutO, D.isNon, line, Out.bind_ok, Out.of_some, Out.of_none, evE_cst, evE_var, evE_tup, evE_lst, evE_dic0, evE_dic1, evE_bin, evE_neg, evE_notv, evE_andv, evE_orv, evE_cmp, evE_ifx, evE_idx, evE_cut, evE_call, evE_p1, evE_p2, evE_isa, evE_index, evE_comp, evS_pre, evS_set, evS_setSh, evS_setTu, evS_par, evS_setIx, evS_app, evS_appPop, evS_appSd, evS_setSd, evS_ife, evS_for_, evS_wh, evS_ret, evS_retV, evS_exp, forB, B23, Ev.d, n_behind_away, n_behind_instead, n_behind_back, n_behind_settle, n_away_behind, n_away_instead, n_away_back, n_away_settle, n_instead_behind, n_instead_away, n_instead_back, n_instead_settle, n_back_behind, n_back_away, n_back_instead, n_back_settle, n_settle_behind, n_settle_away, n_settle_instead, n_settle_back, names23 C hl', stepR, hi, in2_away]; first | exact ⟨rfl, rfl⟩ | rfl⟩
    | false =>
      rw [hgk] at hi
      by_cases hn : n ∈ nms rs
      · have hm : inO (.int n) (.lst ((nms rs).map D.int)) = .ok true := by rw [hm]; simp [hn]
        obtain ⟨r, h1, h2, h4, h5⟩ := turn_set (f := fun r => ⟨r.nm, r.en, false⟩) F.nd hn
        have hg2 : rs[ixR n rs] = r := by simpa [h4] using h1
        cases ht : r.th with
        | false =>
          rw [ht] at h5
          exact ⟨_, _, by simp [runF, evSs, evT, evTo, evEs, evO, evPar, evIt, varO, deref, idxO, L2.atI, L2.ixN, cmpO, eqO, isO, p1O, p2O, binO, intO, modI, mulI, fdivI, powI, addO, kept, modE, modE2, putO, appO, popO, wr, D.lev, D.levL, put, look, setE, setEs, leave, frz, bindO, bindTu, wipeE, srcO, seqO, seq2O, zipO, truO, isaO, cutO, D.isNon, line, Out.bind_ok, Out.of_some, Out.of_none, evE_cst, evE_var, evE_tup, evE_lst, evE_dic0, evE_dic1, evE_bin, evE_neg, evE_notv, evE_andv, evE_orv, evE_cmp, evE_ifx, evE_idx, evE_cut, evE_call, evE_p1, evE_p2, evE_isa, evE_index, evE_comp, evS_pre, evS_set, evS_setSh, evS_setTu, evS_par, evS_setIx, evS_app, evS_appPop, evS_appSd, evS_setSd, evS_ife, evS_for_, evS_wh, evS_ret, evS_retV, evS_exp, forB, B23, Ev.d, n_behind_away, n_behind_instead, n_behind_back, n_behind_settle, n_away_behind, n_away_instead, n_away_back, n_away_settle, n_instead_behind, n_instead_away, n_instead_back, n_instead_settle, n_back_behind, n_back_away, n_back_instead, n_back_settle, n_settle_behind, n_settle_away, n_settle_instead, n_settle_back, names23 C hl', stepR, hi, in2_away, hm, index_s hn, h1, h4, ht, Row.l, h5, hg2]; first | exact ⟨rfl, rfl⟩ | rfl⟩
        | true =>
          rw [ht] at h5
          exact ⟨_, _, by simp [runF, evSs, evT, evTo, evEs, evO, evPar, evIt, varO, deref, idxO, L2.atI, L2.ixN, cmpO, eqO, isO, p1O, p2O, binO, intO, modI, mulI, fdivI, powI, addO, kept, modE, modE2, putO, appO, popO, wr, D.lev, D.levL, put, look, setE, setEs, leave, frz, bindO, bindTu, wipeE, srcO, seqO, seq2O, zipO, truO, isaO, cutO, D.isNon, line, Out.bind_ok, Out.of_some, Out.of_none, evE_cst, evE_var, evE_tup, evE_lst, evE_dic0, evE_dic1, evE_bin, evE_neg, evE_notv, evE_andv, evE_orv, evE_cmp, evE_ifx, evE_idx, evE_cut, evE_call, evE_p1, evE_p2, evE_isa, evE_index, evE_comp, evS_pre, evS_set, evS_setSh, evS_setTu, evS_par, evS_setIx, evS_app, evS_appPop, evS_appSd, evS_setSd, evS_ife, evS_for_, evS_wh, evS_ret, evS_retV, evS_exp, forB, B23, Ev.d, n_behind_away, n_behind_instead, n_behind_back, n_behind_settle, n_away_behind, n_away_instead, n_away_back, n_away_settle, n_instead_behind, n_instead_away, n_instead_back, n_instead_settle, n_back_behind, n_back_away, n_back_instead, n_back_settle, n_settle_behind, n_settle_away, n_settle_instead, n_settle_back, names23 C hl', stepR, hi, in2_away, hm, index_s hn, h1, h4, ht, Row.l, h5, hg2, h2, List.map_set]; first | exact ⟨rfl, rfl⟩ | rfl⟩
      · have hm : inO (.int n) (.lst ((nms rs).map D.int)) = .ok false := by rw [hm]; simp [hn]
        have hq : rs.map (turnR n fun r => ⟨r.nm, r.en, false⟩) = rs := by
          apply turn_none
          rw [List.any_eq_false]
          intro q hq hc
          simp only [Bool.and_eq_true, decide_eq_true_eq] at hc
          exact hn (by rw [← hc.1]; exact List.mem_map.mpr ⟨q, hq, rfl⟩)
        exact ⟨_, _, by simp [runF, evSs, evT, evTo, evEs, evO, evPar, evIt, varO, deref, idxO, L2.atI, L2.ixN, cmpO, eqO, isO, p1O, p2O, binO, intO, modI, mulI, fdivI, powI, addO, kept, modE, modE2, putO, appO, popO, wr, D.lev, D.levL, put, look, setE, setEs, leave, frz, bindO, bindTu, wipeE, srcO, seqO, seq2O, zipO, truO, isaO, cutO, D.isNon, line, Out.bind_ok, Out.of_some, Out.of_none, evE_cst, evE_var, evE_tup, evE_lst, evE_dic0, evE_dic1, evE_bin, evE_neg, evE_notv, evE_andv, evE_orv, evE_cmp, evE_ifx, evE_idx, evE_cut, evE_call, evE_p1, evE_p2, evE_isa, evE_index, evE_comp, evS_pre, evS_set, evS_setSh, evS_setTu, evS_par, evS_setIx, evS_app, evS_appPop, evS_appSd, evS_setSd, evS_ife, evS_for_, evS_wh, evS_ret, evS_retV, evS_exp, forB, B23, Ev.d, n_behind_away, n_behind_instead, n_behind_back, n_behind_settle, n_away_behind, n_away_instead, n_away_back, n_away_settle, n_instead_behind, n_instead_away, n_instead_back, n_instead_settle, n_back_behind, n_back_away, n_back_instead, n_back_settle, n_settle_behind, n_settle_away, n_settle_instead, n_settle_back, names23 C hl', stepR, hi, in2_away, hm, hq]; first | exact ⟨rfl, rfl⟩ | rfl⟩
  | inst n e =>
    have hm := in_ints (k := n) (xs := nms rs) (.inl rfl)
    cases hgk : g k with
    | true =>
      rw [hgk] at hi
      exact ⟨_, _, by simp [runF, evSs, evT, evTo, evEs, evO, evPar, evIt, varO, deref, idxO, L2.atI, L2.ixN, cmpO, eqO, isO, p1O, p2O, binO, intO, modI, mulI, fdivI, powI, addO, kept, modE, modE2, putO, appO, popO, wr, D.lev, D.levL, put, look, setE, setEs, leave, frz, bindO, bindTu, wipeE, srcO, seqO, seq2O, zipO, truO, isaO, cutO, D.isNon, line, Out.bind_ok, Out.of_some, Out.of_none, evE_cst, evE_var, evE_tup, evE_lst, evE_dic0, evE_dic1, evE_bin, evE_neg, evE_notv, evE_andv, evE_orv, evE_cmp, evE_ifx, evE_idx, evE_cut, evE_call, evE_p1, evE_p2, evE_isa, evE_index, evE_comp, evS_pre, evS_set, evS_setSh, evS_setTu, evS_par, evS_setIx, evS_app, evS_appPop, evS_appSd, evS_setSd, evS_ife, evS_for_, evS_wh, evS_ret, evS_retV, evS_exp, forB, B23, Ev.d, n_behind_away, n_behind_instead, n_behind_back, n_behind_settle, n_away_behind, n_away_instead, n_away_back, n_away_settle, n_instead_behind, n_instead_away, n_instead_back, n_instead_settle, n_back_behind, n_back_away, n_back_instead, n_back_settle, n_settle_behind, n_settle_away, n_settle_instead, n_settle_back, names23 C hl', stepR, hi, in2_instead]; first | exact ⟨rfl, rfl⟩ | rfl⟩
    | false =>
      rw [hgk] at hi
      by_cases hn : n ∈ nms rs
      · have hm : inO (.int n) (.lst ((nms rs).map D.int)) = .ok true := by rw [hm]; simp [hn]
        obtain ⟨r, h1, h2, h4, h5⟩ := turn_set (f := fun r => ⟨r.nm, e, true⟩) F.nd hn
        have hg2 : rs[ixR n rs] = r := by simpa [h4] using h1
        cases ht : r.th with
        | false =>
          rw [ht] at h5
          exact ⟨_, _, by simp [runF, evSs, evT, evTo, evEs, evO, evPar, evIt, varO, deref, idxO, L2.atI, L2.ixN, cmpO, eqO, isO, p1O, p2O, binO, intO, modI, mulI, fdivI, powI, addO, kept, modE, modE2, putO, appO, popO, wr, D.lev, D.levL, put, look, setE, setEs, leave, frz, bindO, bindTu, wipeE, srcO, seqO, seq2O, zipO, truO, isaO, cutO, D.isNon, line, Out.bind_ok, Out.of_some, Out.of_none, evE_cst, evE_var, evE_tup, evE_lst, evE_dic0, evE_dic1, evE_bin, evE_neg, evE_notv, evE_andv, evE_orv, evE_cmp, evE_ifx, evE_idx, evE_cut, evE_call, evE_p1, evE_p2, evE_isa, evE_index, evE_comp, evS_pre, evS_set, evS_setSh, evS_setTu, evS_par, evS_setIx, evS_app, evS_appPop, evS_appSd, evS_setSd, evS_ife, evS_for_, evS_wh, evS_ret, evS_retV, evS_exp, forB, B23, Ev.d, n_behind_away, n_behind_instead, n_behind_back, n_behind_settle, n_away_behind, n_away_instead, n_away_back, n_away_settle, n_instead_behind, n_instead_away, n_instead_back, n_instead_settle, n_back_behind, n_back_away, n_back_instead, n_back_settle, n_settle_behind, n_settle_away, n_settle_instead, n_settle_back, names23 C hl', stepR, hi, in2_instead, hm, index_s hn, h1, h4, ht, Row.l, h5, hg2]; first | exact ⟨rfl, rfl⟩ | rfl⟩
        | true =>
          rw [ht] at h5
          exact ⟨_, _, by simp [runF, evSs, evT, evTo, evEs, evO, evPar, evIt, varO, deref, idxO, L2.atI, L2.ixN, cmpO, eqO, isO, p1O, p2O, binO, intO, modI, mulI, fdivI, powI, addO, kept, modE, modE2, putO, appO, popO, wr, D.lev, D.levL, put, look, setE, setEs, leave, frz, bindO, bindTu, wipeE, srcO, seqO, seq2O, zipO, truO, isaO, cutO, D.isNon, line, Out.bind_ok, Out.of_some, Out.of_none, evE_cst, evE_var, evE_tup, evE_lst, evE_dic0, evE_dic1, evE_bin, evE_neg, evE_notv, evE_andv, evE_orv, evE_cmp, evE_ifx, evE_idx, evE_cut, evE_call, evE_p1, evE_p2, evE_isa, evE_index, evE_comp, evS_pre, evS_set, evS_setSh, evS_setTu, evS_par, evS_setIx, evS_app, evS_appPop, evS_appSd, evS_setSd, evS_ife, evS_for_, evS_wh, evS_ret, evS_retV, evS_exp, forB, B23, Ev.d, n_behind_away, n_behind_instead, n_behind_back, n_behind_settle, n_away_behind, n_away_instead, n_away_back, n_away_settle, n_instead_behind, n_instead_away, n_instead_back, n_instead_settle, n_back_behind, n_back_away, n_back_instead, n_back_settle, n_settle_behind, n_settle_away, n_settle_instead, n_settle_back, names23 C hl', stepR, hi, in2_instead, hm, index_s hn, h1, h4, ht, Row.l, h5, hg2, h2, List.map_set]; first | exact ⟨rfl, rfl⟩ | rfl⟩
      · have hm : inO (.int n) (.lst ((nms rs).map D.int)) = .ok false := by rw [hm]; simp [hn]
        have hq : rs.map (turnR n fun r => ⟨r.nm, e, true⟩) = rs := by
          apply turn_none
          rw [List.any_eq_false]
          intro q hq hc
          simp only [Bool.and_eq_true, decide_eq_true_eq] at hc
          exact hn (by rw [← hc.1]; exact List.mem_map.mpr ⟨q, hq, rfl⟩)
        exact ⟨_, _, by simp [runF, evSs, evT, evTo, evEs, evO, evPar, evIt, varO, deref, idxO, L2.atI, L2.ixN, cmpO, eqO, isO, p1O, p2O, binO, intO, modI, mulI, fdivI, powI, addO, kept, modE, modE2, putO, appO, popO, wr, D.lev, D.levL, put, look, setE, setEs, leave, frz, bindO, bindTu, wipeE, srcO, seqO, seq2O, zipO, truO, isaO, cutO, D.isNon, line, Out.bind_ok, Out.of_some, Out.of_none, evE_cst, evE_var, evE_tup, evE_lst, evE_dic0, evE_dic1, evE_bin, evE_neg, evE_notv, evE_andv, evE_orv, evE_cmp, evE_ifx, evE_idx, evE_cut, evE_call, evE_p1, evE_p2, evE_isa, evE_index, evE_comp, evS_pre, evS_set, evS_setSh, evS_setTu, evS_par, evS_setIx, evS_app, evS_appPop, evS_appSd, evS_setSd, evS_ife, evS_for_, evS_wh, evS_ret, evS_retV, evS_exp, forB, B23, Ev.d, n_behind_away, n_behind_instead, n_behind_back, n_behind_settle, n_away_behind, n_away_instead, n_away_back, n_away_settle, n_instead_behind, n_instead_away, n_instead_back, n_instead_settle, n_back_behind, n_back_away, n_back_instead, n_back_settle, n_settle_behind, n_settle_away, n_settle_instead, n_settle_back, names23 C hl', stepR, hi, in2_instead, hm, hq]; first | exact ⟨rfl, rfl⟩ | rfl⟩
end Z
end
section
namespace Z
open PySem
def backD : Ev → Option D
  | .back n => some (.int n)
  | _ => none
theorem filterMap_back (es : List Ev) : es.filterMap backD = (goneL es).map D.int := by
  induction es with
  | nil => rfl
  | cons e es ih => cases e <;> simp [goneL, backD] at ih ⊢ <;> exact ih
theorem lifeRows_s {l : Nat} {S : Sto} {es : List Ev} (hS : Above (l + 1) S) (hl : es.length ≤ 1000) (hv : Val (goneB es) 0 es []) : callN P74 (l + 1) 30 [.tup (es.map Ev.d)] S = .ok (.lst ((rowsOf es).map Row.l), .fr, S) := by
  obtain ⟨y1, y4, y5, y6, h⟩ := loop23 (b := forB (callN P74 l) (.tu [4, 1]) B23) (g := goneB es) (E := some (.tup (es.map Ev.d), false)) (G := some (.lst ((goneL es).map D.int), true)) (S := (l + 1, []) :: S) (by
    intro k e rs x1 x4 x5 x6 F hl hk ho
    exact body23 (callN P74 l) (fun _ => rfl) F hl hk ho) (es := es) (k := 0) (rs := []) (x1 := none) (x4 := none) (x5 := none) (x6 := none) ⟨by simp [nms], by simp, by simp, by simp⟩ (by simp) (by omega) hv
  simp only [List.map_nil, B23] at h
  rw [call_at P74_30]
  simp [runF, evSs, evT, evTo, evEs, evO, evPar, evIt, varO, deref, idxO, L2.atI, L2.ixN, cmpO, eqO, isO, p1O, p2O, binO, intO, modI, mulI, fdivI, powI, addO, kept, modE, modE2, putO, appO, popO, wr, D.lev, D.levL, put, look, setE, setEs, leave, frz, bindO, bindTu, wipeE, srcO, seqO, seq2O, zipO, truO, isaO, cutO, D.isNon, line, Out.bind_ok, Out.of_some, Out.of_none, evE_cst, evE_var, evE_tup, evE_lst, evE_dic0, evE_dic1, evE_bin, evE_neg, evE_notv, evE_andv, evE_orv, evE_cmp, evE_ifx, evE_idx, evE_cut, evE_call, evE_p1, evE_p2, evE_isa, evE_index, evE_comp, evS_pre, evS_set, evS_setSh, evS_setTu, evS_par, evS_setIx, evS_app, evS_appPop, evS_appSd, evS_setSd, evS_ife, evS_for_, evS_wh, evS_ret, evS_retV, evS_exp, Above.eq_1 .. ▸ hS, F74_30]
  rw [loopC_map (f := backD)]
  · simp [filterMap_back, runF, evSs, evT, evTo, evEs, evO, evPar, evIt, varO, deref, idxO, L2.atI, L2.ixN, cmpO, eqO, isO, p1O, p2O, binO, intO, modI, mulI, fdivI, powI, addO, kept, modE, modE2, putO, appO, popO, wr, D.lev, D.levL, put, look, setE, setEs, leave, frz, bindO, bindTu, wipeE, srcO, seqO, seq2O, zipO, truO, isaO, cutO, D.isNon, line, Out.bind_ok, Out.of_some, Out.of_none, evE_cst, evE_var, evE_tup, evE_lst, evE_dic0, evE_dic1, evE_bin, evE_neg, evE_notv, evE_andv, evE_orv, evE_cmp, evE_ifx, evE_idx, evE_cut, evE_call, evE_p1, evE_p2, evE_isa, evE_index, evE_comp, evS_pre, evS_set, evS_setSh, evS_setTu, evS_par, evS_setIx, evS_app, evS_appPop, evS_appSd, evS_setSd, evS_ife, evS_for_, evS_wh, evS_ret, evS_retV, evS_exp]
    rw [h]
    simp [runF, evSs, evT, evTo, evEs, evO, evPar, evIt, varO, deref, idxO, L2.atI, L2.ixN, cmpO, eqO, isO, p1O, p2O, binO, intO, modI, mulI, fdivI, powI, addO, kept, modE, modE2, putO, appO, popO, wr, D.lev, D.levL, put, look, setE, setEs, leave, frz, bindO, bindTu, wipeE, srcO, seqO, seq2O, zipO, truO, isaO, cutO, D.isNon, line, Out.bind_ok, Out.of_some, Out.of_none, evE_cst, evE_var, evE_tup, evE_lst, evE_dic0, evE_dic1, evE_bin, evE_neg, evE_notv, evE_andv, evE_orv, evE_cmp, evE_ifx, evE_idx, evE_cut, evE_call, evE_p1, evE_p2, evE_isa, evE_index, evE_comp, evS_pre, evS_set, evS_setSh, evS_setTu, evS_par, evS_setIx, evS_app, evS_appPop, evS_appSd, evS_setSd, evS_ife, evS_for_, evS_wh, evS_ret, evS_retV, evS_exp, rowsOf]
  · intro e _
    cases e <;> simp [runF, evSs, evT, evTo, evEs, evO, evPar, evIt, varO, deref, idxO, L2.atI, L2.ixN, cmpO, eqO, isO, p1O, p2O, binO, intO, modI, mulI, fdivI, powI, addO, kept, modE, modE2, putO, appO, popO, wr, D.lev, D.levL, put, look, setE, setEs, leave, frz, bindO, bindTu, wipeE, srcO, seqO, seq2O, zipO, truO, isaO, cutO, D.isNon, line, Out.bind_ok, Out.of_some, Out.of_none, evE_cst, evE_var, evE_tup, evE_lst, evE_dic0, evE_dic1, evE_bin, evE_neg, evE_notv, evE_andv, evE_orv, evE_cmp, evE_ifx, evE_idx, evE_cut, evE_call, evE_p1, evE_p2, evE_isa, evE_index, evE_comp, evS_pre, evS_set, evS_setSh, evS_setTu, evS_par, evS_setIx, evS_app, evS_appPop, evS_appSd, evS_setSd, evS_ife, evS_for_, evS_wh, evS_ret, evS_retV, evS_exp, cmpB, Ev.d, backD, n_behind_away, n_behind_instead, n_behind_back, n_behind_settle, n_away_behind, n_away_instead, n_away_back, n_away_settle, n_instead_behind, n_instead_away, n_instead_back, n_instead_settle, n_back_behind, n_back_away, n_back_instead, n_back_settle, n_settle_behind, n_settle_away, n_settle_instead, n_settle_back]
  · simp only [List.length_nil, line]; omega
end Z
end
section
namespace Z
open PySem
/-- _law_same of a leaf with itself -/
theorem same_leaf {l : Nat} {S : Sto} {d : D} (hS : Above (l + 1) S) (h : (∃ i, d = .int i) ∨ (∃ s, d = .str s) ∨ (∃ b, d = .bl b) ∨ d = .non) : callN P74 (l + 1) 18 [d, d] S = .ok (.bl true, .fz, S) := by
  rw [call_at P74_18]
  rcases h with ⟨i, rfl⟩ | ⟨s, rfl⟩ | ⟨b, rfl⟩ | rfl
  · simp [runF, evSs, evT, evTo, evEs, evO, evPar, evIt, varO, deref, idxO, L2.atI, L2.ixN, cmpO, eqO, isO, p1O, p2O, binO, intO, modI, mulI, fdivI, powI, addO, kept, modE, modE2, putO, appO, popO, wr, D.lev, D.levL, put, look, setE, setEs, leave, frz, bindO, bindTu, wipeE, srcO, seqO, seq2O, zipO, truO, isaO, cutO, D.isNon, line, Out.bind_ok, Out.of_some, Out.of_none, evE_cst, evE_var, evE_tup, evE_lst, evE_dic0, evE_dic1, evE_bin, evE_neg, evE_notv, evE_andv, evE_orv, evE_cmp, evE_ifx, evE_idx, evE_cut, evE_call, evE_p1, evE_p2, evE_isa, evE_index, evE_comp, evS_pre, evS_set, evS_setSh, evS_setTu, evS_par, evS_setIx, evS_app, evS_appPop, evS_appSd, evS_setSd, evS_ife, evS_for_, evS_wh, evS_ret, evS_retV, evS_exp, Above.eq_1 .. ▸ hS, F74_18]
  · simp [runF, evSs, evT, evTo, evEs, evO, evPar, evIt, varO, deref, idxO, L2.atI, L2.ixN, cmpO, eqO, isO, p1O, p2O, binO, intO, modI, mulI, fdivI, powI, addO, kept, modE, modE2, putO, appO, popO, wr, D.lev, D.levL, put, look, setE, setEs, leave, frz, bindO, bindTu, wipeE, srcO, seqO, seq2O, zipO, truO, isaO, cutO, D.isNon, line, Out.bind_ok, Out.of_some, Out.of_none, evE_cst, evE_var, evE_tup, evE_lst, evE_dic0, evE_dic1, evE_bin, evE_neg, evE_notv, evE_andv, evE_orv, evE_cmp, evE_ifx, evE_idx, evE_cut, evE_call, evE_p1, evE_p2, evE_isa, evE_index, evE_comp, evS_pre, evS_set, evS_setSh, evS_setTu, evS_par, evS_setIx, evS_app, evS_appPop, evS_appSd, evS_setSd, evS_ife, evS_for_, evS_wh, evS_ret, evS_retV, evS_exp, Above.eq_1 .. ▸ hS, F74_18]
  · cases b <;> simp [runF, evSs, evT, evTo, evEs, evO, evPar, evIt, varO, deref, idxO, L2.atI, L2.ixN, cmpO, eqO, isO, p1O, p2O, binO, intO, modI, mulI, fdivI, powI, addO, kept, modE, modE2, putO, appO, popO, wr, D.lev, D.levL, put, look, setE, setEs, leave, frz, bindO, bindTu, wipeE, srcO, seqO, seq2O, zipO, truO, isaO, cutO, D.isNon, line, Out.bind_ok, Out.of_some, Out.of_none, evE_cst, evE_var, evE_tup, evE_lst, evE_dic0, evE_dic1, evE_bin, evE_neg, evE_notv, evE_andv, evE_orv, evE_cmp, evE_ifx, evE_idx, evE_cut, evE_call, evE_p1, evE_p2, evE_isa, evE_index, evE_comp, evS_pre, evS_set, evS_setSh, evS_setTu, evS_par, evS_setIx, evS_app, evS_appPop, evS_appSd, evS_setSd, evS_ife, evS_for_, evS_wh, evS_ret, evS_retV, evS_exp, Above.eq_1 .. ▸ hS, F74_18]
  · simp [runF, evSs, evT, evTo, evEs, evO, evPar, evIt, varO, deref, idxO, L2.atI, L2.ixN, cmpO, eqO, isO, p1O, p2O, binO, intO, modI, mulI, fdivI, powI, addO, kept, modE, modE2, putO, appO, popO, wr, D.lev, D.levL, put, look, setE, setEs, leave, frz, bindO, bindTu, wipeE, srcO, seqO, seq2O, zipO, truO, isaO, cutO, D.isNon, line, Out.bind_ok, Out.of_some, Out.of_none, evE_cst, evE_var, evE_tup, evE_lst, evE_dic0, evE_dic1, evE_bin, evE_neg, evE_notv, evE_andv, evE_orv, evE_cmp, evE_ifx, evE_idx, evE_cut, evE_call, evE_p1, evE_p2, evE_isa, evE_index, evE_comp, evS_pre, evS_set, evS_setSh, evS_setTu, evS_par, evS_setIx, evS_app, evS_appPop, evS_appSd, evS_setSd, evS_ife, evS_for_, evS_wh, evS_ret, evS_retV, evS_exp, Above.eq_1 .. ▸ hS, F74_18]
theorem loopSame {b : D → Env → Sto → Out Fl} {E G : Option (D × Bool)} {S : Sto} : ∀ {ds : List D} {x y : Option (D × Bool)},
    (∀ d ∈ ds, ∀ x y, b (.tup [d, d]) [E, G, x, y] S = .ok (.nx [E, G, some (d, false), some (d, false)] S)) → ∃ x' y', loopF b (zipD ds ds) [E, G, x, y] S = .ok (.nx [E, G, x', y'] S)
  | [], x, y, _ => ⟨x, y, rfl⟩
  | d :: ds, x, y, h => by
    rw [zipD, loopF, h d (List.mem_cons_self ..)]
    simp only [Out.bind_ok]
    exact loopSame fun e he => h e (List.mem_cons_of_mem _ he)
theorem same_tup {l : Nat} {S : Sto} {ds : List D} (hS : Above (l + 2) S) (h : ∀ d ∈ ds, callN P74 (l + 1) 18 [d, d] ((l + 2, []) :: S) = .ok (.bl true, .fz, (l + 2, []) :: S)) : callN P74 (l + 2) 18 [.tup ds, .tup ds] S = .ok (.bl true, .fz, S) := by
  obtain ⟨x', y', hh⟩ := loopSame (b := forB (callN P74 (l + 1)) (.tu [2, 3]) [(.pre [2, 3] (.ife (.not (.val (.call 18 [(.var 2), (.var 3)]))) [(.ret (.cst (.bl false)))] []))]) (E := some (.tup ds, false)) (G := some (.tup ds, false)) (S := (l + 2, []) :: S) (ds := ds) (x := none) (y := none) (by
    intro d hd x y
    simp [runF, evSs, evT, evTo, evEs, evO, evPar, evIt, varO, deref, idxO, L2.atI, L2.ixN, cmpO, eqO, isO, p1O, p2O, binO, intO, modI, mulI, fdivI, powI, addO, kept, modE, modE2, putO, appO, popO, wr, D.lev, D.levL, put, look, setE, setEs, leave, frz, bindO, bindTu, wipeE, srcO, seqO, seq2O, zipO, truO, isaO, cutO, D.isNon, line, Out.bind_ok, Out.of_some, Out.of_none, evE_cst, evE_var, evE_tup, evE_lst, evE_dic0, evE_dic1, evE_bin, evE_neg, evE_notv, evE_andv, evE_orv, evE_cmp, evE_ifx, evE_idx, evE_cut, evE_call, evE_p1, evE_p2, evE_isa, evE_index, evE_comp, evS_pre, evS_set, evS_setSh, evS_setTu, evS_par, evS_setIx, evS_app, evS_appPop, evS_appSd, evS_setSd, evS_ife, evS_for_, evS_wh, evS_ret, evS_retV, evS_exp, forB, h d hd])
  rw [call_at P74_18]
  simp [runF, evSs, evT, evTo, evEs, evO, evPar, evIt, varO, deref, idxO, L2.atI, L2.ixN, cmpO, eqO, isO, p1O, p2O, binO, intO, modI, mulI, fdivI, powI, addO, kept, modE, modE2, putO, appO, popO, wr, D.lev, D.levL, put, look, setE, setEs, leave, frz, bindO, bindTu, wipeE, srcO, seqO, seq2O, zipO, truO, isaO, cutO, D.isNon, line, Out.bind_ok, Out.of_some, Out.of_none, evE_cst, evE_var, evE_tup, evE_lst, evE_dic0, evE_dic1, evE_bin, evE_neg, evE_notv, evE_andv, evE_orv, evE_cmp, evE_ifx, evE_idx, evE_cut, evE_call, evE_p1, evE_p2, evE_isa, evE_index, evE_comp, evS_pre, evS_set, evS_setSh, evS_setTu, evS_par, evS_setIx, evS_app, evS_appPop, evS_appSd, evS_setSd, evS_ife, evS_for_, evS_wh, evS_ret, evS_retV, evS_exp, Above.eq_1 .. ▸ hS, F74_18]
  rw [hh]
  simp [runF, evSs, evT, evTo, evEs, evO, evPar, evIt, varO, deref, idxO, L2.atI, L2.ixN, cmpO, eqO, isO, p1O, p2O, binO, intO, modI, mulI, fdivI, powI, addO, kept, modE, modE2, putO, appO, popO, wr, D.lev, D.levL, put, look, setE, setEs, leave, frz, bindO, bindTu, wipeE, srcO, seqO, seq2O, zipO, truO, isaO, cutO, D.isNon, line, Out.bind_ok, Out.of_some, Out.of_none, evE_cst, evE_var, evE_tup, evE_lst, evE_dic0, evE_dic1, evE_bin, evE_neg, evE_notv, evE_andv, evE_orv, evE_cmp, evE_ifx, evE_idx, evE_cut, evE_call, evE_p1, evE_p2, evE_isa, evE_index, evE_comp, evS_pre, evS_set, evS_setSh, evS_setTu, evS_par, evS_setIx, evS_app, evS_appPop, evS_appSd, evS_setSd, evS_ife, evS_for_, evS_wh, evS_ret, evS_retV, evS_exp]
end Z
end
section
namespace Z
open PySem
theorem same_en {l : Nat} {S : Sto} {e : D} (hS : Above (l + 3) S) (h : En e) : callN P74 (l + 3) 18 [e, e] S = .ok (.bl true, .fz, S) := by
  have A : Above (l + 2) ((l + 3, []) :: S) := hS.fr
  cases h with
  | two s i =>
    refine same_tup (l := l + 1) hS fun d hd => ?_
    simp only [List.mem_cons, List.mem_nil_iff, or_false] at hd
    rcases hd with rfl | rfl
    · exact same_leaf (l := l + 1) A (.inr (.inl ⟨_, rfl⟩))
    · exact same_leaf (l := l + 1) A (.inl ⟨_, rfl⟩)
  | four s i j b =>
    refine same_tup (l := l + 1) hS fun d hd => ?_
    simp only [List.mem_cons, List.mem_nil_iff, or_false] at hd
    rcases hd with rfl | rfl | rfl | rfl
    · exact same_leaf (l := l + 1) A (.inr (.inl ⟨_, rfl⟩))
    · exact same_leaf (l := l + 1) A (.inl ⟨_, rfl⟩)
    · refine same_tup (l := l) A fun d hd => ?_
      simp only [List.mem_cons, List.mem_nil_iff, or_false] at hd
      subst hd
      exact same_leaf A.fr (.inl ⟨_, rfl⟩)
    · exact same_leaf (l := l + 1) A (.inr (.inr (.inl ⟨_, rfl⟩)))
theorem same_row {l : Nat} {S : Sto} {r : Row} (hS : Above (l + 4) S) (h : En r.en) : callN P74 (l + 4) 18 [r.t, r.t] S = .ok (.bl true, .fz, S) := by
  have A : Above (l + 3) ((l + 4, []) :: S) := hS.fr
  refine same_tup (l := l + 2) hS fun d hd => ?_
  simp only [List.mem_cons, List.mem_nil_iff, or_false] at hd
  rcases hd with rfl | rfl | rfl
  · exact same_leaf (l := l + 2) A (.inl ⟨_, rfl⟩)
  · exact same_en A h
  · exact same_leaf (l := l + 2) A (.inr (.inr (.inl ⟨_, rfl⟩)))
theorem same_rows {l : Nat} {S : Sto} {rs : Rows} (hS : Above (l + 5) S) (h : ∀ r ∈ rs, En r.en) : callN P74 (l + 5) 18 [.tup (rs.map Row.t), .tup (rs.map Row.t)] S = .ok (.bl true, .fz, S) := by
  refine same_tup (l := l + 3) hS fun d hd => ?_
  obtain ⟨r, hr, rfl⟩ := List.mem_map.mp hd
  exact same_row hS.fr (h r hr)
theorem same_log {l : Nat} {S : Sto} {rs : Rows} (hS : Above (l + 5) S) (h : ∀ r ∈ rs, En r.en) : callN P74 (l + 5) 18 [.tup (thereR rs), .tup (thereR rs)] S = .ok (.bl true, .fz, S) := by
  refine same_tup (l := l + 3) hS fun d hd => ?_
  obtain ⟨r, hr, e⟩ := List.mem_filterMap.mp hd
  split at e
  · cases e
    exact same_en (l := l + 1) hS.fr (h r hr)
  · cases e
/-- rows and log, twice -/
theorem same_both {l : Nat} {S : Sto} {rs : Rows} (hS : Above (l + 6) S) (h : ∀ r ∈ rs, En r.en) : callN P74 (l + 6) 18 [.tup [.tup (rs.map Row.t), .tup (thereR rs)], .tup [.tup (rs.map Row.t), .tup (thereR rs)]] S = .ok (.bl true, .fz, S) := by
  refine same_tup (l := l + 4) hS fun d hd => ?_
  simp only [List.mem_cons, List.mem_nil_iff, or_false] at hd
  rcases hd with rfl | rfl
  · exact same_rows hS.fr h
  · exact same_log hS.fr h
end Z
end
section
namespace Z
open PySem
/-- what an event is about: the name, if it can be taken back -/
def about (k : Nat) : Ev → Option Int
  | .beh _ _ => some k
  | .away n => some n
  | .inst n _ => some n
  | _ => none
/-- alike but for the row m -/
inductive AlikeL (m : Int) : Rows → Rows → Prop
  | nil : AlikeL m [] []
  | same (r : Row) {rs qs : Rows} (h : AlikeL m rs qs) : AlikeL m (r :: rs) (r :: qs)
  | other (r q : Row) {rs qs : Rows} (e : r.nm = m) (e2 : q.nm = m) (h : AlikeL m rs qs) : AlikeL m (r :: rs) (q :: qs)
theorem AlikeL.refl (m : Int) : ∀ rs : Rows, AlikeL m rs rs
  | [] => .nil
  | r :: rs => .same r (AlikeL.refl m rs)
theorem AlikeL.nms_eq {m : Int} {rs qs : Rows} (h : AlikeL m rs qs) : nms rs = nms qs := by
  induction h with
  | nil => rfl
  | same r h ih => simp [nms] at ih ⊢; exact ih
  | other r q e e2 h ih => simp [nms, e, e2] at ih ⊢; exact ih
theorem AlikeL.ins {m n : Int} {x : Row} {rs qs : Rows} (h : AlikeL m rs qs) : AlikeL m (insA n x rs) (insA n x qs) := by
  induction h with
  | nil => exact .same x .nil
  | same r h ih =>
    by_cases e : r.nm = n
    · simp only [insA, e, if_true]; exact .same r (.same x h)
    · simp only [insA, e, if_false]; exact .same r ih
  | other r q e e2 h ih =>
    by_cases e3 : m = n
    · subst e3
      simp only [insA, e, e2, if_true]; exact .other r q e e2 (.same x h)
    · simp only [insA, e, e2, e3, if_false]; exact .other r q e e2 ih
theorem AlikeL.turn {m n : Int} {f : Row → Row} (hf : ∀ r, (f r).nm = r.nm) {rs qs : Rows} (h : AlikeL m rs qs) : AlikeL m (rs.map (turnR n f)) (qs.map (turnR n f)) := by
  have ht : ∀ r, (turnR n f r).nm = r.nm := by intro r; unfold turnR; split <;> simp [hf]
  induction h with
  | nil => exact .nil
  | same r h ih => exact .same _ ih
  | other r q e e2 h ih => exact .other _ _ (by rw [ht]; exact e) (by rw [ht]; exact e2) ih
theorem AlikeL.insO {n : Int} {x y : Row} {m : Int} (hx : x.nm = m) (hy : y.nm = m) : ∀ rs : Rows, AlikeL m (insA n x rs) (insA n y rs)
  | [] => .other x y hx hy .nil
  | r :: rs => by
    by_cases e : r.nm = n
    · simp only [insA, e, if_true]; exact .same r (.other x y hx hy (AlikeL.refl m rs))
    · simp only [insA, e, if_false]; exact .same r (AlikeL.insO hx hy rs)
theorem AlikeL.turnO {n : Int} {f : Row → Row} (hf : ∀ r, (f r).nm = r.nm) : ∀ rs : Rows, AlikeL n (rs.map (turnR n f)) rs
  | [] => .nil
  | r :: rs => by
    rw [List.map_cons]
    by_cases h : r.nm = n
    · refine .other _ _ ?_ h (AlikeL.turnO hf rs)
      unfold turnR
      split
      · rw [hf, h]
      · exact h
    · have : turnR n f r = r := by simp [turnR, h]
      rw [this]
      exact .same r (AlikeL.turnO hf rs)
/-- an event behind: what was alike stays alike, if nothing is settled -/
theorem AlikeL.step {m k : Int} {g : Bool} {rs qs : Rows} {e : Ev} (h : AlikeL m rs qs) (he : e ≠ .settle) : AlikeL m (stepR k g rs e) (stepR k g qs e) := by
  cases e with
  | settle => exact absurd rfl he
  | back n => exact h
  | beh n e =>
    simp only [stepR]
    split
    · exact .same _ h
    · exact h.ins
  | away n =>
    cases g
    · exact h.turn (f := fun r => ⟨r.nm, r.en, false⟩) fun _ => rfl
    · exact h
  | inst n e =>
    cases g
    · exact h.turn (f := fun r => ⟨r.nm, e, true⟩) fun _ => rfl
    · exact h
/-- the event taken back: one row at most is another one -/
theorem AlikeL.gone {m : Int} {k : Nat} {rs : Rows} {e : Ev} (h : about k e = some m) : AlikeL m (stepR k false rs e) (stepR k true rs e) := by
  cases e with
  | settle => cases h
  | back n => cases h
  | beh n e =>
    cases h
    simp only [stepR]
    split
    · exact .other _ _ rfl rfl (AlikeL.refl _ _)
    · exact AlikeL.insO (x := ⟨k, e, true⟩) (y := ⟨k, e, false⟩) rfl rfl rs
  | away n => cases h; exact AlikeL.turnO (f := fun r => ⟨r.nm, r.en, false⟩) (fun _ => rfl) rs
  | inst n e => cases h; exact AlikeL.turnO (f := fun r => ⟨r.nm, e, true⟩) (fun _ => rfl) rs
end Z
end
section
namespace Z
open PySem
theorem alike_after {g g' : Int → Bool} {m : Int} : ∀ {es : List Ev} {k : Nat} {rs qs : Rows}, AlikeL m rs qs → (∀ e ∈ es, e ≠ .settle) → (∀ j : Nat, k ≤ j → g j = g' j) → AlikeL m (rowsG g k es rs) (rowsG g' k es qs)
  | [], _, _, _, h, _, _ => h
  | e :: es, k, rs, qs, h, hs, hg => by
    simp only [rowsG]
    rw [hg k (Nat.le_refl k)]
    exact alike_after (h.step (hs e (List.mem_cons_self ..))) (fun e he => hs e (List.mem_cons_of_mem _ he)) fun j hj => hg j (by omega)
/-- the number x, gone too: the rows are alike but for the one that its event is about -/
theorem alike_gone {g g' : Int → Bool} {x : Nat} {m : Int} {ev : Ev} (hg : ∀ j : Nat, j ≠ x → g j = g' j) (hx : g x = false) (hx' : g' x = true) (ha : about x ev = some m) : ∀ {es₁ es₂ : List Ev} {k : Nat} {rs : Rows}, k + es₁.length = x → (∀ e ∈ es₂, e ≠ .settle) → AlikeL m (rowsG g k (es₁ ++ ev :: es₂) rs) (rowsG g' k (es₁ ++ ev :: es₂) rs)
  | [], es₂, k, rs, hk, hs => by
    have hk : k = x := hk
    subst hk
    simp only [List.nil_append, rowsG, hx, hx']
    exact alike_after (AlikeL.gone ha) hs fun j hj => hg j (by omega)
  | e :: es₁, es₂, k, rs, hk, hs => by
    simp only [List.length_cons] at hk
    simp only [List.cons_append, rowsG]
    rw [hg k (by omega)]
    exact alike_gone hg hx hx' ha (by omega) hs
end Z
end
section
namespace Z
open PySem
theorem rowsG_congr {g g' : Int → Bool} : ∀ {es : List Ev} {k : Nat} {rs : Rows}, (∀ j : Nat, k ≤ j → j < k + es.length → g j = g' j) → rowsG g k es rs = rowsG g' k es rs
  | [], _, _, _ => rfl
  | e :: es, k, rs, h => by
    simp only [rowsG]
    rw [h k (Nat.le_refl k) (by simp)]
    exact rowsG_congr fun j h1 h2 => h j (by omega) (by simp only [List.length_cons]; omega)
theorem rowsG_app {g : Int → Bool} : ∀ {es fs : List Ev} {k : Nat} {rs : Rows}, rowsG g k (es ++ fs) rs = rowsG g (k + es.length) fs (rowsG g k es rs)
  | [], _, _, _ => rfl
  | e :: es, fs, k, rs => by
    simp only [List.cons_append, rowsG, List.length_cons]
    rw [rowsG_app]
    congr 1
    omega
theorem rowsG_back {g : Int → Bool} {es : List Ev} {k : Nat} {rs : Rows} {n : Int} : rowsG g k (es ++ [.back n]) rs = rowsG g k es rs := by
  rw [rowsG_app]
  rfl
theorem goneL_app (es fs : List Ev) : goneL (es ++ fs) = goneL es ++ goneL fs := by
  simp [goneL]
theorem goneB_back (es : List Ev) (n j : Int) : goneB (es ++ [.back n]) j = (goneB es j || decide (j = n)) := by
  simp only [goneB, goneL_app, goneL, List.filterMap_cons, List.filterMap_nil, List.mem_append, List.mem_singleton]
  by_cases h1 : j ∈ List.filterMap (fun | Ev.back n => some n | _ => none) es <;> by_cases h2 : j = n <;> simp [h1, h2]
/-- two backs, in either order -/
theorem two_backs (es : List Ev) (a b : Int) : rowsOf (es ++ [.back a, .back b]) = rowsOf (es ++ [.back b, .back a]) := by
  have h : ∀ a b : Int, rowsOf (es ++ [.back a, .back b]) = rowsG (goneB (es ++ [.back a, .back b])) 0 es [] := by
    intro a b
    unfold rowsOf
    rw [rowsG_app]
    rfl
  rw [h, h]
  apply rowsG_congr
  intro j _ _
  have e : ∀ a b : Int, es ++ [Ev.back a, Ev.back b] = es ++ [Ev.back a] ++ [Ev.back b] := by intro a b; simp
  rw [e, e, goneB_back, goneB_back, goneB_back, goneB_back, Bool.or_assoc, Bool.or_assoc, Bool.or_comm (decide _)]
end Z
end
section
namespace Z
open PySem
def numD (p : Ev × Nat) : D := .tup [.int (p.2 : Int), p.1.d]
theorem enumD_map : ∀ (es : List Ev) (k : Nat), enumD k (es.map Ev.d) = (es.zipIdx k).map numD
  | [], _ => rfl
  | e :: es, k => by rw [List.map_cons, enumD_cons, enumD_map es (k + 1)]; rfl
def isSet : Ev → Bool
  | .settle => true
  | _ => false
def isAct : Ev → Bool
  | .beh .. | .away _ | .inst .. => true
  | _ => false
def setsL (es : List Ev) : List Int := es.zipIdx.filterMap fun p => if isSet p.1 then some ((p.2 : Int) + 1) else none
def lastS (es : List Ev) : Int := maxI 0 (setsL es)
def backsL (es : List Ev) : List Int := es.zipIdx.filterMap fun p => if decide (lastS es ≤ (p.2 : Int)) && (isAct p.1 && !goneB es p.2) then some (p.2 : Int) else none
theorem intsOf_map : ∀ xs : List Int, D.intsOf (xs.map D.int) = some xs
  | [] => rfl
  | x :: xs => by simp [D.intsOf, intsOf_map xs]
theorem fm_int {α : Type} (f : α → Option Int) (xs : List α) : xs.filterMap (fun x => (f x).map D.int) = (xs.filterMap f).map D.int := by
  induction xs with
  | nil => rfl
  | cons x xs ih => cases h : f x <;> simp [h, ih]
theorem in3_behind : inO (.str "behind") (.tup [.str "behind", .str "away", .str "instead"]) = .ok true := by kernel_rfl
theorem in3_away : inO (.str "away") (.tup [.str "behind", .str "away", .str "instead"]) = .ok true := by kernel_rfl
theorem in3_instead : inO (.str "instead") (.tup [.str "behind", .str "away", .str "instead"]) = .ok true := by kernel_rfl
theorem in3_back : inO (.str "back") (.tup [.str "behind", .str "away", .str "instead"]) = .ok false := by kernel_rfl
theorem in3_settle : inO (.str "settle") (.tup [.str "behind", .str "away", .str "instead"]) = .ok false := by kernel_rfl
theorem cmpB_len {C : Cal} {b : D → Sto → Out (Option D × Sto)} : True := trivial
set_option maxHeartbeats 0 in
theorem backs_s {l : Nat} {S : Sto} {es : List Ev} (hS : Above (l + 1) S) (hl : es.length ≤ 1000) : callN P74 (l + 1) 31 [.tup (es.map Ev.d)] S = .ok (.lst ((backsL es).map D.int), .fr, S) := by
  have q1 : ∀ (C : Cal) (a0 a1 a2 a3 a4 a5 : Option (D × Bool)) (S : Sto), loopC (cmpB C (.bin .add (.var 4) (.cst (.int 1))) (.tu [4, 5]) (some (.cmp .eq (.idx (.var 5) (.cst (.int 0))) (.cst (.str "settle")))) [3, 4, 5] [a0, a1, a2, a3, a4, a5]) (enumD 0 (es.map Ev.d)) S [] = .ok ((setsL es).map D.int, S) := by
    intro C a0 a1 a2 a3 a4 a5 S
    rw [enumD_map, loopC_map (f := fun p : Ev × Nat => (if isSet p.1 then some ((p.2 : Int) + 1) else none).map D.int), fm_int]
    · rfl
    · intro p _
      obtain ⟨e, k⟩ := p
      cases e <;> simp [runF, evSs, evT, evTo, evEs, evO, evPar, evIt, varO, deref, idxO, L2.atI, L2.ixN, cmpO, eqO, isO, p1O, p2O, binO, intO, modI, mulI, fdivI, powI, addO, kept, modE, modE2, putO, appO, popO, wr, D.lev, D.levL, put, look, setE, setEs, leave, frz, bindO, bindTu, wipeE, srcO, seqO, seq2O, zipO, truO, isaO, cutO, D.isNon, line, Out.bind_ok, Out.of_some, Out.of_none, evE_cst, evE_var, evE_tup, evE_lst, evE_dic0, evE_dic1, evE_bin, evE_neg, evE_notv, evE_andv, evE_orv, evE_cmp, evE_ifx, evE_idx, evE_cut, evE_call, evE_p1, evE_p2, evE_isa, evE_index, evE_comp, evS_pre, evS_set, evS_setSh, evS_setTu, evS_par, evS_setIx, evS_app, evS_appPop, evS_appSd, evS_setSd, evS_ife, evS_for_, evS_wh, evS_ret, evS_retV, evS_exp, cmpB, numD, Ev.d, n_behind_away, n_behind_instead, n_behind_back, n_behind_settle, n_away_behind, n_away_instead, n_away_back, n_away_settle, n_instead_behind, n_instead_away, n_instead_back, n_instead_settle, n_back_behind, n_back_away, n_back_instead, n_back_settle, n_settle_behind, n_settle_away, n_settle_instead, n_settle_back, isSet]
    · simp only [List.length_nil, List.length_zipIdx, line]; omega
  have q2 : ∀ (C : Cal) (a0 a1 a2 a3 a4 a5 : Option (D × Bool)) (S : Sto), loopC (cmpB C (.idx (.var 5) (.cst (.int 1))) (.nm 5) (some (.cmp .eq (.idx (.var 5) (.cst (.int 0))) (.cst (.str "back")))) [3, 5] [a0, a1, a2, a3, a4, a5]) (es.map Ev.d) S [] = .ok ((goneL es).map D.int, S) := by
    intro C a0 a1 a2 a3 a4 a5 S
    rw [loopC_map (f := backD), filterMap_back]
    · rfl
    · intro e _
      cases e <;> simp [runF, evSs, evT, evTo, evEs, evO, evPar, evIt, varO, deref, idxO, L2.atI, L2.ixN, cmpO, eqO, isO, p1O, p2O, binO, intO, modI, mulI, fdivI, powI, addO, kept, modE, modE2, putO, appO, popO, wr, D.lev, D.levL, put, look, setE, setEs, leave, frz, bindO, bindTu, wipeE, srcO, seqO, seq2O, zipO, truO, isaO, cutO, D.isNon, line, Out.bind_ok, Out.of_some, Out.of_none, evE_cst, evE_var, evE_tup, evE_lst, evE_dic0, evE_dic1, evE_bin, evE_neg, evE_notv, evE_andv, evE_orv, evE_cmp, evE_ifx, evE_idx, evE_cut, evE_call, evE_p1, evE_p2, evE_isa, evE_index, evE_comp, evS_pre, evS_set, evS_setSh, evS_setTu, evS_par, evS_setIx, evS_app, evS_appPop, evS_appSd, evS_setSd, evS_ife, evS_for_, evS_wh, evS_ret, evS_retV, evS_exp, cmpB, Ev.d, n_behind_away, n_behind_instead, n_behind_back, n_behind_settle, n_away_behind, n_away_instead, n_away_back, n_away_settle, n_instead_behind, n_instead_away, n_instead_back, n_instead_settle, n_back_behind, n_back_away, n_back_instead, n_back_settle, n_settle_behind, n_settle_away, n_settle_instead, n_settle_back, backD]
    · simp only [List.length_nil, line]; omega
  have q3 : ∀ (C : Cal) (a0 a3 a4 a5 : Option (D × Bool)) (S : Sto), loopC (cmpB C (.var 4) (.tu [4, 5]) (some (.and (.cmp .ge (.var 4) (.var 1)) (.and (.cmp .inn (.idx (.var 5) (.cst (.int 0))) (.tup [(.cst (.str "behind")), (.cst (.str "away")), (.cst (.str "instead"))])) (.cmp .nin (.var 4) (.var 2))))) [3, 4, 5] [a0, some (.int (lastS es), false), some (.lst ((goneL es).map D.int), true), a3, a4, a5]) (enumD 0 (es.map Ev.d)) S [] = .ok ((backsL es).map D.int, S) := by
    intro C a0 a3 a4 a5 S
    rw [enumD_map, loopC_map (f := fun p : Ev × Nat => (if decide (lastS es ≤ (p.2 : Int)) && (isAct p.1 && !goneB es p.2) then some (p.2 : Int) else none).map D.int), fm_int]
    · rfl
    · intro p _
      obtain ⟨e, k⟩ := p
      have hi := in_ints (k := k) (xs := goneL es) (.inl rfl)
      by_cases hk : lastS es ≤ (k : Int)
      · by_cases hg : (k : Int) ∈ goneL es <;> cases e <;> simp [runF, evSs, evT, evTo, evEs, evO, evPar, evIt, varO, deref, idxO, L2.atI, L2.ixN, cmpO, eqO, isO, p1O, p2O, binO, intO, modI, mulI, fdivI, powI, addO, kept, modE, modE2, putO, appO, popO, wr, D.lev, D.levL, put, look, setE, setEs, leave, frz, bindO, bindTu, wipeE, srcO, seqO, seq2O, zipO, truO, isaO, cutO, D.isNon, line, Out.bind_ok, Out.of_some, Out.of_none, evE_cst, evE_var, evE_tup, evE_lst, evE_dic0, evE_dic1, evE_bin, evE_neg, evE_notv, evE_andv, evE_orv, evE_cmp, evE_ifx, evE_idx, evE_cut, evE_call, evE_p1, evE_p2, evE_isa, evE_index, evE_comp, evS_pre, evS_set, evS_setSh, evS_setTu, evS_par, evS_setIx, evS_app, evS_appPop, evS_appSd, evS_setSd, evS_ife, evS_for_, evS_wh, evS_ret, evS_retV, evS_exp, cmpB, numD, Ev.d, n_behind_away, n_behind_instead, n_behind_back, n_behind_settle, n_away_behind, n_away_instead, n_away_back, n_away_settle, n_instead_behind, n_instead_away, n_instead_back, n_instead_settle, n_back_behind, n_back_away, n_back_instead, n_back_settle, n_settle_behind, n_settle_away, n_settle_instead, n_settle_back, isAct, hk, hi, hg, goneB, in3_behind, in3_away, in3_instead, in3_back, in3_settle]
      · cases e <;> simp [runF, evSs, evT, evTo, evEs, evO, evPar, evIt, varO, deref, idxO, L2.atI, L2.ixN, cmpO, eqO, isO, p1O, p2O, binO, intO, modI, mulI, fdivI, powI, addO, kept, modE, modE2, putO, appO, popO, wr, D.lev, D.levL, put, look, setE, setEs, leave, frz, bindO, bindTu, wipeE, srcO, seqO, seq2O, zipO, truO, isaO, cutO, D.isNon, line, Out.bind_ok, Out.of_some, Out.of_none, evE_cst, evE_var, evE_tup, evE_lst, evE_dic0, evE_dic1, evE_bin, evE_neg, evE_notv, evE_andv, evE_orv, evE_cmp, evE_ifx, evE_idx, evE_cut, evE_call, evE_p1, evE_p2, evE_isa, evE_index, evE_comp, evS_pre, evS_set, evS_setSh, evS_setTu, evS_par, evS_setIx, evS_app, evS_appPop, evS_appSd, evS_setSd, evS_ife, evS_for_, evS_wh, evS_ret, evS_retV, evS_exp, cmpB, numD, Ev.d, n_behind_away, n_behind_instead, n_behind_back, n_behind_settle, n_away_behind, n_away_instead, n_away_back, n_away_settle, n_instead_behind, n_instead_away, n_instead_back, n_instead_settle, n_back_behind, n_back_away, n_back_instead, n_back_settle, n_settle_behind, n_settle_away, n_settle_instead, n_settle_back, isAct, hk]
    · simp only [List.length_nil, List.length_zipIdx, line]; omega
  have hs : (setsL es).length ≤ es.length := by
    have := List.length_filterMap_le (fun p : Ev × Nat => if isSet p.1 then some ((p.2 : Int) + 1) else none) es.zipIdx
    simpa [setsL] using this
  have m1 : 1 + (setsL es).length ≤ 16777216 := by omega
  have hI : D.intsOf (D.int 0 :: (setsL es).map D.int) = some (0 :: setsL es) := intsOf_map (0 :: setsL es)
  rw [call_at P74_31]
  simp [runF, evSs, evT, evTo, evEs, evO, evPar, evIt, varO, deref, idxO, L2.atI, L2.ixN, cmpO, eqO, isO, p1O, p2O, binO, intO, modI, mulI, fdivI, powI, addO, kept, modE, modE2, putO, appO, popO, wr, D.lev, D.levL, put, look, setE, setEs, leave, frz, bindO, bindTu, wipeE, srcO, seqO, seq2O, zipO, truO, isaO, cutO, D.isNon, line, Out.bind_ok, Out.of_some, Out.of_none, evE_cst, evE_var, evE_tup, evE_lst, evE_dic0, evE_dic1, evE_bin, evE_neg, evE_notv, evE_andv, evE_orv, evE_cmp, evE_ifx, evE_idx, evE_cut, evE_call, evE_p1, evE_p2, evE_isa, evE_index, evE_comp, evS_pre, evS_set, evS_setSh, evS_setTu, evS_par, evS_setIx, evS_app, evS_appPop, evS_appSd, evS_setSd, evS_ife, evS_for_, evS_wh, evS_ret, evS_retV, evS_exp, Above.eq_1 .. ▸ hS, F74_31, q1, q2, m1, hI]
  have q3' := q3 (callN P74 l) (some (.tup (es.map Ev.d), false)) none none none ((l + 1, []) :: S)
  simp only [lastS] at q3'
  rw [q3']
  simp [runF, evSs, evT, evTo, evEs, evO, evPar, evIt, varO, deref, idxO, L2.atI, L2.ixN, cmpO, eqO, isO, p1O, p2O, binO, intO, modI, mulI, fdivI, powI, addO, kept, modE, modE2, putO, appO, popO, wr, D.lev, D.levL, put, look, setE, setEs, leave, frz, bindO, bindTu, wipeE, srcO, seqO, seq2O, zipO, truO, isaO, cutO, D.isNon, line, Out.bind_ok, Out.of_some, Out.of_none, evE_cst, evE_var, evE_tup, evE_lst, evE_dic0, evE_dic1, evE_bin, evE_neg, evE_notv, evE_andv, evE_orv, evE_cmp, evE_ifx, evE_idx, evE_cut, evE_call, evE_p1, evE_p2, evE_isa, evE_index, evE_comp, evS_pre, evS_set, evS_setSh, evS_setTu, evS_par, evS_setIx, evS_app, evS_appPop, evS_appSd, evS_setSd, evS_ife, evS_for_, evS_wh, evS_ret, evS_retV, evS_exp]
end Z
end
section
namespace Z
open PySem
theorem goneB_ne (es : List Ev) (e : Ev) (h : ∀ n, e ≠ .back n) : goneB (es ++ [e]) = goneB es := by
  funext j
  have : goneL (es ++ [e]) = goneL es := by
    rw [goneL_app]
    cases e with
    | back n => exact absurd rfl (h n)
    | _ => simp [goneL]
  simp only [goneB, this]
theorem Val_app {g : Int → Bool} : ∀ {es fs : List Ev} {k : Nat} {rs : Rows}, Val g k (es ++ fs) rs ↔ Val g k es rs ∧ Val g (k + es.length) fs (rowsG g k es rs)
  | [], fs, k, rs => by simp [Val, rowsG]
  | e :: es, fs, k, rs => by
    have e2 : k + (es.length + 1) = k + 1 + es.length := by omega
    simp only [List.cons_append, Val, rowsG, List.length_cons, Val_app (es := es), e2, and_assoc]
theorem Val_congr {g g' : Int → Bool} : ∀ {es : List Ev} {k : Nat} {rs : Rows}, (∀ j : Nat, k ≤ j → j < k + es.length → g j = g' j) → Val g k es rs → Val g' k es rs
  | [], _, _, _, _ => trivial
  | e :: es, k, rs, h, v => by
    refine ⟨v.1, v.2.1, ?_⟩
    rw [← h k (Nat.le_refl k) (by simp)]
    exact Val_congr (fun j h1 h2 => h j (by omega) (by simp only [List.length_cons]; omega)) v.2.2
theorem okE_alike {rs qs : Rows} {e : Ev} (h : nms rs = nms qs) (o : okE rs e) : okE qs e := by
  cases e with
  | beh n e => simpa only [okE, h] using o
  | _ => trivial
theorem Val_after {g g' : Int → Bool} {m : Int} : ∀ {es : List Ev} {k : Nat} {rs qs : Rows}, AlikeL m rs qs → (∀ e ∈ es, e ≠ .settle) → (∀ j : Nat, k ≤ j → g j = g' j) → Val g k es rs → Val g' k es qs
  | [], _, _, _, _, _, _, _ => trivial
  | e :: es, k, rs, qs, h, hs, hg, v => by
    refine ⟨okE_alike h.nms_eq v.1, v.2.1, ?_⟩
    rw [← hg k (Nat.le_refl k)]
    exact Val_after (h.step (hs e (List.mem_cons_self ..))) (fun e he => hs e (List.mem_cons_of_mem _ he)) (fun j hj => hg j (by omega)) v.2.2
theorem Val_gone {g g' : Int → Bool} {x : Nat} {m : Int} {ev : Ev} (hg : ∀ j : Nat, j ≠ x → g j = g' j) (hx : g x = false) (hx' : g' x = true) (ha : about x ev = some m) : ∀ {es₁ es₂ : List Ev} {k : Nat} {rs : Rows}, k + es₁.length = x → (∀ e ∈ es₂, e ≠ .settle) → Val g k (es₁ ++ ev :: es₂) rs → Val g' k (es₁ ++ ev :: es₂) rs
  | [], es₂, k, rs, hk, hs, v => by
    have hk : k = x := hk
    subst hk
    refine ⟨v.1, v.2.1, ?_⟩
    have v2 := v.2.2
    rw [hx] at v2
    rw [hx']
    exact Val_after (AlikeL.gone ha) hs (fun j hj => hg j (by omega)) v2
  | e :: es₁, es₂, k, rs, hk, hs, v => by
    simp only [List.length_cons] at hk
    refine ⟨v.1, v.2.1, ?_⟩
    have v2 := v.2.2
    rw [← hg k (by omega)]
    exact Val_gone hg hx hx' ha (by omega) hs v2
theorem le_maxI : ∀ {is : List Int} {i x : Int}, x ∈ i :: is → x ≤ maxI i is
  | [], i, x, h => by simp at h; simp [maxI, h]
  | j :: js, i, x, h => by
    rw [maxI]
    simp only [List.mem_cons] at h
    have h1 := @le_maxI js (if j > i then j else i) (if j > i then j else i) (List.mem_cons_self ..)
    rcases h with rfl | rfl | h
    · split at h1 <;> split <;> simp_all <;> omega
    · split at h1 <;> split <;> simp_all <;> omega
    · exact le_maxI (List.mem_cons_of_mem _ h)
/-- what can be taken back -/
theorem mem_backs {es : List Ev} {n : Int} (h : n ∈ backsL es) : ∃ es₁ ev es₂ m, es = es₁ ++ ev :: es₂ ∧ n = (es₁.length : Int) ∧ about es₁.length ev = some m ∧ goneB es n = false ∧ (∀ e ∈ es₂, e ≠ .settle) ∧ lastS es ≤ n := by
  unfold backsL at h
  obtain ⟨⟨ev, k⟩, hp, hn⟩ := List.mem_filterMap.mp h
  have hk := List.mem_zipIdx_iff_getElem?.mp hp
  simp only at hk hn
  split at hn
  case isFalse => cases hn
  case isTrue hc =>
    cases hn
    simp only [Bool.and_eq_true, decide_eq_true_eq, Bool.not_eq_true'] at hc
    obtain ⟨c1, c2, c3⟩ := hc
    obtain ⟨hlt, hget⟩ := List.getElem?_eq_some_iff.mp hk
    have hm : ∃ m, about k ev = some m := by cases ev <;> simp [isAct, about] at c2 ⊢
    obtain ⟨m, hm⟩ := hm
    have hl : (es.take k).length = k := by simp; omega
    refine ⟨es.take k, ev, es.drop (k + 1), m, ?_, by rw [hl], by rw [hl]; exact hm, c3, ?_, c1⟩
    · rw [← hget, List.getElem_cons_drop]
      exact (List.take_append_drop k es).symm
    · intro e he hse
      subst hse
      obtain ⟨i, hi⟩ := List.mem_iff_getElem?.mp he
      rw [List.getElem?_drop] at hi
      have hz : (Ev.settle, k + 1 + i) ∈ es.zipIdx := List.mem_zipIdx_iff_getElem?.mpr hi
      have hs : ((k + 1 + i : Nat) : Int) + 1 ∈ setsL es := List.mem_filterMap.mpr ⟨_, hz, by simp [isSet]⟩
      have := le_maxI (i := 0) (List.mem_cons_of_mem 0 hs)
      simp only [lastS] at c1
      omega
/-- what is drawn -/
structure Can (es : List Ev) (e : Ev) : Prop where
  ok : okE (rowsOf es) e
  en : e.en
  bk : ∀ n, e = .back n → n ∈ backsL es
def VV (es : List Ev) : Prop := Val (goneB es) 0 es []
theorem VV.back {es : List Ev} {n : Int} (v : VV es) (h : n ∈ backsL es) : VV (es ++ [.back n]) ∧ ∃ m, AlikeL m (rowsOf es) (rowsOf (es ++ [.back n])) := by
  obtain ⟨es₁, ev, es₂, m, he, hn, ha, hg, hs, _⟩ := mem_backs h
  have hg1 : ∀ j : Nat, j ≠ es₁.length → goneB es j = goneB (es ++ [.back n]) j := by
    intro j hj
    rw [goneB_back]
    have : ¬ ((j : Int) = n) := by omega
    simp [this]
  have hx : goneB es (es₁.length : Int) = false := by rw [← hn]; exact hg
  have hx' : goneB (es ++ [.back n]) (es₁.length : Int) = true := by rw [goneB_back, hn]; simp
  have v2 : Val (goneB (es ++ [.back n])) 0 es [] := by
    have v1 : Val (goneB es) 0 es [] := v
    generalize goneB es = g at *
    generalize goneB (es ++ [.back n]) = g' at *
    subst he
    exact Val_gone hg1 hx hx' ha (by omega) hs v1
  refine ⟨?_, m, ?_⟩
  · show Val _ _ _ _
    rw [Val_app]
    exact ⟨v2, trivial, trivial, trivial⟩
  · unfold rowsOf
    rw [rowsG_back]
    generalize goneB es = g at *
    generalize goneB (es ++ [.back n]) = g' at *
    subst he
    exact alike_gone hg1 hx hx' ha (by omega) hs
theorem VV.step {es : List Ev} {e : Ev} (v : VV es) (c : Can es e) : VV (es ++ [e]) := by
  by_cases hb : ∃ n, e = .back n
  · obtain ⟨n, rfl⟩ := hb
    exact (v.back (c.bk n rfl)).1
  · show Val _ _ _ _
    rw [goneB_ne es e fun n hn => hb ⟨n, hn⟩, Val_app]
    exact ⟨v, c.ok, c.en, trivial⟩
/-- each beginning of the life -/
def Good (es : List Ev) : Prop := ∀ c, VV (es.take c)
theorem Good.nil : Good [] := fun c => by rw [List.take_nil]; exact trivial
theorem Good.vv {es : List Ev} (h : Good es) : VV es := by have := h es.length; rwa [List.take_length] at this
theorem Good.snoc {es : List Ev} {e : Ev} (h : Good es) (v : VV (es ++ [e])) : Good (es ++ [e]) := by
  intro c
  by_cases hc : c ≤ es.length
  · rw [List.take_append_of_le_length hc]
    exact h c
  · rw [List.take_of_length_le (by simp; omega)]
    exact v
theorem Good.step {es : List Ev} {e : Ev} (h : Good es) (c : Can es e) : Good (es ++ [e]) := h.snoc (h.vv.step c)
theorem Fresh.rows {g : Int → Bool} : ∀ {es : List Ev} {k : Nat} {rs : Rows}, Fresh k rs → Val g k es rs → Fresh (k + es.length) (rowsG g k es rs)
  | [], _, _, F, _ => F
  | e :: es, k, rs, F, v => by
    have := Fresh.rows (F.step (g := g k) v.2.1) v.2.2
    rw [show k + (e :: es).length = k + 1 + es.length by simp only [List.length_cons]; omega]
    exact this
theorem Fresh.nil : Fresh 0 [] := ⟨by simp [nms], by simp, by simp, by simp⟩
theorem VV.fresh {es : List Ev} (v : VV es) : Fresh es.length (rowsOf es) := by
  have := Fresh.rows Fresh.nil v
  rwa [Nat.zero_add] at this
theorem rowsG_len {g : Int → Bool} : ∀ {es : List Ev} {k : Nat} {rs : Rows}, (rowsG g k es rs).length ≤ rs.length + es.length
  | [], _, _ => Nat.le_refl _
  | e :: es, k, rs => by
    have h1 := @rowsG_len g es (k + 1) (stepR k (g k) rs e)
    have h2 := @len_step k (g k) rs e
    simp only [rowsG, List.length_cons]
    omega
theorem rowsOf_len (es : List Ev) : (rowsOf es).length ≤ es.length := by
  have := @rowsG_len (goneB es) es 0 []
  simpa [rowsOf] using this
/-- a name's row tells whether it is there -/
theorem any_th : ∀ {rs : Rows}, (nms rs).Nodup → ∀ r ∈ rs, (rs.any fun q => decide (q.nm = r.nm) && q.th) = r.th
  | [], _, r, h => by cases h
  | q :: rs, nd, r, h => by
    have nd' : q.nm ∉ nms rs ∧ (nms rs).Nodup := by simpa [nms] using nd
    rw [List.any_cons]
    rcases List.mem_cons.mp h with rfl | h
    · have hn : (rs.any fun q => decide (q.nm = r.nm) && q.th) = false := by
        rw [List.any_eq_false]
        intro q hq hc
        simp only [Bool.and_eq_true, decide_eq_true_eq] at hc
        exact nd'.1 (by rw [← hc.1]; exact List.mem_map.mpr ⟨q, hq, rfl⟩)
      rw [hn]
      simp
    · rw [any_th nd'.2 r h]
      have : ¬ q.nm = r.nm := fun e => nd'.1 (by rw [e]; exact List.mem_map.mpr ⟨r, h, rfl⟩)
      simp [this]
end Z
end
section
namespace Z
open PySem
theorem run_nx {C : Cal} {s : St} {ss : List St} {env env' : Env} {S S' : Sto} (h : evS C s env S = .ok (.nx env' S')) : evSs C (s :: ss) env S = evSs C ss env' S' := by
  rw [evSs, h]; rfl
theorem run_rt {C : Cal} {s : St} {ss : List St} {env : Env} {S S' : Sto} {d : D} {k : K3} (h : evS C s env S = .ok (.rt d k S')) : evSs C (s :: ss) env S = .ok (.rt d k S') := by
  rw [evSs, h]; rfl
theorem run_app {C : Cal} {ts : List St} : ∀ {ss : List St} {env env' : Env} {S S' : Sto}, evSs C ss env S = .ok (.nx env' S') → evSs C (ss ++ ts) env S = evSs C ts env' S'
  | [], env, env', S, S', h => by
    rw [evSs] at h
    cases h
    rfl
  | s :: ss, env, env', S, S', h => by
    rw [evSs] at h
    rw [List.cons_append, evSs]
    cases hs : evS C s env S with
    | no => rw [hs] at h; cases h
    | ex c d q => rw [hs] at h; cases h
    | ok f =>
      rw [hs] at h
      cases f with
      | nx e q => exact run_app h
      | rt d k q => cases h
      | bk e q => cases h
      | ct e q => cases h
theorem run_fn {P : Nat → Option Fn} {f l : Nat} {fn : Fn} {ds : List D} {S S' : Sto} {d : D} {k : K3} (hP : P f = some fn) (hn : ds.length = fn.np) (hS : Above (l + 1) S) (he : evSs (callN P l) fn.body (ds.map (fun d => some (d, false)) ++ List.replicate (fn.ns - fn.np) none) ((l + 1, []) :: S) = .ok (.rt d k ((l + 1, []) :: S'))) : callN P (l + 1) f ds S = .ok (d, k, S') := by
  rw [call_at hP]
  have h1 : (decide (ds.length = fn.np) && S.all (fun r => decide (l + 1 < r.1))) = true := by rw [Above] at hS; simp [hn, hS]
  rw [runF, if_pos h1, he]
  simp [leave]
theorem pt_same : ∀ {S : Sto} {l i : Nat} {d : D}, look S l i = some d → put S l i d = S
  | [], _, _, _, h => rfl
  | r :: S, l, i, d, h => by
    by_cases e : l = r.1
    · rw [look, if_pos e] at h
      obtain ⟨h1, h2⟩ := List.getElem?_eq_some_iff.mp h
      rw [put, if_pos e]
      have : r.2.set i d = r.2 := by rw [← h2]; exact List.set_getElem_self h1
      rw [this]
    · rw [look, if_neg e] at h
      rw [put, if_neg e, pt_same h]
theorem Up.refl {S : Sto} {i : Nat} (b : Bx S i) : Up S i S := by
  obtain ⟨a, c, h⟩ := b
  exact ⟨a, c, (pt_same h).symm⟩
theorem loop12 {l i : Nat} {c : Option (D × Bool)} (hl : l < 23) : ∀ {ts left found : List D} {S : Sto} {x : Option (D × Bool)}, Bx S i → Above (l + 2) S → ts.length = left.length → left.length < 1073741824 → found.length + left.length ≤ line →
    ∃ found' left' x' S', loopF (forB (callN P74 (l + 1)) (.nm 4) [(.pre [0] (.appPop 3 2 (.call 16 [(.var 0), (.p1 .len (.var 2))])))]) ts [some (.ref 25 i, false), c, some (.lst left, true), some (.lst found, true), x] ((l + 2, []) :: S) = .ok (.nx [some (.ref 25 i, false), c, some (.lst left', true), some (.lst found', true), x'] ((l + 2, []) :: S')) ∧ Up S i S' ∧ found'.length = found.length + left.length ∧ ∀ d ∈ found', d ∈ found ∨ d ∈ left
  | [], left, found, S, x, hb, hS, h1, h2, h3 => by
    refine ⟨found, left, x, S, rfl, Up.refl hb, ?_, fun d hd => .inl hd⟩
    simp at h1
    omega
  | t :: ts, left, found, S, x, hb, hS, h1, h2, h3 => by
    simp only [List.length_cons] at h1
    have hp : 0 < left.length := by omega
    obtain ⟨d, S1, h, u, d0, d1⟩ := take_f (l := l) (i := i) (m := left.length) hl hS hb (by omega) (by omega)
    have hj : d.toNat < left.length := by omega
    have hg : left[d.toNat]? = some left[d.toNat] := List.getElem?_eq_getElem hj
    have hfl : found.length < 16777216 := by simp only [line] at h3; omega
    have el : (left.eraseIdx d.toNat).length = left.length - 1 := List.length_eraseIdx_of_lt hj
    obtain ⟨found', left', x', S', q, v, q1, q2⟩ := loop12 hl (ts := ts) (left := left.eraseIdx d.toNat) (found := found ++ [left[d.toNat]]) (S := S1) (x := some (t, false)) (c := c) (u.bx hb) (u.above hS) (by omega) (by omega) (by simp only [List.length_append, List.length_cons, List.length_nil]; omega)
    refine ⟨found', left', x', S', ?_, u.trans v, ?_, fun e he => ?_⟩
    · rw [loopF]
      have hbody : forB (callN P74 (l + 1)) (.nm 4) [(.pre [0] (.appPop 3 2 (.call 16 [(.var 0), (.p1 .len (.var 2))])))] t [some (.ref 25 i, false), c, some (.lst left, true), some (.lst found, true), x] ((l + 2, []) :: S) = .ok (.nx [some (.ref 25 i, false), c, some (.lst (left.eraseIdx d.toNat), true), some (.lst (found ++ [left[d.toNat]]), true), some (t, false)] ((l + 2, []) :: S1)) := by
        simp [runF, evSs, evT, evTo, evEs, evO, evPar, evIt, varO, deref, idxO, L2.atI, L2.ixN, cmpO, eqO, isO, p1O, p2O, binO, intO, modI, mulI, fdivI, powI, addO, kept, modE, modE2, putO, appO, popO, wr, D.lev, D.levL, put, look, setE, setEs, leave, frz, bindO, bindTu, wipeE, srcO, seqO, seq2O, zipO, truO, isaO, cutO, D.isNon, line, Out.bind_ok, Out.of_some, Out.of_none, evE_cst, evE_var, evE_tup, evE_lst, evE_dic0, evE_dic1, evE_bin, evE_neg, evE_notv, evE_andv, evE_orv, evE_cmp, evE_ifx, evE_idx, evE_cut, evE_call, evE_p1, evE_p2, evE_isa, evE_index, evE_comp, evS_pre, evS_set, evS_setSh, evS_setTu, evS_par, evS_setIx, evS_app, evS_appPop, evS_appSd, evS_setSd, evS_ife, evS_for_, evS_wh, evS_ret, evS_retV, evS_exp, forB, h, popO, d0, d1, hg, hfl]
      rw [hbody]
      exact q
    · simp only [List.length_append, List.length_cons, List.length_nil] at q1
      omega
    · rcases q2 e he with h | h
      · rcases List.mem_append.mp h with h | h
        · exact .inl h
        · simp only [List.mem_singleton] at h
          rw [h]
          exact .inr (List.getElem_mem hj)
      · exact .inr (List.mem_of_mem_eraseIdx h)
def s8a : List St := [
    (.set 2 (.bin .add (.bin .mul (.cst (.int 35023)) (.var 1)) (.cst (.int 5303)))),
    (.ife (.cmp .lt (.var 1) (.p1 .len (.var 0))) [
    (.set 2 (.p1 .abs (.p1 .int (.idx (.var 0) (.var 1)))))] [
    (.ife (.cmp .gt (.p1 .len (.var 0)) (.cst (.int 0))) [
    (.set 2 (.bin .add (.var 2) (.bin .mul (.bin .mod (.p1 .int (.p1 .abs (.p1 .int (.idx (.var 0) (.bin .mod (.p1 .int (.var 1)) (.p1 .len (.var 0))))))) (.cst (.int 2147483563))) (.cst (.int 90149)))))] [
    ])])]
def s8b : List St := [(.pre [2] (.set 3 (.ifx (.cmp .ge (.var 2) (.bin .pow (.cst (.int 10)) (.cst (.int 18)))) (.var 2) (.cst (.int 0))))),
    (.pre [3] (.ret (.lst [(.var 3), (.bin .add (.bin .mod (.p1 .int (.bin .add (.bin .mul (.bin .mod (.p1 .int (.var 2)) (.cst (.int 2147483563))) (.cst (.int 54250013))) (.bin .mul (.cst (.int 5303)) (.var 1)))) (.cst (.int 2147483563))) (.cst (.int 1)))])))]
theorem F8 : F74_15.np = 2 ∧ F74_15.ns = 4 ∧ F74_15.body = s8a ++ s8b := by unfold F74_15; exact ⟨rfl, rfl, rfl⟩
theorem b8 (C : Cal) (x : D) (k c : Int) (S : Sto) : ∃ a b : Int, evSs C s8b [some (x, false), some (.int k, false), some (.int c, false), none] S = .ok (.rt (.lst [.int a, .int b]) .fr S) := by
  by_cases h : (1000000000000000000 : Int) ≤ c
  · exact ⟨c, _, by simp [runF, evSs, evT, evTo, evEs, evO, evPar, evIt, varO, deref, idxO, L2.atI, L2.ixN, cmpO, eqO, isO, p1O, p2O, binO, intO, modI, mulI, fdivI, powI, addO, kept, modE, modE2, putO, appO, popO, wr, D.lev, D.levL, put, look, setE, setEs, leave, frz, bindO, bindTu, wipeE, srcO, seqO, seq2O, zipO, truO, isaO, cutO, D.isNon, line, Out.bind_ok, Out.of_some, Out.of_none, evE_cst, evE_var, evE_tup, evE_lst, evE_dic0, evE_dic1, evE_bin, evE_neg, evE_notv, evE_andv, evE_orv, evE_cmp, evE_ifx, evE_idx, evE_cut, evE_call, evE_p1, evE_p2, evE_isa, evE_index, evE_comp, evS_pre, evS_set, evS_setSh, evS_setTu, evS_par, evS_setIx, evS_app, evS_appPop, evS_appSd, evS_setSd, evS_ife, evS_for_, evS_wh, evS_ret, evS_retV, evS_exp, s8b, h]; rfl⟩
  · exact ⟨0, _, by simp [runF, evSs, evT, evTo, evEs, evO, evPar, evIt, varO, deref, idxO, L2.atI, L2.ixN, cmpO, eqO, isO, p1O, p2O, binO, intO, modI, mulI, fdivI, powI, addO, kept, modE, modE2, putO, appO, popO, wr, D.lev, D.levL, put, look, setE, setEs, leave, frz, bindO, bindTu, wipeE, srcO, seqO, seq2O, zipO, truO, isaO, cutO, D.isNon, line, Out.bind_ok, Out.of_some, Out.of_none, evE_cst, evE_var, evE_tup, evE_lst, evE_dic0, evE_dic1, evE_bin, evE_neg, evE_notv, evE_andv, evE_orv, evE_cmp, evE_ifx, evE_idx, evE_cut, evE_call, evE_p1, evE_p2, evE_isa, evE_index, evE_comp, evS_pre, evS_set, evS_setSh, evS_setTu, evS_par, evS_setIx, evS_app, evS_appPop, evS_appSd, evS_setSd, evS_ife, evS_for_, evS_wh, evS_ret, evS_retV, evS_exp, s8b, h]; rfl⟩
theorem a8 (C : Cal) (ns : List Int) (k : Nat) (S : Sto) : ∃ c : Int, evSs C s8a [some (.lst (ns.map D.int), false), some (.int k, false), none, none] S = .ok (.nx [some (.lst (ns.map D.int), false), some (.int k, false), some (.int c, false), none] S) := by
  by_cases h1 : k < ns.length
  · exact ⟨_, by simp [runF, evSs, evT, evTo, evEs, evO, evPar, evIt, varO, deref, idxO, L2.atI, L2.ixN, cmpO, eqO, isO, p1O, p2O, binO, intO, modI, mulI, fdivI, powI, addO, kept, modE, modE2, putO, appO, popO, wr, D.lev, D.levL, put, look, setE, setEs, leave, frz, bindO, bindTu, wipeE, srcO, seqO, seq2O, zipO, truO, isaO, cutO, D.isNon, line, Out.bind_ok, Out.of_some, Out.of_none, evE_cst, evE_var, evE_tup, evE_lst, evE_dic0, evE_dic1, evE_bin, evE_neg, evE_notv, evE_andv, evE_orv, evE_cmp, evE_ifx, evE_idx, evE_cut, evE_call, evE_p1, evE_p2, evE_isa, evE_index, evE_comp, evS_pre, evS_set, evS_setSh, evS_setTu, evS_par, evS_setIx, evS_app, evS_appPop, evS_appSd, evS_setSd, evS_ife, evS_for_, evS_wh, evS_ret, evS_retV, evS_exp, s8a, h1]; rfl⟩
  · by_cases h2 : 0 < ns.length
    · have hm0 : (0 : Int) ≤ (k : Int) % ns.length := Int.emod_nonneg _ (by omega)
      have hm1 : (k : Int) % ns.length < ns.length := Int.emod_lt_of_pos _ (by omega)
      have hj : ((k : Int) % ns.length).toNat < ns.length := by omega
      exact ⟨_, by simp [runF, evSs, evT, evTo, evEs, evO, evPar, evIt, varO, deref, idxO, L2.atI, L2.ixN, cmpO, eqO, isO, p1O, p2O, binO, intO, modI, mulI, fdivI, powI, addO, kept, modE, modE2, putO, appO, popO, wr, D.lev, D.levL, put, look, setE, setEs, leave, frz, bindO, bindTu, wipeE, srcO, seqO, seq2O, zipO, truO, isaO, cutO, D.isNon, line, Out.bind_ok, Out.of_some, Out.of_none, evE_cst, evE_var, evE_tup, evE_lst, evE_dic0, evE_dic1, evE_bin, evE_neg, evE_notv, evE_andv, evE_orv, evE_cmp, evE_ifx, evE_idx, evE_cut, evE_call, evE_p1, evE_p2, evE_isa, evE_index, evE_comp, evS_pre, evS_set, evS_setSh, evS_setTu, evS_par, evS_setIx, evS_app, evS_appPop, evS_appSd, evS_setSd, evS_ife, evS_for_, evS_wh, evS_ret, evS_retV, evS_exp, s8a, h1, h2, hm0, hm1, hj]; rfl⟩
    · have h3 : ns = [] := List.eq_nil_of_length_eq_zero (by omega)
      subst h3
      exact ⟨_, by simp [runF, evSs, evT, evTo, evEs, evO, evPar, evIt, varO, deref, idxO, L2.atI, L2.ixN, cmpO, eqO, isO, p1O, p2O, binO, intO, modI, mulI, fdivI, powI, addO, kept, modE, modE2, putO, appO, popO, wr, D.lev, D.levL, put, look, setE, setEs, leave, frz, bindO, bindTu, wipeE, srcO, seqO, seq2O, zipO, truO, isaO, cutO, D.isNon, line, Out.bind_ok, Out.of_some, Out.of_none, evE_cst, evE_var, evE_tup, evE_lst, evE_dic0, evE_dic1, evE_bin, evE_neg, evE_notv, evE_andv, evE_orv, evE_cmp, evE_ifx, evE_idx, evE_cut, evE_call, evE_p1, evE_p2, evE_isa, evE_index, evE_comp, evS_pre, evS_set, evS_setSh, evS_setTu, evS_par, evS_setIx, evS_app, evS_appPop, evS_appSd, evS_setSd, evS_ife, evS_for_, evS_wh, evS_ret, evS_retV, evS_exp, s8a]; rfl⟩
theorem box_s {l : Nat} {S : Sto} {ns : List Int} {k : Nat} (hS : Above (l + 1) S) :
    ∃ a b, callN P74 (l + 1) 15 [.lst (ns.map D.int), .int k] S = .ok (.lst [.int a, .int b], .fr, S) := by
  obtain ⟨c, h1⟩ := a8 (callN P74 l) ns k ((l + 1, []) :: S)
  obtain ⟨a, b, h2⟩ := b8 (callN P74 l) (.lst (ns.map D.int)) k c ((l + 1, []) :: S)
  refine ⟨a, b, run_fn P74_15 F8.1.symm hS ?_⟩
  rw [F8.1, F8.2.1, F8.2.2]
  show evSs _ _ [some (.lst (ns.map D.int), false), some (.int k, false), none, none] _ = _
  rw [run_app h1]
  exact h2
end Z
end
section
namespace Z
open PySem
theorem Up.one {bs : List D} {i : Nat} {S : Sto} (u : Up [(25, bs)] i S) : ∃ bs', S = [(25, bs')] := by
  obtain ⟨a, c, rfl⟩ := u
  exact ⟨_, rfl⟩
theorem ne_ints (xs : List Int) : cmpO .ne (.lst (xs.map D.int)) (.lst []) = .ok (!xs.isEmpty) := by
  cases xs with
  | nil => rfl
  | cons x xs =>
    have h := ok_ints (x :: xs)
    have h2 : ∀ n, D.okNL n ((x :: xs).map D.int) = true := by
      intro n
      generalize x :: xs = ys
      induction ys with
      | nil => rfl
      | cons y ys ih => simp [D.okNL, D.okN, ih]
    have h3 := h2 59
    simp only [List.map_cons] at h3
    simp [cmpO, eqO, D.ok, D.okN, D.okNL, h3, D.eqv, D.eqvL]
def lots : List D := [.tup [], .tup [.int 0], .tup [.int 3], .tup [.int 0, .int 3], .tup [.int 2], .tup [.int 4], .tup [.int 2, .int 4], .tup [.int 1]]
def lotN (n : Nat) : D := (lots[n]?).getD (.tup [])
def codeL (d : D) : Nat := lots.findIdx fun e => D.eqv e d
def bitsOf (d : D) : List Int := match d with
  | .lst ds => ds.filterMap fun | .int i => some i | _ => none
  | _ => []
def outD : Out Res → D
  | .ok (d, _, _) => d
  | _ => .non
def bh (a d s : Nat) (r : Bool) : Nat := codeL (outD (callN P74 23 32 [Wd, lotN a, .tup [.int d, .tup [.int s], .bl r]] [(24, []), (25, [])]))
def mn (h s : Nat) : Nat := codeL (outD (callN P74 23 26 [Wd, .tup [.int (3 * h)], .tup [.int s]] [(24, []), (25, [])]))
def slotD (i : Nat) : Out Fl → D
  | .ok (.nx env _) => match env[i]? with | some (some (d, _)) => d | _ => .non
  | _ => .non
def st1 : St := (.pre [1, 2, 7, 4] (.set 8 (.ifx (.cmp .inn (.var 4) (.var 7)) (.call 29 [(.var 1), (.var 2), (.var 7), (.var 4)]) (.lst []))))
def st3 : List St := [
    (.set 10 (.idx (.idx (.idx (.var 1) (.cst (.int 0))) (.var 5)) (.var 9))),
    (.pre [10, 10, 18] (.set 11 (.ifx (.val (.idx (.idx (.var 1) (.cst (.int 4))) (.var 10))) (.lst [(.tup [(.cst (.bl false)), (.var 10)])]) (.bin .add (.lst [(.tup [(.cst (.bl false)), (.var 10)])]) (.comp (.tup [(.idx (.idx (.var 1) (.cst (.int 2))) (.var 17)), (.var 18)]) (.tu [17, 18]) (.enum (.idx (.idx (.var 1) (.cst (.int 1))) (.var 10))) (some (.cmp .isn (.var 18) (.cst .non))) [16, 17, 18])))))]
def st7 : St := (.pre [13, 4] (.set 14 (.comp (.var 13) (.nm 13) (.rng (.cst (.int 0)) (.p1 .len (.var 2))) (some (.and (.cmp .ne (.var 4) (.tup [])) (.val (.call 24 [(.var 4), (.idx (.var 2) (.var 13))])))) [16, 13])))
def gi (mm a : Nat) : List Int := bitsOf (slotD 8 (evS (callN P74 23) st1 [none, some (Wd, false), some (Bkk mm, false), none, some (lotN a, false), none, none, some (Gkk mm, false), none, none, none, none, none, none, none, none, none, none, none] [(24, []), (25, [])]))
def wi (mm a : Nat) : List Int := bitsOf (slotD 14 (evS (callN P74 23) st7 [none, some (Wd, false), some (Bkk mm, false), none, some (lotN a, false), none, none, some (Gkk mm, false), none, none, none, none, none, none, none, none, none, none, none] [(24, []), (25, [])]))
def comesN (b d : Nat) : List (Bool × Nat) := match slotD 11 (evSs (callN P74 23) st3 [none, some (Wd, false), none, none, none, some (.int b, false), none, none, none, some (.int d, false), none, none, none, none, none, none, none, none, none] [(24, []), (25, [])]) with
  | .lst ds => ds.filterMap fun | .tup [.bl r, .int i] => some (r, i.toNat) | _ => none
  | _ => []
def hereN (b d : Nat) : D := slotD 10 (evSs (callN P74 23) st3 [none, some (Wd, false), none, none, none, some (.int b, false), none, none, none, some (.int d, false), none, none, none, none, none, none, none, none, none] [(24, []), (25, [])])
def cmD (c : Bool × Nat) : D := .tup [.bl c.1, .int c.2]
theorem bh_lt : ∀ a < 8, ∀ d < 2, ∀ s < 3, ∀ r, bh a d s r < 8 := by decide +kernel
theorem mn_lt : ∀ h < 2, ∀ s < 3, mn h s < 8 := by decide +kernel
theorem gi_bit : ∀ mm < 3, ∀ a < 8, ∀ x ∈ gi mm a, 0 ≤ x ∧ x < 2 := by decide +kernel
theorem wi_bit : ∀ mm, mm < 3 → 0 < mm → ∀ a < 8, ∀ x ∈ wi mm a, 0 ≤ x ∧ x < mm := by decide +kernel
theorem comes_lt : ∀ b < 5, ∀ d < 2, comesN b d ≠ [] ∧ ∀ c ∈ comesN b d, c.2 < 5 := by decide +kernel
theorem c27 (bs : List D) {a d s : Nat} (r : Bool) (ha : a < 8) (hd : d < 2) (hs : s < 3) : callN P74 23 32 [Wd, lotN a, .tup [.int d, .tup [.int s], .bl r]] [(24, []), (25, bs)] = .ok (lotN (bh a d s r), .fz, [(24, []), (25, bs)]) := by
  obtain rfl | rfl | rfl | rfl | rfl | rfl | rfl | rfl : a = 0 ∨ a = 1 ∨ a = 2 ∨ a = 3 ∨ a = 4 ∨ a = 5 ∨ a = 6 ∨ a = 7 := by omega
  all_goals obtain rfl | rfl : d = 0 ∨ d = 1 := by omega
  all_goals obtain rfl | rfl | rfl : s = 0 ∨ s = 1 ∨ s = 2 := by omega
  all_goals cases r <;> kernel_rfl
theorem c20 (bs : List D) {h s : Nat} (hh : h < 2) (hs : s < 3) : callN P74 23 26 [Wd, .tup [.int (3 * h : Nat)], .tup [.int s]] [(24, []), (25, bs)] = .ok (lotN (mn h s), .fz, [(24, []), (25, bs)]) := by
  obtain rfl | rfl : h = 0 ∨ h = 1 := by omega
  all_goals obtain rfl | rfl | rfl : s = 0 ∨ s = 1 ∨ s = 2 := by omega
  all_goals kernel_rfl
theorem c_st1 (bs : List D) {mm a : Nat} (hmm : mm = 1 ∨ mm = 2) (ha : a < 8) (x0 x3 x5 x6 x8 x9 x10 x11 x12 x13 x14 x15 : Option (D × Bool)) : evS (callN P74 23) st1 [x0, some (Wd, false), some (Bkk mm, false), x3, some (lotN a, false), x5, x6, some (Gkk mm, false), x8, x9, x10, x11, x12, x13, x14, x15, none, none, none] [(24, []), (25, bs)] = .ok (.nx [x0, some (Wd, false), some (Bkk mm, false), x3, some (lotN a, false), x5, x6, some (Gkk mm, false), some (.lst ((gi mm a).map D.int), true), x9, x10, x11, x12, x13, x14, x15, none, none, none] [(24, []), (25, bs)]) := by
  rcases hmm with rfl | rfl
  all_goals obtain rfl | rfl | rfl | rfl | rfl | rfl | rfl | rfl : a = 0 ∨ a = 1 ∨ a = 2 ∨ a = 3 ∨ a = 4 ∨ a = 5 ∨ a = 6 ∨ a = 7 := by omega
  all_goals kernel_rfl
theorem c_st3 (bs : List D) {b d : Nat} (hb : b < 5) (hd : d < 2) (x0 x2 x3 x4 x6 x7 x8 x10 x11 x12 x13 x14 x15 : Option (D × Bool)) : evSs (callN P74 23) st3 [x0, some (Wd, false), x2, x3, x4, some (.int b, false), x6, x7, x8, some (.int d, false), x10, x11, x12, x13, x14, x15, none, none, none] [(24, []), (25, bs)] = .ok (.nx [x0, some (Wd, false), x2, x3, x4, some (.int b, false), x6, x7, x8, some (.int d, false), some (hereN b d, false), some (.lst ((comesN b d).map cmD), true), x12, x13, x14, x15, none, none, none] [(24, []), (25, bs)]) := by
  obtain rfl | rfl | rfl | rfl | rfl : b = 0 ∨ b = 1 ∨ b = 2 ∨ b = 3 ∨ b = 4 := by omega
  all_goals obtain rfl | rfl : d = 0 ∨ d = 1 := by omega
  all_goals kernel_rfl
theorem c_st7 (bs : List D) {mm a : Nat} (hmm : mm = 1 ∨ mm = 2) (ha : a < 8) (x0 x1 x3 x5 x6 x7 x8 x9 x10 x11 x12 x13 x14 x15 : Option (D × Bool)) (h13 : x13 = none ∨ ∃ w : Int, x13 = some (.int w, false)) : evS (callN P74 23) st7 [x0, x1, some (Bkk mm, false), x3, some (lotN a, false), x5, x6, x7, x8, x9, x10, x11, x12, x13, x14, x15, none, none, none] [(24, []), (25, bs)] = .ok (.nx [x0, x1, some (Bkk mm, false), x3, some (lotN a, false), x5, x6, x7, x8, x9, x10, x11, x12, x13, some (.lst ((wi mm a).map D.int), true), x15, none, none, none] [(24, []), (25, bs)]) := by
  rcases hmm with rfl | rfl
  all_goals rcases h13 with rfl | ⟨w, rfl⟩
  all_goals obtain rfl | rfl | rfl | rfl | rfl | rfl | rfl | rfl : a = 0 ∨ a = 1 ∨ a = 2 ∨ a = 3 ∨ a = 4 ∨ a = 5 ∨ a = 6 ∨ a = 7 := by omega
  all_goals kernel_rfl
end Z
end
section
namespace Z
open PySem
theorem loopW_inv {t : Env → Sto → Out (Bool × Sto)} {b : Env → Sto → Out Fl} {is : List Nat} {Inv : Nat → Env → Sto → Prop}
    (h : ∀ m env S, Inv m env S → t (frz env is) S = .ok (false, S) ∨ (t (frz env is) S = .ok (true, S) ∧ ∃ env' S' m', b (frz env is) S = .ok (.nx env' S') ∧ m' < m ∧ Inv m' env' S')) :
    ∀ (n m : Nat) (env : Env) (S : Sto), m < n → Inv m env S → ∃ m' env' S', loopW t b is n env S = .ok (.nx (frz env' is) S') ∧ Inv m' env' S'
  | 0, m, env, S, hm, _ => by omega
  | n + 1, m, env, S, hm, hi => by
    rcases h m env S hi with h1 | ⟨h1, env', S', m', h2, h3, h4⟩
    · exact ⟨m, env, S, by rw [loopW, h1]; rfl, hi⟩
    · obtain ⟨m2, env2, S2, q, r⟩ := loopW_inv h n m' env' S' (by omega) h4
      refine ⟨m2, env2, S2, ?_, r⟩
      rw [loopW, h1]
      simp only [Out.bind_ok, if_true, h2]
      exact q
theorem okL_ints (n : Nat) : ∀ xs : List Int, D.okNL n (xs.map D.int) = true
  | [] => rfl
  | x :: xs => by simp [D.okNL, D.okN, okL_ints n xs]
theorem ok_lints (xs : List Int) : D.ok (.lst (xs.map D.int)) = true := by
  simp [D.ok, D.okN, okL_ints]
theorem ok_nil : D.ok (.lst []) = true := rfl
theorem eqv_nil (xs : List Int) : D.eqv (.lst (xs.map D.int)) (.lst []) = xs.isEmpty := by
  cases xs <;> simp [D.eqv, D.eqvL]
theorem gi_len : ∀ mm < 3, ∀ a < 8, (gi mm a).length < 10 := by decide +kernel
theorem wi_len : ∀ mm < 3, ∀ a < 8, (wi mm a).length < 10 := by decide +kernel
theorem comes_len : ∀ b < 5, ∀ d < 2, (comesN b d).length < 10 := by decide +kernel
theorem ab23 (bs : List D) : Above 24 [(25, bs)] := by simp [Above]
theorem bit_of {x : Int} {N : Nat} (h : 0 ≤ x ∧ x < N) : ∃ n : Nat, n < N ∧ x = n := ⟨x.toNat, by omega, (Int.toNat_of_nonneg h.1).symm⟩
theorem take_h {i : Nat} {m : Int} {bs : List D} (hb : Bx [(25, bs)] i) (hm : 0 < m) (hm2 : m < 1073741824) : ∃ (d : Nat) (bs' : List D), callN P74 23 16 [.ref 25 i, .int m] [(24, []), (25, bs)] = .ok (.int d, .fz, [(24, []), (25, bs')]) ∧ Up [(25, bs)] i [(25, bs')] ∧ (d : Int) < m := by
  obtain ⟨d, S', h, u, d0, d1⟩ := take_f (l := 22) (i := i) (m := m) (S := [(25, bs)]) (by omega) (ab23 bs) hb hm hm2
  obtain ⟨bs', rfl⟩ := u.one
  have e : ((d.toNat : Nat) : Int) = d := Int.toNat_of_nonneg d0
  exact ⟨d.toNat, bs', by rw [e]; exact h, u, by rw [e]; exact d1⟩
theorem pick_h {i : Nat} {bs : List D} {ds : List D} {c : D} (hb : Bx [(25, bs)] i) (hc : c = .lst ds ∨ c = .tup ds) (hm : ds ≠ []) (hm2 : ds.length < 1073741824) : ∃ d ∈ ds, ∃ bs' : List D, callN P74 23 17 [.ref 25 i, c] [(24, []), (25, bs)] = .ok (d, .fz, [(24, []), (25, bs')]) ∧ Up [(25, bs)] i [(25, bs')] := by
  obtain ⟨d, hd, S', h, u⟩ := pick_f (l := 21) (i := i) (c := c) (S := [(25, bs)]) (by omega) (ab23 bs) hb hc hm hm2
  obtain ⟨bs', rfl⟩ := u.one
  exact ⟨d, hd, bs', h, u⟩
/-- a drawn bit, of some or of all -/
def eBit (j : Nat) (e : E) : E := (.ifx (.and (.cmp .ne (.var j) (.lst [])) (.cmp .gt (.call 16 [(.var 0), (.cst (.int 6))]) (.cst (.int 0)))) (.call 17 [(.var 0), (.var j)]) (.call 16 [(.var 0), e]))
theorem bit_s {i j N : Nat} {bs : List D} {env : Env} {is : List Int} {e : E} (hb : Bx [(25, bs)] i) (h0 : env[0]? = some (some (.ref 25 i, false))) (hj : env[j]? = some (some (.lst (is.map D.int), false))) (hN0 : 0 < N) (hN1 : N < 1000) (hi : ∀ x ∈ is, 0 ≤ x ∧ x < N) (hl : is.length < 10) (he : ∀ S, evE (callN P74 23) e env S = .ok (.int N, .fz, S)) :
    ∃ d, d < N ∧ ∃ bs', evE (callN P74 23) (eBit j e) env [(24, []), (25, bs)] = .ok (.int (d : Nat), .fz, [(24, []), (25, bs')]) ∧ Up [(25, bs)] i [(25, bs')] := by
  have key : ∀ bs1, Up [(25, bs)] i [(25, bs1)] → ∃ d, d < N ∧ ∃ bs', callN P74 23 16 [.ref 25 i, .int N] [(24, []), (25, bs1)] = .ok (.int (d : Nat), .fz, [(24, []), (25, bs')]) ∧ Up [(25, bs)] i [(25, bs')] := by
    intro bs1 u1
    obtain ⟨d, bs', h, u, hd⟩ := take_h (m := N) (u1.bx hb) (by omega) (by omega)
    exact ⟨d, by omega, bs', h, u1.trans u⟩
  by_cases hE : is = []
  · subst hE
    obtain ⟨d, hd, bs', h, u⟩ := key bs (Up.refl hb)
    refine ⟨d, hd, bs', ?_, u⟩
    simp [runF, evSs, evT, evTo, evEs, evO, evPar, evIt, varO, deref, idxO, L2.atI, L2.ixN, cmpO, eqO, isO, p1O, p2O, binO, intO, modI, mulI, fdivI, powI, addO, kept, modE, modE2, putO, appO, popO, wr, D.lev, D.levL, put, look, setE, setEs, leave, frz, bindO, bindTu, wipeE, srcO, seqO, seq2O, zipO, truO, isaO, cutO, D.isNon, line, Out.bind_ok, Out.of_some, Out.of_none, evE_cst, evE_var, evE_tup, evE_lst, evE_dic0, evE_dic1, evE_bin, evE_neg, evE_notv, evE_andv, evE_orv, evE_cmp, evE_ifx, evE_idx, evE_cut, evE_call, evE_p1, evE_p2, evE_isa, evE_index, evE_comp, evS_pre, evS_set, evS_setSh, evS_setTu, evS_par, evS_setIx, evS_app, evS_appPop, evS_appSd, evS_setSd, evS_ife, evS_for_, evS_wh, evS_ret, evS_retV, evS_exp, eBit, h0, hj, D.ok, D.okN, D.okNL, D.eqv, D.eqvL, he, h]
  · have hE2 : is.isEmpty = false := by simpa using hE
    obtain ⟨t, bs1, h1, u1, ht⟩ := take_h (m := 6) hb (by decide) (by decide)
    by_cases h6 : (0 : Nat) < t
    · obtain ⟨d, hd, bs', h, u⟩ := pick_h (u1.bx hb) (.inl rfl) (ds := is.map D.int) (by simpa using hE) (by simp; omega)
      obtain ⟨x, hx, rfl⟩ := List.mem_map.mp hd
      obtain ⟨n, hn, rfl⟩ := bit_of (hi x hx)
      refine ⟨n, hn, bs', ?_, u1.trans u⟩
      simp [runF, evSs, evT, evTo, evEs, evO, evPar, evIt, varO, deref, idxO, L2.atI, L2.ixN, cmpO, eqO, isO, p1O, p2O, binO, intO, modI, mulI, fdivI, powI, addO, kept, modE, modE2, putO, appO, popO, wr, D.lev, D.levL, put, look, setE, setEs, leave, frz, bindO, bindTu, wipeE, srcO, seqO, seq2O, zipO, truO, isaO, cutO, D.isNon, line, Out.bind_ok, Out.of_some, Out.of_none, evE_cst, evE_var, evE_tup, evE_lst, evE_dic0, evE_dic1, evE_bin, evE_neg, evE_notv, evE_andv, evE_orv, evE_cmp, evE_ifx, evE_idx, evE_cut, evE_call, evE_p1, evE_p2, evE_isa, evE_index, evE_comp, evS_pre, evS_set, evS_setSh, evS_setTu, evS_par, evS_setIx, evS_app, evS_appPop, evS_appSd, evS_setSd, evS_ife, evS_for_, evS_wh, evS_ret, evS_retV, evS_exp, eBit, h0, hj, ok_lints, ok_nil, eqv_nil, hE2, h1, h6, h]
    · obtain ⟨d, hd, bs', h, u⟩ := key bs1 u1
      refine ⟨d, hd, bs', ?_, u⟩
      simp [runF, evSs, evT, evTo, evEs, evO, evPar, evIt, varO, deref, idxO, L2.atI, L2.ixN, cmpO, eqO, isO, p1O, p2O, binO, intO, modI, mulI, fdivI, powI, addO, kept, modE, modE2, putO, appO, popO, wr, D.lev, D.levL, put, look, setE, setEs, leave, frz, bindO, bindTu, wipeE, srcO, seqO, seq2O, zipO, truO, isaO, cutO, D.isNon, line, Out.bind_ok, Out.of_some, Out.of_none, evE_cst, evE_var, evE_tup, evE_lst, evE_dic0, evE_dic1, evE_bin, evE_neg, evE_notv, evE_andv, evE_orv, evE_cmp, evE_ifx, evE_idx, evE_cut, evE_call, evE_p1, evE_p2, evE_isa, evE_index, evE_comp, evS_pre, evS_set, evS_setSh, evS_setTu, evS_par, evS_setIx, evS_app, evS_appPop, evS_appSd, evS_setSd, evS_ife, evS_for_, evS_wh, evS_ret, evS_retV, evS_exp, eBit, h0, hj, ok_lints, ok_nil, eqv_nil, hE2, h1, h6, he, h]
def sg : Nat → Nat
  | 0 => 0 | 1 => 2 | 2 => 1 | 3 => 0 | _ => 1
end Z
end
section
namespace Z
open PySem
def envH (mm i a b : Nat) (es : List D) (x8 x9 x10 x11 x12 x13 x14 x15 : Option (D × Bool)) : Env := [some (.ref 25 i, false), some (Wd, false), some (Bkk mm, false), some (.int 9, false), some (lotN a, false), some (.int b, false), some (.tup es, false), some (Gkk mm, false), x8, x9, x10, x11, x12, x13, x14, x15, none, none, none]
def st2 : St := .pre [0, 0, 8, 0] (.set 9 (eBit 8 (.p1 .len (.idx (.idx (.var 1) (.cst (.int 0))) (.cst (.int 0))))))
def st5 : St := (.pre [0, 11] (.setTu [12, 5] (.call 17 [(.var 0), (.var 11)])))
def st6 : St := (.pre [9, 12, 1, 4, 9, 12] (.par [6, 4] [(.bin .add (.var 6) (.tup [(.tup [(.cst (.str "did")), (.var 9), (.idx (.idx (.var 1) (.cst (.int 3))) (.var 5)), (.var 12)])])), (.call 32 [(.var 1), (.var 4), (.tup [(.var 9), (.idx (.idx (.var 1) (.cst (.int 3))) (.var 5)), (.var 12)])])]))
def st8 : St := .pre [0, 0, 14, 0] (.set 13 (eBit 14 (.p1 .len (.var 2))))
def st9 : St := (.pre [0, 13, 0] (.set 15 (.ifx (.cmp .gt (.call 16 [(.var 0), (.cst (.int 8))]) (.cst (.int 0))) (.var 13) (.call 16 [(.var 0), (.p1 .len (.var 2))]))))
def st10 : St := (.pre [13, 15, 1] (.par [6, 4] [(.bin .add (.var 6) (.tup [(.tup [(.cst (.str "said")), (.var 13)]), (.tup [(.cst (.str "heard")), (.var 15)])])), (.call 26 [(.var 1), (.idx (.var 2) (.var 15)), (.idx (.idx (.var 1) (.cst (.int 3))) (.var 5))])]))
def st11 : St := .ife (.val (.var 12)) [st7, st8, st9, st10] []
theorem t2 {mm i a b : Nat} (hmm : mm = 1 ∨ mm = 2) {es : List D} {bs : List D} {x9 x10 x11 x12 x13 x14 x15} (hb : Bx [(25, bs)] i) (ha : a < 8) : ∃ d, d < 2 ∧ ∃ bs', evS (callN P74 23) st2 (envH mm i a b es (some (.lst ((gi mm a).map D.int), true)) x9 x10 x11 x12 x13 x14 x15) [(24, []), (25, bs)] = .ok (.nx (envH mm i a b es (some (.lst ((gi mm a).map D.int), false)) (some (.int (d : Nat), false)) x10 x11 x12 x13 x14 x15) [(24, []), (25, bs')]) ∧ Up [(25, bs)] i [(25, bs')] := by
  obtain ⟨d, hd, bs', h, u⟩ := bit_s (j := 8) (env := envH mm i a b es (some (.lst ((gi mm a).map D.int), false)) x9 x10 x11 x12 x13 x14 x15) (is := gi mm a) (e := .p1 .len (.idx (.idx (.var 1) (.cst (.int 0))) (.cst (.int 0)))) (N := 2) hb rfl rfl (by decide) (by decide) (gi_bit mm (by omega) a ha) (gi_len mm (by omega) a ha) (by intro S; simp [runF, evSs, evT, evTo, evEs, evO, evPar, evIt, varO, deref, idxO, L2.atI, L2.ixN, cmpO, eqO, isO, p1O, p2O, binO, intO, modI, mulI, fdivI, powI, addO, kept, modE, modE2, putO, appO, popO, wr, D.lev, D.levL, put, look, setE, setEs, leave, frz, bindO, bindTu, wipeE, srcO, seqO, seq2O, zipO, truO, isaO, cutO, D.isNon, line, Out.bind_ok, Out.of_some, Out.of_none, evE_cst, evE_var, evE_tup, evE_lst, evE_dic0, evE_dic1, evE_bin, evE_neg, evE_notv, evE_andv, evE_orv, evE_cmp, evE_ifx, evE_idx, evE_cut, evE_call, evE_p1, evE_p2, evE_isa, evE_index, evE_comp, evS_pre, evS_set, evS_setSh, evS_setTu, evS_par, evS_setIx, evS_app, evS_appPop, evS_appSd, evS_setSd, evS_ife, evS_for_, evS_wh, evS_ret, evS_retV, evS_exp, envH])
  refine ⟨d, hd, bs', ?_, u⟩
  have e : frz (envH mm i a b es (some (.lst ((gi mm a).map D.int), true)) x9 x10 x11 x12 x13 x14 x15) [0, 0, 8, 0] = envH mm i a b es (some (.lst ((gi mm a).map D.int), false)) x9 x10 x11 x12 x13 x14 x15 := rfl
  rw [st2, evS_pre, e, evS_set, h]
  rfl
theorem t5 {mm i a b d : Nat} {es : List D} {bs : List D} {x8 x10 x12 x13 x14 x15} (hb : Bx [(25, bs)] i) (hb5 : b < 5) (hd : d < 2) : ∃ c : Bool × Nat, c.2 < 5 ∧ ∃ bs', evS (callN P74 23) st5 (envH mm i a b es x8 (some (.int (d : Nat), false)) x10 (some (.lst ((comesN b d).map cmD), true)) x12 x13 x14 x15) [(24, []), (25, bs)] = .ok (.nx (envH mm i a c.2 es x8 (some (.int (d : Nat), false)) x10 (some (.lst ((comesN b d).map cmD), false)) (some (.bl c.1, false)) x13 x14 x15) [(24, []), (25, bs')]) ∧ Up [(25, bs)] i [(25, bs')] := by
  have hc := comes_lt b hb5 d hd
  have hl := comes_len b hb5 d hd
  obtain ⟨x, hx, bs', h, u⟩ := pick_h hb (.inl rfl) (ds := (comesN b d).map cmD) (by simpa using hc.1) (by simp; omega)
  obtain ⟨c, hcm, rfl⟩ := List.mem_map.mp hx
  refine ⟨c, hc.2 c hcm, bs', ?_, u⟩
  have e : frz (envH mm i a b es x8 (some (.int (d : Nat), false)) x10 (some (.lst ((comesN b d).map cmD), true)) x12 x13 x14 x15) [0, 11] = envH mm i a b es x8 (some (.int (d : Nat), false)) x10 (some (.lst ((comesN b d).map cmD), false)) x12 x13 x14 x15 := rfl
  rw [st5, evS_pre, e]
  simp [runF, evSs, evT, evTo, evEs, evO, evPar, evIt, varO, deref, idxO, L2.atI, L2.ixN, cmpO, eqO, isO, p1O, p2O, binO, intO, modI, mulI, fdivI, powI, addO, kept, modE, modE2, putO, appO, popO, wr, D.lev, D.levL, put, look, setE, setEs, leave, frz, bindO, bindTu, wipeE, srcO, seqO, seq2O, zipO, truO, isaO, cutO, D.isNon, line, Out.bind_ok, Out.of_some, Out.of_none, evE_cst, evE_var, evE_tup, evE_lst, evE_dic0, evE_dic1, evE_bin, evE_neg, evE_notv, evE_andv, evE_orv, evE_cmp, evE_ifx, evE_idx, evE_cut, evE_call, evE_p1, evE_p2, evE_isa, evE_index, evE_comp, evS_pre, evS_set, evS_setSh, evS_setTu, evS_par, evS_setIx, evS_app, evS_appPop, evS_appSd, evS_setSd, evS_ife, evS_for_, evS_wh, evS_ret, evS_retV, evS_exp, envH, h, cmD]
theorem t6 {mm i a b d : Nat} {r : Bool} {es : List D} {bs : List D} {x8 x10 x11 x13 x14 x15} (ha : a < 8) (hb5 : b < 5) (hd : d < 2) (he : es.length ≤ 12) : evS (callN P74 23) st6 (envH mm i a b es x8 (some (.int (d : Nat), false)) x10 x11 (some (.bl r, false)) x13 x14 x15) [(24, []), (25, bs)] = .ok (.nx (envH mm i (bh a d (sg b) r) b (es ++ [.tup [.str "did", .int (d : Nat), .tup [.int (sg b : Nat)], .bl r]]) x8 (some (.int (d : Nat), false)) x10 x11 (some (.bl r, false)) x13 x14 x15) [(24, []), (25, bs)]) := by
  have e : frz (envH mm i a b es x8 (some (.int (d : Nat), false)) x10 x11 (some (.bl r, false)) x13 x14 x15) [9, 12, 1, 4, 9, 12] = envH mm i a b es x8 (some (.int (d : Nat), false)) x10 x11 (some (.bl r, false)) x13 x14 x15 := rfl
  rw [st6, evS_pre, e]
  have m1 : es.length + 1 ≤ 16777216 := by omega
  have q0 : callN P74 23 32 [Wd, lotN a, .tup [.int d, .tup [.int 0], .bl r]] [(24, []), (25, bs)] = .ok (lotN (bh a d 0 r), .fz, [(24, []), (25, bs)]) := c27 bs r ha hd (s := 0) (by omega)
  have q1 : callN P74 23 32 [Wd, lotN a, .tup [.int d, .tup [.int 1], .bl r]] [(24, []), (25, bs)] = .ok (lotN (bh a d 1 r), .fz, [(24, []), (25, bs)]) := c27 bs r ha hd (s := 1) (by omega)
  have q2 : callN P74 23 32 [Wd, lotN a, .tup [.int d, .tup [.int 2], .bl r]] [(24, []), (25, bs)] = .ok (lotN (bh a d 2 r), .fz, [(24, []), (25, bs)]) := c27 bs r ha hd (s := 2) (by omega)
  obtain rfl | rfl | rfl | rfl | rfl : b = 0 ∨ b = 1 ∨ b = 2 ∨ b = 3 ∨ b = 4 := by omega
  · simp [runF, evSs, evT, evTo, evEs, evO, evPar, evIt, varO, deref, idxO, L2.atI, L2.ixN, cmpO, eqO, isO, p1O, p2O, binO, intO, modI, mulI, fdivI, powI, addO, kept, modE, modE2, putO, appO, popO, wr, D.lev, D.levL, put, look, setE, setEs, leave, frz, bindO, bindTu, wipeE, srcO, seqO, seq2O, zipO, truO, isaO, cutO, D.isNon, line, Out.bind_ok, Out.of_some, Out.of_none, evE_cst, evE_var, evE_tup, evE_lst, evE_dic0, evE_dic1, evE_bin, evE_neg, evE_notv, evE_andv, evE_orv, evE_cmp, evE_ifx, evE_idx, evE_cut, evE_call, evE_p1, evE_p2, evE_isa, evE_index, evE_comp, evS_pre, evS_set, evS_setSh, evS_setTu, evS_par, evS_setIx, evS_app, evS_appPop, evS_appSd, evS_setSd, evS_ife, evS_for_, evS_wh, evS_ret, evS_retV, evS_exp, envH, q0, q1, q2, sg, m1]
  · simp [runF, evSs, evT, evTo, evEs, evO, evPar, evIt, varO, deref, idxO, L2.atI, L2.ixN, cmpO, eqO, isO, p1O, p2O, binO, intO, modI, mulI, fdivI, powI, addO, kept, modE, modE2, putO, appO, popO, wr, D.lev, D.levL, put, look, setE, setEs, leave, frz, bindO, bindTu, wipeE, srcO, seqO, seq2O, zipO, truO, isaO, cutO, D.isNon, line, Out.bind_ok, Out.of_some, Out.of_none, evE_cst, evE_var, evE_tup, evE_lst, evE_dic0, evE_dic1, evE_bin, evE_neg, evE_notv, evE_andv, evE_orv, evE_cmp, evE_ifx, evE_idx, evE_cut, evE_call, evE_p1, evE_p2, evE_isa, evE_index, evE_comp, evS_pre, evS_set, evS_setSh, evS_setTu, evS_par, evS_setIx, evS_app, evS_appPop, evS_appSd, evS_setSd, evS_ife, evS_for_, evS_wh, evS_ret, evS_retV, evS_exp, envH, q0, q1, q2, sg, m1]
  · simp [runF, evSs, evT, evTo, evEs, evO, evPar, evIt, varO, deref, idxO, L2.atI, L2.ixN, cmpO, eqO, isO, p1O, p2O, binO, intO, modI, mulI, fdivI, powI, addO, kept, modE, modE2, putO, appO, popO, wr, D.lev, D.levL, put, look, setE, setEs, leave, frz, bindO, bindTu, wipeE, srcO, seqO, seq2O, zipO, truO, isaO, cutO, D.isNon, line, Out.bind_ok, Out.of_some, Out.of_none, evE_cst, evE_var, evE_tup, evE_lst, evE_dic0, evE_dic1, evE_bin, evE_neg, evE_notv, evE_andv, evE_orv, evE_cmp, evE_ifx, evE_idx, evE_cut, evE_call, evE_p1, evE_p2, evE_isa, evE_index, evE_comp, evS_pre, evS_set, evS_setSh, evS_setTu, evS_par, evS_setIx, evS_app, evS_appPop, evS_appSd, evS_setSd, evS_ife, evS_for_, evS_wh, evS_ret, evS_retV, evS_exp, envH, q0, q1, q2, sg, m1]
  · simp [runF, evSs, evT, evTo, evEs, evO, evPar, evIt, varO, deref, idxO, L2.atI, L2.ixN, cmpO, eqO, isO, p1O, p2O, binO, intO, modI, mulI, fdivI, powI, addO, kept, modE, modE2, putO, appO, popO, wr, D.lev, D.levL, put, look, setE, setEs, leave, frz, bindO, bindTu, wipeE, srcO, seqO, seq2O, zipO, truO, isaO, cutO, D.isNon, line, Out.bind_ok, Out.of_some, Out.of_none, evE_cst, evE_var, evE_tup, evE_lst, evE_dic0, evE_dic1, evE_bin, evE_neg, evE_notv, evE_andv, evE_orv, evE_cmp, evE_ifx, evE_idx, evE_cut, evE_call, evE_p1, evE_p2, evE_isa, evE_index, evE_comp, evS_pre, evS_set, evS_setSh, evS_setTu, evS_par, evS_setIx, evS_app, evS_appPop, evS_appSd, evS_setSd, evS_ife, evS_for_, evS_wh, evS_ret, evS_retV, evS_exp, envH, q0, q1, q2, sg, m1]
  · simp [runF, evSs, evT, evTo, evEs, evO, evPar, evIt, varO, deref, idxO, L2.atI, L2.ixN, cmpO, eqO, isO, p1O, p2O, binO, intO, modI, mulI, fdivI, powI, addO, kept, modE, modE2, putO, appO, popO, wr, D.lev, D.levL, put, look, setE, setEs, leave, frz, bindO, bindTu, wipeE, srcO, seqO, seq2O, zipO, truO, isaO, cutO, D.isNon, line, Out.bind_ok, Out.of_some, Out.of_none, evE_cst, evE_var, evE_tup, evE_lst, evE_dic0, evE_dic1, evE_bin, evE_neg, evE_notv, evE_andv, evE_orv, evE_cmp, evE_ifx, evE_idx, evE_cut, evE_call, evE_p1, evE_p2, evE_isa, evE_index, evE_comp, evS_pre, evS_set, evS_setSh, evS_setTu, evS_par, evS_setIx, evS_app, evS_appPop, evS_appSd, evS_setSd, evS_ife, evS_for_, evS_wh, evS_ret, evS_retV, evS_exp, envH, q0, q1, q2, sg, m1]
theorem t8 {mm i a b : Nat} (hmm : mm = 1 ∨ mm = 2) {xs : List Int} {es : List D} {bs : List D} {x8 x9 x10 x11 x12 x13 x15} (hb : Bx [(25, bs)] i) (h1 : ∀ x ∈ xs, 0 ≤ x ∧ x < mm) (h2 : xs.length < 10) : ∃ d, d < mm ∧ ∃ bs', evS (callN P74 23) st8 (envH mm i a b es x8 x9 x10 x11 x12 x13 (some (.lst (xs.map D.int), true)) x15) [(24, []), (25, bs)] = .ok (.nx (envH mm i a b es x8 x9 x10 x11 x12 (some (.int (d : Nat), false)) (some (.lst (xs.map D.int), false)) x15) [(24, []), (25, bs')]) ∧ Up [(25, bs)] i [(25, bs')] := by
  obtain ⟨d, hd, bs', h, u⟩ := bit_s (j := 14) (env := envH mm i a b es x8 x9 x10 x11 x12 x13 (some (.lst (xs.map D.int), false)) x15) (is := xs) (e := .p1 .len (.var 2)) (N := mm) hb rfl rfl (by omega) (by omega) h1 h2 (by intro S; rcases hmm with rfl | rfl <;> simp [runF, evSs, evT, evTo, evEs, evO, evPar, evIt, varO, deref, idxO, L2.atI, L2.ixN, cmpO, eqO, isO, p1O, p2O, binO, intO, modI, mulI, fdivI, powI, addO, kept, modE, modE2, putO, appO, popO, wr, D.lev, D.levL, put, look, setE, setEs, leave, frz, bindO, bindTu, wipeE, srcO, seqO, seq2O, zipO, truO, isaO, cutO, D.isNon, line, Out.bind_ok, Out.of_some, Out.of_none, evE_cst, evE_var, evE_tup, evE_lst, evE_dic0, evE_dic1, evE_bin, evE_neg, evE_notv, evE_andv, evE_orv, evE_cmp, evE_ifx, evE_idx, evE_cut, evE_call, evE_p1, evE_p2, evE_isa, evE_index, evE_comp, evS_pre, evS_set, evS_setSh, evS_setTu, evS_par, evS_setIx, evS_app, evS_appPop, evS_appSd, evS_setSd, evS_ife, evS_for_, evS_wh, evS_ret, evS_retV, evS_exp, envH, Bkk])
  refine ⟨d, hd, bs', ?_, u⟩
  have e : frz (envH mm i a b es x8 x9 x10 x11 x12 x13 (some (.lst (xs.map D.int), true)) x15) [0, 0, 14, 0] = envH mm i a b es x8 x9 x10 x11 x12 x13 (some (.lst (xs.map D.int), false)) x15 := rfl
  rw [st8, evS_pre, e, evS_set, h]
  rfl
theorem t9 {mm i a b d : Nat} (hmm : mm = 1 ∨ mm = 2) {es : List D} {bs : List D} {x8 x9 x10 x11 x12 x14 x15} (hb : Bx [(25, bs)] i) (hd : d < mm) : ∃ q, q < mm ∧ ∃ bs', evS (callN P74 23) st9 (envH mm i a b es x8 x9 x10 x11 x12 (some (.int (d : Nat), false)) x14 x15) [(24, []), (25, bs)] = .ok (.nx (envH mm i a b es x8 x9 x10 x11 x12 (some (.int (d : Nat), false)) x14 (some (.int (q : Nat), false))) [(24, []), (25, bs')]) ∧ Up [(25, bs)] i [(25, bs')] := by
  have e : frz (envH mm i a b es x8 x9 x10 x11 x12 (some (.int (d : Nat), false)) x14 x15) [0, 13, 0] = envH mm i a b es x8 x9 x10 x11 x12 (some (.int (d : Nat), false)) x14 x15 := rfl
  obtain ⟨t, bs1, h1, u1, ht⟩ := take_h (m := 8) hb (by decide) (by decide)
  by_cases h8 : (0 : Nat) < t
  · refine ⟨d, hd, bs1, ?_, u1⟩
    rw [st9, evS_pre, e]
    simp [runF, evSs, evT, evTo, evEs, evO, evPar, evIt, varO, deref, idxO, L2.atI, L2.ixN, cmpO, eqO, isO, p1O, p2O, binO, intO, modI, mulI, fdivI, powI, addO, kept, modE, modE2, putO, appO, popO, wr, D.lev, D.levL, put, look, setE, setEs, leave, frz, bindO, bindTu, wipeE, srcO, seqO, seq2O, zipO, truO, isaO, cutO, D.isNon, line, Out.bind_ok, Out.of_some, Out.of_none, evE_cst, evE_var, evE_tup, evE_lst, evE_dic0, evE_dic1, evE_bin, evE_neg, evE_notv, evE_andv, evE_orv, evE_cmp, evE_ifx, evE_idx, evE_cut, evE_call, evE_p1, evE_p2, evE_isa, evE_index, evE_comp, evS_pre, evS_set, evS_setSh, evS_setTu, evS_par, evS_setIx, evS_app, evS_appPop, evS_appSd, evS_setSd, evS_ife, evS_for_, evS_wh, evS_ret, evS_retV, evS_exp, envH, h1, h8]
  · obtain ⟨q, bs2, h2, u2, hq⟩ := take_h (m := mm) (u1.bx hb) (by omega) (by omega)
    refine ⟨q, by omega, bs2, ?_, u1.trans u2⟩
    rw [st9, evS_pre, e]
    rcases hmm with rfl | rfl
    · have h2' : callN P74 23 16 [.ref 25 i, .int 1] [(24, []), (25, bs1)] = .ok (.int q, .fz, [(24, []), (25, bs2)]) := h2
      simp [runF, evSs, evT, evTo, evEs, evO, evPar, evIt, varO, deref, idxO, L2.atI, L2.ixN, cmpO, eqO, isO, p1O, p2O, binO, intO, modI, mulI, fdivI, powI, addO, kept, modE, modE2, putO, appO, popO, wr, D.lev, D.levL, put, look, setE, setEs, leave, frz, bindO, bindTu, wipeE, srcO, seqO, seq2O, zipO, truO, isaO, cutO, D.isNon, line, Out.bind_ok, Out.of_some, Out.of_none, evE_cst, evE_var, evE_tup, evE_lst, evE_dic0, evE_dic1, evE_bin, evE_neg, evE_notv, evE_andv, evE_orv, evE_cmp, evE_ifx, evE_idx, evE_cut, evE_call, evE_p1, evE_p2, evE_isa, evE_index, evE_comp, evS_pre, evS_set, evS_setSh, evS_setTu, evS_par, evS_setIx, evS_app, evS_appPop, evS_appSd, evS_setSd, evS_ife, evS_for_, evS_wh, evS_ret, evS_retV, evS_exp, envH, Bkk, h1, h8, h2']
    · have h2' : callN P74 23 16 [.ref 25 i, .int 2] [(24, []), (25, bs1)] = .ok (.int q, .fz, [(24, []), (25, bs2)]) := h2
      simp [runF, evSs, evT, evTo, evEs, evO, evPar, evIt, varO, deref, idxO, L2.atI, L2.ixN, cmpO, eqO, isO, p1O, p2O, binO, intO, modI, mulI, fdivI, powI, addO, kept, modE, modE2, putO, appO, popO, wr, D.lev, D.levL, put, look, setE, setEs, leave, frz, bindO, bindTu, wipeE, srcO, seqO, seq2O, zipO, truO, isaO, cutO, D.isNon, line, Out.bind_ok, Out.of_some, Out.of_none, evE_cst, evE_var, evE_tup, evE_lst, evE_dic0, evE_dic1, evE_bin, evE_neg, evE_notv, evE_andv, evE_orv, evE_cmp, evE_ifx, evE_idx, evE_cut, evE_call, evE_p1, evE_p2, evE_isa, evE_index, evE_comp, evS_pre, evS_set, evS_setSh, evS_setTu, evS_par, evS_setIx, evS_app, evS_appPop, evS_appSd, evS_setSd, evS_ife, evS_for_, evS_wh, evS_ret, evS_retV, evS_exp, envH, Bkk, h1, h8, h2']
theorem t10 {mm i a b d h : Nat} (hmm : mm = 1 ∨ mm = 2) {es : List D} {bs : List D} {x8 x9 x10 x11 x12 x14} (hb5 : b < 5) (hh : h < mm) (he : es.length ≤ 13) : evS (callN P74 23) st10 (envH mm i a b es x8 x9 x10 x11 x12 (some (.int (d : Nat), false)) x14 (some (.int (h : Nat), false))) [(24, []), (25, bs)] = .ok (.nx (envH mm i (mn h (sg b)) b (es ++ [.tup [.str "said", .int (d : Nat)], .tup [.str "heard", .int (h : Nat)]]) x8 x9 x10 x11 x12 (some (.int (d : Nat), false)) x14 (some (.int (h : Nat), false))) [(24, []), (25, bs)]) := by
  have e : frz (envH mm i a b es x8 x9 x10 x11 x12 (some (.int (d : Nat), false)) x14 (some (.int (h : Nat), false))) [13, 15, 1] = envH mm i a b es x8 x9 x10 x11 x12 (some (.int (d : Nat), false)) x14 (some (.int (h : Nat), false)) := rfl
  rw [st10, evS_pre, e]
  have m1 : es.length + 2 ≤ 16777216 := by omega
  obtain ⟨rfl, rfl⟩ | ⟨rfl, rfl⟩ | ⟨rfl, rfl⟩ : (h = 0 ∧ mm = 1) ∨ (h = 0 ∧ mm = 2) ∨ (h = 1 ∧ mm = 2) := by omega
  · have q0 : callN P74 23 26 [Wd, .tup [.int 0], .tup [.int 0]] [(24, []), (25, bs)] = .ok (lotN (mn 0 0), .fz, [(24, []), (25, bs)]) := c20 bs (h := 0) (s := 0) (by omega) (by omega)
    have q1 : callN P74 23 26 [Wd, .tup [.int 0], .tup [.int 1]] [(24, []), (25, bs)] = .ok (lotN (mn 0 1), .fz, [(24, []), (25, bs)]) := c20 bs (h := 0) (s := 1) (by omega) (by omega)
    have q2 : callN P74 23 26 [Wd, .tup [.int 0], .tup [.int 2]] [(24, []), (25, bs)] = .ok (lotN (mn 0 2), .fz, [(24, []), (25, bs)]) := c20 bs (h := 0) (s := 2) (by omega) (by omega)
    obtain rfl | rfl | rfl | rfl | rfl : b = 0 ∨ b = 1 ∨ b = 2 ∨ b = 3 ∨ b = 4 := by omega
    all_goals simp [runF, evSs, evT, evTo, evEs, evO, evPar, evIt, varO, deref, idxO, L2.atI, L2.ixN, cmpO, eqO, isO, p1O, p2O, binO, intO, modI, mulI, fdivI, powI, addO, kept, modE, modE2, putO, appO, popO, wr, D.lev, D.levL, put, look, setE, setEs, leave, frz, bindO, bindTu, wipeE, srcO, seqO, seq2O, zipO, truO, isaO, cutO, D.isNon, line, Out.bind_ok, Out.of_some, Out.of_none, evE_cst, evE_var, evE_tup, evE_lst, evE_dic0, evE_dic1, evE_bin, evE_neg, evE_notv, evE_andv, evE_orv, evE_cmp, evE_ifx, evE_idx, evE_cut, evE_call, evE_p1, evE_p2, evE_isa, evE_index, evE_comp, evS_pre, evS_set, evS_setSh, evS_setTu, evS_par, evS_setIx, evS_app, evS_appPop, evS_appSd, evS_setSd, evS_ife, evS_for_, evS_wh, evS_ret, evS_retV, evS_exp, envH, Bkk, q0, q1, q2, sg, m1]
  · have q0 : callN P74 23 26 [Wd, .tup [.int 0], .tup [.int 0]] [(24, []), (25, bs)] = .ok (lotN (mn 0 0), .fz, [(24, []), (25, bs)]) := c20 bs (h := 0) (s := 0) (by omega) (by omega)
    have q1 : callN P74 23 26 [Wd, .tup [.int 0], .tup [.int 1]] [(24, []), (25, bs)] = .ok (lotN (mn 0 1), .fz, [(24, []), (25, bs)]) := c20 bs (h := 0) (s := 1) (by omega) (by omega)
    have q2 : callN P74 23 26 [Wd, .tup [.int 0], .tup [.int 2]] [(24, []), (25, bs)] = .ok (lotN (mn 0 2), .fz, [(24, []), (25, bs)]) := c20 bs (h := 0) (s := 2) (by omega) (by omega)
    obtain rfl | rfl | rfl | rfl | rfl : b = 0 ∨ b = 1 ∨ b = 2 ∨ b = 3 ∨ b = 4 := by omega
    all_goals simp [runF, evSs, evT, evTo, evEs, evO, evPar, evIt, varO, deref, idxO, L2.atI, L2.ixN, cmpO, eqO, isO, p1O, p2O, binO, intO, modI, mulI, fdivI, powI, addO, kept, modE, modE2, putO, appO, popO, wr, D.lev, D.levL, put, look, setE, setEs, leave, frz, bindO, bindTu, wipeE, srcO, seqO, seq2O, zipO, truO, isaO, cutO, D.isNon, line, Out.bind_ok, Out.of_some, Out.of_none, evE_cst, evE_var, evE_tup, evE_lst, evE_dic0, evE_dic1, evE_bin, evE_neg, evE_notv, evE_andv, evE_orv, evE_cmp, evE_ifx, evE_idx, evE_cut, evE_call, evE_p1, evE_p2, evE_isa, evE_index, evE_comp, evS_pre, evS_set, evS_setSh, evS_setTu, evS_par, evS_setIx, evS_app, evS_appPop, evS_appSd, evS_setSd, evS_ife, evS_for_, evS_wh, evS_ret, evS_retV, evS_exp, envH, Bkk, q0, q1, q2, sg, m1]
  · have q0 : callN P74 23 26 [Wd, .tup [.int 3], .tup [.int 0]] [(24, []), (25, bs)] = .ok (lotN (mn 1 0), .fz, [(24, []), (25, bs)]) := c20 bs (h := 1) (s := 0) (by omega) (by omega)
    have q1 : callN P74 23 26 [Wd, .tup [.int 3], .tup [.int 1]] [(24, []), (25, bs)] = .ok (lotN (mn 1 1), .fz, [(24, []), (25, bs)]) := c20 bs (h := 1) (s := 1) (by omega) (by omega)
    have q2 : callN P74 23 26 [Wd, .tup [.int 3], .tup [.int 2]] [(24, []), (25, bs)] = .ok (lotN (mn 1 2), .fz, [(24, []), (25, bs)]) := c20 bs (h := 1) (s := 2) (by omega) (by omega)
    obtain rfl | rfl | rfl | rfl | rfl : b = 0 ∨ b = 1 ∨ b = 2 ∨ b = 3 ∨ b = 4 := by omega
    all_goals simp [runF, evSs, evT, evTo, evEs, evO, evPar, evIt, varO, deref, idxO, L2.atI, L2.ixN, cmpO, eqO, isO, p1O, p2O, binO, intO, modI, mulI, fdivI, powI, addO, kept, modE, modE2, putO, appO, popO, wr, D.lev, D.levL, put, look, setE, setEs, leave, frz, bindO, bindTu, wipeE, srcO, seqO, seq2O, zipO, truO, isaO, cutO, D.isNon, line, Out.bind_ok, Out.of_some, Out.of_none, evE_cst, evE_var, evE_tup, evE_lst, evE_dic0, evE_dic1, evE_bin, evE_neg, evE_notv, evE_andv, evE_orv, evE_cmp, evE_ifx, evE_idx, evE_cut, evE_call, evE_p1, evE_p2, evE_isa, evE_index, evE_comp, evS_pre, evS_set, evS_setSh, evS_setTu, evS_par, evS_setIx, evS_app, evS_appPop, evS_appSd, evS_setSd, evS_ife, evS_for_, evS_wh, evS_ret, evS_retV, evS_exp, envH, Bkk, q0, q1, q2, sg, m1]
theorem sg_lt {b : Nat} : sg b < 3 := by
  unfold sg; split <;> omega
def body28 : List St := st1 :: st2 :: (st3 ++ [st5, st6, st11])
def cond28 : T := (.and (.cmp .lt (.p1 .len (.var 6)) (.var 3)) (.not (.val (.idx (.idx (.var 1) (.cst (.int 4))) (.var 5)))))
def InvH (mm i : Nat) (bs0 : List D) (m : Nat) (env : Env) (S : Sto) : Prop :=
  ∃ (a b : Nat) (es : List D) (x8 x9 x10 x11 x12 x13 x14 x15 : Option (D × Bool)) (bs : List D), a < 8 ∧ b < 5 ∧ (∀ e ∈ es, En e) ∧ es.length + m = 12 ∧ (x13 = none ∨ ∃ w : Int, x13 = some (.int w, false)) ∧ env = envH mm i a b es x8 x9 x10 x11 x12 x13 x14 x15 ∧ S = [(24, []), (25, bs)] ∧ Up [(25, bs0)] i [(25, bs)]
theorem inv28 {mm i : Nat} (hmm : mm = 1 ∨ mm = 2) {bs0 : List D} (hb0 : Bx [(25, bs0)] i) : ∀ (m : Nat) (env : Env) (S : Sto), InvH mm i bs0 m env S → evT (callN P74 23) cond28 (frz env []) S = .ok (false, S) ∨ (evT (callN P74 23) cond28 (frz env []) S = .ok (true, S) ∧ ∃ env' S' m', evSs (callN P74 23) body28 (frz env []) S = .ok (.nx env' S') ∧ m' < m ∧ InvH mm i bs0 m' env' S') := by
  rintro m env S ⟨a, b, es, x8, x9, x10, x11, x12, x13, x14, x15, bs, ha, hb5, hE, hm, h13, rfl, rfl, u⟩
  have hb := u.bx hb0
  show evT _ _ (envH mm i a b es x8 x9 x10 x11 x12 x13 x14 x15) _ = _ ∨ (evT _ _ (envH mm i a b es x8 x9 x10 x11 x12 x13 x14 x15) _ = _ ∧ ∃ env' S' m', evSs _ _ (envH mm i a b es x8 x9 x10 x11 x12 x13 x14 x15) _ = _ ∧ _)
  have hc : evT (callN P74 23) cond28 (envH mm i a b es x8 x9 x10 x11 x12 x13 x14 x15) [(24, []), (25, bs)] = .ok (decide (es.length < 9 ∧ b ≠ 1), [(24, []), (25, bs)]) := by
    by_cases h9 : es.length < 9
    · have h9' : (es.length : Int) < 9 := by omega
      obtain rfl | rfl | rfl | rfl | rfl : b = 0 ∨ b = 1 ∨ b = 2 ∨ b = 3 ∨ b = 4 := by omega
      all_goals simp [runF, evSs, evT, evTo, evEs, evO, evPar, evIt, varO, deref, idxO, L2.atI, L2.ixN, cmpO, eqO, isO, p1O, p2O, binO, intO, modI, mulI, fdivI, powI, addO, kept, modE, modE2, putO, appO, popO, wr, D.lev, D.levL, put, look, setE, setEs, leave, frz, bindO, bindTu, wipeE, srcO, seqO, seq2O, zipO, truO, isaO, cutO, D.isNon, line, Out.bind_ok, Out.of_some, Out.of_none, evE_cst, evE_var, evE_tup, evE_lst, evE_dic0, evE_dic1, evE_bin, evE_neg, evE_notv, evE_andv, evE_orv, evE_cmp, evE_ifx, evE_idx, evE_cut, evE_call, evE_p1, evE_p2, evE_isa, evE_index, evE_comp, evS_pre, evS_set, evS_setSh, evS_setTu, evS_par, evS_setIx, evS_app, evS_appPop, evS_appSd, evS_setSd, evS_ife, evS_for_, evS_wh, evS_ret, evS_retV, evS_exp, cond28, envH, h9, h9']
    · have h9' : ¬ (es.length : Int) < 9 := by omega
      simp [runF, evSs, evT, evTo, evEs, evO, evPar, evIt, varO, deref, idxO, L2.atI, L2.ixN, cmpO, eqO, isO, p1O, p2O, binO, intO, modI, mulI, fdivI, powI, addO, kept, modE, modE2, putO, appO, popO, wr, D.lev, D.levL, put, look, setE, setEs, leave, frz, bindO, bindTu, wipeE, srcO, seqO, seq2O, zipO, truO, isaO, cutO, D.isNon, line, Out.bind_ok, Out.of_some, Out.of_none, evE_cst, evE_var, evE_tup, evE_lst, evE_dic0, evE_dic1, evE_bin, evE_neg, evE_notv, evE_andv, evE_orv, evE_cmp, evE_ifx, evE_idx, evE_cut, evE_call, evE_p1, evE_p2, evE_isa, evE_index, evE_comp, evS_pre, evS_set, evS_setSh, evS_setTu, evS_par, evS_setIx, evS_app, evS_appPop, evS_appSd, evS_setSd, evS_ife, evS_for_, evS_wh, evS_ret, evS_retV, evS_exp, cond28, envH, h9, h9']
  rw [hc]
  by_cases h9 : es.length < 9 ∧ b ≠ 1
  · refine .inr ⟨by rw [decide_eq_true h9], ?_⟩
    have q1 : evS (callN P74 23) st1 (envH mm i a b es x8 x9 x10 x11 x12 x13 x14 x15) [(24, []), (25, bs)] = .ok (.nx (envH mm i a b es (some (.lst ((gi mm a).map D.int), true)) x9 x10 x11 x12 x13 x14 x15) [(24, []), (25, bs)]) := c_st1 bs hmm ha _ _ _ _ _ _ _ _ _ _ _ _
    obtain ⟨d, hd, bs2, q2, u2⟩ := t2 hmm (i := i) (a := a) (b := b) (es := es) (x9 := x9) (x10 := x10) (x11 := x11) (x12 := x12) (x13 := x13) (x14 := x14) (x15 := x15) hb ha
    have q3 : evSs (callN P74 23) st3 (envH mm i a b es (some (.lst ((gi mm a).map D.int), false)) (some (.int (d : Nat), false)) x10 x11 x12 x13 x14 x15) [(24, []), (25, bs2)] = .ok (.nx (envH mm i a b es (some (.lst ((gi mm a).map D.int), false)) (some (.int (d : Nat), false)) (some (hereN b d, false)) (some (.lst ((comesN b d).map cmD), true)) x12 x13 x14 x15) [(24, []), (25, bs2)]) := c_st3 bs2 hb5 hd _ _ _ _ _ _ _ _ _ _ _ _ _
    have hb2 := u2.bx hb
    obtain ⟨⟨r, b'⟩, hb5', bs3, q5, u3⟩ := t5 (mm := mm) (i := i) (a := a) (b := b) (d := d) (es := es) (x8 := some (.lst ((gi mm a).map D.int), false)) (x10 := some (hereN b d, false)) (x12 := x12) (x13 := x13) (x14 := x14) (x15 := x15) hb2 hb5 hd
    have hb3 := u3.bx hb2
    have q6 := t6 (mm := mm) (i := i) (a := a) (b := b') (d := d) (r := r) (es := es) (bs := bs3) (x8 := some (.lst ((gi mm a).map D.int), false)) (x10 := some (hereN b d, false)) (x11 := some (.lst ((comesN b d).map cmD), false)) (x13 := x13) (x14 := x14) (x15 := x15) ha hb5' hd (by omega)
    have ha' : bh a d (sg b') r < 8 := bh_lt a ha d hd _ sg_lt r
    have hE' : ∀ e ∈ es ++ [D.tup [.str "did", .int (d : Nat), .tup [.int (sg b' : Nat)], .bl r]], En e := by
      intro e he
      rcases List.mem_append.mp he with he | he
      · exact hE e he
      · rw [List.mem_singleton.mp he]
        exact .four _ _ _ _
    unfold body28
    rw [run_nx q1, run_nx q2, run_app q3, run_nx q5, run_nx q6]
    cases r with
    | false =>
      refine ⟨_, _, m - 1, run_nx (ss := []) (by rw [st11, evS_ife]; rfl), by omega, bh a d (sg b') false, b', _, _, _, _, _, _, x13, _, _, bs3, ha', hb5', hE', ?_, h13, rfl, rfl, (u.trans u2).trans u3⟩
      simp only [List.length_append, List.length_cons, List.length_nil]
      omega
    | true =>
      have q7 : evS (callN P74 23) st7 (envH mm i (bh a d (sg b') true) b' (es ++ [D.tup [.str "did", .int (d : Nat), .tup [.int (sg b' : Nat)], .bl true]]) (some (.lst ((gi mm a).map D.int), false)) (some (.int (d : Nat), false)) (some (hereN b d, false)) (some (.lst ((comesN b d).map cmD), false)) (some (.bl true, false)) x13 x14 x15) [(24, []), (25, bs3)] = .ok (.nx (envH mm i (bh a d (sg b') true) b' (es ++ [D.tup [.str "did", .int (d : Nat), .tup [.int (sg b' : Nat)], .bl true]]) (some (.lst ((gi mm a).map D.int), false)) (some (.int (d : Nat), false)) (some (hereN b d, false)) (some (.lst ((comesN b d).map cmD), false)) (some (.bl true, false)) x13 (some (.lst ((wi mm (bh a d (sg b') true)).map D.int), true)) x15) [(24, []), (25, bs3)]) := c_st7 bs3 hmm ha' _ _ _ _ _ _ _ _ _ _ _ _ _ _ h13
      obtain ⟨w, hw, bs4, q8, u4⟩ := t8 hmm (i := i) (a := bh a d (sg b') true) (b := b') (xs := wi mm (bh a d (sg b') true)) (es := es ++ [D.tup [.str "did", .int (d : Nat), .tup [.int (sg b' : Nat)], .bl true]]) (x8 := some (.lst ((gi mm a).map D.int), false)) (x9 := some (.int (d : Nat), false)) (x10 := some (hereN b d, false)) (x11 := some (.lst ((comesN b d).map cmD), false)) (x12 := some (.bl true, false)) (x13 := x13) (x15 := x15) hb3 (wi_bit mm (by omega) (by omega) _ ha') (wi_len mm (by omega) _ ha')
      have hb4 := u4.bx hb3
      obtain ⟨hh, hhl, bs5, q9, u5⟩ := t9 hmm (i := i) (a := bh a d (sg b') true) (b := b') (d := w) (es := es ++ [D.tup [.str "did", .int (d : Nat), .tup [.int (sg b' : Nat)], .bl true]]) (x8 := some (.lst ((gi mm a).map D.int), false)) (x9 := some (.int (d : Nat), false)) (x10 := some (hereN b d, false)) (x11 := some (.lst ((comesN b d).map cmD), false)) (x12 := some (.bl true, false)) (x14 := some (.lst ((wi mm (bh a d (sg b') true)).map D.int), false)) (x15 := x15) hb4 hw
      have q10 := t10 hmm (i := i) (a := bh a d (sg b') true) (b := b') (d := w) (h := hh) (bs := bs5) (es := es ++ [D.tup [.str "did", .int (d : Nat), .tup [.int (sg b' : Nat)], .bl true]]) (x8 := some (.lst ((gi mm a).map D.int), false)) (x9 := some (.int (d : Nat), false)) (x10 := some (hereN b d, false)) (x11 := some (.lst ((comesN b d).map cmD), false)) (x12 := some (.bl true, false)) (x14 := some (.lst ((wi mm (bh a d (sg b') true)).map D.int), false)) hb5' hhl (by simp only [List.length_append, List.length_cons, List.length_nil]; omega)
      have q11 : evS (callN P74 23) st11 (envH mm i (bh a d (sg b') true) b' (es ++ [D.tup [.str "did", .int (d : Nat), .tup [.int (sg b' : Nat)], .bl true]]) (some (.lst ((gi mm a).map D.int), false)) (some (.int (d : Nat), false)) (some (hereN b d, false)) (some (.lst ((comesN b d).map cmD), false)) (some (.bl true, false)) x13 x14 x15) [(24, []), (25, bs3)] = evSs (callN P74 23) [st7, st8, st9, st10] (envH mm i (bh a d (sg b') true) b' (es ++ [D.tup [.str "did", .int (d : Nat), .tup [.int (sg b' : Nat)], .bl true]]) (some (.lst ((gi mm a).map D.int), false)) (some (.int (d : Nat), false)) (some (hereN b d, false)) (some (.lst ((comesN b d).map cmD), false)) (some (.bl true, false)) x13 x14 x15) [(24, []), (25, bs3)] := by
        rw [st11, evS_ife]
        rfl
      rw [run_nx q7, run_nx q8, run_nx q9, run_nx q10] at q11
      refine ⟨_, _, m - 3, run_nx (ss := []) q11, by omega, mn hh (sg b'), b', _, _, _, _, _, _, _, _, _, bs5, mn_lt hh (by omega) _ sg_lt, hb5', ?_, ?_, .inr ⟨_, rfl⟩, rfl, rfl, (((u.trans u2).trans u3).trans u4).trans u5⟩
      · intro e he
        rcases List.mem_append.mp he with he | he
        · exact hE' e he
        · simp only [List.mem_cons, List.mem_nil_iff, or_false] at he
          rcases he with rfl | rfl <;> exact .two _ _
      · simp only [List.length_append, List.length_cons, List.length_nil]
        omega
  · exact .inl (by rw [decide_eq_false h9])
def s28a : List St := [(.pre [1, 2] (.par [4, 5, 6, 7] [(.tup [(.cst (.int 0))]), (.cst (.int 0)), (.tup []), (.call 28 [(.var 1), (.var 2)])]))]
def s28c : St := (.pre [5] (.ret (.tup [(.cut (.var 6) none (some (.var 3))), (.var 5)])))
theorem F28 : F74_33.np = 4 ∧ F74_33.ns = 19 ∧ F74_33.body = s28a ++ [.wh [] cond28 body28, s28c] := by unfold F74_33; exact ⟨rfl, rfl, rfl⟩
/-- _law_hands_log -/
theorem hands_s {mm i : Nat} (hmm : mm = 1 ∨ mm = 2) {bs : List D} (hb : Bx [(25, bs)] i) : ∃ (ls : List D) (b : Nat) (bs' : List D), (∀ e ∈ ls, En e) ∧ ls.length ≤ 12 ∧ callN P74 24 33 [.ref 25 i, Wd, Bkk mm, .int 9] [(25, bs)] = .ok (.tup [.tup ls, .int b], .fz, [(25, bs')]) ∧ Up [(25, bs)] i [(25, bs')] := by
  have h0 : evSs (callN P74 23) s28a [some (.ref 25 i, false), some (Wd, false), some (Bkk mm, false), some (.int 9, false), none, none, none, none, none, none, none, none, none, none, none, none, none, none, none] [(24, []), (25, bs)] = .ok (.nx (envH mm i 1 0 [] none none none none none none none none) [(24, []), (25, bs)]) := by
    simp [runF, evSs, evT, evTo, evEs, evO, evPar, evIt, varO, deref, idxO, L2.atI, L2.ixN, cmpO, eqO, isO, p1O, p2O, binO, intO, modI, mulI, fdivI, powI, addO, kept, modE, modE2, putO, appO, popO, wr, D.lev, D.levL, put, look, setE, setEs, leave, frz, bindO, bindTu, wipeE, srcO, seqO, seq2O, zipO, truO, isaO, cutO, D.isNon, line, Out.bind_ok, Out.of_some, Out.of_none, evE_cst, evE_var, evE_tup, evE_lst, evE_dic0, evE_dic1, evE_bin, evE_neg, evE_notv, evE_andv, evE_orv, evE_cmp, evE_ifx, evE_idx, evE_cut, evE_call, evE_p1, evE_p2, evE_isa, evE_index, evE_comp, evS_pre, evS_set, evS_setSh, evS_setTu, evS_par, evS_setIx, evS_app, evS_appPop, evS_appSd, evS_setSd, evS_ife, evS_for_, evS_wh, evS_ret, evS_retV, evS_exp, s28a, c21 _ hmm, envH, lotN, lots]
  obtain ⟨m', env', S', q, a, b, es, x8, x9, x10, x11, x12, x13, x14, x15, bs', ha, hb5, hE, hm, h13, rfl, rfl, u⟩ := loopW_inv (inv28 hmm hb) turns 12 (envH mm i 1 0 [] none none none none none none none none) [(24, []), (25, bs)] (by decide) ⟨1, 0, [], none, none, none, none, none, none, none, none, bs, by omega, by omega, by simp, by simp, .inl rfl, rfl, rfl, Up.refl hb⟩
  refine ⟨cutL es none (some 9), b, bs', ?_, ?_, run_fn P74_33 F28.1.symm (ab23 bs) ?_, u⟩
  · intro e he
    exact hE e (List.mem_of_mem_drop (List.mem_of_mem_take he))
  · have h1 : (cutL es none (some 9)).length ≤ es.length := by
      simp only [cutL, List.length_take, List.length_drop]
      omega
    omega
  · rw [F28.1, F28.2.1, F28.2.2]
    show evSs _ _ [some (.ref 25 i, false), some (Wd, false), some (Bkk mm, false), some (.int 9, false), none, none, none, none, none, none, none, none, none, none, none, none, none, none, none] _ = _
    rw [run_app h0, run_nx (s := .wh [] cond28 body28) (by rw [evS_wh]; exact q)]
    apply run_rt
    show evS _ s28c (envH mm i a b es x8 x9 x10 x11 x12 x13 x14 x15) _ = _
    simp [runF, evSs, evT, evTo, evEs, evO, evPar, evIt, varO, deref, idxO, L2.atI, L2.ixN, cmpO, eqO, isO, p1O, p2O, binO, intO, modI, mulI, fdivI, powI, addO, kept, modE, modE2, putO, appO, popO, wr, D.lev, D.levL, put, look, setE, setEs, leave, frz, bindO, bindTu, wipeE, srcO, seqO, seq2O, zipO, truO, isaO, cutO, D.isNon, line, Out.bind_ok, Out.of_some, Out.of_none, evE_cst, evE_var, evE_tup, evE_lst, evE_dic0, evE_dic1, evE_bin, evE_neg, evE_notv, evE_andv, evE_orv, evE_cmp, evE_ifx, evE_idx, evE_cut, evE_call, evE_p1, evE_p2, evE_isa, evE_index, evE_comp, evS_pre, evS_set, evS_setSh, evS_setTu, evS_par, evS_setIx, evS_app, evS_appPop, evS_appSd, evS_setSd, evS_ife, evS_for_, evS_wh, evS_ret, evS_retV, evS_exp, s28c, envH]
end Z
end
section
namespace Z
open PySem
/-- a call from within the law's own frame -/
theorem entry_h {mm i : Nat} {bs : List D} (hmm : mm = 1 ∨ mm = 2) (hb : Bx [(25, bs)] i) : ∃ e, EnM mm e ∧ ∃ bs', callN P74 23 34 [.ref 25 i, Wd, .int mm] [(24, []), (25, bs)] = .ok (e, .fz, [(24, []), (25, bs')]) ∧ Up [(25, bs)] i [(25, bs')] := by
  obtain ⟨e, he, S', h, u⟩ := entry_s (mm := mm) (by omega) (by omega) (l := 20) (i := i) (S := [(24, []), (25, bs)]) (by omega) (ab23 bs).fr (hb.fr (by omega))
  obtain ⟨S'', rfl, u'⟩ := u.fr (by omega)
  obtain ⟨bs', rfl⟩ := u'.one
  exact ⟨e, he, bs', h, u'⟩
theorem backsL_len (es : List Ev) : (backsL es).length ≤ es.length := by
  have := List.length_filterMap_le (fun p : Ev × Nat => if decide (lastS es ≤ (p.2 : Int)) && (isAct p.1 && !goneB es p.2) then some (p.2 : Int) else none) es.zipIdx
  simpa [backsL] using this
def thN (rs : Rows) : List Int := nms (rs.filter Row.th)
theorem thN_len (rs : Rows) : (thN rs).length ≤ rs.length := by
  simp only [thN, nms, List.length_map]
  exact List.length_filter_le ..
theorem names30 (C : Cal) {rs : Rows} {a0 a1 a2 a3 a4 a5 a6 a7 a8 a9 a10 a11 : Option (D × Bool)} {S : Sto} (hl : rs.length ≤ line) : loopC (cmpB C (.idx (.var 11) (.cst (.int 0))) (.nm 11) none [10, 11] [a0, a1, a2, a3, a4, a5, a6, a7, a8, a9, a10, a11]) (rs.map Row.l) S [] = .ok ((nms rs).map D.int, S) := by
  rw [loopC_map (f := fun r : Row => some (D.int r.nm))]
  · simp [map_nms]
  · intro r _
    simp [runF, evSs, evT, evTo, evEs, evO, evPar, evIt, varO, deref, idxO, L2.atI, L2.ixN, cmpO, eqO, isO, p1O, p2O, binO, intO, modI, mulI, fdivI, powI, addO, kept, modE, modE2, putO, appO, popO, wr, D.lev, D.levL, put, look, setE, setEs, leave, frz, bindO, bindTu, wipeE, srcO, seqO, seq2O, zipO, truO, isaO, cutO, D.isNon, line, Out.bind_ok, Out.of_some, Out.of_none, evE_cst, evE_var, evE_tup, evE_lst, evE_dic0, evE_dic1, evE_bin, evE_neg, evE_notv, evE_andv, evE_orv, evE_cmp, evE_ifx, evE_idx, evE_cut, evE_call, evE_p1, evE_p2, evE_isa, evE_index, evE_comp, evS_pre, evS_set, evS_setSh, evS_setTu, evS_par, evS_setIx, evS_app, evS_appPop, evS_appSd, evS_setSd, evS_ife, evS_for_, evS_wh, evS_ret, evS_retV, evS_exp, cmpB, Row.l]
  · simpa using hl
theorem filterMap_thn (rs : Rows) : rs.filterMap (fun r : Row => if r.th then some (D.int r.nm) else none) = (thN rs).map D.int := by
  induction rs with
  | nil => rfl
  | cons r rs ih => cases h : r.th <;> simp [h, ih, thN, nms]
theorem there30 (C : Cal) {rs : Rows} {a0 a1 a2 a3 a4 a5 a6 a7 a8 a9 a10 a11 : Option (D × Bool)} {S : Sto} (hl : rs.length ≤ line) : loopC (cmpB C (.idx (.var 11) (.cst (.int 0))) (.nm 11) (some (.val (.idx (.var 11) (.cst (.int 2))))) [10, 11] [a0, a1, a2, a3, a4, a5, a6, a7, a8, a9, a10, a11]) (rs.map Row.l) S [] = .ok ((thN rs).map D.int, S) := by
  rw [loopC_map (f := fun r : Row => if r.th then some (D.int r.nm) else none)]
  · simp [filterMap_thn]
  · intro r _
    cases h : r.th <;> simp [runF, evSs, evT, evTo, evEs, evO, evPar, evIt, varO, deref, idxO, L2.atI, L2.ixN, cmpO, eqO, isO, p1O, p2O, binO, intO, modI, mulI, fdivI, powI, addO, kept, modE, modE2, putO, appO, popO, wr, D.lev, D.levL, put, look, setE, setEs, leave, frz, bindO, bindTu, wipeE, srcO, seqO, seq2O, zipO, truO, isaO, cutO, D.isNon, line, Out.bind_ok, Out.of_some, Out.of_none, evE_cst, evE_var, evE_tup, evE_lst, evE_dic0, evE_dic1, evE_bin, evE_neg, evE_notv, evE_andv, evE_orv, evE_cmp, evE_ifx, evE_idx, evE_cut, evE_call, evE_p1, evE_p2, evE_isa, evE_index, evE_comp, evS_pre, evS_set, evS_setSh, evS_setTu, evS_par, evS_setIx, evS_app, evS_appPop, evS_appSd, evS_setSd, evS_ife, evS_for_, evS_wh, evS_ret, evS_retV, evS_exp, cmpB, Row.l, h]
  · simpa using hl
def s30a : List St := [
    (.pre [1, 0] (.par [5, 6] [(.call 30 [(.var 1)]), (.call 16 [(.var 0), (.cst (.int 14))])])),
    (.pre [1] (.par [7, 8, 9] [(.comp (.idx (.var 11) (.cst (.int 0))) (.nm 11) (.seq (.var 5)) (some (.val (.idx (.var 11) (.cst (.int 2))))) [10, 11]), (.bin .add (.lst [(.bin .sub (.cst (.int 0)) (.cst (.int 1)))]) (.comp (.idx (.var 11) (.cst (.int 0))) (.nm 11) (.seq (.var 5)) none [10, 11])), (.call 31 [(.var 1)])]))]
def s30b : List St := [
    (.ife (.and (.cmp .eq (.var 6) (.cst (.int 0))) (.cmp .ne (.var 7) (.lst []))) [
    (.pre [0, 7] (.ret (.tup [(.cst (.str "away")), (.call 17 [(.var 0), (.var 7)])])))] [
    ]),
    (.ife (.and (.cmp .eq (.var 6) (.cst (.int 1))) (.cmp .ne (.var 7) (.lst []))) [
    (.pre [0, 7, 0, 2] (.ret (.tup [(.cst (.str "instead")), (.call 17 [(.var 0), (.var 7)]), (.call 34 [(.var 0), (.var 2), (.p1 .len (.var 3))])])))] [
    ]),
    (.ife (.and (.cmp .lt (.var 6) (.cst (.int 5))) (.cmp .ne (.var 9) (.lst []))) [
    (.pre [0, 9] (.ret (.tup [(.cst (.str "back")), (.call 17 [(.var 0), (.var 9)])])))] [
    ]),
    (.ife (.cmp .eq (.var 6) (.cst (.int 5))) [
    (.ret (.tup [(.cst (.str "settle"))]))] [
    ]),
    (.ife (.cmp .eq (.var 6) (.cst (.int 6))) [
    (.pre [0, 8, 0, 2] (.ret (.tup [(.cst (.str "behind")), (.call 17 [(.var 0), (.var 8)]), (.call 34 [(.var 0), (.var 2), (.p1 .len (.var 3))])])))] [
    ]),
    (.pre [0, 2] (.ret (.tup [(.cst (.str "behind")), (.idx (.var 8) (.bin .sub (.p1 .len (.var 8)) (.cst (.int 1)))), (.ifx (.cmp .lt (.p1 .len (.var 7)) (.p1 .len (.var 4))) (.idx (.var 4) (.p1 .len (.var 7))) (.call 34 [(.var 0), (.var 2), (.p1 .len (.var 3))]))])))]
theorem F30 : F74_35.np = 5 ∧ F74_35.ns = 12 ∧ F74_35.body = s30a ++ s30b := by unfold F74_35; exact ⟨rfl, rfl, rfl⟩
theorem a30 {mm i : Nat} {bs : List D} {es : List Ev} {LG : D} (hb : Bx [(25, bs)] i) (v : VV es) (hl : es.length ≤ 900) :
    ∃ (w : Nat) (bs' : List D), evSs (callN P74 23) s30a [some (.ref 25 i, false), some (.tup (es.map Ev.d), false), some (Wd, false), some (Bkk mm, false), some (LG, false), none, none, none, none, none, none, none] [(24, []), (25, bs)] = .ok (.nx [some (.ref 25 i, false), some (.tup (es.map Ev.d), false), some (Wd, false), some (Bkk mm, false), some (LG, false), some (.lst ((rowsOf es).map Row.l), true), some (.int w, false), some (.lst ((thN (rowsOf es)).map D.int), true), some (.lst ((-1 :: nms (rowsOf es)).map D.int), true), some (.lst ((backsL es).map D.int), true), none, none] [(24, []), (25, bs')]) ∧ Up [(25, bs)] i [(25, bs')] := by
  obtain ⟨w, bs', h, u, hw⟩ := take_h (m := 14) hb (by decide) (by decide)
  have h23 := lifeRows_s (l := 22) (S := [(24, []), (25, bs)]) (es := es) (ab23 bs).fr (by omega) v
  have h26 := backs_s (l := 22) (S := [(24, []), (25, bs')]) (es := es) (ab23 bs').fr (by omega)
  have hr : (rowsOf es).length ≤ line := by have := rowsOf_len es; simp only [line]; omega
  have m1 : 1 + (nms (rowsOf es)).length ≤ 16777216 := by have := rowsOf_len es; simp only [nms, List.length_map]; omega
  refine ⟨w, bs', ?_, u⟩
  simp [runF, evSs, evT, evTo, evEs, evO, evPar, evIt, varO, deref, idxO, L2.atI, L2.ixN, cmpO, eqO, isO, p1O, p2O, binO, intO, modI, mulI, fdivI, powI, addO, kept, modE, modE2, putO, appO, popO, wr, D.lev, D.levL, put, look, setE, setEs, leave, frz, bindO, bindTu, wipeE, srcO, seqO, seq2O, zipO, truO, isaO, cutO, D.isNon, line, Out.bind_ok, Out.of_some, Out.of_none, evE_cst, evE_var, evE_tup, evE_lst, evE_dic0, evE_dic1, evE_bin, evE_neg, evE_notv, evE_andv, evE_orv, evE_cmp, evE_ifx, evE_idx, evE_cut, evE_call, evE_p1, evE_p2, evE_isa, evE_index, evE_comp, evS_pre, evS_set, evS_setSh, evS_setTu, evS_par, evS_setIx, evS_app, evS_appPop, evS_appSd, evS_setSd, evS_ife, evS_for_, evS_wh, evS_ret, evS_retV, evS_exp, s30a, h, h23, h26, names30 _ hr, there30 _ hr, m1]
end Z
end
section
namespace Z
open PySem
def env30 (mm i : Nat) (E L R : D) (w : Int) (TH NM BK : List Int) (t7 t8 t9 : Bool) : Env := [some (.ref 25 i, false), some (E, false), some (Wd, false), some (Bkk mm, false), some (L, false), some (R, true), some (.int w, false), some (.lst (TH.map D.int), t7), some (.lst (NM.map D.int), t8), some (.lst (BK.map D.int), t9), none, none]
theorem pass0 {C : Cal} {a : _} {mm i : Nat} {E L R : D} {w : Int} {TH NM BK : List Int} {S : Sto} (h : ¬ (w = 0 ∧ TH ≠ [])) : evS C (.ife (.and (.cmp .eq (.var 6) (.cst (.int 0))) (.cmp .ne (.var 7) (.lst []))) a []) (env30 mm i E L R w TH NM BK true true true) S = .ok (.nx (env30 mm i E L R w TH NM BK true true true) S) := by
  by_cases h1 : w = 0
  · have h2 : TH = [] := by
      by_cases h2 : TH = []
      · exact h2
      · exact absurd ⟨h1, h2⟩ h
    subst h1 h2
    simp [runF, evSs, evT, evTo, evEs, evO, evPar, evIt, varO, deref, idxO, L2.atI, L2.ixN, cmpO, eqO, isO, p1O, p2O, binO, intO, modI, mulI, fdivI, powI, addO, kept, modE, modE2, putO, appO, popO, wr, D.lev, D.levL, put, look, setE, setEs, leave, frz, bindO, bindTu, wipeE, srcO, seqO, seq2O, zipO, truO, isaO, cutO, D.isNon, line, Out.bind_ok, Out.of_some, Out.of_none, evE_cst, evE_var, evE_tup, evE_lst, evE_dic0, evE_dic1, evE_bin, evE_neg, evE_notv, evE_andv, evE_orv, evE_cmp, evE_ifx, evE_idx, evE_cut, evE_call, evE_p1, evE_p2, evE_isa, evE_index, evE_comp, evS_pre, evS_set, evS_setSh, evS_setTu, evS_par, evS_setIx, evS_app, evS_appPop, evS_appSd, evS_setSd, evS_ife, evS_for_, evS_wh, evS_ret, evS_retV, evS_exp, env30, D.ok, D.okN, D.okNL, D.eqv, D.eqvL]
  · simp [runF, evSs, evT, evTo, evEs, evO, evPar, evIt, varO, deref, idxO, L2.atI, L2.ixN, cmpO, eqO, isO, p1O, p2O, binO, intO, modI, mulI, fdivI, powI, addO, kept, modE, modE2, putO, appO, popO, wr, D.lev, D.levL, put, look, setE, setEs, leave, frz, bindO, bindTu, wipeE, srcO, seqO, seq2O, zipO, truO, isaO, cutO, D.isNon, line, Out.bind_ok, Out.of_some, Out.of_none, evE_cst, evE_var, evE_tup, evE_lst, evE_dic0, evE_dic1, evE_bin, evE_neg, evE_notv, evE_andv, evE_orv, evE_cmp, evE_ifx, evE_idx, evE_cut, evE_call, evE_p1, evE_p2, evE_isa, evE_index, evE_comp, evS_pre, evS_set, evS_setSh, evS_setTu, evS_par, evS_setIx, evS_app, evS_appPop, evS_appSd, evS_setSd, evS_ife, evS_for_, evS_wh, evS_ret, evS_retV, evS_exp, env30, h1]
theorem pass1 {C : Cal} {a : _} {mm i : Nat} {E L R : D} {w : Int} {TH NM BK : List Int} {S : Sto} (h : ¬ (w = 1 ∧ TH ≠ [])) : evS C (.ife (.and (.cmp .eq (.var 6) (.cst (.int 1))) (.cmp .ne (.var 7) (.lst []))) a []) (env30 mm i E L R w TH NM BK true true true) S = .ok (.nx (env30 mm i E L R w TH NM BK true true true) S) := by
  by_cases h1 : w = 1
  · have h2 : TH = [] := by
      by_cases h2 : TH = []
      · exact h2
      · exact absurd ⟨h1, h2⟩ h
    subst h1 h2
    simp [runF, evSs, evT, evTo, evEs, evO, evPar, evIt, varO, deref, idxO, L2.atI, L2.ixN, cmpO, eqO, isO, p1O, p2O, binO, intO, modI, mulI, fdivI, powI, addO, kept, modE, modE2, putO, appO, popO, wr, D.lev, D.levL, put, look, setE, setEs, leave, frz, bindO, bindTu, wipeE, srcO, seqO, seq2O, zipO, truO, isaO, cutO, D.isNon, line, Out.bind_ok, Out.of_some, Out.of_none, evE_cst, evE_var, evE_tup, evE_lst, evE_dic0, evE_dic1, evE_bin, evE_neg, evE_notv, evE_andv, evE_orv, evE_cmp, evE_ifx, evE_idx, evE_cut, evE_call, evE_p1, evE_p2, evE_isa, evE_index, evE_comp, evS_pre, evS_set, evS_setSh, evS_setTu, evS_par, evS_setIx, evS_app, evS_appPop, evS_appSd, evS_setSd, evS_ife, evS_for_, evS_wh, evS_ret, evS_retV, evS_exp, env30, D.ok, D.okN, D.okNL, D.eqv, D.eqvL]
  · simp [runF, evSs, evT, evTo, evEs, evO, evPar, evIt, varO, deref, idxO, L2.atI, L2.ixN, cmpO, eqO, isO, p1O, p2O, binO, intO, modI, mulI, fdivI, powI, addO, kept, modE, modE2, putO, appO, popO, wr, D.lev, D.levL, put, look, setE, setEs, leave, frz, bindO, bindTu, wipeE, srcO, seqO, seq2O, zipO, truO, isaO, cutO, D.isNon, line, Out.bind_ok, Out.of_some, Out.of_none, evE_cst, evE_var, evE_tup, evE_lst, evE_dic0, evE_dic1, evE_bin, evE_neg, evE_notv, evE_andv, evE_orv, evE_cmp, evE_ifx, evE_idx, evE_cut, evE_call, evE_p1, evE_p2, evE_isa, evE_index, evE_comp, evS_pre, evS_set, evS_setSh, evS_setTu, evS_par, evS_setIx, evS_app, evS_appPop, evS_appSd, evS_setSd, evS_ife, evS_for_, evS_wh, evS_ret, evS_retV, evS_exp, env30, h1]
theorem pass2 {C : Cal} {a : _} {mm i : Nat} {E L R : D} {w : Int} {TH NM BK : List Int} {S : Sto} (h : ¬ (w < 5 ∧ BK ≠ [])) : evS C (.ife (.and (.cmp .lt (.var 6) (.cst (.int 5))) (.cmp .ne (.var 9) (.lst []))) a []) (env30 mm i E L R w TH NM BK true true true) S = .ok (.nx (env30 mm i E L R w TH NM BK true true true) S) := by
  by_cases h1 : w < 5
  · have h2 : BK = [] := by
      by_cases h2 : BK = []
      · exact h2
      · exact absurd ⟨h1, h2⟩ h
    subst h2
    simp [runF, evSs, evT, evTo, evEs, evO, evPar, evIt, varO, deref, idxO, L2.atI, L2.ixN, cmpO, eqO, isO, p1O, p2O, binO, intO, modI, mulI, fdivI, powI, addO, kept, modE, modE2, putO, appO, popO, wr, D.lev, D.levL, put, look, setE, setEs, leave, frz, bindO, bindTu, wipeE, srcO, seqO, seq2O, zipO, truO, isaO, cutO, D.isNon, line, Out.bind_ok, Out.of_some, Out.of_none, evE_cst, evE_var, evE_tup, evE_lst, evE_dic0, evE_dic1, evE_bin, evE_neg, evE_notv, evE_andv, evE_orv, evE_cmp, evE_ifx, evE_idx, evE_cut, evE_call, evE_p1, evE_p2, evE_isa, evE_index, evE_comp, evS_pre, evS_set, evS_setSh, evS_setTu, evS_par, evS_setIx, evS_app, evS_appPop, evS_appSd, evS_setSd, evS_ife, evS_for_, evS_wh, evS_ret, evS_retV, evS_exp, env30, D.ok, D.okN, D.okNL, D.eqv, D.eqvL, h1]
  · simp [runF, evSs, evT, evTo, evEs, evO, evPar, evIt, varO, deref, idxO, L2.atI, L2.ixN, cmpO, eqO, isO, p1O, p2O, binO, intO, modI, mulI, fdivI, powI, addO, kept, modE, modE2, putO, appO, popO, wr, D.lev, D.levL, put, look, setE, setEs, leave, frz, bindO, bindTu, wipeE, srcO, seqO, seq2O, zipO, truO, isaO, cutO, D.isNon, line, Out.bind_ok, Out.of_some, Out.of_none, evE_cst, evE_var, evE_tup, evE_lst, evE_dic0, evE_dic1, evE_bin, evE_neg, evE_notv, evE_andv, evE_orv, evE_cmp, evE_ifx, evE_idx, evE_cut, evE_call, evE_p1, evE_p2, evE_isa, evE_index, evE_comp, evS_pre, evS_set, evS_setSh, evS_setTu, evS_par, evS_setIx, evS_app, evS_appPop, evS_appSd, evS_setSd, evS_ife, evS_for_, evS_wh, evS_ret, evS_retV, evS_exp, env30, h1]
theorem pass3 {C : Cal} {k : Int} {a : _} {mm i : Nat} {E L R : D} {w : Int} {TH NM BK : List Int} {S : Sto} (h : ¬ (w = k)) : evS C (.ife (.cmp .eq (.var 6) (.cst (.int k))) a []) (env30 mm i E L R w TH NM BK true true true) S = .ok (.nx (env30 mm i E L R w TH NM BK true true true) S) := by
  simp [runF, evSs, evT, evTo, evEs, evO, evPar, evIt, varO, deref, idxO, L2.atI, L2.ixN, cmpO, eqO, isO, p1O, p2O, binO, intO, modI, mulI, fdivI, powI, addO, kept, modE, modE2, putO, appO, popO, wr, D.lev, D.levL, put, look, setE, setEs, leave, frz, bindO, bindTu, wipeE, srcO, seqO, seq2O, zipO, truO, isaO, cutO, D.isNon, line, Out.bind_ok, Out.of_some, Out.of_none, evE_cst, evE_var, evE_tup, evE_lst, evE_dic0, evE_dic1, evE_bin, evE_neg, evE_notv, evE_andv, evE_orv, evE_cmp, evE_ifx, evE_idx, evE_cut, evE_call, evE_p1, evE_p2, evE_isa, evE_index, evE_comp, evS_pre, evS_set, evS_setSh, evS_setTu, evS_par, evS_setIx, evS_app, evS_appPop, evS_appSd, evS_setSd, evS_ife, evS_for_, evS_wh, evS_ret, evS_retV, evS_exp, env30, h]
theorem bk_len {mm : Nat} (hmm : mm = 1 ∨ mm = 2) : ∃ ds, Bkk mm = .tup ds ∧ ds.length = mm := by
  rcases hmm with rfl | rfl
  · exact ⟨_, rfl, rfl⟩
  · exact ⟨_, rfl, rfl⟩
theorem b30 {mm i : Nat} (hmm : mm = 1 ∨ mm = 2) {bs : List D} {es : List Ev} {R : D} {w : Int} {ls : List D} (hb : Bx [(25, bs)] i) (hl : es.length ≤ 900) (hE : ∀ e ∈ ls, En e) (hL : ls.length ≤ 1000) :
    ∃ (e : Ev) (bs' : List D), Can es e ∧ evSs (callN P74 23) s30b (env30 mm i (.tup (es.map Ev.d)) (.tup ls) R w (thN (rowsOf es)) (-1 :: nms (rowsOf es)) (backsL es) true true true) [(24, []), (25, bs)] = .ok (.rt e.d .fz [(24, []), (25, bs')]) ∧ Up [(25, bs)] i [(25, bs')] := by
  obtain ⟨bd, hbd, hbl⟩ := bk_len hmm
  have l1 : (rowsOf es).length ≤ 900 := Nat.le_trans (rowsOf_len es) hl
  have l2 : (thN (rowsOf es)).length ≤ 900 := Nat.le_trans (thN_len _) l1
  have l3 : (backsL es).length ≤ 900 := Nat.le_trans (backsL_len es) hl
  have l4 : (-1 :: nms (rowsOf es)).length ≤ 901 := by simp only [List.length_cons, nms, List.length_map]; omega
  have hN : ∀ n ∈ (-1 :: nms (rowsOf es)), n = -1 ∨ n ∈ nms (rowsOf es) := fun n hn => List.mem_cons.mp hn
  obtain ⟨j, hj⟩ : ∃ j, (-1 :: nms (rowsOf es)).length = j + 1 := ⟨_, rfl⟩
  generalize hTH : thN (rowsOf es) = TH at *
  generalize hNM : (-1 :: nms (rowsOf es)) = NM at *
  have hBK : ∀ n ∈ backsL es, n ∈ backsL es := fun _ h => h
  generalize hBB : backsL es = BK at *
  unfold s30b
  by_cases c0 : w = 0 ∧ TH ≠ []
  · obtain ⟨rfl, c⟩ := c0
    have cE : TH.isEmpty = false := by simpa using c
    obtain ⟨d, hd, bs', h, u⟩ := pick_h hb (.inl rfl) (ds := TH.map D.int) (by simpa using c) (by simp; omega)
    obtain ⟨n, hn, rfl⟩ := List.mem_map.mp hd
    refine ⟨.away n, bs', ⟨trivial, trivial, fun m hm => by cases hm⟩, run_rt ?_, u⟩
    simp [runF, evSs, evT, evTo, evEs, evO, evPar, evIt, varO, deref, idxO, L2.atI, L2.ixN, cmpO, eqO, isO, p1O, p2O, binO, intO, modI, mulI, fdivI, powI, addO, kept, modE, modE2, putO, appO, popO, wr, D.lev, D.levL, put, look, setE, setEs, leave, frz, bindO, bindTu, wipeE, srcO, seqO, seq2O, zipO, truO, isaO, cutO, D.isNon, line, Out.bind_ok, Out.of_some, Out.of_none, evE_cst, evE_var, evE_tup, evE_lst, evE_dic0, evE_dic1, evE_bin, evE_neg, evE_notv, evE_andv, evE_orv, evE_cmp, evE_ifx, evE_idx, evE_cut, evE_call, evE_p1, evE_p2, evE_isa, evE_index, evE_comp, evS_pre, evS_set, evS_setSh, evS_setTu, evS_par, evS_setIx, evS_app, evS_appPop, evS_appSd, evS_setSd, evS_ife, evS_for_, evS_wh, evS_ret, evS_retV, evS_exp, env30, ok_lints, ok_nil, eqv_nil, cE, h, Ev.d]
  rw [run_nx (pass0 c0)]
  by_cases c1 : w = 1 ∧ TH ≠ []
  · obtain ⟨rfl, c⟩ := c1
    have cE : TH.isEmpty = false := by simpa using c
    obtain ⟨d, hd, bs1, h, u⟩ := pick_h hb (.inl rfl) (ds := TH.map D.int) (by simpa using c) (by simp; omega)
    obtain ⟨n, hn, rfl⟩ := List.mem_map.mp hd
    obtain ⟨e, he, bs2, h2, u2⟩ := entry_h hmm (u.bx hb)
    refine ⟨.inst n e, bs2, ⟨trivial, he.en, fun m hm => by cases hm⟩, run_rt ?_, u.trans u2⟩
    simp [runF, evSs, evT, evTo, evEs, evO, evPar, evIt, varO, deref, idxO, L2.atI, L2.ixN, cmpO, eqO, isO, p1O, p2O, binO, intO, modI, mulI, fdivI, powI, addO, kept, modE, modE2, putO, appO, popO, wr, D.lev, D.levL, put, look, setE, setEs, leave, frz, bindO, bindTu, wipeE, srcO, seqO, seq2O, zipO, truO, isaO, cutO, D.isNon, line, Out.bind_ok, Out.of_some, Out.of_none, evE_cst, evE_var, evE_tup, evE_lst, evE_dic0, evE_dic1, evE_bin, evE_neg, evE_notv, evE_andv, evE_orv, evE_cmp, evE_ifx, evE_idx, evE_cut, evE_call, evE_p1, evE_p2, evE_isa, evE_index, evE_comp, evS_pre, evS_set, evS_setSh, evS_setTu, evS_par, evS_setIx, evS_app, evS_appPop, evS_appSd, evS_setSd, evS_ife, evS_for_, evS_wh, evS_ret, evS_retV, evS_exp, env30, hbd, hbl, ok_lints, ok_nil, eqv_nil, cE, h, h2, Ev.d]
  rw [run_nx (pass1 c1)]
  by_cases c2 : w < 5 ∧ BK ≠ []
  · obtain ⟨c5, c⟩ := c2
    have cE : BK.isEmpty = false := by simpa using c
    obtain ⟨d, hd, bs', h, u⟩ := pick_h hb (.inl rfl) (ds := BK.map D.int) (by simpa using c) (by simp; omega)
    obtain ⟨n, hn, rfl⟩ := List.mem_map.mp hd
    refine ⟨.back n, bs', ⟨trivial, trivial, fun m hm => by cases hm; rw [hBB]; exact hn⟩, run_rt ?_, u⟩
    simp [runF, evSs, evT, evTo, evEs, evO, evPar, evIt, varO, deref, idxO, L2.atI, L2.ixN, cmpO, eqO, isO, p1O, p2O, binO, intO, modI, mulI, fdivI, powI, addO, kept, modE, modE2, putO, appO, popO, wr, D.lev, D.levL, put, look, setE, setEs, leave, frz, bindO, bindTu, wipeE, srcO, seqO, seq2O, zipO, truO, isaO, cutO, D.isNon, line, Out.bind_ok, Out.of_some, Out.of_none, evE_cst, evE_var, evE_tup, evE_lst, evE_dic0, evE_dic1, evE_bin, evE_neg, evE_notv, evE_andv, evE_orv, evE_cmp, evE_ifx, evE_idx, evE_cut, evE_call, evE_p1, evE_p2, evE_isa, evE_index, evE_comp, evS_pre, evS_set, evS_setSh, evS_setTu, evS_par, evS_setIx, evS_app, evS_appPop, evS_appSd, evS_setSd, evS_ife, evS_for_, evS_wh, evS_ret, evS_retV, evS_exp, env30, ok_lints, ok_nil, eqv_nil, cE, h, Ev.d, c5]
  rw [run_nx (pass2 c2)]
  by_cases c3 : w = 5
  · refine ⟨.settle, bs, ⟨trivial, trivial, fun m hm => by cases hm⟩, run_rt ?_, Up.refl hb⟩
    simp [runF, evSs, evT, evTo, evEs, evO, evPar, evIt, varO, deref, idxO, L2.atI, L2.ixN, cmpO, eqO, isO, p1O, p2O, binO, intO, modI, mulI, fdivI, powI, addO, kept, modE, modE2, putO, appO, popO, wr, D.lev, D.levL, put, look, setE, setEs, leave, frz, bindO, bindTu, wipeE, srcO, seqO, seq2O, zipO, truO, isaO, cutO, D.isNon, line, Out.bind_ok, Out.of_some, Out.of_none, evE_cst, evE_var, evE_tup, evE_lst, evE_dic0, evE_dic1, evE_bin, evE_neg, evE_notv, evE_andv, evE_orv, evE_cmp, evE_ifx, evE_idx, evE_cut, evE_call, evE_p1, evE_p2, evE_isa, evE_index, evE_comp, evS_pre, evS_set, evS_setSh, evS_setTu, evS_par, evS_setIx, evS_app, evS_appPop, evS_appSd, evS_setSd, evS_ife, evS_for_, evS_wh, evS_ret, evS_retV, evS_exp, env30, c3, Ev.d]
  rw [run_nx (pass3 c3)]
  by_cases c4 : w = 6
  · obtain ⟨d, hd, bs1, h, u⟩ := pick_h hb (.inl rfl) (ds := NM.map D.int) (by intro e; rw [List.map_eq_nil_iff] at e; rw [e] at hj; cases hj) (by simp; omega)
    obtain ⟨n, hn, rfl⟩ := List.mem_map.mp hd
    obtain ⟨e, he, bs2, h2, u2⟩ := entry_h hmm (u.bx hb)
    refine ⟨.beh n e, bs2, ⟨hN n hn, he.en, fun m hm => by cases hm⟩, run_rt ?_, u.trans u2⟩
    simp [runF, evSs, evT, evTo, evEs, evO, evPar, evIt, varO, deref, idxO, L2.atI, L2.ixN, cmpO, eqO, isO, p1O, p2O, binO, intO, modI, mulI, fdivI, powI, addO, kept, modE, modE2, putO, appO, popO, wr, D.lev, D.levL, put, look, setE, setEs, leave, frz, bindO, bindTu, wipeE, srcO, seqO, seq2O, zipO, truO, isaO, cutO, D.isNon, line, Out.bind_ok, Out.of_some, Out.of_none, evE_cst, evE_var, evE_tup, evE_lst, evE_dic0, evE_dic1, evE_bin, evE_neg, evE_notv, evE_andv, evE_orv, evE_cmp, evE_ifx, evE_idx, evE_cut, evE_call, evE_p1, evE_p2, evE_isa, evE_index, evE_comp, evS_pre, evS_set, evS_setSh, evS_setTu, evS_par, evS_setIx, evS_app, evS_appPop, evS_appSd, evS_setSd, evS_ife, evS_for_, evS_wh, evS_ret, evS_retV, evS_exp, env30, hbd, hbl, c4, h, h2, Ev.d]
  rw [run_nx (pass3 c4)]
  have hjl : j < NM.length := by omega
  have hg : NM[j]? = some NM[j] := List.getElem?_eq_getElem hjl
  have hm := List.getElem_mem hjl
  by_cases c5 : TH.length < ls.length
  · have hg2 : ls[TH.length]? = some ls[TH.length] := List.getElem?_eq_getElem c5
    refine ⟨.beh NM[j] ls[TH.length], bs, ⟨hN _ hm, hE _ (List.getElem_mem c5), fun m hm => by cases hm⟩, run_rt ?_, Up.refl hb⟩
    simp [runF, evSs, evT, evTo, evEs, evO, evPar, evIt, varO, deref, idxO, L2.atI, L2.ixN, cmpO, eqO, isO, p1O, p2O, binO, intO, modI, mulI, fdivI, powI, addO, kept, modE, modE2, putO, appO, popO, wr, D.lev, D.levL, put, look, setE, setEs, leave, frz, bindO, bindTu, wipeE, srcO, seqO, seq2O, zipO, truO, isaO, cutO, D.isNon, line, Out.bind_ok, Out.of_some, Out.of_none, evE_cst, evE_var, evE_tup, evE_lst, evE_dic0, evE_dic1, evE_bin, evE_neg, evE_notv, evE_andv, evE_orv, evE_cmp, evE_ifx, evE_idx, evE_cut, evE_call, evE_p1, evE_p2, evE_isa, evE_index, evE_comp, evS_pre, evS_set, evS_setSh, evS_setTu, evS_par, evS_setIx, evS_app, evS_appPop, evS_appSd, evS_setSd, evS_ife, evS_for_, evS_wh, evS_ret, evS_retV, evS_exp, env30, hj, hg, hg2, c5, hjl, Ev.d]
  · obtain ⟨e, he, bs2, h2, u2⟩ := entry_h hmm hb
    refine ⟨.beh NM[j] e, bs2, ⟨hN _ hm, he.en, fun m hm => by cases hm⟩, run_rt ?_, u2⟩
    simp [runF, evSs, evT, evTo, evEs, evO, evPar, evIt, varO, deref, idxO, L2.atI, L2.ixN, cmpO, eqO, isO, p1O, p2O, binO, intO, modI, mulI, fdivI, powI, addO, kept, modE, modE2, putO, appO, popO, wr, D.lev, D.levL, put, look, setE, setEs, leave, frz, bindO, bindTu, wipeE, srcO, seqO, seq2O, zipO, truO, isaO, cutO, D.isNon, line, Out.bind_ok, Out.of_some, Out.of_none, evE_cst, evE_var, evE_tup, evE_lst, evE_dic0, evE_dic1, evE_bin, evE_neg, evE_notv, evE_andv, evE_orv, evE_cmp, evE_ifx, evE_idx, evE_cut, evE_call, evE_p1, evE_p2, evE_isa, evE_index, evE_comp, evS_pre, evS_set, evS_setSh, evS_setTu, evS_par, evS_setIx, evS_app, evS_appPop, evS_appSd, evS_setSd, evS_ife, evS_for_, evS_wh, evS_ret, evS_retV, evS_exp, env30, hbd, hbl, hj, hg, c5, h2, hjl, Ev.d]
/-- _law_any_event -/
theorem event_s {mm i : Nat} (hmm : mm = 1 ∨ mm = 2) {bs : List D} {es : List Ev} {ls : List D} (hb : Bx [(25, bs)] i) (v : VV es) (hl : es.length ≤ 900) (hE : ∀ e ∈ ls, En e) (hL : ls.length ≤ 1000) :
    ∃ (e : Ev) (bs' : List D), Can es e ∧ callN P74 24 35 [.ref 25 i, .tup (es.map Ev.d), Wd, Bkk mm, .tup ls] [(25, bs)] = .ok (e.d, .fz, [(25, bs')]) ∧ Up [(25, bs)] i [(25, bs')] := by
  obtain ⟨w, bs1, h1, u1⟩ := a30 (mm := mm) (LG := .tup ls) hb v hl
  obtain ⟨e, bs2, hc, h2, u2⟩ := b30 hmm (R := .lst ((rowsOf es).map Row.l)) (w := w) (u1.bx hb) hl hE hL
  refine ⟨e, bs2, hc, run_fn P74_35 F30.1.symm (ab23 bs) ?_, u1.trans u2⟩
  rw [F30.1, F30.2.1, F30.2.2]
  show evSs _ (s30a ++ s30b) [some (.ref 25 i, false), some (.tup (es.map Ev.d), false), some (Wd, false), some (Bkk mm, false), some (.tup ls, false), none, none, none, none, none, none, none] _ = _
  rw [run_app h1]
  exact h2
end Z
end
section
namespace Z
open PySem
theorem loopF_inv {b : D → Env → Sto → Out Fl} {N : Nat} {P : Nat → Env → Sto → Prop} : ∀ {ds : List D} {n : Nat} {env : Env} {S : Sto}, (∀ d ∈ ds, ∀ n, n < N → ∀ env S, P n env S → ∃ env' S', b d env S = .ok (.nx env' S') ∧ P (n + 1) env' S') → n + ds.length ≤ N → P n env S → ∃ env' S', loopF b ds env S = .ok (.nx env' S') ∧ P (n + ds.length) env' S'
  | [], n, env, S, _, _, hp => ⟨env, S, rfl, hp⟩
  | d :: ds, n, env, S, h, hn, hp => by
    simp only [List.length_cons] at hn
    obtain ⟨env1, S1, q, hp1⟩ := h d (List.mem_cons_self ..) n (by omega) env S hp
    obtain ⟨env2, S2, q2, hp2⟩ := loopF_inv (n := n + 1) (fun e he => h e (List.mem_cons_of_mem _ he)) (by omega) hp1
    refine ⟨env2, S2, ?_, ?_⟩
    · rw [loopF, q]
      exact q2
    · have e : n + (d :: ds).length = n + 1 + ds.length := by simp only [List.length_cons]; omega
      rw [e]
      exact hp2
inductive Steps : List Ev → List Ev → Prop
  | refl (es : List Ev) : Steps es es
  | snoc {es es' : List Ev} {e : Ev} : Steps es es' → Can es' e → Steps es (es' ++ [e])
theorem Steps.good {es es' : List Ev} (h : Steps es es') (g : Good es) : Good es' := by
  induction h with
  | refl => exact g
  | snoc h c ih => exact Good.step ih c
theorem maxI_le : ∀ {is : List Int} {i n : Int}, i ≤ n → (∀ x ∈ is, x ≤ n) → maxI i is ≤ n
  | [], i, n, h, _ => h
  | j :: js, i, n, h, h2 => by
    rw [maxI]
    refine maxI_le ?_ fun x hx => h2 x (List.mem_cons_of_mem _ hx)
    split
    · exact h2 j (List.mem_cons_self ..)
    · exact h
theorem setsL_app (es fs : List Ev) : ∀ x ∈ setsL es, x ∈ setsL (es ++ fs) := by
  intro x hx
  unfold setsL at *
  rw [List.zipIdx_append, List.filterMap_append]
  exact List.mem_append_left _ hx
theorem lastS_app (es fs : List Ev) : lastS es ≤ lastS (es ++ fs) :=
  maxI_le (le_maxI (List.mem_cons_self ..)) fun x hx => le_maxI (List.mem_cons_of_mem _ (setsL_app es fs x hx))
theorem lastS_settle (es : List Ev) : (es.length : Int) + 1 ≤ lastS (es ++ [.settle]) := by
  apply le_maxI
  apply List.mem_cons_of_mem
  unfold setsL
  rw [List.zipIdx_append, List.filterMap_append]
  apply List.mem_append_right
  simp [isSet]
theorem Steps.app {es es' : List Ev} (h : Steps es es') : ∃ fs, es' = es ++ fs ∧ ∀ n, n ∈ goneL fs → lastS es ≤ n := by
  induction h with
  | refl => exact ⟨[], by simp, by simp [goneL]⟩
  | @snoc es' e h c ih =>
    obtain ⟨fs, rfl, hf⟩ := ih
    refine ⟨fs ++ [e], by simp, fun n hn => ?_⟩
    rw [goneL_app] at hn
    rcases List.mem_append.mp hn with hn | hn
    · exact hf n hn
    · cases e with
      | back k =>
        have hk : n = k := by simpa [goneL] using hn
        subst hk
        obtain ⟨_, _, _, _, _, _, _, _, _, hl⟩ := mem_backs (c.bk n rfl)
        exact Int.le_trans (lastS_app _ _) hl
      | _ => simp [goneL] at hn
def gnN (rs : Rows) : List Int := nms (rs.filter fun r => !r.th)
theorem names_rowsG {g : Int → Bool} : ∀ {es : List Ev} {k : Nat} {rs : Rows}, ∀ r ∈ rowsG g k es rs, r.nm ∈ nms rs ∨ (k : Int) ≤ r.nm
  | [], k, rs, r, h => .inl (List.mem_map.mpr ⟨r, h, rfl⟩)
  | e :: es, k, rs, r, h => by
    rcases names_rowsG (es := es) r h with h | h
    · obtain ⟨q, hq, he⟩ := List.mem_map.mp h
      cases e with
      | beh n e =>
        have : q = ⟨k, e, !g k⟩ ∨ q ∈ rs := by
          simp only [stepR] at hq
          split at hq
          · exact List.mem_cons.mp hq
          · exact mem_insA.mp hq
        rcases this with rfl | hq
        · exact .inr (by rw [← he]; exact Int.le_refl _)
        · exact .inl (List.mem_map.mpr ⟨q, hq, he⟩)
      | settle => exact .inl (List.mem_map.mpr ⟨q, (List.mem_filter.mp hq).1, he⟩)
      | back n => exact .inl h
      | away n =>
        left
        simp only [stepR] at h
        split at h
        · exact h
        · rw [nms_turn (f := fun r => ⟨r.nm, r.en, false⟩) (fun _ => rfl)] at h
          exact h
      | inst n e =>
        left
        simp only [stepR] at h
        split at h
        · exact h
        · rw [nms_turn (f := fun r => ⟨r.nm, e, true⟩) (fun _ => rfl)] at h
          exact h
    · exact .inr (by omega)
theorem nd_inj : ∀ {rs : Rows}, (nms rs).Nodup → ∀ r ∈ rs, ∀ q ∈ rs, r.nm = q.nm → r = q
  | [], _, r, hr, _, _, _ => by cases hr
  | p :: rs, nd, r, hr, q, hq, e => by
    have nd' : p.nm ∉ nms rs ∧ (nms rs).Nodup := by simpa [nms] using nd
    rcases List.mem_cons.mp hr with h1 | h1 <;> rcases List.mem_cons.mp hq with h2 | h2
    · rw [h1, h2]
    · subst h1
      exact (nd'.1 (List.mem_map.mpr ⟨q, h2, e.symm⟩)).elim
    · subst h2
      exact (nd'.1 (List.mem_map.mpr ⟨r, h1, e⟩)).elim
    · exact nd_inj nd'.2 r h1 q h2 e
/-- what is settled away is never there again -/
theorem settled {es es' : List Ev} (v : VV es) (h : Steps (es ++ [.settle]) es') : ∀ r ∈ rowsOf es', r.nm ∉ gnN (rowsOf es) := by
  obtain ⟨fs, rfl, hf⟩ := h.app
  have hb : ∀ n, n ∈ goneL fs → (es.length : Int) + 1 ≤ n := fun n hn => Int.le_trans (lastS_settle es) (hf n hn)
  have F := v.fresh
  intro r hr hg
  have e1 : rowsOf (es ++ [.settle] ++ fs) = rowsG (goneB (es ++ [.settle] ++ fs)) (es.length + 1) fs ((rowsOf es).filter Row.th) := by
    have e2 : rowsG (goneB (es ++ [.settle] ++ fs)) 0 es [] = rowsOf es := by
      unfold rowsOf
      apply rowsG_congr
      intro j _ hj
      simp only [goneB, goneL_app]
      have h1 : (j : Int) ∉ goneL fs := by
        intro hm
        have := hb _ hm
        omega
      have h2 : (j : Int) ∉ goneL [Ev.settle] := by simp [goneL]
      by_cases h3 : (j : Int) ∈ goneL es <;> simp [h1, h2, h3]
    rw [← e2]
    unfold rowsOf
    rw [rowsG_app, rowsG_app]
    simp only [List.length_append, List.length_cons, List.length_nil, Nat.zero_add]
    rfl
  rw [e1] at hr
  obtain ⟨q, hq, hn⟩ := List.mem_map.mp hg
  have hq2 := List.mem_filter.mp hq
  rcases names_rowsG r hr with h2 | h2
  · obtain ⟨p, hp, hn2⟩ := List.mem_map.mp h2
    have hp2 := List.mem_filter.mp hp
    have : p = q := nd_inj F.nd p hp2.1 q hq2.1 (by rw [hn, hn2])
    subst this
    simp [hp2.2] at hq2
  · have := F.hi q hq2.1
    omega
theorem eqv_en {e : D} (h : En e) : D.eqv e e = true := by
  cases h <;> simp [D.eqv, D.eqvL]
def dif (p : Row × Row) : Option D := if D.eqv p.1.en p.2.en && (p.1.th == p.2.th) then none else some (.int 1)
theorem dif_le {m : Int} {rs qs : Rows} (h : AlikeL m rs qs) : (nms rs).Nodup → (∀ r ∈ rs, En r.en) → ((rs.zip qs).filterMap dif).length ≤ 1 ∧ (m ∉ nms rs → (rs.zip qs).filterMap dif = []) := by
  induction h with
  | nil => intro _ _; simp
  | @same r rs' qs' h ih =>
    intro nd hE
    have nd' : r.nm ∉ nms rs' ∧ (nms rs').Nodup := by simpa [nms] using nd
    have hd : dif (r, r) = none := by simp [dif, eqv_en (hE r (List.mem_cons_self ..))]
    obtain ⟨h1, h2⟩ := ih nd'.2 fun q hq => hE q (List.mem_cons_of_mem _ hq)
    rw [List.zip_cons_cons, List.filterMap_cons_none hd]
    exact ⟨h1, fun hm => h2 fun hm2 => hm (by simp only [nms, List.map_cons, List.mem_cons]; exact .inr hm2)⟩
  | @other r q rs' qs' e e2 h ih =>
    intro nd hE
    have nd' : r.nm ∉ nms rs' ∧ (nms rs').Nodup := by simpa [nms] using nd
    obtain ⟨h1, h2⟩ := ih nd'.2 fun q hq => hE q (List.mem_cons_of_mem _ hq)
    have h3 := h2 (by rw [← e]; exact nd'.1)
    rw [List.zip_cons_cons]
    refine ⟨?_, fun hm => absurd (by simp [nms, e]) hm⟩
    cases hd : dif (r, q) with
    | none => rw [List.filterMap_cons_none hd, h3]; simp
    | some x => rw [List.filterMap_cons_some hd, h3]; simp
/-- two backs, of numbers that can be taken back -/
theorem mem_backsL {es : List Ev} {n : Int} : n ∈ backsL es ↔ ∃ k ev, es[k]? = some ev ∧ n = (k : Nat) ∧ lastS es ≤ (k : Int) ∧ isAct ev = true ∧ goneB es (k : Int) = false := by
  unfold backsL
  rw [List.mem_filterMap]
  constructor
  · rintro ⟨⟨ev, k⟩, hp, hn⟩
    have hk := List.mem_zipIdx_iff_getElem?.mp hp
    simp only at hk hn
    split at hn
    case isFalse => cases hn
    case isTrue hc =>
      cases hn
      simp only [Bool.and_eq_true, decide_eq_true_eq, Bool.not_eq_true'] at hc
      exact ⟨k, ev, hk, rfl, hc.1, hc.2.1, hc.2.2⟩
  · rintro ⟨k, ev, hk, rfl, h1, h2, h3⟩
    exact ⟨(ev, k), List.mem_zipIdx_iff_getElem?.mpr hk, by simp [h1, h2, h3]⟩
theorem VV.two {es : List Ev} {a b : Int} (v : VV es) (ha : a ∈ backsL es) (hb : b ∈ backsL es) : VV (es ++ [.back a, .back b]) := by
  have v1 := (v.back ha).1
  have e : es ++ [Ev.back a, Ev.back b] = es ++ [Ev.back a] ++ [Ev.back b] := by simp
  rw [e]
  by_cases hab : b = a
  · subst hab
    show Val _ _ _ _
    rw [Val_app]
    have hg : goneB (es ++ [Ev.back b] ++ [Ev.back b]) = goneB (es ++ [Ev.back b]) := by
      funext j
      rw [goneB_back, goneB_back]
      cases goneB es j <;> cases decide (j = b) <;> rfl
    rw [hg]
    exact ⟨v1, trivial, trivial, trivial⟩
  · obtain ⟨k, ev, hk, rfl, h1, h2, h3⟩ := mem_backsL.mp hb
    refine (v1.back (mem_backsL.mpr ⟨k, ev, ?_, rfl, ?_, h2, ?_⟩)).1
    · have hlt := (List.getElem?_eq_some_iff.mp hk).1
      rw [List.getElem?_append_left hlt]
      exact hk
    · have : setsL (es ++ [Ev.back a]) = setsL es := by
        unfold setsL
        rw [List.zipIdx_append, List.filterMap_append]
        simp [isSet]
      unfold lastS
      rw [this]
      exact h1
    · rw [goneB_back, h3]
      simpa using hab
end Z
end
section
namespace Z
open PySem
theorem rngIt (C : Cal) {env : Env} {S S' S'' : Sto} {a b : E} {i j : Int} {ki kj : K3} (h1 : evE C a env S = .ok (.int i, ki, S')) (h2 : evE C b env S' = .ok (.int j, kj, S'')) (hi : 0 ≤ i) (hi2 : i ≤ 1000000) (hj : 0 ≤ j) (hj2 : j ≤ 1000000) : evIt C (.rng a b) env S = .ok (rangeD i (j - i).toNat, false, S'') := by
  rw [evIt, h1]
  simp only [Out.bind_ok, h2]
  have a1 : decide (-(2 ^ 62 : Int) ≤ i) = true := decide_eq_true (Int.le_trans (by decide) hi)
  have a2 : decide (i < (2 ^ 62 : Int)) = true := decide_eq_true (Int.lt_of_le_of_lt hi2 (by decide))
  have a3 : decide (-(2 ^ 62 : Int) ≤ j) = true := decide_eq_true (Int.le_trans (by decide) hj)
  have a4 : decide (j < (2 ^ 62 : Int)) = true := decide_eq_true (Int.lt_of_le_of_lt hj2 (by decide))
  rw [a1, a2, a3, a4]
  rfl
theorem run_nil {C : Cal} {env : Env} {S : Sto} : evSs C [] env S = .ok (.nx env S) := by rw [evSs]
theorem forB_nm {C : Cal} {i : Nat} {body : List St} {d : D} {env env' : Env} {S : Sto} {r : Out Fl} (e : env.set i (some (d, false)) = env') (h : evSs C body env' S = r) : forB C (.nm i) body d env S = r := by
  subst e; exact h
theorem run_fnS {P : Nat → Option Fn} {f l : Nat} {fn : Fn} {ds : List D} {S S' : Sto} {bs : List D} {d : D} {k : K3} {env : Env} (hP : P f = some fn) (hn : ds.length = fn.np) (hS : Above (l + 1) S) (hv : ds.map (fun d => some (d, false)) ++ List.replicate (fn.ns - fn.np) none = env) (he : evSs (callN P l) fn.body env ((l + 1, []) :: S) = .ok (.rt d k ((l + 1, bs) :: S'))) (hd : d.lev (l + 2) = true) : callN P (l + 1) f ds S = .ok (d, k, S') := by
  subst hv
  rw [call_at hP]
  have h1 : (decide (ds.length = fn.np) && S.all (fun r => decide (l + 1 < r.1))) = true := by rw [Above] at hS; simp [hn, hS]
  rw [runF, if_pos h1, he]
  cases bs with
  | nil => simp [leave]
  | cons b bs => simp [leave, hd]
theorem for_run {C : Cal} {tg : Tg} {it : It} {body : List St} {env : Env} {S S' : Sto} {ds : List D} {r : Out Fl} (h : evIt C it env S = .ok (ds, false, S')) (q : loopF (forB C tg body) ds env S' = r) : evS C (.for_ tg it body) env S = r := by
  rw [evS_for_, h]; exact q
theorem ife_true {C : Cal} {t : T} {a b : List St} {env : Env} {S S' : Sto} (h : evT C t env S = .ok (true, S')) : evS C (.ife t a b) env S = evSs C a env S' := by
  rw [evS_ife, h]; rfl
theorem ife_false {C : Cal} {t : T} {a b : List St} {env : Env} {S S' : Sto} (h : evT C t env S = .ok (false, S')) : evS C (.ife t a b) env S = evSs C b env S' := by
  rw [evS_ife, h]; rfl
end Z
end
section
namespace Z
open PySem
def isI : D → Bool
  | .int _ => true
  | _ => false
def isT : D → Bool
  | .tup _ => true
  | _ => false
def isS : D → Bool
  | .str _ => true
  | _ => false
def numB (v : D) (lo : Int) (hi : Option Int) : Bool := match v with
  | .int i => decide (lo ≤ i) && (match hi with | none => true | some h => decide (i ≤ h))
  | _ => false
def hiD : Option Int → D
  | none => .non
  | some h => .int h
theorem int_s {l : Nat} {S : Sto} {v : D} (hS : Above (l + 1) S) (hv : D.ok v = true) : callN P74 (l + 1) 0 [v] S = .ok (.bl (isI v), .fz, S) := by
  rw [call_at P74_0]
  cases v with
  | dic ks vs => cases hv
  | ref a b => cases hv
  | _ => simp [runF, evSs, evT, evTo, evEs, evO, evPar, evIt, varO, deref, idxO, L2.atI, L2.ixN, cmpO, eqO, isO, p1O, p2O, binO, intO, modI, mulI, fdivI, powI, addO, kept, modE, modE2, putO, appO, popO, wr, D.lev, D.levL, put, look, setE, setEs, leave, frz, bindO, bindTu, wipeE, srcO, seqO, seq2O, zipO, truO, isaO, cutO, D.isNon, line, Out.bind_ok, Out.of_some, Out.of_none, evE_cst, evE_var, evE_tup, evE_lst, evE_dic0, evE_dic1, evE_bin, evE_neg, evE_notv, evE_andv, evE_orv, evE_cmp, evE_ifx, evE_idx, evE_cut, evE_call, evE_p1, evE_p2, evE_isa, evE_index, evE_comp, evS_pre, evS_set, evS_setSh, evS_setTu, evS_par, evS_setIx, evS_app, evS_appPop, evS_appSd, evS_setSd, evS_ife, evS_for_, evS_wh, evS_ret, evS_retV, evS_exp, Above.eq_1 .. ▸ hS, F74_0, isI]
theorem num_s {l : Nat} {S : Sto} {v : D} {lo : Int} {hi : Option Int} (hS : Above (l + 2) S) (hv : D.ok v = true) : callN P74 (l + 2) 1 [v, .int lo, hiD hi] S = .ok (.bl (numB v lo hi), .fz, S) := by
  have h0 := int_s (l := l) (S := (l + 2, []) :: S) (v := v) hS.fr hv
  rw [call_at P74_1]
  cases v with
  | dic ks vs => cases hv
  | ref a b => cases hv
  | int i =>
    simp only [isI] at h0
    cases hi with
    | none => by_cases h : lo ≤ i <;> simp [runF, evSs, evT, evTo, evEs, evO, evPar, evIt, varO, deref, idxO, L2.atI, L2.ixN, cmpO, eqO, isO, p1O, p2O, binO, intO, modI, mulI, fdivI, powI, addO, kept, modE, modE2, putO, appO, popO, wr, D.lev, D.levL, put, look, setE, setEs, leave, frz, bindO, bindTu, wipeE, srcO, seqO, seq2O, zipO, truO, isaO, cutO, D.isNon, line, Out.bind_ok, Out.of_some, Out.of_none, evE_cst, evE_var, evE_tup, evE_lst, evE_dic0, evE_dic1, evE_bin, evE_neg, evE_notv, evE_andv, evE_orv, evE_cmp, evE_ifx, evE_idx, evE_cut, evE_call, evE_p1, evE_p2, evE_isa, evE_index, evE_comp, evS_pre, evS_set, evS_setSh, evS_setTu, evS_par, evS_setIx, evS_app, evS_appPop, evS_appSd, evS_setSd, evS_ife, evS_for_, evS_wh, evS_ret, evS_retV, evS_exp, Above.eq_1 .. ▸ hS, F74_1, h0, numB, hiD, h]
    | some k => by_cases h : lo ≤ i <;> by_cases h2 : i ≤ k <;> simp [runF, evSs, evT, evTo, evEs, evO, evPar, evIt, varO, deref, idxO, L2.atI, L2.ixN, cmpO, eqO, isO, p1O, p2O, binO, intO, modI, mulI, fdivI, powI, addO, kept, modE, modE2, putO, appO, popO, wr, D.lev, D.levL, put, look, setE, setEs, leave, frz, bindO, bindTu, wipeE, srcO, seqO, seq2O, zipO, truO, isaO, cutO, D.isNon, line, Out.bind_ok, Out.of_some, Out.of_none, evE_cst, evE_var, evE_tup, evE_lst, evE_dic0, evE_dic1, evE_bin, evE_neg, evE_notv, evE_andv, evE_orv, evE_cmp, evE_ifx, evE_idx, evE_cut, evE_call, evE_p1, evE_p2, evE_isa, evE_index, evE_comp, evS_pre, evS_set, evS_setSh, evS_setTu, evS_par, evS_setIx, evS_app, evS_appPop, evS_appSd, evS_setSd, evS_ife, evS_for_, evS_wh, evS_ret, evS_retV, evS_exp, Above.eq_1 .. ▸ hS, F74_1, h0, numB, hiD, h, h2]
  | _ => simp only [isI] at h0; simp [runF, evSs, evT, evTo, evEs, evO, evPar, evIt, varO, deref, idxO, L2.atI, L2.ixN, cmpO, eqO, isO, p1O, p2O, binO, intO, modI, mulI, fdivI, powI, addO, kept, modE, modE2, putO, appO, popO, wr, D.lev, D.levL, put, look, setE, setEs, leave, frz, bindO, bindTu, wipeE, srcO, seqO, seq2O, zipO, truO, isaO, cutO, D.isNon, line, Out.bind_ok, Out.of_some, Out.of_none, evE_cst, evE_var, evE_tup, evE_lst, evE_dic0, evE_dic1, evE_bin, evE_neg, evE_notv, evE_andv, evE_orv, evE_cmp, evE_ifx, evE_idx, evE_cut, evE_call, evE_p1, evE_p2, evE_isa, evE_index, evE_comp, evS_pre, evS_set, evS_setSh, evS_setTu, evS_par, evS_setIx, evS_app, evS_appPop, evS_appSd, evS_setSd, evS_ife, evS_for_, evS_wh, evS_ret, evS_retV, evS_exp, Above.eq_1 .. ▸ hS, F74_1, h0, numB]
theorem lnum_s {l : Nat} {S : Sto} {v : D} {hi : Option Int} (hS : Above (l + 1) S) (hv : D.ok v = true) : callN P74 (l + 1) 27 [v, hiD hi] S = .ok (.bl (numB v 0 hi), .fz, S) := by
  rw [call_at P74_27]
  cases v with
  | dic ks vs => cases hv
  | ref a b => cases hv
  | int i =>
    cases hi with
    | none => by_cases h : 0 ≤ i <;> simp [runF, evSs, evT, evTo, evEs, evO, evPar, evIt, varO, deref, idxO, L2.atI, L2.ixN, cmpO, eqO, isO, p1O, p2O, binO, intO, modI, mulI, fdivI, powI, addO, kept, modE, modE2, putO, appO, popO, wr, D.lev, D.levL, put, look, setE, setEs, leave, frz, bindO, bindTu, wipeE, srcO, seqO, seq2O, zipO, truO, isaO, cutO, D.isNon, line, Out.bind_ok, Out.of_some, Out.of_none, evE_cst, evE_var, evE_tup, evE_lst, evE_dic0, evE_dic1, evE_bin, evE_neg, evE_notv, evE_andv, evE_orv, evE_cmp, evE_ifx, evE_idx, evE_cut, evE_call, evE_p1, evE_p2, evE_isa, evE_index, evE_comp, evS_pre, evS_set, evS_setSh, evS_setTu, evS_par, evS_setIx, evS_app, evS_appPop, evS_appSd, evS_setSd, evS_ife, evS_for_, evS_wh, evS_ret, evS_retV, evS_exp, Above.eq_1 .. ▸ hS, F74_27, numB, hiD, h]
    | some k => by_cases h : 0 ≤ i <;> by_cases h2 : i ≤ k <;> simp [runF, evSs, evT, evTo, evEs, evO, evPar, evIt, varO, deref, idxO, L2.atI, L2.ixN, cmpO, eqO, isO, p1O, p2O, binO, intO, modI, mulI, fdivI, powI, addO, kept, modE, modE2, putO, appO, popO, wr, D.lev, D.levL, put, look, setE, setEs, leave, frz, bindO, bindTu, wipeE, srcO, seqO, seq2O, zipO, truO, isaO, cutO, D.isNon, line, Out.bind_ok, Out.of_some, Out.of_none, evE_cst, evE_var, evE_tup, evE_lst, evE_dic0, evE_dic1, evE_bin, evE_neg, evE_notv, evE_andv, evE_orv, evE_cmp, evE_ifx, evE_idx, evE_cut, evE_call, evE_p1, evE_p2, evE_isa, evE_index, evE_comp, evS_pre, evS_set, evS_setSh, evS_setTu, evS_par, evS_setIx, evS_app, evS_appPop, evS_appSd, evS_setSd, evS_ife, evS_for_, evS_wh, evS_ret, evS_retV, evS_exp, Above.eq_1 .. ▸ hS, F74_27, numB, hiD, h, h2]
  | _ => simp [runF, evSs, evT, evTo, evEs, evO, evPar, evIt, varO, deref, idxO, L2.atI, L2.ixN, cmpO, eqO, isO, p1O, p2O, binO, intO, modI, mulI, fdivI, powI, addO, kept, modE, modE2, putO, appO, popO, wr, D.lev, D.levL, put, look, setE, setEs, leave, frz, bindO, bindTu, wipeE, srcO, seqO, seq2O, zipO, truO, isaO, cutO, D.isNon, line, Out.bind_ok, Out.of_some, Out.of_none, evE_cst, evE_var, evE_tup, evE_lst, evE_dic0, evE_dic1, evE_bin, evE_neg, evE_notv, evE_andv, evE_orv, evE_cmp, evE_ifx, evE_idx, evE_cut, evE_call, evE_p1, evE_p2, evE_isa, evE_index, evE_comp, evS_pre, evS_set, evS_setSh, evS_setTu, evS_par, evS_setIx, evS_app, evS_appPop, evS_appSd, evS_setSd, evS_ife, evS_for_, evS_wh, evS_ret, evS_retV, evS_exp, Above.eq_1 .. ▸ hS, F74_27, numB]
theorem tup_s {l : Nat} {S : Sto} {v : D} (hS : Above (l + 1) S) (hv : D.ok v = true) : callN P74 (l + 1) 2 [v, .non] S = .ok (.bl (isT v), .fz, S) := by
  rw [call_at P74_2]
  cases v with
  | dic ks vs => cases hv
  | ref a b => cases hv
  | _ => simp [runF, evSs, evT, evTo, evEs, evO, evPar, evIt, varO, deref, idxO, L2.atI, L2.ixN, cmpO, eqO, isO, p1O, p2O, binO, intO, modI, mulI, fdivI, powI, addO, kept, modE, modE2, putO, appO, popO, wr, D.lev, D.levL, put, look, setE, setEs, leave, frz, bindO, bindTu, wipeE, srcO, seqO, seq2O, zipO, truO, isaO, cutO, D.isNon, line, Out.bind_ok, Out.of_some, Out.of_none, evE_cst, evE_var, evE_tup, evE_lst, evE_dic0, evE_dic1, evE_bin, evE_neg, evE_notv, evE_andv, evE_orv, evE_cmp, evE_ifx, evE_idx, evE_cut, evE_call, evE_p1, evE_p2, evE_isa, evE_index, evE_comp, evS_pre, evS_set, evS_setSh, evS_setTu, evS_par, evS_setIx, evS_app, evS_appPop, evS_appSd, evS_setSd, evS_ife, evS_for_, evS_wh, evS_ret, evS_retV, evS_exp, Above.eq_1 .. ▸ hS, F74_2, isT]
def eqI (n : Int) : D → Bool
  | .int i => decide (i = n)
  | _ => false
/-- _law_same with a whole number due -/
theorem same_int {l : Nat} {S : Sto} {v : D} {n : Int} (hS : Above (l + 1) S) (hv : D.ok v = true) : callN P74 (l + 1) 18 [v, .int n] S = .ok (.bl (eqI n v), .fz, S) := by
  rw [call_at P74_18]
  cases v with
  | dic ks vs => cases hv
  | ref a b => cases hv
  | _ => simp [runF, evSs, evT, evTo, evEs, evO, evPar, evIt, varO, deref, idxO, L2.atI, L2.ixN, cmpO, eqO, isO, p1O, p2O, binO, intO, modI, mulI, fdivI, powI, addO, kept, modE, modE2, putO, appO, popO, wr, D.lev, D.levL, put, look, setE, setEs, leave, frz, bindO, bindTu, wipeE, srcO, seqO, seq2O, zipO, truO, isaO, cutO, D.isNon, line, Out.bind_ok, Out.of_some, Out.of_none, evE_cst, evE_var, evE_tup, evE_lst, evE_dic0, evE_dic1, evE_bin, evE_neg, evE_notv, evE_andv, evE_orv, evE_cmp, evE_ifx, evE_idx, evE_cut, evE_call, evE_p1, evE_p2, evE_isa, evE_index, evE_comp, evS_pre, evS_set, evS_setSh, evS_setTu, evS_par, evS_setIx, evS_app, evS_appPop, evS_appSd, evS_setSd, evS_ife, evS_for_, evS_wh, evS_ret, evS_retV, evS_exp, Above.eq_1 .. ▸ hS, F74_18, eqI]
/-- .. a truth due -/
theorem same_bl {l : Nat} {S : Sto} {a b : Bool} (hS : Above (l + 1) S) : callN P74 (l + 1) 18 [.bl a, .bl b] S = .ok (.bl (a == b), .fz, S) := by
  rw [call_at P74_18]
  cases a <;> cases b <;> simp [runF, evSs, evT, evTo, evEs, evO, evPar, evIt, varO, deref, idxO, L2.atI, L2.ixN, cmpO, eqO, isO, p1O, p2O, binO, intO, modI, mulI, fdivI, powI, addO, kept, modE, modE2, putO, appO, popO, wr, D.lev, D.levL, put, look, setE, setEs, leave, frz, bindO, bindTu, wipeE, srcO, seqO, seq2O, zipO, truO, isaO, cutO, D.isNon, line, Out.bind_ok, Out.of_some, Out.of_none, evE_cst, evE_var, evE_tup, evE_lst, evE_dic0, evE_dic1, evE_bin, evE_neg, evE_notv, evE_andv, evE_orv, evE_cmp, evE_ifx, evE_idx, evE_cut, evE_call, evE_p1, evE_p2, evE_isa, evE_index, evE_comp, evS_pre, evS_set, evS_setSh, evS_setTu, evS_par, evS_setIx, evS_app, evS_appPop, evS_appSd, evS_setSd, evS_ife, evS_for_, evS_wh, evS_ret, evS_retV, evS_exp, Above.eq_1 .. ▸ hS, F74_18]
def setsN (es : List Ev) : List Int := es.zipIdx.filterMap fun p => if isSet p.1 then some (p.2 : Int) else none
theorem maxI_sub : ∀ (is : List Int) (i : Int), maxI (i - 1) (is.map (· - 1)) = maxI i is - 1
  | [], i => rfl
  | j :: js, i => by
    rw [List.map_cons, maxI, maxI, ← maxI_sub js]
    congr 1
    split <;> split <;> omega
theorem setsN_eq (es : List Ev) : setsN es = (setsL es).map (· - 1) := by
  unfold setsN setsL
  rw [List.map_filterMap]
  congr 1
  funext p
  cases isSet p.1 <;> simp
theorem lastset_s {l : Nat} {S : Sto} {es : List Ev} (hS : Above (l + 1) S) (hl : es.length ≤ 1000) : callN P74 (l + 1) 10 [.tup (es.map Ev.d)] S = .ok (.int (lastS es - 1), .fz, S) := by
  have q1 : ∀ (C : Cal) (a0 a1 a2 a3 : Option (D × Bool)) (S : Sto), loopC (cmpB C (.var 2) (.tu [2, 3]) (some (.cmp .eq (.idx (.var 3) (.cst (.int 0))) (.cst (.str "settle")))) [1, 2, 3] [a0, a1, a2, a3]) (enumD 0 (es.map Ev.d)) S [] = .ok ((setsN es).map D.int, S) := by
    intro C a0 a1 a2 a3 S
    rw [enumD_map, loopC_map (f := fun p : Ev × Nat => (if isSet p.1 then some (p.2 : Int) else none).map D.int), fm_int]
    · rfl
    · intro p _
      obtain ⟨e, k⟩ := p
      cases e <;> simp [runF, evSs, evT, evTo, evEs, evO, evPar, evIt, varO, deref, idxO, L2.atI, L2.ixN, cmpO, eqO, isO, p1O, p2O, binO, intO, modI, mulI, fdivI, powI, addO, kept, modE, modE2, putO, appO, popO, wr, D.lev, D.levL, put, look, setE, setEs, leave, frz, bindO, bindTu, wipeE, srcO, seqO, seq2O, zipO, truO, isaO, cutO, D.isNon, line, Out.bind_ok, Out.of_some, Out.of_none, evE_cst, evE_var, evE_tup, evE_lst, evE_dic0, evE_dic1, evE_bin, evE_neg, evE_notv, evE_andv, evE_orv, evE_cmp, evE_ifx, evE_idx, evE_cut, evE_call, evE_p1, evE_p2, evE_isa, evE_index, evE_comp, evS_pre, evS_set, evS_setSh, evS_setTu, evS_par, evS_setIx, evS_app, evS_appPop, evS_appSd, evS_setSd, evS_ife, evS_for_, evS_wh, evS_ret, evS_retV, evS_exp, cmpB, numD, Ev.d, n_behind_away, n_behind_instead, n_behind_back, n_behind_settle, n_away_behind, n_away_instead, n_away_back, n_away_settle, n_instead_behind, n_instead_away, n_instead_back, n_instead_settle, n_back_behind, n_back_away, n_back_instead, n_back_settle, n_settle_behind, n_settle_away, n_settle_instead, n_settle_back, isSet]
    · simp only [List.length_nil, List.length_zipIdx, line]; omega
  have hs : (setsN es).length ≤ es.length := by
    have := List.length_filterMap_le (fun p : Ev × Nat => if isSet p.1 then some (p.2 : Int) else none) es.zipIdx
    simpa [setsN] using this
  have m1 : 1 + (setsN es).length ≤ 16777216 := by omega
  have hI : D.intsOf (D.int (-1) :: (setsN es).map D.int) = some (-1 :: setsN es) := intsOf_map (-1 :: setsN es)
  have hM : maxI (-1) (setsN es) = lastS es - 1 := by
    rw [setsN_eq]
    exact maxI_sub (setsL es) 0
  rw [call_at P74_10]
  simp [runF, evSs, evT, evTo, evEs, evO, evPar, evIt, varO, deref, idxO, L2.atI, L2.ixN, cmpO, eqO, isO, p1O, p2O, binO, intO, modI, mulI, fdivI, powI, addO, kept, modE, modE2, putO, appO, popO, wr, D.lev, D.levL, put, look, setE, setEs, leave, frz, bindO, bindTu, wipeE, srcO, seqO, seq2O, zipO, truO, isaO, cutO, D.isNon, line, Out.bind_ok, Out.of_some, Out.of_none, evE_cst, evE_var, evE_tup, evE_lst, evE_dic0, evE_dic1, evE_bin, evE_neg, evE_notv, evE_andv, evE_orv, evE_cmp, evE_ifx, evE_idx, evE_cut, evE_call, evE_p1, evE_p2, evE_isa, evE_index, evE_comp, evS_pre, evS_set, evS_setSh, evS_setTu, evS_par, evS_setIx, evS_app, evS_appPop, evS_appSd, evS_setSd, evS_ife, evS_for_, evS_wh, evS_ret, evS_retV, evS_exp, Above.eq_1 .. ▸ hS, F74_10, q1, m1, hI, hM]
end Z
end
section
namespace Z
open PySem
theorem loop0n {b : D → Env → Sto → Out Fl} {n : Int} {R : Option (D × Bool)} {S : Sto}
    (hb : ∀ (k : Nat) (r : Row) x y, b (.tup [.int k, r.t]) [R, some (.int n, false), x, y] S = .ok (if r.nm = n then .rt (.int k) .fz S else .nx [R, some (.int n, false), some (.int k, false), some (r.t, false)] S)) :
    ∀ {rs : Rows} {k : Nat} {x y}, n ∉ nms rs → ∃ x' y', loopF b (enumD k (rs.map Row.t)) [R, some (.int n, false), x, y] S = .ok (.nx [R, some (.int n, false), x', y'] S)
  | [], k, x, y, h => ⟨x, y, rfl⟩
  | r :: rs, k, x, y, h => by
    simp only [nms, List.map_cons, List.mem_cons, not_or] at h
    have e : ¬ r.nm = n := fun e => h.1 e.symm
    rw [List.map_cons, enumD_cons, loopF, hb]
    simp only [e, if_false, Out.bind_ok]
    exact loop0n hb h.2
theorem spot_n {l : Nat} {S : Sto} {rs : Rows} {n : Int} (hS : Above (l + 1) S) (h : n ≠ -1 ∧ n ∉ nms rs) : callN P74 (l + 1) 4 [.tup (rs.map Row.t), .int n] S = .ok (.non, .fz, S) := by
  have e : ¬ n = -1 := h.1
  rw [call_at P74_4]
  simp only [runF, F74_4, evSs, evS, evT, evE, varO, cmpO, eqO, e, Out.bind_ok, evIt, srcO, seq2O, frz]
  obtain ⟨x', y', q⟩ := loop0n (b := fun d env S => (bindO (.tu [2, 3]) d env).bind fun env' => evSs (callN P74 l) [(.ife (.cmp .eq (.idx (.var 3) (.cst (.int 0))) (.var 1)) [(.retV 2)] [])] env' S) (rs := rs) (n := n) (k := 0) (x := none) (y := none) (R := some (.tup (rs.map Row.t), false)) (S := (l + 1, []) :: S) (by
    intro k r x y
    by_cases e : r.nm = n <;> simp [runF, evSs, evS, evT, evTo, evE, evEs, evO, evPar, evIt, varO, deref, idxO, L2.atI, L2.ixN, cmpO, eqO, isO, p1O, p2O, binO, intO, modI, mulI, fdivI, powI, addO, kept, modE, modE2, putO, appO, popO, wr, D.lev, D.levL, put, look, setE, setEs, leave, frz, bindO, bindTu, wipeE, srcO, seqO, seq2O, zipO, truO, isaO, cutO, D.isNon, line, Out.bind_ok, Out.of_some, Out.of_none, Row.t, e, evSs]) h.2
  simp [runF, evSs, evS, evT, evTo, evE, evEs, evO, evPar, evIt, varO, deref, idxO, L2.atI, L2.ixN, cmpO, eqO, isO, p1O, p2O, binO, intO, modI, mulI, fdivI, powI, addO, kept, modE, modE2, putO, appO, popO, wr, D.lev, D.levL, put, look, setE, setEs, leave, frz, bindO, bindTu, wipeE, srcO, seqO, seq2O, zipO, truO, isaO, cutO, D.isNon, line, Out.bind_ok, Out.of_some, Out.of_none, Above.eq_1 .. ▸ hS, e] at q ⊢
  rw [q]
  simp [runF, evSs, evS, evT, evTo, evE, evEs, evO, evPar, evIt, varO, deref, idxO, L2.atI, L2.ixN, cmpO, eqO, isO, p1O, p2O, binO, intO, modI, mulI, fdivI, powI, addO, kept, modE, modE2, putO, appO, popO, wr, D.lev, D.levL, put, look, setE, setEs, leave, frz, bindO, bindTu, wipeE, srcO, seqO, seq2O, zipO, truO, isaO, cutO, D.isNon, line, Out.bind_ok, Out.of_some, Out.of_none]
/-- what a name's look gives: is there a spot -/
theorem spot_b {l : Nat} {S : Sto} {rs : Rows} {n : Int} (hS : Above (l + 1) S) : ∃ d, callN P74 (l + 1) 4 [.tup (rs.map Row.t), .int n] S = .ok (d, .fz, S) ∧ D.isNon d = !decide (n = -1 ∨ n ∈ nms rs) := by
  by_cases h : n = -1 ∨ n ∈ nms rs
  · refine ⟨_, spot_s hS h, ?_⟩
    simp [h, D.isNon]
  · have h2 : n ≠ -1 ∧ n ∉ nms rs := not_or.mp h
    refine ⟨_, spot_n hS h2, ?_⟩
    simp only [h, decide_false, Bool.not_false]
    rfl
def backB (es : List Ev) : D → Bool
  | .int n => decide (n ∈ backsL es)
  | _ => false
theorem canback_s {l : Nat} {S : Sto} {es : List Ev} {v : D} (hS : Above (l + 3) S) (hl : es.length ≤ 1000) (hv : D.ok v = true) : callN P74 (l + 3) 11 [.tup (es.map Ev.d), v] S = .ok (.bl (backB es v), .fz, S) := by
  have h10 := lastset_s (l := l + 1) (S := (l + 3, []) :: S) (es := es) hS.fr hl
  have h8 := taken_s (l := l + 1) (S := (l + 3, []) :: S) (es := es) hS.fr (by simp only [line]; omega)
  have h1 := num_s (l := l) (S := (l + 3, []) :: S) (v := v) (lo := lastS es) (hi := some ((es.length : Int) - 1)) hS.fr hv
  have e1 : lastS es - 1 + 1 = lastS es := by omega
  have key : ∀ b : Bool, numB v (lastS es) (some ((es.length : Int) - 1)) = b → b = false → backB es v = false := by
    intro b hb hf
    cases v with
    | int n =>
      simp only [backB, decide_eq_false_iff_not]
      intro hm
      obtain ⟨k, ev, hk, rfl, h2, h3, h4⟩ := mem_backsL.mp hm
      have hlt := (List.getElem?_eq_some_iff.mp hk).1
      simp only [numB] at hb
      rw [hf, decide_eq_true h2] at hb
      simp only [Bool.true_and, decide_eq_false_iff_not] at hb
      omega
    | _ => rfl
  rw [call_at P74_11]
  simp only [hiD] at h1
  cases hb : numB v (lastS es) (some ((es.length : Int) - 1)) with
  | false =>
    rw [hb] at h1
    rw [key false hb rfl]
    simp [runF, evSs, evT, evTo, evEs, evO, evPar, evIt, varO, deref, idxO, L2.atI, L2.ixN, cmpO, eqO, isO, p1O, p2O, binO, intO, modI, mulI, fdivI, powI, addO, kept, modE, modE2, putO, appO, popO, wr, D.lev, D.levL, put, look, setE, setEs, leave, frz, bindO, bindTu, wipeE, srcO, seqO, seq2O, zipO, truO, isaO, cutO, D.isNon, line, Out.bind_ok, Out.of_some, Out.of_none, evE_cst, evE_var, evE_tup, evE_lst, evE_dic0, evE_dic1, evE_bin, evE_neg, evE_notv, evE_andv, evE_orv, evE_cmp, evE_ifx, evE_idx, evE_cut, evE_call, evE_p1, evE_p2, evE_isa, evE_index, evE_comp, evS_pre, evS_set, evS_setSh, evS_setTu, evS_par, evS_setIx, evS_app, evS_appPop, evS_appSd, evS_setSd, evS_ife, evS_for_, evS_wh, evS_ret, evS_retV, evS_exp, Above.eq_1 .. ▸ hS, F74_11, h10, e1, h1]
  | true =>
    rw [hb] at h1
    cases v with
    | int n =>
      simp only [numB, Bool.and_eq_true, decide_eq_true_eq] at hb
      have h0 : 0 ≤ lastS es := le_maxI (List.mem_cons_self ..)
      have hi := in_ints (k := n) (xs := goneL es) (.inr rfl)
      by_cases hg : n ∈ goneL es
      · have hi : inO (.int n) (.tup ((goneL es).map D.int)) = .ok true := by rw [hi]; simp [hg]
        have hf : backB es (.int n) = false := by
          simp only [backB, decide_eq_false_iff_not]
          intro hm
          obtain ⟨k, ev, hk, rfl, h2, h3, h4⟩ := mem_backsL.mp hm
          simp [goneB, hg] at h4
        rw [hf]
        simp [runF, evSs, evT, evTo, evEs, evO, evPar, evIt, varO, deref, idxO, L2.atI, L2.ixN, cmpO, eqO, isO, p1O, p2O, binO, intO, modI, mulI, fdivI, powI, addO, kept, modE, modE2, putO, appO, popO, wr, D.lev, D.levL, put, look, setE, setEs, leave, frz, bindO, bindTu, wipeE, srcO, seqO, seq2O, zipO, truO, isaO, cutO, D.isNon, line, Out.bind_ok, Out.of_some, Out.of_none, evE_cst, evE_var, evE_tup, evE_lst, evE_dic0, evE_dic1, evE_bin, evE_neg, evE_notv, evE_andv, evE_orv, evE_cmp, evE_ifx, evE_idx, evE_cut, evE_call, evE_p1, evE_p2, evE_isa, evE_index, evE_comp, evS_pre, evS_set, evS_setSh, evS_setTu, evS_par, evS_setIx, evS_app, evS_appPop, evS_appSd, evS_setSd, evS_ife, evS_for_, evS_wh, evS_ret, evS_retV, evS_exp, Above.eq_1 .. ▸ hS, F74_11, h10, e1, h1, h8, hi]
      · have hi : inO (.int n) (.tup ((goneL es).map D.int)) = .ok false := by rw [hi]; simp [hg]
        have hn0 : 0 ≤ n := by omega
        have hlt : n.toNat < es.length := by omega
        have hget : es[n.toNat]? = some es[n.toNat] := List.getElem?_eq_getElem hlt
        have hb2 : backB es (.int n) = isAct es[n.toNat] := by
          simp only [backB]
          have en : n = (n.toNat : Nat) := (Int.toNat_of_nonneg hn0).symm
          cases ha : isAct es[n.toNat] with
          | true =>
            rw [decide_eq_true_eq]
            exact mem_backsL.mpr ⟨n.toNat, _, hget, en, by rw [← en]; exact hb.1, ha, by rw [← en]; simp [goneB, hg]⟩
          | false =>
            rw [decide_eq_false_iff_not]
            intro hm
            obtain ⟨k, ev, hk, e, h2, h3, h4⟩ := mem_backsL.mp hm
            have : k = n.toNat := by omega
            subst this
            rw [hget] at hk
            cases hk
            rw [ha] at h3
            cases h3
        rw [hb2]
        have hn1 : n < (es.length : Int) := by omega
        cases he : es[n.toNat] <;> rw [he] at hget <;> simp [runF, evSs, evT, evTo, evEs, evO, evPar, evIt, varO, deref, idxO, L2.atI, L2.ixN, cmpO, eqO, isO, p1O, p2O, binO, intO, modI, mulI, fdivI, powI, addO, kept, modE, modE2, putO, appO, popO, wr, D.lev, D.levL, put, look, setE, setEs, leave, frz, bindO, bindTu, wipeE, srcO, seqO, seq2O, zipO, truO, isaO, cutO, D.isNon, line, Out.bind_ok, Out.of_some, Out.of_none, evE_cst, evE_var, evE_tup, evE_lst, evE_dic0, evE_dic1, evE_bin, evE_neg, evE_notv, evE_andv, evE_orv, evE_cmp, evE_ifx, evE_idx, evE_cut, evE_call, evE_p1, evE_p2, evE_isa, evE_index, evE_comp, evS_pre, evS_set, evS_setSh, evS_setTu, evS_par, evS_setIx, evS_app, evS_appPop, evS_appSd, evS_setSd, evS_ife, evS_for_, evS_wh, evS_ret, evS_retV, evS_exp, Above.eq_1 .. ▸ hS, F74_11, h10, e1, h1, h8, hi, hn0, hn1, hlt, hget, he, Ev.d, isAct, in3_behind, in3_away, in3_instead, in3_back, in3_settle]
    | _ => simp [numB] at hb
end Z
end
section
namespace Z
open PySem
def thB (rs : Rows) : D → Bool
  | .int n => rs.any fun r => decide (r.nm = n) && r.th
  | _ => false
def spB (rs : Rows) : D → Bool
  | .int n => decide (n = -1 ∨ n ∈ nms rs)
  | _ => false
inductive Wk where | beh | away | inst | back | sett | oth
def wkOf (w : Str) : Wk := if w = "behind" then .beh else if w = "away" then .away else if w = "instead" then .inst else if w = "back" then .back else if w = "settle" then .sett else .oth
structure Oth (w : Str) : Prop where
  a : ¬ w = Str.ofString "behind"
  b : ¬ w = Str.ofString "away"
  c : ¬ w = Str.ofString "instead"
  d : ¬ w = Str.ofString "back"
  e : ¬ w = Str.ofString "settle"
theorem words (w : Str) : w = Str.ofString "behind" ∨ w = Str.ofString "away" ∨ w = Str.ofString "instead" ∨ w = Str.ofString "back" ∨ w = Str.ofString "settle" ∨ Oth w := by
  by_cases h1 : w = Str.ofString "behind"
  · exact .inl h1
  by_cases h2 : w = Str.ofString "away"
  · exact .inr (.inl h2)
  by_cases h3 : w = Str.ofString "instead"
  · exact .inr (.inr (.inl h3))
  by_cases h4 : w = Str.ofString "back"
  · exact .inr (.inr (.inr (.inl h4)))
  by_cases h5 : w = Str.ofString "settle"
  · exact .inr (.inr (.inr (.inr (.inl h5))))
  exact .inr (.inr (.inr (.inr (.inr ⟨h1, h2, h3, h4, h5⟩))))
theorem in3_oth {w : Str} (h : Oth w) : inO (.str w) (.tup [.str "behind", .str "away", .str "instead"]) = .ok false := by
  have a : ¬ Str.ofString "behind" = w := fun e => h.a e.symm
  have b : ¬ Str.ofString "away" = w := fun e => h.b e.symm
  have c : ¬ Str.ofString "instead" = w := fun e => h.c e.symm
  simp [inO, D.ok, D.okN, D.eqv, a, b, c]
/-- edits: the word is one of the three -/
def editB (rs : Rows) (E : D → Bool) (w : Str) : List D → Bool
  | [x] => decide (w = Str.ofString "away") && thB rs x
  | [x, y] => if w = Str.ofString "away" then false else numB x (-1) none && (E y && (if w = Str.ofString "behind" then spB rs x else thB rs x))
  | _ => false
set_option maxHeartbeats 0 in
theorem edit_s {l mm : Nat} {S : Sto} {rs : Rows} {E : D → Bool} {w : Str} {r : List D} (hS : Above (l + 3) S) (hl : rs.length ≤ 1000) (hlo : ∀ q ∈ rs, 0 ≤ q.nm) (hw : w = Str.ofString "behind" ∨ w = Str.ofString "away" ∨ w = Str.ofString "instead") (hr : ∀ x ∈ r, D.ok x = true) (hr3 : r.length ≤ 3)
    (hE : ∀ x y, r = [x, y] → callN P74 (l + 2) 12 [Wd, .int mm, y] ((l + 3, []) :: S) = .ok (.bl (E y), .fz, (l + 3, []) :: S)) :
    callN P74 (l + 3) 13 [.tup (rs.map Row.t), Wd, .int mm, .tup (.str w :: r)] S = .ok (.bl (editB rs E w r), .fz, S) := by
  have h1 : ∀ x, x ∈ r → callN P74 (l + 2) 1 [x, .int (-1), .non] ((l + 3, []) :: S) = .ok (.bl (numB x (-1) none), .fz, (l + 3, []) :: S) := fun x hx => num_s (l := l) (S := (l + 3, []) :: S) (v := x) (lo := -1) (hi := none) hS.fr (hr x hx)
  have h5 : ∀ n, callN P74 (l + 2) 5 [.tup (rs.map Row.t), .int n] ((l + 3, []) :: S) = .ok (.bl (rs.any fun r => decide (r.nm = n) && r.th), .fz, (l + 3, []) :: S) := fun n => there_s (l := l + 1) hS.fr (by simp only [line]; omega)
  have h4 : ∀ n, ∃ d, callN P74 (l + 2) 4 [.tup (rs.map Row.t), .int n] ((l + 3, []) :: S) = .ok (d, .fz, (l + 3, []) :: S) ∧ D.isNon d = !decide (n = -1 ∨ n ∈ nms rs) := fun n => spot_b (l := l + 1) hS.fr
  rw [call_at P74_13]
  match r, hr3 with
  | [], _ => simp [runF, evSs, evT, evTo, evEs, evO, evPar, evIt, varO, deref, idxO, L2.atI, L2.ixN, cmpO, eqO, isO, p1O, p2O, binO, intO, modI, mulI, fdivI, powI, addO, kept, modE, modE2, putO, appO, popO, wr, D.lev, D.levL, put, look, setE, setEs, leave, frz, bindO, bindTu, wipeE, srcO, seqO, seq2O, zipO, truO, isaO, cutO, D.isNon, line, Out.bind_ok, Out.of_some, Out.of_none, evE_cst, evE_var, evE_tup, evE_lst, evE_dic0, evE_dic1, evE_bin, evE_neg, evE_notv, evE_andv, evE_orv, evE_cmp, evE_ifx, evE_idx, evE_cut, evE_call, evE_p1, evE_p2, evE_isa, evE_index, evE_comp, evS_pre, evS_set, evS_setSh, evS_setTu, evS_par, evS_setIx, evS_app, evS_appPop, evS_appSd, evS_setSd, evS_ife, evS_for_, evS_wh, evS_ret, evS_retV, evS_exp, Above.eq_1 .. ▸ hS, F74_13, editB]
  | [x], _ =>
    have h1 := h1 x (by simp)
    cases hn : numB x (-1) none with
    | false =>
      rw [hn] at h1
      have ht : thB rs x = false := by
        cases x with
        | int n =>
          simp only [numB, Bool.and_true, decide_eq_false_iff_not] at hn
          simp only [thB, List.any_eq_false]
          intro q hq hc
          simp only [Bool.and_eq_true, decide_eq_true_eq] at hc
          have := hlo q hq
          omega
        | _ => rfl
      simp [runF, evSs, evT, evTo, evEs, evO, evPar, evIt, varO, deref, idxO, L2.atI, L2.ixN, cmpO, eqO, isO, p1O, p2O, binO, intO, modI, mulI, fdivI, powI, addO, kept, modE, modE2, putO, appO, popO, wr, D.lev, D.levL, put, look, setE, setEs, leave, frz, bindO, bindTu, wipeE, srcO, seqO, seq2O, zipO, truO, isaO, cutO, D.isNon, line, Out.bind_ok, Out.of_some, Out.of_none, evE_cst, evE_var, evE_tup, evE_lst, evE_dic0, evE_dic1, evE_bin, evE_neg, evE_notv, evE_andv, evE_orv, evE_cmp, evE_ifx, evE_idx, evE_cut, evE_call, evE_p1, evE_p2, evE_isa, evE_index, evE_comp, evS_pre, evS_set, evS_setSh, evS_setTu, evS_par, evS_setIx, evS_app, evS_appPop, evS_appSd, evS_setSd, evS_ife, evS_for_, evS_wh, evS_ret, evS_retV, evS_exp, Above.eq_1 .. ▸ hS, F74_13, editB, h1, ht]
    | true =>
      rw [hn] at h1
      cases x with
      | int n =>
        have h5 := h5 n
        rcases hw with rfl | rfl | rfl <;> simp [runF, evSs, evT, evTo, evEs, evO, evPar, evIt, varO, deref, idxO, L2.atI, L2.ixN, cmpO, eqO, isO, p1O, p2O, binO, intO, modI, mulI, fdivI, powI, addO, kept, modE, modE2, putO, appO, popO, wr, D.lev, D.levL, put, look, setE, setEs, leave, frz, bindO, bindTu, wipeE, srcO, seqO, seq2O, zipO, truO, isaO, cutO, D.isNon, line, Out.bind_ok, Out.of_some, Out.of_none, evE_cst, evE_var, evE_tup, evE_lst, evE_dic0, evE_dic1, evE_bin, evE_neg, evE_notv, evE_andv, evE_orv, evE_cmp, evE_ifx, evE_idx, evE_cut, evE_call, evE_p1, evE_p2, evE_isa, evE_index, evE_comp, evS_pre, evS_set, evS_setSh, evS_setTu, evS_par, evS_setIx, evS_app, evS_appPop, evS_appSd, evS_setSd, evS_ife, evS_for_, evS_wh, evS_ret, evS_retV, evS_exp, Above.eq_1 .. ▸ hS, F74_13, editB, h1, thB, h5, n_behind_away, n_behind_instead, n_behind_back, n_behind_settle, n_away_behind, n_away_instead, n_away_back, n_away_settle, n_instead_behind, n_instead_away, n_instead_back, n_instead_settle, n_back_behind, n_back_away, n_back_instead, n_back_settle, n_settle_behind, n_settle_away, n_settle_instead, n_settle_back]
      | _ => simp [numB] at hn
  | [x, y], _ =>
    have h1 := h1 x (by simp)
    have hE2 := hE x y rfl
    cases hn : numB x (-1) none with
    | false =>
      rw [hn] at h1
      simp [runF, evSs, evT, evTo, evEs, evO, evPar, evIt, varO, deref, idxO, L2.atI, L2.ixN, cmpO, eqO, isO, p1O, p2O, binO, intO, modI, mulI, fdivI, powI, addO, kept, modE, modE2, putO, appO, popO, wr, D.lev, D.levL, put, look, setE, setEs, leave, frz, bindO, bindTu, wipeE, srcO, seqO, seq2O, zipO, truO, isaO, cutO, D.isNon, line, Out.bind_ok, Out.of_some, Out.of_none, evE_cst, evE_var, evE_tup, evE_lst, evE_dic0, evE_dic1, evE_bin, evE_neg, evE_notv, evE_andv, evE_orv, evE_cmp, evE_ifx, evE_idx, evE_cut, evE_call, evE_p1, evE_p2, evE_isa, evE_index, evE_comp, evS_pre, evS_set, evS_setSh, evS_setTu, evS_par, evS_setIx, evS_app, evS_appPop, evS_appSd, evS_setSd, evS_ife, evS_for_, evS_wh, evS_ret, evS_retV, evS_exp, Above.eq_1 .. ▸ hS, F74_13, editB, h1, hn]
    | true =>
      rw [hn] at h1
      cases x with
      | int n =>
        have h5 := h5 n
        obtain ⟨d, h4, h4d⟩ := h4 n
        cases he : E y <;> rw [he] at hE2 <;> rcases hw with rfl | rfl | rfl <;> simp [runF, evSs, evT, evTo, evEs, evO, evPar, evIt, varO, deref, idxO, L2.atI, L2.ixN, cmpO, eqO, isO, p1O, p2O, binO, intO, modI, mulI, fdivI, powI, addO, kept, modE, modE2, putO, appO, popO, wr, D.lev, D.levL, put, look, setE, setEs, leave, frz, bindO, bindTu, wipeE, srcO, seqO, seq2O, zipO, truO, isaO, cutO, D.isNon, line, Out.bind_ok, Out.of_some, Out.of_none, evE_cst, evE_var, evE_tup, evE_lst, evE_dic0, evE_dic1, evE_bin, evE_neg, evE_notv, evE_andv, evE_orv, evE_cmp, evE_ifx, evE_idx, evE_cut, evE_call, evE_p1, evE_p2, evE_isa, evE_index, evE_comp, evS_pre, evS_set, evS_setSh, evS_setTu, evS_par, evS_setIx, evS_app, evS_appPop, evS_appSd, evS_setSd, evS_ife, evS_for_, evS_wh, evS_ret, evS_retV, evS_exp, Above.eq_1 .. ▸ hS, F74_13, editB, h1, thB, spB, h5, h4, h4d, hE2, he, hn, n_behind_away, n_behind_instead, n_behind_back, n_behind_settle, n_away_behind, n_away_instead, n_away_back, n_away_settle, n_instead_behind, n_instead_away, n_instead_back, n_instead_settle, n_back_behind, n_back_away, n_back_instead, n_back_settle, n_settle_behind, n_settle_away, n_settle_instead, n_settle_back]
        all_goals (cases d <;> simp_all [D.isNon])
      | _ => simp [numB] at hn
  | [x, y, z], _ =>
    have h1 := h1 x (by simp)
    cases hn : numB x (-1) none <;> rw [hn] at h1 <;> rcases hw with rfl | rfl | rfl <;> simp [runF, evSs, evT, evTo, evEs, evO, evPar, evIt, varO, deref, idxO, L2.atI, L2.ixN, cmpO, eqO, isO, p1O, p2O, binO, intO, modI, mulI, fdivI, powI, addO, kept, modE, modE2, putO, appO, popO, wr, D.lev, D.levL, put, look, setE, setEs, leave, frz, bindO, bindTu, wipeE, srcO, seqO, seq2O, zipO, truO, isaO, cutO, D.isNon, line, Out.bind_ok, Out.of_some, Out.of_none, evE_cst, evE_var, evE_tup, evE_lst, evE_dic0, evE_dic1, evE_bin, evE_neg, evE_notv, evE_andv, evE_orv, evE_cmp, evE_ifx, evE_idx, evE_cut, evE_call, evE_p1, evE_p2, evE_isa, evE_index, evE_comp, evS_pre, evS_set, evS_setSh, evS_setTu, evS_par, evS_setIx, evS_app, evS_appPop, evS_appSd, evS_setSd, evS_ife, evS_for_, evS_wh, evS_ret, evS_retV, evS_exp, Above.eq_1 .. ▸ hS, F74_13, editB, h1, n_behind_away, n_behind_instead, n_behind_back, n_behind_settle, n_away_behind, n_away_instead, n_away_back, n_away_settle, n_instead_behind, n_instead_away, n_instead_back, n_instead_settle, n_back_behind, n_back_away, n_back_instead, n_back_settle, n_settle_behind, n_settle_away, n_settle_instead, n_settle_back]
end Z
end
section
namespace Z
open PySem
theorem hz1 (n : Nat) : ¬ ((n : Int) + 1 = 0) := by omega
theorem hz2 (n : Nat) : ¬ ((n : Int) + 1 + 1 = 0) := by omega
theorem hz3 (n : Nat) : ¬ ((n : Int) + 1 + 1 + 1 = 0) := by omega
def back1 (es : List Ev) : List D → Bool
  | [x] => backB es x
  | _ => false
def canB (es : List Ev) (E : D → Bool) : D → Bool
  | .tup (.str w :: r) => if w = Str.ofString "behind" ∨ w = Str.ofString "away" ∨ w = Str.ofString "instead" then editB (rowsOf es) E w r else if w = Str.ofString "back" then back1 es r else if w = Str.ofString "settle" then r.isEmpty else false
  | _ => false
theorem ok_head {d : D} {r : List D} (h : D.ok (.tup (d :: r)) = true) : (∀ a b, d ≠ .ref a b) ∧ ∀ a b, d ≠ .dic a b := by
  constructor
  · rintro a b rfl
    simp [D.ok, D.okN, D.okNL] at h
  · rintro a b rfl
    simp [D.ok, D.okN, D.okNL] at h
theorem ok_set : D.ok (.tup [.str "settle"]) = true := rfl
set_option maxHeartbeats 0 in
theorem event_ok {k mm : Nat} {S : Sto} {es : List Ev} {E : D → Bool} {v : D} (hS : Above (k + 5) S) (hl : es.length ≤ 1000) (hvv : VV es) (hv : D.ok v = true) (hr : ∀ w r, v = .tup (.str w :: r) → (∀ x ∈ r, D.ok x = true) ∧ r.length ≤ 3)
    (hE : ∀ w x y, v = .tup [.str w, x, y] → callN P74 (k + 3) 12 [Wd, .int mm, y] ((k + 4, []) :: (k + 5, []) :: S) = .ok (.bl (E y), .fz, (k + 4, []) :: (k + 5, []) :: S)) :
    callN P74 (k + 5) 14 [.tup (es.map Ev.d), Wd, .int mm, v] S = .ok (.bl (canB es E v), .fz, S) := by
  have h2 := tup_s (l := k + 3) (S := (k + 5, []) :: S) (v := v) hS.fr hv
  rw [call_at P74_14]
  by_cases ht : ∃ ds, v = .tup ds
  case neg =>
    have h3 : isT v = false := by
      cases v with
      | tup ds => exact absurd ⟨_, rfl⟩ ht
      | _ => rfl
    have h4 : canB es E v = false := by
      cases v with
      | tup ds => exact absurd ⟨_, rfl⟩ ht
      | _ => rfl
    rw [h3] at h2
    rw [h4]
    simp [runF, evSs, evT, evTo, evEs, evO, evPar, evIt, varO, deref, idxO, L2.atI, L2.ixN, cmpO, eqO, isO, p1O, p2O, binO, intO, modI, mulI, fdivI, powI, addO, kept, modE, modE2, putO, appO, popO, wr, D.lev, D.levL, put, look, setE, setEs, leave, frz, bindO, bindTu, wipeE, srcO, seqO, seq2O, zipO, truO, isaO, cutO, D.isNon, line, Out.bind_ok, Out.of_some, Out.of_none, evE_cst, evE_var, evE_tup, evE_lst, evE_dic0, evE_dic1, evE_bin, evE_neg, evE_notv, evE_andv, evE_orv, evE_cmp, evE_ifx, evE_idx, evE_cut, evE_call, evE_p1, evE_p2, evE_isa, evE_index, evE_comp, evS_pre, evS_set, evS_setSh, evS_setTu, evS_par, evS_setIx, evS_app, evS_appPop, evS_appSd, evS_setSd, evS_ife, evS_for_, evS_wh, evS_ret, evS_retV, evS_exp, Above.eq_1 .. ▸ hS, F74_14, h2]
  case pos =>
    obtain ⟨ds, rfl⟩ := ht
    simp only [isT] at h2
    match ds with
    | [] => simp [runF, evSs, evT, evTo, evEs, evO, evPar, evIt, varO, deref, idxO, L2.atI, L2.ixN, cmpO, eqO, isO, p1O, p2O, binO, intO, modI, mulI, fdivI, powI, addO, kept, modE, modE2, putO, appO, popO, wr, D.lev, D.levL, put, look, setE, setEs, leave, frz, bindO, bindTu, wipeE, srcO, seqO, seq2O, zipO, truO, isaO, cutO, D.isNon, line, Out.bind_ok, Out.of_some, Out.of_none, evE_cst, evE_var, evE_tup, evE_lst, evE_dic0, evE_dic1, evE_bin, evE_neg, evE_notv, evE_andv, evE_orv, evE_cmp, evE_ifx, evE_idx, evE_cut, evE_call, evE_p1, evE_p2, evE_isa, evE_index, evE_comp, evS_pre, evS_set, evS_setSh, evS_setTu, evS_par, evS_setIx, evS_app, evS_appPop, evS_appSd, evS_setSd, evS_ife, evS_for_, evS_wh, evS_ret, evS_retV, evS_exp, Above.eq_1 .. ▸ hS, F74_14, h2, canB]
    | d :: r =>
      by_cases hd : ∃ w, d = .str w
      case neg =>
        have h4 : canB es E (.tup (d :: r)) = false := by
          cases d with
          | str w => exact absurd ⟨_, rfl⟩ hd
          | _ => rfl
        have ⟨o1, o2⟩ := ok_head hv
        rw [h4]
        cases d with
        | str w => exact absurd ⟨_, rfl⟩ hd
        | ref a b => exact absurd rfl (o1 a b)
        | dic a b => exact absurd rfl (o2 a b)
        | _ => simp [runF, evSs, evT, evTo, evEs, evO, evPar, evIt, varO, deref, idxO, L2.atI, L2.ixN, cmpO, eqO, isO, p1O, p2O, binO, intO, modI, mulI, fdivI, powI, addO, kept, modE, modE2, putO, appO, popO, wr, D.lev, D.levL, put, look, setE, setEs, leave, frz, bindO, bindTu, wipeE, srcO, seqO, seq2O, zipO, truO, isaO, cutO, D.isNon, line, Out.bind_ok, Out.of_some, Out.of_none, evE_cst, evE_var, evE_tup, evE_lst, evE_dic0, evE_dic1, evE_bin, evE_neg, evE_notv, evE_andv, evE_orv, evE_cmp, evE_ifx, evE_idx, evE_cut, evE_call, evE_p1, evE_p2, evE_isa, evE_index, evE_comp, evS_pre, evS_set, evS_setSh, evS_setTu, evS_par, evS_setIx, evS_app, evS_appPop, evS_appSd, evS_setSd, evS_ife, evS_for_, evS_wh, evS_ret, evS_retV, evS_exp, Above.eq_1 .. ▸ hS, F74_14, h2]
      case pos =>
        obtain ⟨w, rfl⟩ := hd
        obtain ⟨hro, hr3⟩ := hr w r rfl
        have h9 := duty_s (l := k) (S := (k + 5, []) :: S) (es := es) hS.fr hl hvv
        have hlen : (rowsOf es).length ≤ 1000 := Nat.le_trans (rowsOf_len es) hl
        have h13 : ∀ hw, callN P74 (k + 4) 13 [.tup ((rowsOf es).map Row.t), Wd, .int mm, .tup (.str w :: r)] ((k + 5, []) :: S) = .ok (.bl (editB (rowsOf es) E w r), .fz, (k + 5, []) :: S) := fun hw => edit_s (l := k + 1) (E := E) hS.fr hlen hvv.fresh.lo hw hro hr3 fun x y e => hE w x y (by rw [e])
        have h11 : ∀ x, x ∈ r → callN P74 (k + 4) 11 [.tup (es.map Ev.d), x] ((k + 5, []) :: S) = .ok (.bl (backB es x), .fz, (k + 5, []) :: S) := fun x hx => canback_s (l := k + 1) hS.fr hl (hro x hx)
        rcases words w with rfl | rfl | rfl | rfl | rfl | ho
        · have h13 := h13 (.inl rfl)
          simp [runF, evSs, evT, evTo, evEs, evO, evPar, evIt, varO, deref, idxO, L2.atI, L2.ixN, cmpO, eqO, isO, p1O, p2O, binO, intO, modI, mulI, fdivI, powI, addO, kept, modE, modE2, putO, appO, popO, wr, D.lev, D.levL, put, look, setE, setEs, leave, frz, bindO, bindTu, wipeE, srcO, seqO, seq2O, zipO, truO, isaO, cutO, D.isNon, line, Out.bind_ok, Out.of_some, Out.of_none, evE_cst, evE_var, evE_tup, evE_lst, evE_dic0, evE_dic1, evE_bin, evE_neg, evE_notv, evE_andv, evE_orv, evE_cmp, evE_ifx, evE_idx, evE_cut, evE_call, evE_p1, evE_p2, evE_isa, evE_index, evE_comp, evS_pre, evS_set, evS_setSh, evS_setTu, evS_par, evS_setIx, evS_app, evS_appPop, evS_appSd, evS_setSd, evS_ife, evS_for_, evS_wh, evS_ret, evS_retV, evS_exp, Above.eq_1 .. ▸ hS, F74_14, hz1, hz2, hz3, h2, in3_behind, h9, h13, canB]
        · have h13 := h13 (.inr (.inl rfl))
          simp [runF, evSs, evT, evTo, evEs, evO, evPar, evIt, varO, deref, idxO, L2.atI, L2.ixN, cmpO, eqO, isO, p1O, p2O, binO, intO, modI, mulI, fdivI, powI, addO, kept, modE, modE2, putO, appO, popO, wr, D.lev, D.levL, put, look, setE, setEs, leave, frz, bindO, bindTu, wipeE, srcO, seqO, seq2O, zipO, truO, isaO, cutO, D.isNon, line, Out.bind_ok, Out.of_some, Out.of_none, evE_cst, evE_var, evE_tup, evE_lst, evE_dic0, evE_dic1, evE_bin, evE_neg, evE_notv, evE_andv, evE_orv, evE_cmp, evE_ifx, evE_idx, evE_cut, evE_call, evE_p1, evE_p2, evE_isa, evE_index, evE_comp, evS_pre, evS_set, evS_setSh, evS_setTu, evS_par, evS_setIx, evS_app, evS_appPop, evS_appSd, evS_setSd, evS_ife, evS_for_, evS_wh, evS_ret, evS_retV, evS_exp, Above.eq_1 .. ▸ hS, F74_14, hz1, hz2, hz3, h2, in3_away, h9, h13, canB]
        · have h13 := h13 (.inr (.inr rfl))
          simp [runF, evSs, evT, evTo, evEs, evO, evPar, evIt, varO, deref, idxO, L2.atI, L2.ixN, cmpO, eqO, isO, p1O, p2O, binO, intO, modI, mulI, fdivI, powI, addO, kept, modE, modE2, putO, appO, popO, wr, D.lev, D.levL, put, look, setE, setEs, leave, frz, bindO, bindTu, wipeE, srcO, seqO, seq2O, zipO, truO, isaO, cutO, D.isNon, line, Out.bind_ok, Out.of_some, Out.of_none, evE_cst, evE_var, evE_tup, evE_lst, evE_dic0, evE_dic1, evE_bin, evE_neg, evE_notv, evE_andv, evE_orv, evE_cmp, evE_ifx, evE_idx, evE_cut, evE_call, evE_p1, evE_p2, evE_isa, evE_index, evE_comp, evS_pre, evS_set, evS_setSh, evS_setTu, evS_par, evS_setIx, evS_app, evS_appPop, evS_appSd, evS_setSd, evS_ife, evS_for_, evS_wh, evS_ret, evS_retV, evS_exp, Above.eq_1 .. ▸ hS, F74_14, hz1, hz2, hz3, h2, in3_instead, h9, h13, canB]
        · match r with
          | [] => simp [runF, evSs, evT, evTo, evEs, evO, evPar, evIt, varO, deref, idxO, L2.atI, L2.ixN, cmpO, eqO, isO, p1O, p2O, binO, intO, modI, mulI, fdivI, powI, addO, kept, modE, modE2, putO, appO, popO, wr, D.lev, D.levL, put, look, setE, setEs, leave, frz, bindO, bindTu, wipeE, srcO, seqO, seq2O, zipO, truO, isaO, cutO, D.isNon, line, Out.bind_ok, Out.of_some, Out.of_none, evE_cst, evE_var, evE_tup, evE_lst, evE_dic0, evE_dic1, evE_bin, evE_neg, evE_notv, evE_andv, evE_orv, evE_cmp, evE_ifx, evE_idx, evE_cut, evE_call, evE_p1, evE_p2, evE_isa, evE_index, evE_comp, evS_pre, evS_set, evS_setSh, evS_setTu, evS_par, evS_setIx, evS_app, evS_appPop, evS_appSd, evS_setSd, evS_ife, evS_for_, evS_wh, evS_ret, evS_retV, evS_exp, Above.eq_1 .. ▸ hS, F74_14, hz1, hz2, hz3, h2, in3_back, canB, back1, n_behind_away, n_behind_instead, n_behind_back, n_behind_settle, n_away_behind, n_away_instead, n_away_back, n_away_settle, n_instead_behind, n_instead_away, n_instead_back, n_instead_settle, n_back_behind, n_back_away, n_back_instead, n_back_settle, n_settle_behind, n_settle_away, n_settle_instead, n_settle_back]
          | [x] =>
            have h11 := h11 x (by simp)
            simp [runF, evSs, evT, evTo, evEs, evO, evPar, evIt, varO, deref, idxO, L2.atI, L2.ixN, cmpO, eqO, isO, p1O, p2O, binO, intO, modI, mulI, fdivI, powI, addO, kept, modE, modE2, putO, appO, popO, wr, D.lev, D.levL, put, look, setE, setEs, leave, frz, bindO, bindTu, wipeE, srcO, seqO, seq2O, zipO, truO, isaO, cutO, D.isNon, line, Out.bind_ok, Out.of_some, Out.of_none, evE_cst, evE_var, evE_tup, evE_lst, evE_dic0, evE_dic1, evE_bin, evE_neg, evE_notv, evE_andv, evE_orv, evE_cmp, evE_ifx, evE_idx, evE_cut, evE_call, evE_p1, evE_p2, evE_isa, evE_index, evE_comp, evS_pre, evS_set, evS_setSh, evS_setTu, evS_par, evS_setIx, evS_app, evS_appPop, evS_appSd, evS_setSd, evS_ife, evS_for_, evS_wh, evS_ret, evS_retV, evS_exp, Above.eq_1 .. ▸ hS, F74_14, hz1, hz2, hz3, h2, in3_back, canB, back1, n_behind_away, n_behind_instead, n_behind_back, n_behind_settle, n_away_behind, n_away_instead, n_away_back, n_away_settle, n_instead_behind, n_instead_away, n_instead_back, n_instead_settle, n_back_behind, n_back_away, n_back_instead, n_back_settle, n_settle_behind, n_settle_away, n_settle_instead, n_settle_back, h11]
          | x :: y :: r =>
            have hc : ¬ ((r.length : Int) + 1 + 1 + 1 = 2) := by omega
            simp [runF, evSs, evT, evTo, evEs, evO, evPar, evIt, varO, deref, idxO, L2.atI, L2.ixN, cmpO, eqO, isO, p1O, p2O, binO, intO, modI, mulI, fdivI, powI, addO, kept, modE, modE2, putO, appO, popO, wr, D.lev, D.levL, put, look, setE, setEs, leave, frz, bindO, bindTu, wipeE, srcO, seqO, seq2O, zipO, truO, isaO, cutO, D.isNon, line, Out.bind_ok, Out.of_some, Out.of_none, evE_cst, evE_var, evE_tup, evE_lst, evE_dic0, evE_dic1, evE_bin, evE_neg, evE_notv, evE_andv, evE_orv, evE_cmp, evE_ifx, evE_idx, evE_cut, evE_call, evE_p1, evE_p2, evE_isa, evE_index, evE_comp, evS_pre, evS_set, evS_setSh, evS_setTu, evS_par, evS_setIx, evS_app, evS_appPop, evS_appSd, evS_setSd, evS_ife, evS_for_, evS_wh, evS_ret, evS_retV, evS_exp, Above.eq_1 .. ▸ hS, F74_14, hz1, hz2, hz3, h2, in3_back, canB, back1, n_behind_away, n_behind_instead, n_behind_back, n_behind_settle, n_away_behind, n_away_instead, n_away_back, n_away_settle, n_instead_behind, n_instead_away, n_instead_back, n_instead_settle, n_back_behind, n_back_away, n_back_instead, n_back_settle, n_settle_behind, n_settle_away, n_settle_instead, n_settle_back, hc]
        · cases r <;> simp [runF, evSs, evT, evTo, evEs, evO, evPar, evIt, varO, deref, idxO, L2.atI, L2.ixN, cmpO, eqO, isO, p1O, p2O, binO, intO, modI, mulI, fdivI, powI, addO, kept, modE, modE2, putO, appO, popO, wr, D.lev, D.levL, put, look, setE, setEs, leave, frz, bindO, bindTu, wipeE, srcO, seqO, seq2O, zipO, truO, isaO, cutO, D.isNon, line, Out.bind_ok, Out.of_some, Out.of_none, evE_cst, evE_var, evE_tup, evE_lst, evE_dic0, evE_dic1, evE_bin, evE_neg, evE_notv, evE_andv, evE_orv, evE_cmp, evE_ifx, evE_idx, evE_cut, evE_call, evE_p1, evE_p2, evE_isa, evE_index, evE_comp, evS_pre, evS_set, evS_setSh, evS_setTu, evS_par, evS_setIx, evS_app, evS_appPop, evS_appSd, evS_setSd, evS_ife, evS_for_, evS_wh, evS_ret, evS_retV, evS_exp, Above.eq_1 .. ▸ hS, F74_14, hz1, hz2, hz3, h2, in3_settle, canB, back1, n_behind_away, n_behind_instead, n_behind_back, n_behind_settle, n_away_behind, n_away_instead, n_away_back, n_away_settle, n_instead_behind, n_instead_away, n_instead_back, n_instead_settle, n_back_behind, n_back_away, n_back_instead, n_back_settle, n_settle_behind, n_settle_away, n_settle_instead, n_settle_back, hv, ok_set, D.eqv, D.eqvL]
        · simp [runF, evSs, evT, evTo, evEs, evO, evPar, evIt, varO, deref, idxO, L2.atI, L2.ixN, cmpO, eqO, isO, p1O, p2O, binO, intO, modI, mulI, fdivI, powI, addO, kept, modE, modE2, putO, appO, popO, wr, D.lev, D.levL, put, look, setE, setEs, leave, frz, bindO, bindTu, wipeE, srcO, seqO, seq2O, zipO, truO, isaO, cutO, D.isNon, line, Out.bind_ok, Out.of_some, Out.of_none, evE_cst, evE_var, evE_tup, evE_lst, evE_dic0, evE_dic1, evE_bin, evE_neg, evE_notv, evE_andv, evE_orv, evE_cmp, evE_ifx, evE_idx, evE_cut, evE_call, evE_p1, evE_p2, evE_isa, evE_index, evE_comp, evS_pre, evS_set, evS_setSh, evS_setTu, evS_par, evS_setIx, evS_app, evS_appPop, evS_appSd, evS_setSd, evS_ife, evS_for_, evS_wh, evS_ret, evS_retV, evS_exp, Above.eq_1 .. ▸ hS, F74_14, hz1, hz2, hz3, h2, in3_oth ho, canB, hv, ok_set, D.eqv, D.eqvL, ho.a, ho.b, ho.c, ho.d, ho.e]
end Z
end
section
namespace Z
open PySem
theorem th_mem {rs : Rows} {n : Int} : (rs.any fun r => decide (r.nm = n) && r.th) = decide (n ∈ thN rs) := by
  induction rs with
  | nil => simp [thN, nms]
  | cons r rs ih =>
    rw [List.any_cons, ih]
    cases h : r.th
    · have : thN (r :: rs) = thN rs := by simp [thN, h]
      rw [this]; simp
    · have : thN (r :: rs) = r.nm :: thN rs := by simp [thN, nms, h]
      rw [this]
      by_cases e : r.nm = n
      · simp [e]
      · have e' : ¬ n = r.nm := fun z => e z.symm
        simp [e, e']
theorem thN_nms {rs : Rows} {n : Int} (h : n ∈ thN rs) : n ∈ nms rs := by
  obtain ⟨r, hr, e⟩ := List.mem_map.mp h
  exact List.mem_map.mpr ⟨r, (List.mem_filter.mp hr).1, e⟩
theorem names37 (C : Cal) {rs : Rows} {a0 a1 a2 a3 a4 a5 a6 a7 : Option (D × Bool)} {S : Sto} (hl : rs.length ≤ 1000) : loopC (cmpB C (.idx (.var 7) (.cst (.int 0))) (.nm 7) none [6, 7] [a0, a1, a2, a3, a4, a5, a6, a7]) (rs.map Row.l) S [] = .ok ((nms rs).map D.int, S) := by
  rw [loopC_map (f := fun r : Row => some (D.int r.nm))]
  · simp [map_nms]
  · intro r _
    simp [runF, evSs, evT, evTo, evEs, evO, evPar, evIt, varO, deref, idxO, L2.atI, L2.ixN, cmpO, eqO, isO, p1O, p2O, binO, intO, modI, mulI, fdivI, powI, addO, kept, modE, modE2, putO, appO, popO, wr, D.lev, D.levL, put, look, setE, setEs, leave, frz, bindO, bindTu, wipeE, srcO, seqO, seq2O, zipO, truO, isaO, cutO, D.isNon, line, Out.bind_ok, Out.of_some, Out.of_none, evE_cst, evE_var, evE_tup, evE_lst, evE_dic0, evE_dic1, evE_bin, evE_neg, evE_notv, evE_andv, evE_orv, evE_cmp, evE_ifx, evE_idx, evE_cut, evE_call, evE_p1, evE_p2, evE_isa, evE_index, evE_comp, evS_pre, evS_set, evS_setSh, evS_setTu, evS_par, evS_setIx, evS_app, evS_appPop, evS_appSd, evS_setSd, evS_ife, evS_for_, evS_wh, evS_ret, evS_retV, evS_exp, cmpB, Row.l]
  · simp only [List.length_nil, line]; omega
theorem there37 (C : Cal) {rs : Rows} {a0 a1 a2 a3 a4 a5 a6 a7 : Option (D × Bool)} {S : Sto} (hl : rs.length ≤ 1000) : loopC (cmpB C (.idx (.var 7) (.cst (.int 0))) (.nm 7) (some (.val (.idx (.var 7) (.cst (.int 2))))) [6, 7] [a0, a1, a2, a3, a4, a5, a6, a7]) (rs.map Row.l) S [] = .ok ((thN rs).map D.int, S) := by
  rw [loopC_map (f := fun r : Row => if r.th then some (D.int r.nm) else none)]
  · simp [filterMap_thn]
  · intro r _
    cases h : r.th <;> simp [runF, evSs, evT, evTo, evEs, evO, evPar, evIt, varO, deref, idxO, L2.atI, L2.ixN, cmpO, eqO, isO, p1O, p2O, binO, intO, modI, mulI, fdivI, powI, addO, kept, modE, modE2, putO, appO, popO, wr, D.lev, D.levL, put, look, setE, setEs, leave, frz, bindO, bindTu, wipeE, srcO, seqO, seq2O, zipO, truO, isaO, cutO, D.isNon, line, Out.bind_ok, Out.of_some, Out.of_none, evE_cst, evE_var, evE_tup, evE_lst, evE_dic0, evE_dic1, evE_bin, evE_neg, evE_notv, evE_andv, evE_orv, evE_cmp, evE_ifx, evE_idx, evE_cut, evE_call, evE_p1, evE_p2, evE_isa, evE_index, evE_comp, evS_pre, evS_set, evS_setSh, evS_setTu, evS_par, evS_setIx, evS_app, evS_appPop, evS_appSd, evS_setSd, evS_ife, evS_for_, evS_wh, evS_ret, evS_retV, evS_exp, cmpB, Row.l, h]
  · simp only [List.length_nil, line]; omega
theorem hz4 (n : Nat) : ¬ ((n : Int) + 1 + 1 = 1) := by omega
theorem hz5 (n : Nat) : (1 : Int) < (n : Int) + 1 + 1 := by omega
def s37a : List St := [
    (.ife (.or (.not (.val (.isa .tuple (.var 3)))) (.or (.cmp .eq (.var 3) (.tup [])) (.not (.val (.isa .str (.idx (.var 3) (.cst (.int 0)))))))) [
    (.ret (.cst (.bl false)))] [
    ]),
    (.pre [0] (.par [4, 5] [(.call 30 [(.var 0)]), (.p1 .len (.var 3))]))]
def s37c : St := (.ife (.cmp .eq (.idx (.var 3) (.cst (.int 0))) (.cst (.str "settle"))) [
    (.ret (.cmp .eq (.var 5) (.cst (.int 1))))] [
    ])
def s37d : St := (.ife (.cmp .eq (.idx (.var 3) (.cst (.int 0))) (.cst (.str "back"))) [
    (.pre [0] (.ret (.andv (.cmp .eq (.var 5) (.cst (.int 2))) (.andv (.call 27 [(.idx (.var 3) (.cst (.int 1))), (.cst .non)]) (.cmp .inn (.idx (.var 3) (.cst (.int 1))) (.call 31 [(.var 0)]))))))] [
    ])
def s37e : St := (.ife (.cmp .eq (.idx (.var 3) (.cst (.int 0))) (.cst (.str "behind"))) [
    (.pre [1, 2] (.ret (.andv (.cmp .eq (.var 5) (.cst (.int 3))) (.andv (.orv (.call 18 [(.idx (.var 3) (.cst (.int 1))), (.bin .sub (.cst (.int 0)) (.cst (.int 1)))]) (.andv (.call 27 [(.idx (.var 3) (.cst (.int 1))), (.cst .non)]) (.cmp .inn (.idx (.var 3) (.cst (.int 1))) (.comp (.idx (.var 7) (.cst (.int 0))) (.nm 7) (.seq (.var 4)) none [6, 7])))) (.call 36 [(.var 1), (.var 2), (.idx (.var 3) (.cst (.int 2)))])))))] [
    ])
def s37f : St := (.ife (.or (.cmp .lt (.var 5) (.cst (.int 2))) (.or (.not (.val (.call 27 [(.idx (.var 3) (.cst (.int 1))), (.cst .non)]))) (.cmp .nin (.idx (.var 3) (.cst (.int 1))) (.comp (.idx (.var 7) (.cst (.int 0))) (.nm 7) (.seq (.var 4)) (some (.val (.idx (.var 7) (.cst (.int 2))))) [6, 7])))) [
    (.ret (.cst (.bl false)))] [
    ])
def s37g : St := (.pre [1, 2] (.ret (.orv (.andv (.cmp .eq (.idx (.var 3) (.cst (.int 0))) (.cst (.str "away"))) (.cmp .eq (.var 5) (.cst (.int 2)))) (.andv (.cmp .eq (.idx (.var 3) (.cst (.int 0))) (.cst (.str "instead"))) (.andv (.cmp .eq (.var 5) (.cst (.int 3))) (.call 36 [(.var 1), (.var 2), (.idx (.var 3) (.cst (.int 2)))]))))))
theorem F37 : F74_37.np = 4 ∧ F74_37.ns = 8 ∧ F74_37.body = s37a ++ [s37c, s37d, s37e, s37f, s37g] := by unfold F74_37; exact ⟨rfl, rfl, rfl⟩
def e37 (es : List Ev) (mm : Nat) (w : Str) (r : List D) (R : Rows) : Env := [some (.tup (es.map Ev.d), false), some (Wd, false), some (.int mm, false), some (.tup (.str w :: r), false), some (.lst (R.map Row.l), true), some (.int ((r.length : Int) + 1), false), none, none]
theorem g37c {C : Cal} {es mm w r R S} (h : ¬ w = Str.ofString "settle") : evS C s37c (e37 es mm w r R) S = .ok (.nx (e37 es mm w r R) S) := by
  rw [s37c]; simp [runF, evSs, evT, evTo, evEs, evO, evPar, evIt, varO, deref, idxO, L2.atI, L2.ixN, cmpO, eqO, isO, p1O, p2O, binO, intO, modI, mulI, fdivI, powI, addO, kept, modE, modE2, putO, appO, popO, wr, D.lev, D.levL, put, look, setE, setEs, leave, frz, bindO, bindTu, wipeE, srcO, seqO, seq2O, zipO, truO, isaO, cutO, D.isNon, line, Out.bind_ok, Out.of_some, Out.of_none, evE_cst, evE_var, evE_tup, evE_lst, evE_dic0, evE_dic1, evE_bin, evE_neg, evE_notv, evE_andv, evE_orv, evE_cmp, evE_ifx, evE_idx, evE_cut, evE_call, evE_p1, evE_p2, evE_isa, evE_index, evE_comp, evS_pre, evS_set, evS_setSh, evS_setTu, evS_par, evS_setIx, evS_app, evS_appPop, evS_appSd, evS_setSd, evS_ife, evS_for_, evS_wh, evS_ret, evS_retV, evS_exp, e37, h]
theorem t37c {C : Cal} {es mm r R S} : evS C s37c (e37 es mm "settle" r R) S = .ok (.rt (.bl r.isEmpty) .fz S) := by
  rw [s37c]; cases r <;> simp [runF, evSs, evT, evTo, evEs, evO, evPar, evIt, varO, deref, idxO, L2.atI, L2.ixN, cmpO, eqO, isO, p1O, p2O, binO, intO, modI, mulI, fdivI, powI, addO, kept, modE, modE2, putO, appO, popO, wr, D.lev, D.levL, put, look, setE, setEs, leave, frz, bindO, bindTu, wipeE, srcO, seqO, seq2O, zipO, truO, isaO, cutO, D.isNon, line, Out.bind_ok, Out.of_some, Out.of_none, evE_cst, evE_var, evE_tup, evE_lst, evE_dic0, evE_dic1, evE_bin, evE_neg, evE_notv, evE_andv, evE_orv, evE_cmp, evE_ifx, evE_idx, evE_cut, evE_call, evE_p1, evE_p2, evE_isa, evE_index, evE_comp, evS_pre, evS_set, evS_setSh, evS_setTu, evS_par, evS_setIx, evS_app, evS_appPop, evS_appSd, evS_setSd, evS_ife, evS_for_, evS_wh, evS_ret, evS_retV, evS_exp, e37, hz1, hz4]
theorem g37d {C : Cal} {es mm w r R S} (h : ¬ w = Str.ofString "back") : evS C s37d (e37 es mm w r R) S = .ok (.nx (e37 es mm w r R) S) := by
  rw [s37d]; simp [runF, evSs, evT, evTo, evEs, evO, evPar, evIt, varO, deref, idxO, L2.atI, L2.ixN, cmpO, eqO, isO, p1O, p2O, binO, intO, modI, mulI, fdivI, powI, addO, kept, modE, modE2, putO, appO, popO, wr, D.lev, D.levL, put, look, setE, setEs, leave, frz, bindO, bindTu, wipeE, srcO, seqO, seq2O, zipO, truO, isaO, cutO, D.isNon, line, Out.bind_ok, Out.of_some, Out.of_none, evE_cst, evE_var, evE_tup, evE_lst, evE_dic0, evE_dic1, evE_bin, evE_neg, evE_notv, evE_andv, evE_orv, evE_cmp, evE_ifx, evE_idx, evE_cut, evE_call, evE_p1, evE_p2, evE_isa, evE_index, evE_comp, evS_pre, evS_set, evS_setSh, evS_setTu, evS_par, evS_setIx, evS_app, evS_appPop, evS_appSd, evS_setSd, evS_ife, evS_for_, evS_wh, evS_ret, evS_retV, evS_exp, e37, h]
theorem g37e {C : Cal} {es mm w r R S} (h : ¬ w = Str.ofString "behind") : evS C s37e (e37 es mm w r R) S = .ok (.nx (e37 es mm w r R) S) := by
  rw [s37e]; simp [runF, evSs, evT, evTo, evEs, evO, evPar, evIt, varO, deref, idxO, L2.atI, L2.ixN, cmpO, eqO, isO, p1O, p2O, binO, intO, modI, mulI, fdivI, powI, addO, kept, modE, modE2, putO, appO, popO, wr, D.lev, D.levL, put, look, setE, setEs, leave, frz, bindO, bindTu, wipeE, srcO, seqO, seq2O, zipO, truO, isaO, cutO, D.isNon, line, Out.bind_ok, Out.of_some, Out.of_none, evE_cst, evE_var, evE_tup, evE_lst, evE_dic0, evE_dic1, evE_bin, evE_neg, evE_notv, evE_andv, evE_orv, evE_cmp, evE_ifx, evE_idx, evE_cut, evE_call, evE_p1, evE_p2, evE_isa, evE_index, evE_comp, evS_pre, evS_set, evS_setSh, evS_setTu, evS_par, evS_setIx, evS_app, evS_appPop, evS_appSd, evS_setSd, evS_ife, evS_for_, evS_wh, evS_ret, evS_retV, evS_exp, e37, h]
section
variable {C : Cal} {es : List Ev} {mm : Nat} {r : List D} {S : Sto} {w : Str}
theorem t37d (h31 : C 31 [.tup (es.map Ev.d)] S = .ok (.lst ((backsL es).map D.int), .fr, S)) (hr3 : r.length ≤ 3) (h27 : ∀ x, x ∈ r → C 27 [x, .non] S = .ok (.bl (numB x 0 none), .fz, S)) {R : Rows} : evS C s37d (e37 es mm "back" r R) S = .ok (.rt (.bl (back1 es r)) .fz S) := by
  rw [s37d]
  match r, hr3 with
  | [], _ => simp [runF, evSs, evT, evTo, evEs, evO, evPar, evIt, varO, deref, idxO, L2.atI, L2.ixN, cmpO, eqO, isO, p1O, p2O, binO, intO, modI, mulI, fdivI, powI, addO, kept, modE, modE2, putO, appO, popO, wr, D.lev, D.levL, put, look, setE, setEs, leave, frz, bindO, bindTu, wipeE, srcO, seqO, seq2O, zipO, truO, isaO, cutO, D.isNon, line, Out.bind_ok, Out.of_some, Out.of_none, evE_cst, evE_var, evE_tup, evE_lst, evE_dic0, evE_dic1, evE_bin, evE_neg, evE_notv, evE_andv, evE_orv, evE_cmp, evE_ifx, evE_idx, evE_cut, evE_call, evE_p1, evE_p2, evE_isa, evE_index, evE_comp, evS_pre, evS_set, evS_setSh, evS_setTu, evS_par, evS_setIx, evS_app, evS_appPop, evS_appSd, evS_setSd, evS_ife, evS_for_, evS_wh, evS_ret, evS_retV, evS_exp, e37, back1]
  | [x], _ =>
    have h27 := h27 x (by simp)
    cases x with
    | int n =>
      have iB : inO (.int n) (.lst ((backsL es).map D.int)) = .ok (decide (n ∈ backsL es)) := in_ints (.inl rfl)
      have hblo : n ∈ backsL es → 0 ≤ n := by
        intro hn
        obtain ⟨k, ev, hk, rfl, _⟩ := mem_backsL.mp hn
        exact Int.natCast_nonneg k
      simp only [numB, Bool.and_true] at h27
      by_cases h0 : 0 ≤ n
      · simp [runF, evSs, evT, evTo, evEs, evO, evPar, evIt, varO, deref, idxO, L2.atI, L2.ixN, cmpO, eqO, isO, p1O, p2O, binO, intO, modI, mulI, fdivI, powI, addO, kept, modE, modE2, putO, appO, popO, wr, D.lev, D.levL, put, look, setE, setEs, leave, frz, bindO, bindTu, wipeE, srcO, seqO, seq2O, zipO, truO, isaO, cutO, D.isNon, line, Out.bind_ok, Out.of_some, Out.of_none, evE_cst, evE_var, evE_tup, evE_lst, evE_dic0, evE_dic1, evE_bin, evE_neg, evE_notv, evE_andv, evE_orv, evE_cmp, evE_ifx, evE_idx, evE_cut, evE_call, evE_p1, evE_p2, evE_isa, evE_index, evE_comp, evS_pre, evS_set, evS_setSh, evS_setTu, evS_par, evS_setIx, evS_app, evS_appPop, evS_appSd, evS_setSd, evS_ife, evS_for_, evS_wh, evS_ret, evS_retV, evS_exp, e37, h27, h31, iB, h0, backB, back1]
      · have hB : n ∉ backsL es := fun z => h0 (hblo z)
        simp [runF, evSs, evT, evTo, evEs, evO, evPar, evIt, varO, deref, idxO, L2.atI, L2.ixN, cmpO, eqO, isO, p1O, p2O, binO, intO, modI, mulI, fdivI, powI, addO, kept, modE, modE2, putO, appO, popO, wr, D.lev, D.levL, put, look, setE, setEs, leave, frz, bindO, bindTu, wipeE, srcO, seqO, seq2O, zipO, truO, isaO, cutO, D.isNon, line, Out.bind_ok, Out.of_some, Out.of_none, evE_cst, evE_var, evE_tup, evE_lst, evE_dic0, evE_dic1, evE_bin, evE_neg, evE_notv, evE_andv, evE_orv, evE_cmp, evE_ifx, evE_idx, evE_cut, evE_call, evE_p1, evE_p2, evE_isa, evE_index, evE_comp, evS_pre, evS_set, evS_setSh, evS_setTu, evS_par, evS_setIx, evS_app, evS_appPop, evS_appSd, evS_setSd, evS_ife, evS_for_, evS_wh, evS_ret, evS_retV, evS_exp, e37, h27, h31, h0, hB, backB, back1]
    | _ => simp only [numB] at h27; simp [runF, evSs, evT, evTo, evEs, evO, evPar, evIt, varO, deref, idxO, L2.atI, L2.ixN, cmpO, eqO, isO, p1O, p2O, binO, intO, modI, mulI, fdivI, powI, addO, kept, modE, modE2, putO, appO, popO, wr, D.lev, D.levL, put, look, setE, setEs, leave, frz, bindO, bindTu, wipeE, srcO, seqO, seq2O, zipO, truO, isaO, cutO, D.isNon, line, Out.bind_ok, Out.of_some, Out.of_none, evE_cst, evE_var, evE_tup, evE_lst, evE_dic0, evE_dic1, evE_bin, evE_neg, evE_notv, evE_andv, evE_orv, evE_cmp, evE_ifx, evE_idx, evE_cut, evE_call, evE_p1, evE_p2, evE_isa, evE_index, evE_comp, evS_pre, evS_set, evS_setSh, evS_setTu, evS_par, evS_setIx, evS_app, evS_appPop, evS_appSd, evS_setSd, evS_ife, evS_for_, evS_wh, evS_ret, evS_retV, evS_exp, e37, h27, backB, back1]
  | [x, y], _ => simp [runF, evSs, evT, evTo, evEs, evO, evPar, evIt, varO, deref, idxO, L2.atI, L2.ixN, cmpO, eqO, isO, p1O, p2O, binO, intO, modI, mulI, fdivI, powI, addO, kept, modE, modE2, putO, appO, popO, wr, D.lev, D.levL, put, look, setE, setEs, leave, frz, bindO, bindTu, wipeE, srcO, seqO, seq2O, zipO, truO, isaO, cutO, D.isNon, line, Out.bind_ok, Out.of_some, Out.of_none, evE_cst, evE_var, evE_tup, evE_lst, evE_dic0, evE_dic1, evE_bin, evE_neg, evE_notv, evE_andv, evE_orv, evE_cmp, evE_ifx, evE_idx, evE_cut, evE_call, evE_p1, evE_p2, evE_isa, evE_index, evE_comp, evS_pre, evS_set, evS_setSh, evS_setTu, evS_par, evS_setIx, evS_app, evS_appPop, evS_appSd, evS_setSd, evS_ife, evS_for_, evS_wh, evS_ret, evS_retV, evS_exp, e37, back1]
  | [x, y, z], _ => simp [runF, evSs, evT, evTo, evEs, evO, evPar, evIt, varO, deref, idxO, L2.atI, L2.ixN, cmpO, eqO, isO, p1O, p2O, binO, intO, modI, mulI, fdivI, powI, addO, kept, modE, modE2, putO, appO, popO, wr, D.lev, D.levL, put, look, setE, setEs, leave, frz, bindO, bindTu, wipeE, srcO, seqO, seq2O, zipO, truO, isaO, cutO, D.isNon, line, Out.bind_ok, Out.of_some, Out.of_none, evE_cst, evE_var, evE_tup, evE_lst, evE_dic0, evE_dic1, evE_bin, evE_neg, evE_notv, evE_andv, evE_orv, evE_cmp, evE_ifx, evE_idx, evE_cut, evE_call, evE_p1, evE_p2, evE_isa, evE_index, evE_comp, evS_pre, evS_set, evS_setSh, evS_setTu, evS_par, evS_setIx, evS_app, evS_appPop, evS_appSd, evS_setSd, evS_ife, evS_for_, evS_wh, evS_ret, evS_retV, evS_exp, e37, back1]
theorem t37e {E : D → Bool} (hlen : (rowsOf es).length ≤ 1000) (hlo : ∀ n, n ∈ nms (rowsOf es) → 0 ≤ n) (hr3 : r.length ≤ 3) (h27 : ∀ x, x ∈ r → C 27 [x, .non] S = .ok (.bl (numB x 0 none), .fz, S)) (h18 : ∀ x, x ∈ r → C 18 [x, .int (-1)] S = .ok (.bl (eqI (-1) x), .fz, S)) (hE : ∀ x y, r = [x, y] → C 36 [Wd, .int mm, y] S = .ok (.bl (E y), .fz, S)) :
    evS C s37e (e37 es mm "behind" r (rowsOf es)) S = .ok (.rt (.bl (editB (rowsOf es) E "behind" r)) .fz S) := by
  rw [s37e]
  match r, hr3 with
  | [], _ => simp [runF, evSs, evT, evTo, evEs, evO, evPar, evIt, varO, deref, idxO, L2.atI, L2.ixN, cmpO, eqO, isO, p1O, p2O, binO, intO, modI, mulI, fdivI, powI, addO, kept, modE, modE2, putO, appO, popO, wr, D.lev, D.levL, put, look, setE, setEs, leave, frz, bindO, bindTu, wipeE, srcO, seqO, seq2O, zipO, truO, isaO, cutO, D.isNon, line, Out.bind_ok, Out.of_some, Out.of_none, evE_cst, evE_var, evE_tup, evE_lst, evE_dic0, evE_dic1, evE_bin, evE_neg, evE_notv, evE_andv, evE_orv, evE_cmp, evE_ifx, evE_idx, evE_cut, evE_call, evE_p1, evE_p2, evE_isa, evE_index, evE_comp, evS_pre, evS_set, evS_setSh, evS_setTu, evS_par, evS_setIx, evS_app, evS_appPop, evS_appSd, evS_setSd, evS_ife, evS_for_, evS_wh, evS_ret, evS_retV, evS_exp, e37, editB]
  | [x], _ => simp [runF, evSs, evT, evTo, evEs, evO, evPar, evIt, varO, deref, idxO, L2.atI, L2.ixN, cmpO, eqO, isO, p1O, p2O, binO, intO, modI, mulI, fdivI, powI, addO, kept, modE, modE2, putO, appO, popO, wr, D.lev, D.levL, put, look, setE, setEs, leave, frz, bindO, bindTu, wipeE, srcO, seqO, seq2O, zipO, truO, isaO, cutO, D.isNon, line, Out.bind_ok, Out.of_some, Out.of_none, evE_cst, evE_var, evE_tup, evE_lst, evE_dic0, evE_dic1, evE_bin, evE_neg, evE_notv, evE_andv, evE_orv, evE_cmp, evE_ifx, evE_idx, evE_cut, evE_call, evE_p1, evE_p2, evE_isa, evE_index, evE_comp, evS_pre, evS_set, evS_setSh, evS_setTu, evS_par, evS_setIx, evS_app, evS_appPop, evS_appSd, evS_setSd, evS_ife, evS_for_, evS_wh, evS_ret, evS_retV, evS_exp, e37, editB, n_behind_away, n_behind_instead, n_behind_back, n_behind_settle, n_away_behind, n_away_instead, n_away_back, n_away_settle, n_instead_behind, n_instead_away, n_instead_back, n_instead_settle, n_back_behind, n_back_away, n_back_instead, n_back_settle, n_settle_behind, n_settle_away, n_settle_instead, n_settle_back]
  | [x, y], _ =>
    have h27 := h27 x (by simp)
    have h18 := h18 x (by simp)
    have hE2 := hE x y rfl
    cases x with
    | int n =>
      have iN : inO (.int n) (.lst ((nms (rowsOf es)).map D.int)) = .ok (decide (n ∈ nms (rowsOf es))) := in_ints (.inl rfl)
      simp only [numB, Bool.and_true] at h27
      simp only [eqI] at h18
      by_cases h1 : n = -1
      · subst h1
        simp [runF, evSs, evT, evTo, evEs, evO, evPar, evIt, varO, deref, idxO, L2.atI, L2.ixN, cmpO, eqO, isO, p1O, p2O, binO, intO, modI, mulI, fdivI, powI, addO, kept, modE, modE2, putO, appO, popO, wr, D.lev, D.levL, put, look, setE, setEs, leave, frz, bindO, bindTu, wipeE, srcO, seqO, seq2O, zipO, truO, isaO, cutO, D.isNon, line, Out.bind_ok, Out.of_some, Out.of_none, evE_cst, evE_var, evE_tup, evE_lst, evE_dic0, evE_dic1, evE_bin, evE_neg, evE_notv, evE_andv, evE_orv, evE_cmp, evE_ifx, evE_idx, evE_cut, evE_call, evE_p1, evE_p2, evE_isa, evE_index, evE_comp, evS_pre, evS_set, evS_setSh, evS_setTu, evS_par, evS_setIx, evS_app, evS_appPop, evS_appSd, evS_setSd, evS_ife, evS_for_, evS_wh, evS_ret, evS_retV, evS_exp, e37, h18, hE2, editB, spB, numB, n_behind_away, n_behind_instead, n_behind_back, n_behind_settle, n_away_behind, n_away_instead, n_away_back, n_away_settle, n_instead_behind, n_instead_away, n_instead_back, n_instead_settle, n_back_behind, n_back_away, n_back_instead, n_back_settle, n_settle_behind, n_settle_away, n_settle_instead, n_settle_back]
      · by_cases hN : n ∈ nms (rowsOf es)
        · have h0 := hlo n hN
          have h1' : -1 ≤ n := by omega
          simp [runF, evSs, evT, evTo, evEs, evO, evPar, evIt, varO, deref, idxO, L2.atI, L2.ixN, cmpO, eqO, isO, p1O, p2O, binO, intO, modI, mulI, fdivI, powI, addO, kept, modE, modE2, putO, appO, popO, wr, D.lev, D.levL, put, look, setE, setEs, leave, frz, bindO, bindTu, wipeE, srcO, seqO, seq2O, zipO, truO, isaO, cutO, D.isNon, line, Out.bind_ok, Out.of_some, Out.of_none, evE_cst, evE_var, evE_tup, evE_lst, evE_dic0, evE_dic1, evE_bin, evE_neg, evE_notv, evE_andv, evE_orv, evE_cmp, evE_ifx, evE_idx, evE_cut, evE_call, evE_p1, evE_p2, evE_isa, evE_index, evE_comp, evS_pre, evS_set, evS_setSh, evS_setTu, evS_par, evS_setIx, evS_app, evS_appPop, evS_appSd, evS_setSd, evS_ife, evS_for_, evS_wh, evS_ret, evS_retV, evS_exp, e37, h18, hE2, h27, editB, spB, numB, n_behind_away, n_behind_instead, n_behind_back, n_behind_settle, n_away_behind, n_away_instead, n_away_back, n_away_settle, n_instead_behind, n_instead_away, n_instead_back, n_instead_settle, n_back_behind, n_back_away, n_back_instead, n_back_settle, n_settle_behind, n_settle_away, n_settle_instead, n_settle_back, h1, hN, h0, h1', iN, names37 C hlen]
        · by_cases h0 : 0 ≤ n
          · simp [runF, evSs, evT, evTo, evEs, evO, evPar, evIt, varO, deref, idxO, L2.atI, L2.ixN, cmpO, eqO, isO, p1O, p2O, binO, intO, modI, mulI, fdivI, powI, addO, kept, modE, modE2, putO, appO, popO, wr, D.lev, D.levL, put, look, setE, setEs, leave, frz, bindO, bindTu, wipeE, srcO, seqO, seq2O, zipO, truO, isaO, cutO, D.isNon, line, Out.bind_ok, Out.of_some, Out.of_none, evE_cst, evE_var, evE_tup, evE_lst, evE_dic0, evE_dic1, evE_bin, evE_neg, evE_notv, evE_andv, evE_orv, evE_cmp, evE_ifx, evE_idx, evE_cut, evE_call, evE_p1, evE_p2, evE_isa, evE_index, evE_comp, evS_pre, evS_set, evS_setSh, evS_setTu, evS_par, evS_setIx, evS_app, evS_appPop, evS_appSd, evS_setSd, evS_ife, evS_for_, evS_wh, evS_ret, evS_retV, evS_exp, e37, h18, hE2, h27, editB, spB, numB, n_behind_away, n_behind_instead, n_behind_back, n_behind_settle, n_away_behind, n_away_instead, n_away_back, n_away_settle, n_instead_behind, n_instead_away, n_instead_back, n_instead_settle, n_back_behind, n_back_away, n_back_instead, n_back_settle, n_settle_behind, n_settle_away, n_settle_instead, n_settle_back, h1, hN, h0, iN, names37 C hlen]
          · simp [runF, evSs, evT, evTo, evEs, evO, evPar, evIt, varO, deref, idxO, L2.atI, L2.ixN, cmpO, eqO, isO, p1O, p2O, binO, intO, modI, mulI, fdivI, powI, addO, kept, modE, modE2, putO, appO, popO, wr, D.lev, D.levL, put, look, setE, setEs, leave, frz, bindO, bindTu, wipeE, srcO, seqO, seq2O, zipO, truO, isaO, cutO, D.isNon, line, Out.bind_ok, Out.of_some, Out.of_none, evE_cst, evE_var, evE_tup, evE_lst, evE_dic0, evE_dic1, evE_bin, evE_neg, evE_notv, evE_andv, evE_orv, evE_cmp, evE_ifx, evE_idx, evE_cut, evE_call, evE_p1, evE_p2, evE_isa, evE_index, evE_comp, evS_pre, evS_set, evS_setSh, evS_setTu, evS_par, evS_setIx, evS_app, evS_appPop, evS_appSd, evS_setSd, evS_ife, evS_for_, evS_wh, evS_ret, evS_retV, evS_exp, e37, h18, hE2, h27, editB, spB, numB, n_behind_away, n_behind_instead, n_behind_back, n_behind_settle, n_away_behind, n_away_instead, n_away_back, n_away_settle, n_instead_behind, n_instead_away, n_instead_back, n_instead_settle, n_back_behind, n_back_away, n_back_instead, n_back_settle, n_settle_behind, n_settle_away, n_settle_instead, n_settle_back, h1, hN, h0]
    | _ => simp only [numB] at h27; simp only [eqI] at h18; simp [runF, evSs, evT, evTo, evEs, evO, evPar, evIt, varO, deref, idxO, L2.atI, L2.ixN, cmpO, eqO, isO, p1O, p2O, binO, intO, modI, mulI, fdivI, powI, addO, kept, modE, modE2, putO, appO, popO, wr, D.lev, D.levL, put, look, setE, setEs, leave, frz, bindO, bindTu, wipeE, srcO, seqO, seq2O, zipO, truO, isaO, cutO, D.isNon, line, Out.bind_ok, Out.of_some, Out.of_none, evE_cst, evE_var, evE_tup, evE_lst, evE_dic0, evE_dic1, evE_bin, evE_neg, evE_notv, evE_andv, evE_orv, evE_cmp, evE_ifx, evE_idx, evE_cut, evE_call, evE_p1, evE_p2, evE_isa, evE_index, evE_comp, evS_pre, evS_set, evS_setSh, evS_setTu, evS_par, evS_setIx, evS_app, evS_appPop, evS_appSd, evS_setSd, evS_ife, evS_for_, evS_wh, evS_ret, evS_retV, evS_exp, e37, h18, h27, editB, numB, n_behind_away, n_behind_instead, n_behind_back, n_behind_settle, n_away_behind, n_away_instead, n_away_back, n_away_settle, n_instead_behind, n_instead_away, n_instead_back, n_instead_settle, n_back_behind, n_back_away, n_back_instead, n_back_settle, n_settle_behind, n_settle_away, n_settle_instead, n_settle_back]
  | [x, y, z], _ => simp [runF, evSs, evT, evTo, evEs, evO, evPar, evIt, varO, deref, idxO, L2.atI, L2.ixN, cmpO, eqO, isO, p1O, p2O, binO, intO, modI, mulI, fdivI, powI, addO, kept, modE, modE2, putO, appO, popO, wr, D.lev, D.levL, put, look, setE, setEs, leave, frz, bindO, bindTu, wipeE, srcO, seqO, seq2O, zipO, truO, isaO, cutO, D.isNon, line, Out.bind_ok, Out.of_some, Out.of_none, evE_cst, evE_var, evE_tup, evE_lst, evE_dic0, evE_dic1, evE_bin, evE_neg, evE_notv, evE_andv, evE_orv, evE_cmp, evE_ifx, evE_idx, evE_cut, evE_call, evE_p1, evE_p2, evE_isa, evE_index, evE_comp, evS_pre, evS_set, evS_setSh, evS_setTu, evS_par, evS_setIx, evS_app, evS_appPop, evS_appSd, evS_setSd, evS_ife, evS_for_, evS_wh, evS_ret, evS_retV, evS_exp, e37, editB]
theorem t37f (hlen : (rowsOf es).length ≤ 1000) (hlo : ∀ n, n ∈ nms (rowsOf es) → 0 ≤ n) (h27 : ∀ x, x ∈ r → C 27 [x, .non] S = .ok (.bl (numB x 0 none), .fz, S)) :
    (∃ n q, r = .int n :: q ∧ n ∈ thN (rowsOf es) ∧ evS C s37f (e37 es mm w r (rowsOf es)) S = .ok (.nx (e37 es mm w r (rowsOf es)) S)) ∨ ((∀ x q, r = x :: q → thB (rowsOf es) x = false) ∧ evS C s37f (e37 es mm w r (rowsOf es)) S = .ok (.rt (.bl false) .fz S)) := by
  rw [s37f]
  match r with
  | [] => exact .inr ⟨fun x q h => (by cases h), (by simp [runF, evSs, evT, evTo, evEs, evO, evPar, evIt, varO, deref, idxO, L2.atI, L2.ixN, cmpO, eqO, isO, p1O, p2O, binO, intO, modI, mulI, fdivI, powI, addO, kept, modE, modE2, putO, appO, popO, wr, D.lev, D.levL, put, look, setE, setEs, leave, frz, bindO, bindTu, wipeE, srcO, seqO, seq2O, zipO, truO, isaO, cutO, D.isNon, line, Out.bind_ok, Out.of_some, Out.of_none, evE_cst, evE_var, evE_tup, evE_lst, evE_dic0, evE_dic1, evE_bin, evE_neg, evE_notv, evE_andv, evE_orv, evE_cmp, evE_ifx, evE_idx, evE_cut, evE_call, evE_p1, evE_p2, evE_isa, evE_index, evE_comp, evS_pre, evS_set, evS_setSh, evS_setTu, evS_par, evS_setIx, evS_app, evS_appPop, evS_appSd, evS_setSd, evS_ife, evS_for_, evS_wh, evS_ret, evS_retV, evS_exp, e37])⟩
  | x :: q =>
    have h27 := h27 x (by simp)
    have hq : ¬ ((q.length : Int) + 1 + 1 < 2) := by omega
    have hq2 : (2 : Int) ≤ (q.length : Int) + 1 + 1 := by omega
    cases x with
    | int n =>
      have iT : inO (.int n) (.lst ((thN (rowsOf es)).map D.int)) = .ok (decide (n ∈ thN (rowsOf es))) := in_ints (.inl rfl)
      simp only [numB, Bool.and_true] at h27
      by_cases hT : n ∈ thN (rowsOf es)
      · have h0 := hlo n (thN_nms hT)
        exact .inl ⟨n, q, rfl, hT, by simp [runF, evSs, evT, evTo, evEs, evO, evPar, evIt, varO, deref, idxO, L2.atI, L2.ixN, cmpO, eqO, isO, p1O, p2O, binO, intO, modI, mulI, fdivI, powI, addO, kept, modE, modE2, putO, appO, popO, wr, D.lev, D.levL, put, look, setE, setEs, leave, frz, bindO, bindTu, wipeE, srcO, seqO, seq2O, zipO, truO, isaO, cutO, D.isNon, line, Out.bind_ok, Out.of_some, Out.of_none, evE_cst, evE_var, evE_tup, evE_lst, evE_dic0, evE_dic1, evE_bin, evE_neg, evE_notv, evE_andv, evE_orv, evE_cmp, evE_ifx, evE_idx, evE_cut, evE_call, evE_p1, evE_p2, evE_isa, evE_index, evE_comp, evS_pre, evS_set, evS_setSh, evS_setTu, evS_par, evS_setIx, evS_app, evS_appPop, evS_appSd, evS_setSd, evS_ife, evS_for_, evS_wh, evS_ret, evS_retV, evS_exp, e37, hz5, hq, hq2, h27, h0, iT, hT, there37 C hlen]⟩
      · refine .inr ⟨fun x q h => by cases h; simp [thB, th_mem, hT], ?_⟩
        by_cases h0 : 0 ≤ n
        · simp [runF, evSs, evT, evTo, evEs, evO, evPar, evIt, varO, deref, idxO, L2.atI, L2.ixN, cmpO, eqO, isO, p1O, p2O, binO, intO, modI, mulI, fdivI, powI, addO, kept, modE, modE2, putO, appO, popO, wr, D.lev, D.levL, put, look, setE, setEs, leave, frz, bindO, bindTu, wipeE, srcO, seqO, seq2O, zipO, truO, isaO, cutO, D.isNon, line, Out.bind_ok, Out.of_some, Out.of_none, evE_cst, evE_var, evE_tup, evE_lst, evE_dic0, evE_dic1, evE_bin, evE_neg, evE_notv, evE_andv, evE_orv, evE_cmp, evE_ifx, evE_idx, evE_cut, evE_call, evE_p1, evE_p2, evE_isa, evE_index, evE_comp, evS_pre, evS_set, evS_setSh, evS_setTu, evS_par, evS_setIx, evS_app, evS_appPop, evS_appSd, evS_setSd, evS_ife, evS_for_, evS_wh, evS_ret, evS_retV, evS_exp, e37, hz5, hq, hq2, h27, h0, iT, hT, there37 C hlen]
        · simp [runF, evSs, evT, evTo, evEs, evO, evPar, evIt, varO, deref, idxO, L2.atI, L2.ixN, cmpO, eqO, isO, p1O, p2O, binO, intO, modI, mulI, fdivI, powI, addO, kept, modE, modE2, putO, appO, popO, wr, D.lev, D.levL, put, look, setE, setEs, leave, frz, bindO, bindTu, wipeE, srcO, seqO, seq2O, zipO, truO, isaO, cutO, D.isNon, line, Out.bind_ok, Out.of_some, Out.of_none, evE_cst, evE_var, evE_tup, evE_lst, evE_dic0, evE_dic1, evE_bin, evE_neg, evE_notv, evE_andv, evE_orv, evE_cmp, evE_ifx, evE_idx, evE_cut, evE_call, evE_p1, evE_p2, evE_isa, evE_index, evE_comp, evS_pre, evS_set, evS_setSh, evS_setTu, evS_par, evS_setIx, evS_app, evS_appPop, evS_appSd, evS_setSd, evS_ife, evS_for_, evS_wh, evS_ret, evS_retV, evS_exp, e37, hz5, hq, hq2, h27, h0]
    | _ => exact .inr ⟨fun x q h => (by cases h; rfl), by simp only [numB] at h27; simp [runF, evSs, evT, evTo, evEs, evO, evPar, evIt, varO, deref, idxO, L2.atI, L2.ixN, cmpO, eqO, isO, p1O, p2O, binO, intO, modI, mulI, fdivI, powI, addO, kept, modE, modE2, putO, appO, popO, wr, D.lev, D.levL, put, look, setE, setEs, leave, frz, bindO, bindTu, wipeE, srcO, seqO, seq2O, zipO, truO, isaO, cutO, D.isNon, line, Out.bind_ok, Out.of_some, Out.of_none, evE_cst, evE_var, evE_tup, evE_lst, evE_dic0, evE_dic1, evE_bin, evE_neg, evE_notv, evE_andv, evE_orv, evE_cmp, evE_ifx, evE_idx, evE_cut, evE_call, evE_p1, evE_p2, evE_isa, evE_index, evE_comp, evS_pre, evS_set, evS_setSh, evS_setTu, evS_par, evS_setIx, evS_app, evS_appPop, evS_appSd, evS_setSd, evS_ife, evS_for_, evS_wh, evS_ret, evS_retV, evS_exp, e37, hz5, hq, hq2, h27]⟩
theorem t37g {E : D → Bool} {n : Int} {q : List D} (hq3 : q.length ≤ 2) (hT : n ∈ thN (rowsOf es)) (hw : ¬ w = Str.ofString "behind") (h0 : 0 ≤ n) (hE : ∀ x y, .int n :: q = [x, y] → C 36 [Wd, .int mm, y] S = .ok (.bl (E y), .fz, S)) :
    evS C s37g (e37 es mm w (.int n :: q) (rowsOf es)) S = .ok (.rt (.bl (if w = Str.ofString "away" ∨ w = Str.ofString "instead" then editB (rowsOf es) E w (.int n :: q) else false)) .fz S) := by
  have h1' : -1 ≤ n := by omega
  rw [s37g]
  match q, hq3 with
  | [], _ => by_cases ha : w = Str.ofString "away" <;> by_cases hi : w = Str.ofString "instead" <;> simp [runF, evSs, evT, evTo, evEs, evO, evPar, evIt, varO, deref, idxO, L2.atI, L2.ixN, cmpO, eqO, isO, p1O, p2O, binO, intO, modI, mulI, fdivI, powI, addO, kept, modE, modE2, putO, appO, popO, wr, D.lev, D.levL, put, look, setE, setEs, leave, frz, bindO, bindTu, wipeE, srcO, seqO, seq2O, zipO, truO, isaO, cutO, D.isNon, line, Out.bind_ok, Out.of_some, Out.of_none, evE_cst, evE_var, evE_tup, evE_lst, evE_dic0, evE_dic1, evE_bin, evE_neg, evE_notv, evE_andv, evE_orv, evE_cmp, evE_ifx, evE_idx, evE_cut, evE_call, evE_p1, evE_p2, evE_isa, evE_index, evE_comp, evS_pre, evS_set, evS_setSh, evS_setTu, evS_par, evS_setIx, evS_app, evS_appPop, evS_appSd, evS_setSd, evS_ife, evS_for_, evS_wh, evS_ret, evS_retV, evS_exp, e37, ha, hi, editB, thB, th_mem, hT, n_behind_away, n_behind_instead, n_behind_back, n_behind_settle, n_away_behind, n_away_instead, n_away_back, n_away_settle, n_instead_behind, n_instead_away, n_instead_back, n_instead_settle, n_back_behind, n_back_away, n_back_instead, n_back_settle, n_settle_behind, n_settle_away, n_settle_instead, n_settle_back]
  | [y], _ =>
    have hE2 := hE _ y rfl
    by_cases ha : w = Str.ofString "away"
    · subst ha
      simp [runF, evSs, evT, evTo, evEs, evO, evPar, evIt, varO, deref, idxO, L2.atI, L2.ixN, cmpO, eqO, isO, p1O, p2O, binO, intO, modI, mulI, fdivI, powI, addO, kept, modE, modE2, putO, appO, popO, wr, D.lev, D.levL, put, look, setE, setEs, leave, frz, bindO, bindTu, wipeE, srcO, seqO, seq2O, zipO, truO, isaO, cutO, D.isNon, line, Out.bind_ok, Out.of_some, Out.of_none, evE_cst, evE_var, evE_tup, evE_lst, evE_dic0, evE_dic1, evE_bin, evE_neg, evE_notv, evE_andv, evE_orv, evE_cmp, evE_ifx, evE_idx, evE_cut, evE_call, evE_p1, evE_p2, evE_isa, evE_index, evE_comp, evS_pre, evS_set, evS_setSh, evS_setTu, evS_par, evS_setIx, evS_app, evS_appPop, evS_appSd, evS_setSd, evS_ife, evS_for_, evS_wh, evS_ret, evS_retV, evS_exp, e37, editB, n_behind_away, n_behind_instead, n_behind_back, n_behind_settle, n_away_behind, n_away_instead, n_away_back, n_away_settle, n_instead_behind, n_instead_away, n_instead_back, n_instead_settle, n_back_behind, n_back_away, n_back_instead, n_back_settle, n_settle_behind, n_settle_away, n_settle_instead, n_settle_back]
    · by_cases hi : w = Str.ofString "instead"
      · subst hi
        simp [runF, evSs, evT, evTo, evEs, evO, evPar, evIt, varO, deref, idxO, L2.atI, L2.ixN, cmpO, eqO, isO, p1O, p2O, binO, intO, modI, mulI, fdivI, powI, addO, kept, modE, modE2, putO, appO, popO, wr, D.lev, D.levL, put, look, setE, setEs, leave, frz, bindO, bindTu, wipeE, srcO, seqO, seq2O, zipO, truO, isaO, cutO, D.isNon, line, Out.bind_ok, Out.of_some, Out.of_none, evE_cst, evE_var, evE_tup, evE_lst, evE_dic0, evE_dic1, evE_bin, evE_neg, evE_notv, evE_andv, evE_orv, evE_cmp, evE_ifx, evE_idx, evE_cut, evE_call, evE_p1, evE_p2, evE_isa, evE_index, evE_comp, evS_pre, evS_set, evS_setSh, evS_setTu, evS_par, evS_setIx, evS_app, evS_appPop, evS_appSd, evS_setSd, evS_ife, evS_for_, evS_wh, evS_ret, evS_retV, evS_exp, e37, editB, thB, th_mem, hT, numB, h1', hE2, n_behind_away, n_behind_instead, n_behind_back, n_behind_settle, n_away_behind, n_away_instead, n_away_back, n_away_settle, n_instead_behind, n_instead_away, n_instead_back, n_instead_settle, n_back_behind, n_back_away, n_back_instead, n_back_settle, n_settle_behind, n_settle_away, n_settle_instead, n_settle_back]
      · simp [runF, evSs, evT, evTo, evEs, evO, evPar, evIt, varO, deref, idxO, L2.atI, L2.ixN, cmpO, eqO, isO, p1O, p2O, binO, intO, modI, mulI, fdivI, powI, addO, kept, modE, modE2, putO, appO, popO, wr, D.lev, D.levL, put, look, setE, setEs, leave, frz, bindO, bindTu, wipeE, srcO, seqO, seq2O, zipO, truO, isaO, cutO, D.isNon, line, Out.bind_ok, Out.of_some, Out.of_none, evE_cst, evE_var, evE_tup, evE_lst, evE_dic0, evE_dic1, evE_bin, evE_neg, evE_notv, evE_andv, evE_orv, evE_cmp, evE_ifx, evE_idx, evE_cut, evE_call, evE_p1, evE_p2, evE_isa, evE_index, evE_comp, evS_pre, evS_set, evS_setSh, evS_setTu, evS_par, evS_setIx, evS_app, evS_appPop, evS_appSd, evS_setSd, evS_ife, evS_for_, evS_wh, evS_ret, evS_retV, evS_exp, e37, ha, hi]
  | [y, z], _ => by_cases ha : w = Str.ofString "away" <;> by_cases hi : w = Str.ofString "instead" <;> simp [runF, evSs, evT, evTo, evEs, evO, evPar, evIt, varO, deref, idxO, L2.atI, L2.ixN, cmpO, eqO, isO, p1O, p2O, binO, intO, modI, mulI, fdivI, powI, addO, kept, modE, modE2, putO, appO, popO, wr, D.lev, D.levL, put, look, setE, setEs, leave, frz, bindO, bindTu, wipeE, srcO, seqO, seq2O, zipO, truO, isaO, cutO, D.isNon, line, Out.bind_ok, Out.of_some, Out.of_none, evE_cst, evE_var, evE_tup, evE_lst, evE_dic0, evE_dic1, evE_bin, evE_neg, evE_notv, evE_andv, evE_orv, evE_cmp, evE_ifx, evE_idx, evE_cut, evE_call, evE_p1, evE_p2, evE_isa, evE_index, evE_comp, evS_pre, evS_set, evS_setSh, evS_setTu, evS_par, evS_setIx, evS_app, evS_appPop, evS_appSd, evS_setSd, evS_ife, evS_for_, evS_wh, evS_ret, evS_retV, evS_exp, e37, ha, hi, editB, n_behind_away, n_behind_instead, n_behind_back, n_behind_settle, n_away_behind, n_away_instead, n_away_back, n_away_settle, n_instead_behind, n_instead_away, n_instead_back, n_instead_settle, n_back_behind, n_back_away, n_back_instead, n_back_settle, n_settle_behind, n_settle_away, n_settle_instead, n_settle_back]
end
theorem a37 {C : Cal} {es : List Ev} {mm : Nat} {w : Str} {r : List D} {S : Sto} (hv : D.ok (.tup (.str w :: r)) = true) (h30 : C 30 [.tup (es.map Ev.d)] S = .ok (.lst ((rowsOf es).map Row.l), .fr, S)) : evSs C s37a [some (.tup (es.map Ev.d), false), some (Wd, false), some (.int mm, false), some (.tup (.str w :: r), false), none, none, none, none] S = .ok (.nx (e37 es mm w r (rowsOf es)) S) := by
  have hok0 : D.ok (.tup []) = true := rfl
  rw [s37a]
  simp [runF, evSs, evT, evTo, evEs, evO, evPar, evIt, varO, deref, idxO, L2.atI, L2.ixN, cmpO, eqO, isO, p1O, p2O, binO, intO, modI, mulI, fdivI, powI, addO, kept, modE, modE2, putO, appO, popO, wr, D.lev, D.levL, put, look, setE, setEs, leave, frz, bindO, bindTu, wipeE, srcO, seqO, seq2O, zipO, truO, isaO, cutO, D.isNon, line, Out.bind_ok, Out.of_some, Out.of_none, evE_cst, evE_var, evE_tup, evE_lst, evE_dic0, evE_dic1, evE_bin, evE_neg, evE_notv, evE_andv, evE_orv, evE_cmp, evE_ifx, evE_idx, evE_cut, evE_call, evE_p1, evE_p2, evE_isa, evE_index, evE_comp, evS_pre, evS_set, evS_setSh, evS_setTu, evS_par, evS_setIx, evS_app, evS_appPop, evS_appSd, evS_setSd, evS_ife, evS_for_, evS_wh, evS_ret, evS_retV, evS_exp, e37, hv, hok0, D.eqv, D.eqvL, h30]
theorem n37 {C : Cal} {es : List Ev} {mm : Nat} {v : D} {S : Sto} (hv : D.ok v = true) (h : ∀ w r, v ≠ .tup (.str w :: r)) : evSs C (s37a ++ [s37c, s37d, s37e, s37f, s37g]) [some (.tup (es.map Ev.d), false), some (Wd, false), some (.int mm, false), some (v, false), none, none, none, none] S = .ok (.rt (.bl false) .fz S) := by
  have hok0 : D.ok (.tup []) = true := rfl
  apply run_rt
  cases v with
  | ref a b => cases hv
  | dic a b => cases hv
  | tup ds =>
    cases ds with
    | nil => simp [runF, evSs, evT, evTo, evEs, evO, evPar, evIt, varO, deref, idxO, L2.atI, L2.ixN, cmpO, eqO, isO, p1O, p2O, binO, intO, modI, mulI, fdivI, powI, addO, kept, modE, modE2, putO, appO, popO, wr, D.lev, D.levL, put, look, setE, setEs, leave, frz, bindO, bindTu, wipeE, srcO, seqO, seq2O, zipO, truO, isaO, cutO, D.isNon, line, Out.bind_ok, Out.of_some, Out.of_none, evE_cst, evE_var, evE_tup, evE_lst, evE_dic0, evE_dic1, evE_bin, evE_neg, evE_notv, evE_andv, evE_orv, evE_cmp, evE_ifx, evE_idx, evE_cut, evE_call, evE_p1, evE_p2, evE_isa, evE_index, evE_comp, evS_pre, evS_set, evS_setSh, evS_setTu, evS_par, evS_setIx, evS_app, evS_appPop, evS_appSd, evS_setSd, evS_ife, evS_for_, evS_wh, evS_ret, evS_retV, evS_exp, hok0, D.eqv, D.eqvL]
    | cons d r =>
      have ⟨o1, o2⟩ := ok_head hv
      cases d with
      | str w => exact absurd rfl (h w r)
      | ref a b => exact absurd rfl (o1 a b)
      | dic a b => exact absurd rfl (o2 a b)
      | _ => simp [runF, evSs, evT, evTo, evEs, evO, evPar, evIt, varO, deref, idxO, L2.atI, L2.ixN, cmpO, eqO, isO, p1O, p2O, binO, intO, modI, mulI, fdivI, powI, addO, kept, modE, modE2, putO, appO, popO, wr, D.lev, D.levL, put, look, setE, setEs, leave, frz, bindO, bindTu, wipeE, srcO, seqO, seq2O, zipO, truO, isaO, cutO, D.isNon, line, Out.bind_ok, Out.of_some, Out.of_none, evE_cst, evE_var, evE_tup, evE_lst, evE_dic0, evE_dic1, evE_bin, evE_neg, evE_notv, evE_andv, evE_orv, evE_cmp, evE_ifx, evE_idx, evE_cut, evE_call, evE_p1, evE_p2, evE_isa, evE_index, evE_comp, evS_pre, evS_set, evS_setSh, evS_setTu, evS_par, evS_setIx, evS_app, evS_appPop, evS_appSd, evS_setSd, evS_ife, evS_for_, evS_wh, evS_ret, evS_retV, evS_exp, hv, hok0, D.eqv, D.eqvL]
  | _ => simp [runF, evSs, evT, evTo, evEs, evO, evPar, evIt, varO, deref, idxO, L2.atI, L2.ixN, cmpO, eqO, isO, p1O, p2O, binO, intO, modI, mulI, fdivI, powI, addO, kept, modE, modE2, putO, appO, popO, wr, D.lev, D.levL, put, look, setE, setEs, leave, frz, bindO, bindTu, wipeE, srcO, seqO, seq2O, zipO, truO, isaO, cutO, D.isNon, line, Out.bind_ok, Out.of_some, Out.of_none, evE_cst, evE_var, evE_tup, evE_lst, evE_dic0, evE_dic1, evE_bin, evE_neg, evE_notv, evE_andv, evE_orv, evE_cmp, evE_ifx, evE_idx, evE_cut, evE_call, evE_p1, evE_p2, evE_isa, evE_index, evE_comp, evS_pre, evS_set, evS_setSh, evS_setTu, evS_par, evS_setIx, evS_app, evS_appPop, evS_appSd, evS_setSd, evS_ife, evS_for_, evS_wh, evS_ret, evS_retV, evS_exp]
theorem canB_no {es : List Ev} {E : D → Bool} {v : D} (h : ∀ w r, v ≠ .tup (.str w :: r)) : canB es E v = false := by
  cases v with
  | tup ds =>
    cases ds with
    | nil => rfl
    | cons d r =>
      cases d with
      | str w => exact absurd rfl (h w r)
      | _ => rfl
  | _ => rfl
theorem canB_set {es : List Ev} {E : D → Bool} {r : List D} : canB es E (.tup (.str (Str.ofString "settle") :: r)) = r.isEmpty := by
  rw [canB]
  rw [if_neg (fun h => h.elim n_settle_behind fun h => h.elim n_settle_away n_settle_instead), if_neg n_settle_back, if_pos rfl]
theorem canB_back {es : List Ev} {E : D → Bool} {r : List D} : canB es E (.tup (.str (Str.ofString "back") :: r)) = (back1 es r) := by
  rw [canB]
  rw [if_neg (fun h => h.elim n_back_behind fun h => h.elim n_back_away n_back_instead), if_pos rfl]
theorem canB_beh {es : List Ev} {E : D → Bool} {r : List D} : canB es E (.tup (.str (Str.ofString "behind") :: r)) = editB (rowsOf es) E (Str.ofString "behind") r := by
  rw [canB]
  rw [if_pos (.inl rfl)]
theorem canB_oth {es : List Ev} {E : D → Bool} {r : List D} {w : Str} (w1 : ¬ w = Str.ofString "settle") (w2 : ¬ w = Str.ofString "back") (w3 : ¬ w = Str.ofString "behind") : canB es E (.tup (.str w :: r)) = if w = Str.ofString "away" ∨ w = Str.ofString "instead" then editB (rowsOf es) E w r else false := by
  rw [canB]
  by_cases h : w = Str.ofString "away" ∨ w = Str.ofString "instead"
  · rw [if_pos (show w = Str.ofString "behind" ∨ w = Str.ofString "away" ∨ w = Str.ofString "instead" from .inr h), if_pos h]
  · rw [if_neg (show ¬ (w = Str.ofString "behind" ∨ w = Str.ofString "away" ∨ w = Str.ofString "instead") from fun z => z.elim w3 h), if_neg h, if_neg w2, if_neg w1]
set_option maxHeartbeats 0 in
theorem lawcan_b {C : Cal} {mm : Nat} {S : Sto} {es : List Ev} {E : D → Bool} {v : D} (hlen : (rowsOf es).length ≤ 1000) (hlo : ∀ n, n ∈ nms (rowsOf es) → 0 ≤ n) (hv : D.ok v = true) (hr : ∀ w r, v = .tup (.str w :: r) → (∀ x ∈ r, D.ok x = true) ∧ r.length ≤ 3)
    (h30 : C 30 [.tup (es.map Ev.d)] S = .ok (.lst ((rowsOf es).map Row.l), .fr, S)) (h31 : C 31 [.tup (es.map Ev.d)] S = .ok (.lst ((backsL es).map D.int), .fr, S)) (h27 : ∀ x, D.ok x = true → C 27 [x, .non] S = .ok (.bl (numB x 0 none), .fz, S)) (h18 : ∀ x, D.ok x = true → C 18 [x, .int (-1)] S = .ok (.bl (eqI (-1) x), .fz, S))
    (hE : ∀ w x y, v = .tup [.str w, x, y] → C 36 [Wd, .int mm, y] S = .ok (.bl (E y), .fz, S)) :
    evSs C (s37a ++ [s37c, s37d, s37e, s37f, s37g]) [some (.tup (es.map Ev.d), false), some (Wd, false), some (.int mm, false), some (v, false), none, none, none, none] S = .ok (.rt (.bl (canB es E v)) .fz S) := by
  by_cases hs : ∃ w r, v = .tup (.str w :: r)
  case neg =>
    have hs2 : ∀ w r, v ≠ .tup (.str w :: r) := fun w r e => hs ⟨w, r, e⟩
    rw [canB_no hs2]
    exact n37 hv hs2
  case pos =>
    obtain ⟨w, r, rfl⟩ := hs
    obtain ⟨hro, hr3⟩ := hr w r rfl
    have h27' := fun x (hx : x ∈ r) => h27 x (hro x hx)
    have h18' := fun x (hx : x ∈ r) => h18 x (hro x hx)
    have hE' : ∀ x y, r = [x, y] → C 36 [Wd, .int mm, y] S = .ok (.bl (E y), .fz, S) := fun x y e => hE w x y (by rw [e])
    rw [run_app (a37 hv h30)]
    by_cases w1 : w = Str.ofString "settle"
    · subst w1
      rw [canB_set]
      exact run_rt t37c
    rw [run_nx (g37c w1)]
    by_cases w2 : w = Str.ofString "back"
    · subst w2
      rw [canB_back]
      exact run_rt (t37d h31 hr3 h27')
    rw [run_nx (g37d w2)]
    by_cases w3 : w = Str.ofString "behind"
    · subst w3
      rw [canB_beh]
      exact run_rt (t37e hlen hlo hr3 h27' h18' hE')
    rw [run_nx (g37e w3)]
    rw [canB_oth w1 w2 w3]
    rcases t37f (mm := mm) (w := w) hlen hlo h27' with ⟨n, q, rfl, hT, h⟩ | ⟨ht, h⟩
    · rw [run_nx h]
      exact run_rt (t37g (by simp only [List.length_cons] at hr3; omega) hT w3 (hlo n (thN_nms hT)) hE')
    · have e2 : (if w = Str.ofString "away" ∨ w = Str.ofString "instead" then editB (rowsOf es) E w r else false) = false := by
        split
        · match r with
          | [] => rfl
          | [x] => simp [editB, ht x [] rfl]
          | [x, y] => simp [editB, ht x [y] rfl, w3]
          | x :: y :: z :: q => rfl
        · rfl
      rw [e2]
      exact run_rt h
theorem lawcan_ok {k mm : Nat} {S : Sto} {es : List Ev} {E : D → Bool} {v : D} (hS : Above (k + 5) S) (hl : es.length ≤ 1000) (hvv : VV es) (hv : D.ok v = true) (hr : ∀ w r, v = .tup (.str w :: r) → (∀ x ∈ r, D.ok x = true) ∧ r.length ≤ 3)
    (hE : ∀ w x y, v = .tup [.str w, x, y] → callN P74 (k + 4) 36 [Wd, .int mm, y] ((k + 5, []) :: S) = .ok (.bl (E y), .fz, (k + 5, []) :: S)) :
    callN P74 (k + 5) 37 [.tup (es.map Ev.d), Wd, .int mm, v] S = .ok (.bl (canB es E v), .fz, S) := by
  refine run_fn P74_37 F37.1.symm hS ?_
  rw [F37.1, F37.2.1, F37.2.2]
  exact lawcan_b (Nat.le_trans (rowsOf_len es) hl) (fun n hn => by
    obtain ⟨q, hq, rfl⟩ := List.mem_map.mp hn
    exact hvv.fresh.lo q hq) hv hr (lifeRows_s (l := k + 3) hS.fr hl hvv) (backs_s (l := k + 3) hS.fr hl) (fun x hx => lnum_s (l := k + 3) (hi := none) hS.fr hx) (fun x hx => same_int (l := k + 3) hS.fr hx) hE
end Z
end
section
namespace Z
open PySem
def odd (mm : Nat) : List D := [.non, .bl true, .int (-1), .int mm, .str "a", .tup [.int 0], .lst [.int 0], .tup [.str "said", .int mm], .tup [.str "heard", .bl true], .tup [.str "said", .int 0, .int 0], .tup [.str "did", .int 0, .tup [.int 0], .int 1], .tup [.str "did", .int 2, .tup [.int 0], .bl true], .tup [.str "did", .int 0, .tup [.int 9], .bl true], .tup [.str "did", .int 0, .lst [.int 0], .bl true], .tup [.str "did", .bl true, .tup [.int 0], .bl true]]
def outB : Out Res → Bool
  | .ok (.bl b, _, _) => b
  | _ => false
def eEnt (mm : Nat) (y : D) : Bool := outB (callN P74 22 12 [Wd, .int mm, y] [(23, []), (24, []), (25, [])])
def EntT (mm : Nat) (bs : List D) (y : D) : Prop := callN P74 22 12 [Wd, .int mm, y] [(23, []), (24, []), (25, bs)] = .ok (.bl (eEnt mm y), .fz, [(23, []), (24, []), (25, bs)]) ∧ callN P74 23 36 [Wd, .int mm, y] [(24, []), (25, bs)] = .ok (.bl (eEnt mm y), .fz, [(24, []), (25, bs)])
theorem odd_all {p : D → Prop} (mm : Nat) (h : p (.non) ∧ p (.bl true) ∧ p (.int (-1)) ∧ p (.int mm) ∧ p (.str "a") ∧ p (.tup [.int 0]) ∧ p (.lst [.int 0]) ∧ p (.tup [.str "said", .int mm]) ∧ p (.tup [.str "heard", .bl true]) ∧ p (.tup [.str "said", .int 0, .int 0]) ∧ p (.tup [.str "did", .int 0, .tup [.int 0], .int 1]) ∧ p (.tup [.str "did", .int 2, .tup [.int 0], .bl true]) ∧ p (.tup [.str "did", .int 0, .tup [.int 9], .bl true]) ∧ p (.tup [.str "did", .int 0, .lst [.int 0], .bl true]) ∧ p (.tup [.str "did", .bl true, .tup [.int 0], .bl true])) : ∀ y ∈ odd mm, p y := by
  intro y hy
  obtain ⟨h1, h2, h3, h4, h5, h6, h7, h8, h9, h10, h11, h12, h13, h14, h15⟩ := h
  simp only [odd, List.mem_cons, List.mem_nil_iff, or_false] at hy
  rcases hy with rfl | rfl | rfl | rfl | rfl | rfl | rfl | rfl | rfl | rfl | rfl | rfl | rfl | rfl | rfl <;> assumption
theorem odd_tab (bs : List D) {mm : Nat} (hmm : mm = 1 ∨ mm = 2) : ∀ y ∈ odd mm, EntT mm bs y := by
  rcases hmm with rfl | rfl
  · refine odd_all 1 ⟨?_, ?_, ?_, ?_, ?_, ?_, ?_, ?_, ?_, ?_, ?_, ?_, ?_, ?_, ?_⟩
    all_goals (constructor <;> kernel_rfl)
  · refine odd_all 2 ⟨?_, ?_, ?_, ?_, ?_, ?_, ?_, ?_, ?_, ?_, ?_, ?_, ?_, ?_, ?_⟩
    all_goals (constructor <;> kernel_rfl)
theorem zero_tab (bs : List D) {mm : Nat} (hmm : mm = 1 ∨ mm = 2) : EntT mm bs (.int 0) := by
  rcases hmm with rfl | rfl <;> (constructor <;> kernel_rfl)
theorem enm_tab (bs : List D) {mm : Nat} (hmm : mm = 1 ∨ mm = 2) {y : D} (h : EnM mm y) : EntT mm bs y := by
  rcases h with ⟨n, hn, rfl | rfl⟩ | ⟨d, j, b, hd, hj, rfl⟩
  · obtain ⟨rfl, rfl⟩ | ⟨rfl, rfl⟩ | ⟨rfl, rfl⟩ : (n = 0 ∧ mm = 1) ∨ (n = 0 ∧ mm = 2) ∨ (n = 1 ∧ mm = 2) := by omega
    all_goals (constructor <;> kernel_rfl)
  · obtain ⟨rfl, rfl⟩ | ⟨rfl, rfl⟩ | ⟨rfl, rfl⟩ : (n = 0 ∧ mm = 1) ∨ (n = 0 ∧ mm = 2) ∨ (n = 1 ∧ mm = 2) := by omega
    all_goals (constructor <;> kernel_rfl)
  · rcases hmm with rfl | rfl
    all_goals obtain rfl | rfl : d = 0 ∨ d = 1 := by omega
    all_goals obtain rfl | rfl | rfl : j = 0 ∨ j = 1 ∨ j = 2 := by omega
    all_goals cases b
    all_goals (constructor <;> kernel_rfl)
theorem enm_ok {mm : Nat} {y : D} (h : EnM mm y) : D.ok y = true := by
  rcases h with ⟨n, hn, rfl | rfl⟩ | ⟨d, j, b, hd, hj, rfl⟩ <;> rfl
theorem odd_ok (mm : Nat) : ∀ y ∈ odd mm, D.ok y = true := odd_all mm ⟨rfl, rfl, rfl, rfl, rfl, rfl, rfl, rfl, rfl, rfl, rfl, rfl, rfl, rfl, rfl⟩
/-- what may stand as an entry -/
def Ys (mm : Nat) (y : D) : Prop := y ∈ odd mm ∨ EnM mm y ∨ y = .int 0
theorem ys_tab (bs : List D) {mm : Nat} (hmm : mm = 1 ∨ mm = 2) {y : D} (h : Ys mm y) : EntT mm bs y := by
  rcases h with h | h | rfl
  · exact odd_tab bs hmm y h
  · exact enm_tab bs hmm h
  · exact zero_tab bs hmm
structure Vk (mm : Nat) (v : D) : Prop where
  ok : D.ok v = true
  r : ∀ w r, v = .tup (.str w :: r) → (∀ x ∈ r, D.ok x = true) ∧ r.length ≤ 3
  e : ∀ w x y, v = .tup [.str w, x, y] → Ys mm y
theorem can_eq {mm : Nat} {es : List Ev} {v : D} {bs : List D} (hmm : mm = 1 ∨ mm = 2) (hl : es.length ≤ 1000) (hvv : VV es) (h : Vk mm v) : ∃ b, callN P74 24 14 [.tup (es.map Ev.d), Wd, .int mm, v] [(25, bs)] = .ok (.bl b, .fz, [(25, bs)]) ∧ callN P74 24 37 [.tup (es.map Ev.d), Wd, .int mm, v] [(25, bs)] = .ok (.bl b, .fz, [(25, bs)]) :=
  ⟨canB es (eEnt mm) v, event_ok (k := 19) (E := eEnt mm) (ab23 bs) hl hvv h.ok h.r fun w x y e => (ys_tab bs hmm (h.e w x y e)).1, lawcan_ok (k := 19) (E := eEnt mm) (ab23 bs) hl hvv h.ok h.r fun w x y e => (ys_tab bs hmm (h.e w x y e)).2⟩
/-! which values -/
theorem okT {ds : List D} (h : ds.all (D.okN 59) = true) : D.ok (.tup ds) = true := by
  have : ∀ {n : Nat} {ds : List D}, ds.all (D.okN n) = true → D.okNL n ds = true := by
    intro n ds h
    induction ds with
    | nil => rfl
    | cons d ds ih =>
      simp only [List.all_cons, Bool.and_eq_true] at h
      simp [D.okNL, h.1, ih h.2]
  exact this h
theorem odd_ok59 (mm : Nat) : ∀ y ∈ odd mm, D.okN 59 y = true := odd_all mm ⟨rfl, rfl, rfl, rfl, rfl, rfl, rfl, rfl, rfl, rfl, rfl, rfl, rfl, rfl, rfl⟩
theorem enm_ok59 {mm : Nat} {y : D} (h : EnM mm y) : D.okN 59 y = true := by
  rcases h with ⟨n, hn, rfl | rfl⟩ | ⟨d, j, b, hd, hj, rfl⟩ <;> rfl
theorem Vk.leaf {mm : Nat} {v : D} (h : D.ok v = true) (n : ∀ w r, v ≠ .tup (.str w :: r)) : Vk mm v := ⟨h, fun w r e => absurd e (n w r), fun w x y e => absurd e (n _ _)⟩
theorem Vk.w0 {mm : Nat} {w : Str} : Vk mm (.tup [.str w]) := ⟨rfl, fun w r e => by cases e; exact ⟨by simp, by simp⟩, fun w x y e => by cases e⟩
theorem Vk.w1 {mm : Nat} {w : Str} {x : D} (h : D.okN 59 x = true) (h2 : D.ok x = true) : Vk mm (.tup [.str w, x]) := ⟨okT (by simp [D.okN, h]), fun w r e => by cases e; exact ⟨by simpa using h2, by simp⟩, fun w x y e => by cases e⟩
theorem Vk.w2 {mm : Nat} {w : Str} {x y : D} (h : D.okN 59 x = true) (h2 : D.ok x = true) (k : D.okN 59 y = true) (k2 : D.ok y = true) (e : Ys mm y) : Vk mm (.tup [.str w, x, y]) := ⟨okT (by simp [D.okN, h, k]), fun w r e => by cases e; exact ⟨by simp [h2, k2], by simp⟩, fun w x y q => by cases q; exact e⟩
theorem Vk.w3 {mm : Nat} {w : Str} {x y z : D} (h : D.okN 59 x = true) (h2 : D.ok x = true) (k : D.okN 59 y = true) (k2 : D.ok y = true) (m : D.okN 59 z = true) (m2 : D.ok z = true) : Vk mm (.tup [.str w, x, y, z]) := ⟨okT (by simp [D.okN, h, k, m]), fun w r e => by cases e; exact ⟨by simp [h2, k2, m2], by simp⟩, fun w x y q => by cases q⟩
/-- the odd ones as events -/
theorem odd_vk {mm : Nat} : ∀ y ∈ odd mm, Vk mm y := odd_all mm ⟨.leaf rfl (fun _ _ e => by cases e), .leaf rfl (fun _ _ e => by cases e), .leaf rfl (fun _ _ e => by cases e), .leaf rfl (fun _ _ e => by cases e), .leaf rfl (fun _ _ e => by cases e), .leaf rfl (fun _ _ e => by cases e), .leaf rfl (fun _ _ e => by cases e), .w1 rfl rfl, .w1 rfl rfl, .w2 rfl rfl rfl rfl (.inr (.inr rfl)), .w3 rfl rfl rfl rfl rfl rfl, .w3 rfl rfl rfl rfl rfl rfl, .w3 rfl rfl rfl rfl rfl rfl, .w3 rfl rfl rfl rfl rfl rfl, .w3 rfl rfl rfl rfl rfl rfl⟩
/-- (one,) -/
theorem one_vk {mm : Nat} : ∀ y ∈ odd mm, Vk mm (.tup [y]) := odd_all mm ⟨.leaf rfl (fun _ _ e => by cases e), .leaf rfl (fun _ _ e => by cases e), .leaf rfl (fun _ _ e => by cases e), .leaf rfl (fun _ _ e => by cases e), .w0, .leaf rfl (fun _ _ e => by cases e), .leaf rfl (fun _ _ e => by cases e), .leaf rfl (fun _ _ e => by cases e), .leaf rfl (fun _ _ e => by cases e), .leaf rfl (fun _ _ e => by cases e), .leaf rfl (fun _ _ e => by cases e), .leaf rfl (fun _ _ e => by cases e), .leaf rfl (fun _ _ e => by cases e), .leaf rfl (fun _ _ e => by cases e), .leaf rfl (fun _ _ e => by cases e)⟩
end Z
end
section
namespace Z
open PySem
theorem rngIt2 (C : Cal) {env : Env} {S S' S'' : Sto} {a b : E} {i j : Int} {ki kj : K3} (h1 : evE C a env S = .ok (.int i, ki, S')) (h2 : evE C b env S' = .ok (.int j, kj, S'')) (hi : -1000 ≤ i) (hi2 : i ≤ 1000000) (hj : 0 ≤ j) (hj2 : j ≤ 1000000) : evIt C (.rng a b) env S = .ok (rangeD i (j - i).toNat, false, S'') := by
  rw [evIt, h1]
  simp only [Out.bind_ok, h2]
  have a1 : decide (-(2 ^ 62 : Int) ≤ i) = true := decide_eq_true (Int.le_trans (by decide) hi)
  have a2 : decide (i < (2 ^ 62 : Int)) = true := decide_eq_true (Int.lt_of_le_of_lt hi2 (by decide))
  have a3 : decide (-(2 ^ 62 : Int) ≤ j) = true := decide_eq_true (Int.le_trans (by decide) hj)
  have a4 : decide (j < (2 ^ 62 : Int)) = true := decide_eq_true (Int.lt_of_le_of_lt hj2 (by decide))
  rw [a1, a2, a3, a4]
  rfl
def eM (s x1 x2 x3 x4 x5 x6 x7 x8 x9 x10 x11 x12 x13 : Option (D × Bool)) : Env := [s, x1, x2, x3, x4, x5, x6, x7, x8, x9, x10, x11, x12, x13, none, none]
abbrev kD (d : D) : Option (D × Bool) := some (d, false)
abbrev oD (d : D) : Option (D × Bool) := some (d, true)
abbrev evD (es : List Ev) : D := .tup (es.map Ev.d)
def BC : List St := [(.pre [6, 3, 5, 11, 6, 3, 5, 11] (.ife (.not (.val (.call 18 [(.call 14 [(.var 6), (.var 3), (.var 5), (.var 11)]), (.call 37 [(.var 6), (.var 3), (.var 5), (.var 11)])]))) [
    (.ret (.cst (.bl false)))] [
    ]))]
theorem bc_b {C : Cal} {S : Sto} {E M v : D} {b : Bool} (h14 : C 14 [E, Wd, M, v] S = .ok (.bl b, .fz, S)) (h37 : C 37 [E, Wd, M, v] S = .ok (.bl b, .fz, S)) (h18 : C 18 [.bl b, .bl b] S = .ok (.bl true, .fz, S)) {s x1 x2 x4 x7 x8 x9 x10 x12 x13} : evSs C BC (eM s x1 x2 (kD Wd) x4 (kD M) (kD E) x7 x8 x9 x10 (kD v) x12 x13) S = .ok (.nx (eM s x1 x2 (kD Wd) x4 (kD M) (kD E) x7 x8 x9 x10 (kD v) x12 x13) S) := by
  refine (run_nx (env' := eM s x1 x2 (kD Wd) x4 (kD M) (kD E) x7 x8 x9 x10 (kD v) x12 x13) (S' := S) ?_).trans run_nil
  simp [runF, evSs, evT, evTo, evEs, evO, evPar, evIt, varO, deref, idxO, L2.atI, L2.ixN, cmpO, eqO, isO, p1O, p2O, binO, intO, modI, mulI, fdivI, powI, addO, kept, modE, modE2, putO, appO, popO, wr, D.lev, D.levL, put, look, setE, setEs, leave, frz, bindO, bindTu, wipeE, srcO, seqO, seq2O, zipO, truO, isaO, cutO, D.isNon, line, Out.bind_ok, Out.of_some, Out.of_none, evE_cst, evE_var, evE_tup, evE_lst, evE_dic0, evE_dic1, evE_bin, evE_neg, evE_notv, evE_andv, evE_orv, evE_cmp, evE_ifx, evE_idx, evE_cut, evE_call, evE_p1, evE_p2, evE_isa, evE_index, evE_comp, evS_pre, evS_set, evS_setSh, evS_setTu, evS_par, evS_setIx, evS_app, evS_appPop, evS_appSd, evS_setSd, evS_ife, evS_for_, evS_wh, evS_ret, evS_retV, evS_exp, eM, h14, h37, h18]
theorem bc_s {mm : Nat} {es : List Ev} {bs : List D} (hmm : mm = 1 ∨ mm = 2) (hl : es.length ≤ 1000) (hvv : VV es) {v : D} (h : Vk mm v) {s x1 x2 x4 x7 x8 x9 x10 x11 x12 x13} : forB (callN P74 24) (.nm 11) BC v (eM s x1 x2 (kD Wd) x4 (kD (.int mm)) (kD (evD es)) x7 x8 x9 x10 x11 x12 x13) [(25, bs)] = .ok (.nx (eM s x1 x2 (kD Wd) x4 (kD (.int mm)) (kD (evD es)) x7 x8 x9 x10 (kD v) x12 x13) [(25, bs)]) := by
  obtain ⟨b, h1, h2⟩ := can_eq (bs := bs) hmm hl hvv h
  have h3 := same_bl (l := 23) (S := [(25, bs)]) (a := b) (b := b) (ab23 bs)
  rw [show (b == b) = true from by cases b <;> rfl] at h3
  exact forB_nm rfl (bc_b h1 h2 h3)
/-- a loop over values that all may be asked -/
theorem lc_s {mm : Nat} {es : List Ev} {bs : List D} (hmm : mm = 1 ∨ mm = 2) (hl : es.length ≤ 1000) (hvv : VV es) {s x1 x2 x4 x7 x8 x9 x10 x12 x13} : ∀ {ds : List D} {x11}, (∀ v ∈ ds, Vk mm v) → ∃ y11, loopF (forB (callN P74 24) (.nm 11) BC) ds (eM s x1 x2 (kD Wd) x4 (kD (.int mm)) (kD (evD es)) x7 x8 x9 x10 x11 x12 x13) [(25, bs)] = .ok (.nx (eM s x1 x2 (kD Wd) x4 (kD (.int mm)) (kD (evD es)) x7 x8 x9 x10 y11 x12 x13) [(25, bs)])
  | [], x11, _ => ⟨x11, rfl⟩
  | v :: ds, x11, h => by
    obtain ⟨y, q⟩ := lc_s hmm hl hvv (ds := ds) (x11 := kD v) fun u hu => h u (List.mem_cons_of_mem _ hu)
    refine ⟨y, ?_⟩
    rw [loopF, bc_s hmm hl hvv (h v (List.mem_cons_self ..))]
    exact q
def m1 : St := (.pre [0, 1] (.setSh 2 (.call 15 [(.var 0), (.var 1)])))
def m2 : St := (.par [3, 4] [(.call 20 []), (.tup [(.tup [(.cst (.int 0))]), (.tup [(.cst (.int 3))])])])
def m3 : St := (.pre [2] (.par [5, 6] [(.bin .add (.cst (.int 1)) (.call 16 [(.var 2), (.cst (.int 2))])), (.tup [])]))
def m4 : St := (.pre [2, 3] (.set 7 (.idx (.call 33 [(.var 2), (.var 3), (.cut (.var 4) none (some (.var 5))), (.cst (.int 9))]) (.cst (.int 0)))))
def BT : List St := [(.pre [2, 6, 3, 7] (.set 6 (.bin .add (.var 6) (.tup [(.call 35 [(.var 2), (.var 6), (.var 3), (.cut (.var 4) none (some (.var 5))), (.var 7)])]))))]
def m5 : St := (.pre [2] (.for_ (.nm 8) (.rng (.cst (.int 0)) (.bin .add (.cst (.int 2)) (.call 16 [(.var 2), (.cst (.int 12))]))) BT))
def m6 : St := (.pre [2, 3, 5] (.set 9 (.call 34 [(.var 2), (.var 3), (.var 5)])))
theorem q1_s {bs : List D} {ns : List Int} {k : Nat} {x2 x3 x4 x5 x6 x7 x8 x9 x10 x11 x12 x13} : ∃ bs', Bx [(25, bs')] bs.length ∧ evS (callN P74 24) m1 (eM (kD (.lst (ns.map D.int))) (kD (.int k)) x2 x3 x4 x5 x6 x7 x8 x9 x10 x11 x12 x13) [(25, bs)] = .ok (.nx (eM (kD (.lst (ns.map D.int))) (kD (.int k)) (kD (.ref 25 bs.length)) x3 x4 x5 x6 x7 x8 x9 x10 x11 x12 x13) [(25, bs')]) := by
  obtain ⟨a, b, h⟩ := box_s (l := 23) (S := [(25, bs)]) (ns := ns) (k := k) (ab23 bs)
  refine ⟨bs ++ [.lst [.int a, .int b]], ⟨a, b, by simp [look]⟩, ?_⟩
  have e : frz (eM (kD (.lst (ns.map D.int))) (kD (.int k)) x2 x3 x4 x5 x6 x7 x8 x9 x10 x11 x12 x13) [0, 1] = eM (kD (.lst (ns.map D.int))) (kD (.int k)) x2 x3 x4 x5 x6 x7 x8 x9 x10 x11 x12 x13 := rfl
  rw [m1, evS_pre, e]
  simp [runF, evSs, evT, evTo, evEs, evO, evPar, evIt, varO, deref, idxO, L2.atI, L2.ixN, cmpO, eqO, isO, p1O, p2O, binO, intO, modI, mulI, fdivI, powI, addO, kept, modE, modE2, putO, appO, popO, wr, D.lev, D.levL, put, look, setE, setEs, leave, frz, bindO, bindTu, wipeE, srcO, seqO, seq2O, zipO, truO, isaO, cutO, D.isNon, line, Out.bind_ok, Out.of_some, Out.of_none, evE_cst, evE_var, evE_tup, evE_lst, evE_dic0, evE_dic1, evE_bin, evE_neg, evE_notv, evE_andv, evE_orv, evE_cmp, evE_ifx, evE_idx, evE_cut, evE_call, evE_p1, evE_p2, evE_isa, evE_index, evE_comp, evS_pre, evS_set, evS_setSh, evS_setTu, evS_par, evS_setIx, evS_app, evS_appPop, evS_appSd, evS_setSd, evS_ife, evS_for_, evS_wh, evS_ret, evS_retV, evS_exp, eM, h, newS]
theorem q2_s {bs : List D} {s x1 x2 x3 x4 x5 x6 x7 x8 x9 x10 x11 x12 x13} : evS (callN P74 24) m2 (eM s x1 x2 x3 x4 x5 x6 x7 x8 x9 x10 x11 x12 x13) [(25, bs)] = .ok (.nx (eM s x1 x2 (kD Wd) (kD Bok) x5 x6 x7 x8 x9 x10 x11 x12 x13) [(25, bs)]) := by
  rw [m2]
  simp [runF, evSs, evT, evTo, evEs, evO, evPar, evIt, varO, deref, idxO, L2.atI, L2.ixN, cmpO, eqO, isO, p1O, p2O, binO, intO, modI, mulI, fdivI, powI, addO, kept, modE, modE2, putO, appO, popO, wr, D.lev, D.levL, put, look, setE, setEs, leave, frz, bindO, bindTu, wipeE, srcO, seqO, seq2O, zipO, truO, isaO, cutO, D.isNon, line, Out.bind_ok, Out.of_some, Out.of_none, evE_cst, evE_var, evE_tup, evE_lst, evE_dic0, evE_dic1, evE_bin, evE_neg, evE_notv, evE_andv, evE_orv, evE_cmp, evE_ifx, evE_idx, evE_cut, evE_call, evE_p1, evE_p2, evE_isa, evE_index, evE_comp, evS_pre, evS_set, evS_setSh, evS_setTu, evS_par, evS_setIx, evS_app, evS_appPop, evS_appSd, evS_setSd, evS_ife, evS_for_, evS_wh, evS_ret, evS_retV, evS_exp, eM, c14]
theorem take_t {i : Nat} {m : Int} {bs : List D} (hb : Bx [(25, bs)] i) (hm : 0 < m) (hm2 : m < 1073741824) : ∃ (d : Nat) (bs' : List D), callN P74 24 16 [.ref 25 i, .int m] [(25, bs)] = .ok (.int d, .fz, [(25, bs')]) ∧ Up [(25, bs)] i [(25, bs')] ∧ (d : Int) < m := by
  obtain ⟨d, S', h, u, d0, d1⟩ := take_s (l := 23) (i := i) (m := m) (S := [(25, bs)]) (by omega) (ab23 bs) hb hm hm2
  obtain ⟨bs', rfl⟩ := u.one
  have e : ((d.toNat : Nat) : Int) = d := Int.toNat_of_nonneg d0
  exact ⟨d.toNat, bs', by rw [e]; exact h, u, by rw [e]; exact d1⟩
theorem q3_s {bs : List D} {i : Nat} (hb : Bx [(25, bs)] i) {s x1 x3 x4 x5 x6 x7 x8 x9 x10 x11 x12 x13} : ∃ (mm : Nat) (bs' : List D), (mm = 1 ∨ mm = 2) ∧ evS (callN P74 24) m3 (eM s x1 (kD (.ref 25 i)) x3 x4 x5 x6 x7 x8 x9 x10 x11 x12 x13) [(25, bs)] = .ok (.nx (eM s x1 (kD (.ref 25 i)) x3 x4 (kD (.int mm)) (kD (evD [])) x7 x8 x9 x10 x11 x12 x13) [(25, bs')]) ∧ Up [(25, bs)] i [(25, bs')] := by
  obtain ⟨d, bs', h, u, hd⟩ := take_t (m := 2) hb (by decide) (by decide)
  have e : frz (eM s x1 (kD (.ref 25 i)) x3 x4 x5 x6 x7 x8 x9 x10 x11 x12 x13) [2] = eM s x1 (kD (.ref 25 i)) x3 x4 x5 x6 x7 x8 x9 x10 x11 x12 x13 := rfl
  refine ⟨1 + d, bs', by omega, ?_, u⟩
  rw [m3, evS_pre, e]
  simp [runF, evSs, evT, evTo, evEs, evO, evPar, evIt, varO, deref, idxO, L2.atI, L2.ixN, cmpO, eqO, isO, p1O, p2O, binO, intO, modI, mulI, fdivI, powI, addO, kept, modE, modE2, putO, appO, popO, wr, D.lev, D.levL, put, look, setE, setEs, leave, frz, bindO, bindTu, wipeE, srcO, seqO, seq2O, zipO, truO, isaO, cutO, D.isNon, line, Out.bind_ok, Out.of_some, Out.of_none, evE_cst, evE_var, evE_tup, evE_lst, evE_dic0, evE_dic1, evE_bin, evE_neg, evE_notv, evE_andv, evE_orv, evE_cmp, evE_ifx, evE_idx, evE_cut, evE_call, evE_p1, evE_p2, evE_isa, evE_index, evE_comp, evS_pre, evS_set, evS_setSh, evS_setTu, evS_par, evS_setIx, evS_app, evS_appPop, evS_appSd, evS_setSd, evS_ife, evS_for_, evS_wh, evS_ret, evS_retV, evS_exp, eM, h]
theorem cutB {mm : Nat} (hmm : mm = 1 ∨ mm = 2) : D.tup (cutL [.tup [.int 0], .tup [.int 3]] none (some (mm : Int))) = Bkk mm := by
  rcases hmm with rfl | rfl <;> rfl
theorem q4_s {bs : List D} {i mm : Nat} (hmm : mm = 1 ∨ mm = 2) (hb : Bx [(25, bs)] i) {s x1 x6 x7 x8 x9 x10 x11 x12 x13} : ∃ (ls : List D) (bs' : List D), (∀ e ∈ ls, En e) ∧ ls.length ≤ 12 ∧ evS (callN P74 24) m4 (eM s x1 (kD (.ref 25 i)) (kD Wd) (kD Bok) (kD (.int mm)) x6 x7 x8 x9 x10 x11 x12 x13) [(25, bs)] = .ok (.nx (eM s x1 (kD (.ref 25 i)) (kD Wd) (kD Bok) (kD (.int mm)) x6 (kD (.tup ls)) x8 x9 x10 x11 x12 x13) [(25, bs')]) ∧ Up [(25, bs)] i [(25, bs')] := by
  obtain ⟨ls, b, bs', hE, hl, h, u⟩ := hands_s hmm hb
  refine ⟨ls, bs', hE, hl, ?_, u⟩
  have e : frz (eM s x1 (kD (.ref 25 i)) (kD Wd) (kD Bok) (kD (.int mm)) x6 x7 x8 x9 x10 x11 x12 x13) [2, 3] = eM s x1 (kD (.ref 25 i)) (kD Wd) (kD Bok) (kD (.int mm)) x6 x7 x8 x9 x10 x11 x12 x13 := rfl
  rw [← cutB hmm] at h
  rw [m4, evS_pre, e]
  simp [runF, evSs, evT, evTo, evEs, evO, evPar, evIt, varO, deref, idxO, L2.atI, L2.ixN, cmpO, eqO, isO, p1O, p2O, binO, intO, modI, mulI, fdivI, powI, addO, kept, modE, modE2, putO, appO, popO, wr, D.lev, D.levL, put, look, setE, setEs, leave, frz, bindO, bindTu, wipeE, srcO, seqO, seq2O, zipO, truO, isaO, cutO, D.isNon, line, Out.bind_ok, Out.of_some, Out.of_none, evE_cst, evE_var, evE_tup, evE_lst, evE_dic0, evE_dic1, evE_bin, evE_neg, evE_notv, evE_andv, evE_orv, evE_cmp, evE_ifx, evE_idx, evE_cut, evE_call, evE_p1, evE_p2, evE_isa, evE_index, evE_comp, evS_pre, evS_set, evS_setSh, evS_setTu, evS_par, evS_setIx, evS_app, evS_appPop, evS_appSd, evS_setSd, evS_ife, evS_for_, evS_wh, evS_ret, evS_retV, evS_exp, eM, h]
theorem turnT {bs : List D} {i mm : Nat} {es : List Ev} {ls : List D} {t : D} (hmm : mm = 1 ∨ mm = 2) (hb : Bx [(25, bs)] i) (v : VV es) (hl : es.length ≤ 900) (hE : ∀ e ∈ ls, En e) (hL : ls.length ≤ 1000) {s x1 x8 x9 x10 x11 x12 x13} : ∃ (e : Ev) (bs' : List D), Can es e ∧ forB (callN P74 24) (.nm 8) BT t (eM s x1 (kD (.ref 25 i)) (kD Wd) (kD Bok) (kD (.int mm)) (kD (evD es)) (kD (.tup ls)) x8 x9 x10 x11 x12 x13) [(25, bs)] = .ok (.nx (eM s x1 (kD (.ref 25 i)) (kD Wd) (kD Bok) (kD (.int mm)) (kD (evD (es ++ [e]))) (kD (.tup ls)) (kD t) x9 x10 x11 x12 x13) [(25, bs')]) ∧ Up [(25, bs)] i [(25, bs')] := by
  obtain ⟨e, bs', hc, h, u⟩ := event_s hmm hb v hl hE hL
  refine ⟨e, bs', hc, ?_, u⟩
  rw [← cutB hmm] at h
  have m1 : es.length + 1 ≤ 16777216 := by omega
  simp [runF, evSs, evT, evTo, evEs, evO, evPar, evIt, varO, deref, idxO, L2.atI, L2.ixN, cmpO, eqO, isO, p1O, p2O, binO, intO, modI, mulI, fdivI, powI, addO, kept, modE, modE2, putO, appO, popO, wr, D.lev, D.levL, put, look, setE, setEs, leave, frz, bindO, bindTu, wipeE, srcO, seqO, seq2O, zipO, truO, isaO, cutO, D.isNon, line, Out.bind_ok, Out.of_some, Out.of_none, evE_cst, evE_var, evE_tup, evE_lst, evE_dic0, evE_dic1, evE_bin, evE_neg, evE_notv, evE_andv, evE_orv, evE_cmp, evE_ifx, evE_idx, evE_cut, evE_call, evE_p1, evE_p2, evE_isa, evE_index, evE_comp, evS_pre, evS_set, evS_setSh, evS_setTu, evS_par, evS_setIx, evS_app, evS_appPop, evS_appSd, evS_setSd, evS_ife, evS_for_, evS_wh, evS_ret, evS_retV, evS_exp, forB, BT, eM, h, m1]
theorem loopT {bs : List D} {i mm : Nat} {ls : List D} {ts : List D} (hmm : mm = 1 ∨ mm = 2) (hb : Bx [(25, bs)] i) (hE : ∀ e ∈ ls, En e) (hL : ls.length ≤ 1000) (ht : ts.length ≤ 100) {s x1 x8 x9 x10 x11 x12 x13} : ∃ (es : List Ev) (bs' : List D) (y8 : Option (D × Bool)), Steps [] es ∧ es.length ≤ 100 ∧ loopF (forB (callN P74 24) (.nm 8) BT) ts (eM s x1 (kD (.ref 25 i)) (kD Wd) (kD Bok) (kD (.int mm)) (kD (evD [])) (kD (.tup ls)) x8 x9 x10 x11 x12 x13) [(25, bs)] = .ok (.nx (eM s x1 (kD (.ref 25 i)) (kD Wd) (kD Bok) (kD (.int mm)) (kD (evD es)) (kD (.tup ls)) y8 x9 x10 x11 x12 x13) [(25, bs')]) ∧ Up [(25, bs)] i [(25, bs')] := by
  obtain ⟨env', S', q, es, bs', y8, h1, h2, rfl, rfl, u⟩ := loopF_inv (b := forB (callN P74 24) (.nm 8) BT) (N := 100) (P := fun n env S => ∃ (es : List Ev) (bs' : List D) (y8 : Option (D × Bool)), Steps [] es ∧ es.length = n ∧ env = eM s x1 (kD (.ref 25 i)) (kD Wd) (kD Bok) (kD (.int mm)) (kD (evD es)) (kD (.tup ls)) y8 x9 x10 x11 x12 x13 ∧ S = [(25, bs')] ∧ Up [(25, bs)] i [(25, bs')]) (ds := ts) (n := 0) (env := eM s x1 (kD (.ref 25 i)) (kD Wd) (kD Bok) (kD (.int mm)) (kD (evD [])) (kD (.tup ls)) x8 x9 x10 x11 x12 x13) (S := [(25, bs)]) (by
    rintro d _ n hn env S ⟨es, bs', y8, h1, h2, rfl, rfl, u⟩
    obtain ⟨e, bs2, hc, h, u2⟩ := turnT (mm := mm) (t := d) (x8 := y8) (x1 := x1) (s := s) (x9 := x9) (x10 := x10) (x11 := x11) (x12 := x12) (x13 := x13) hmm (u.bx hb) (h1.good Good.nil).vv (by omega) hE hL
    exact ⟨_, _, h, es ++ [e], bs2, _, h1.snoc hc, by simp [h2], rfl, rfl, u.trans u2⟩) (by omega) ⟨[], bs, x8, .refl _, rfl, rfl, rfl, Up.refl hb⟩
  exact ⟨es, bs', y8, h1, by omega, q, u⟩
theorem q5_s {bs : List D} {i mm : Nat} {ls : List D} (hmm : mm = 1 ∨ mm = 2) (hb : Bx [(25, bs)] i) (hE : ∀ e ∈ ls, En e) (hL : ls.length ≤ 1000) {s x1 x8 x9 x10 x11 x12 x13} : ∃ (es : List Ev) (bs' : List D) (y8 : Option (D × Bool)), Steps [] es ∧ es.length ≤ 100 ∧ evS (callN P74 24) m5 (eM s x1 (kD (.ref 25 i)) (kD Wd) (kD Bok) (kD (.int mm)) (kD (evD [])) (kD (.tup ls)) x8 x9 x10 x11 x12 x13) [(25, bs)] = .ok (.nx (eM s x1 (kD (.ref 25 i)) (kD Wd) (kD Bok) (kD (.int mm)) (kD (evD es)) (kD (.tup ls)) y8 x9 x10 x11 x12 x13) [(25, bs')]) ∧ Up [(25, bs)] i [(25, bs')] := by
  obtain ⟨d, bs1, h, u, hd⟩ := take_t (m := 12) hb (by decide) (by decide)
  have hI : evIt (callN P74 24) (.rng (.cst (.int 0)) (.bin .add (.cst (.int 2)) (.call 16 [(.var 2), (.cst (.int 12))]))) (eM s x1 (kD (.ref 25 i)) (kD Wd) (kD Bok) (kD (.int mm)) (kD (evD [])) (kD (.tup ls)) x8 x9 x10 x11 x12 x13) [(25, bs)] = .ok (rangeD 0 (2 + (d : Int) - 0).toNat, false, [(25, bs1)]) :=
    rngIt _ (S' := [(25, bs)]) (ki := .fz) (kj := .fz) (i := 0) (by simp [runF, evSs, evT, evTo, evEs, evO, evPar, evIt, varO, deref, idxO, L2.atI, L2.ixN, cmpO, eqO, isO, p1O, p2O, binO, intO, modI, mulI, fdivI, powI, addO, kept, modE, modE2, putO, appO, popO, wr, D.lev, D.levL, put, look, setE, setEs, leave, frz, bindO, bindTu, wipeE, srcO, seqO, seq2O, zipO, truO, isaO, cutO, D.isNon, line, Out.bind_ok, Out.of_some, Out.of_none, evE_cst, evE_var, evE_tup, evE_lst, evE_dic0, evE_dic1, evE_bin, evE_neg, evE_notv, evE_andv, evE_orv, evE_cmp, evE_ifx, evE_idx, evE_cut, evE_call, evE_p1, evE_p2, evE_isa, evE_index, evE_comp, evS_pre, evS_set, evS_setSh, evS_setTu, evS_par, evS_setIx, evS_app, evS_appPop, evS_appSd, evS_setSd, evS_ife, evS_for_, evS_wh, evS_ret, evS_retV, evS_exp]) (by simp [runF, evSs, evT, evTo, evEs, evO, evPar, evIt, varO, deref, idxO, L2.atI, L2.ixN, cmpO, eqO, isO, p1O, p2O, binO, intO, modI, mulI, fdivI, powI, addO, kept, modE, modE2, putO, appO, popO, wr, D.lev, D.levL, put, look, setE, setEs, leave, frz, bindO, bindTu, wipeE, srcO, seqO, seq2O, zipO, truO, isaO, cutO, D.isNon, line, Out.bind_ok, Out.of_some, Out.of_none, evE_cst, evE_var, evE_tup, evE_lst, evE_dic0, evE_dic1, evE_bin, evE_neg, evE_notv, evE_andv, evE_orv, evE_cmp, evE_ifx, evE_idx, evE_cut, evE_call, evE_p1, evE_p2, evE_isa, evE_index, evE_comp, evS_pre, evS_set, evS_setSh, evS_setTu, evS_par, evS_setIx, evS_app, evS_appPop, evS_appSd, evS_setSd, evS_ife, evS_for_, evS_wh, evS_ret, evS_retV, evS_exp, eM, h]) (by decide) (by decide) (by omega) (by omega)
  obtain ⟨es, bs2, y8, q1, q2, q, u2⟩ := loopT (ts := rangeD 0 (2 + (d : Int) - 0).toNat) hmm (u.bx hb) hE hL (by simp [rangeD]; omega) (s := s) (x1 := x1) (x8 := x8) (x9 := x9) (x10 := x10) (x11 := x11) (x12 := x12) (x13 := x13)
  refine ⟨es, bs2, y8, q1, q2, ?_, u.trans u2⟩
  have e : frz (eM s x1 (kD (.ref 25 i)) (kD Wd) (kD Bok) (kD (.int mm)) (kD (evD [])) (kD (.tup ls)) x8 x9 x10 x11 x12 x13) [2] = eM s x1 (kD (.ref 25 i)) (kD Wd) (kD Bok) (kD (.int mm)) (kD (evD [])) (kD (.tup ls)) x8 x9 x10 x11 x12 x13 := rfl
  rw [m5, evS_pre, e]
  exact for_run hI q
theorem q6_s {bs : List D} {i mm : Nat} (hmm : mm = 1 ∨ mm = 2) (hb : Bx [(25, bs)] i) {s x1 x4 x6 x7 x8 x9 x10 x11 x12 x13} : ∃ (en : D) (bs' : List D), EnM mm en ∧ evS (callN P74 24) m6 (eM s x1 (kD (.ref 25 i)) (kD Wd) x4 (kD (.int mm)) x6 x7 x8 x9 x10 x11 x12 x13) [(25, bs)] = .ok (.nx (eM s x1 (kD (.ref 25 i)) (kD Wd) x4 (kD (.int mm)) x6 x7 x8 (kD en) x10 x11 x12 x13) [(25, bs')]) := by
  obtain ⟨en, he, S', h, u⟩ := entry_s (mm := mm) (by omega) (by omega) (l := 21) (by omega) (ab23 bs) hb
  obtain ⟨bs', rfl⟩ := u.one
  refine ⟨en, bs', he, ?_⟩
  have e : frz (eM s x1 (kD (.ref 25 i)) (kD Wd) x4 (kD (.int mm)) x6 x7 x8 x9 x10 x11 x12 x13) [2, 3, 5] = eM s x1 (kD (.ref 25 i)) (kD Wd) x4 (kD (.int mm)) x6 x7 x8 x9 x10 x11 x12 x13 := rfl
  rw [m6, evS_pre, e]
  simp [runF, evSs, evT, evTo, evEs, evO, evPar, evIt, varO, deref, idxO, L2.atI, L2.ixN, cmpO, eqO, isO, p1O, p2O, binO, intO, modI, mulI, fdivI, powI, addO, kept, modE, modE2, putO, appO, popO, wr, D.lev, D.levL, put, look, setE, setEs, leave, frz, bindO, bindTu, wipeE, srcO, seqO, seq2O, zipO, truO, isaO, cutO, D.isNon, line, Out.bind_ok, Out.of_some, Out.of_none, evE_cst, evE_var, evE_tup, evE_lst, evE_dic0, evE_dic1, evE_bin, evE_neg, evE_notv, evE_andv, evE_orv, evE_cmp, evE_ifx, evE_idx, evE_cut, evE_call, evE_p1, evE_p2, evE_isa, evE_index, evE_comp, evS_pre, evS_set, evS_setSh, evS_setTu, evS_par, evS_setIx, evS_app, evS_appPop, evS_appSd, evS_setSd, evS_ife, evS_for_, evS_wh, evS_ret, evS_retV, evS_exp, eM, h]
end Z
end
section
namespace Z
open PySem
theorem cmap {b : D → Sto → Out (Option D × Sto)} {g : D → D} {S : Sto} {xs : List D} (h : ∀ x ∈ xs, b x S = .ok (some (g x), S)) (hl : xs.length ≤ 1000) : loopC b xs S [] = .ok (xs.map g, S) := by
  have := loopC_map (b := b) (t := id) (f := fun x => some (g x)) (S := S) (xs := xs) (acc := []) h (by simp only [List.length_nil, line]; omega)
  simpa using this
theorem odd_len (mm : Nat) : (odd mm).length = 15 := rfl
def F7 : E := (.lst [(.tup [(.cst (.str "away")), (.var 10)]), (.tup [(.cst (.str "instead")), (.var 10), (.var 9)]), (.tup [(.cst (.str "behind")), (.var 10), (.var 9)]), (.tup [(.cst (.str "back")), (.var 10)])])
def M7 : List St := [.pre [10, 10, 9, 10, 9, 10] (.for_ (.nm 11) (.seq F7) BC)]
def m7 : St := (.for_ (.nm 10) (.rng (.bin .sub (.cst (.int 0)) (.cst (.int 1))) (.bin .add (.p1 .len (.var 6)) (.cst (.int 2)))) M7)
def m89 : List St := [
    (.pre [5, 5] (.set 12 (.lst [(.cst .non), (.cst (.bl true)), (.bin .sub (.cst (.int 0)) (.cst (.int 1))), (.var 5), (.cst (.str "a")), (.tup [(.cst (.int 0))]), (.lst [(.cst (.int 0))]), (.tup [(.cst (.str "said")), (.var 5)]), (.tup [(.cst (.str "heard")), (.cst (.bl true))]), (.tup [(.cst (.str "said")), (.cst (.int 0)), (.cst (.int 0))]), (.tup [(.cst (.str "did")), (.cst (.int 0)), (.tup [(.cst (.int 0))]), (.cst (.int 1))])]))),
    (.set 12 (.bin .add (.var 12) (.lst [(.tup [(.cst (.str "did")), (.cst (.int 2)), (.tup [(.cst (.int 0))]), (.cst (.bl true))]), (.tup [(.cst (.str "did")), (.cst (.int 0)), (.tup [(.cst (.int 9))]), (.cst (.bl true))]), (.tup [(.cst (.str "did")), (.cst (.int 0)), (.lst [(.cst (.int 0))]), (.cst (.bl true))]), (.tup [(.cst (.str "did")), (.cst (.bl true)), (.tup [(.cst (.int 0))]), (.cst (.bl true))])])))]
def m10 : St := (.pre [15, 15, 15, 9] (.set 13 (.bin .add (.bin .add (.comp (.tup [(.cst (.str "instead")), (.cst (.int 0)), (.var 15)]) (.nm 15) (.seq (.var 12)) none [14, 15]) (.comp (.tup [(.cst (.str "behind")), (.bin .sub (.cst (.int 0)) (.cst (.int 1))), (.var 15)]) (.nm 15) (.seq (.var 12)) none [14, 15])) (.comp (.tup [(.cst (.str "behind")), (.var 15), (.var 9)]) (.nm 15) (.seq (.var 12)) none [14, 15]))))
def F11 : E := (.bin .add (.bin .add (.var 13) (.comp (.tup [(.var 15)]) (.nm 15) (.seq (.var 12)) none [14, 15])) (.comp (.tup [(.cst (.str "away")), (.var 15)]) (.nm 15) (.seq (.var 12)) none [14, 15]))
def m11 : St := (.pre [15, 15] (.for_ (.nm 11) (.seq F11) BC))
def m12 : St := (.pre [9] (.set 13 (.lst [(.tup []), (.cst (.str "settle")), (.tup [(.cst (.str "settle"))]), (.tup [(.cst (.str "settle")), (.cst (.int 0))]), (.lst [(.cst (.str "settle"))]), (.tup [(.cst (.str "back"))]), (.tup [(.cst (.str "away")), (.cst (.int 0)), (.cst (.int 0))]), (.tup [(.cst (.str "behind")), (.cst (.int 0))]), (.tup [(.cst (.str "behind")), (.cst (.int 0)), (.var 9), (.cst (.int 0))]), (.tup [(.cst (.str "instead")), (.cst (.int 0))])])))
def F13 : E := (.bin .add (.bin .add (.var 12) (.var 13)) (.lst [(.tup [(.cst (.str "fact")), (.cst (.int 0))]), (.tup [(.cst (.str "back")), (.cst (.bl true))]), (.tup [(.cst (.str "did")), (.cst (.int 0)), (.tup [(.cst (.bl false))]), (.cst (.bl true))])]))
def m13 : St := (.for_ (.nm 11) (.seq F13) BC)
def some1 (mm : Nat) (en : D) : List D := (odd mm).map (fun x => .tup [.str "instead", .int 0, x]) ++ (odd mm).map (fun x => .tup [.str "behind", .int (-1), x]) ++ (odd mm).map (fun x => .tup [.str "behind", x, en])
def some2 (en : D) : List D := [.tup [], .str "settle", .tup [.str "settle"], .tup [.str "settle", .int 0], .lst [.str "settle"], .tup [.str "back"], .tup [.str "away", .int 0, .int 0], .tup [.str "behind", .int 0], .tup [.str "behind", .int 0, en, .int 0], .tup [.str "instead", .int 0]]
def some3 : List D := [.tup [.str "fact", .int 0], .tup [.str "back", .bl true], .tup [.str "did", .int 0, .tup [.bl false], .bl true]]
section
variable {mm : Nat} {es : List Ev} {bs : List D} {en : D}
theorem body7 (hmm : mm = 1 ∨ mm = 2) (hl : es.length ≤ 1000) (hvv : VV es) (he : EnM mm en) {n : Int} {s x1 x2 x4 x7 x8 x11 x12 x13} : ∃ y11, evSs (callN P74 24) M7 (eM s x1 x2 (kD Wd) x4 (kD (.int mm)) (kD (evD es)) x7 x8 (kD en) (kD (.int n)) x11 x12 x13) [(25, bs)] = .ok (.nx (eM s x1 x2 (kD Wd) x4 (kD (.int mm)) (kD (evD es)) x7 x8 (kD en) (kD (.int n)) y11 x12 x13) [(25, bs)]) := by
  have hI : ∀ C : Cal, evIt C (.seq F7) (eM s x1 x2 (kD Wd) x4 (kD (.int mm)) (kD (evD es)) x7 x8 (kD en) (kD (.int n)) x11 x12 x13) [(25, bs)] = .ok ([.tup [.str "away", .int n], .tup [.str "instead", .int n, en], .tup [.str "behind", .int n, en], .tup [.str "back", .int n]], false, [(25, bs)]) := by
    intro C; simp [runF, evSs, evT, evTo, evEs, evO, evPar, evIt, varO, deref, idxO, L2.atI, L2.ixN, cmpO, eqO, isO, p1O, p2O, binO, intO, modI, mulI, fdivI, powI, addO, kept, modE, modE2, putO, appO, popO, wr, D.lev, D.levL, put, look, setE, setEs, leave, frz, bindO, bindTu, wipeE, srcO, seqO, seq2O, zipO, truO, isaO, cutO, D.isNon, line, Out.bind_ok, Out.of_some, Out.of_none, evE_cst, evE_var, evE_tup, evE_lst, evE_dic0, evE_dic1, evE_bin, evE_neg, evE_notv, evE_andv, evE_orv, evE_cmp, evE_ifx, evE_idx, evE_cut, evE_call, evE_p1, evE_p2, evE_isa, evE_index, evE_comp, evS_pre, evS_set, evS_setSh, evS_setTu, evS_par, evS_setIx, evS_app, evS_appPop, evS_appSd, evS_setSd, evS_ife, evS_for_, evS_wh, evS_ret, evS_retV, evS_exp, eM, F7]
  obtain ⟨y, q⟩ := lc_s (mm := mm) (bs := bs) hmm hl hvv (ds := [.tup [.str "away", .int n], .tup [.str "instead", .int n, en], .tup [.str "behind", .int n, en], .tup [.str "back", .int n]]) (s := s) (x1 := x1) (x2 := x2) (x4 := x4) (x7 := x7) (x8 := x8) (x9 := kD en) (x10 := kD (.int n)) (x11 := x11) (x12 := x12) (x13 := x13) (by
    intro v hv
    simp only [List.mem_cons, List.mem_nil_iff, or_false] at hv
    rcases hv with rfl | rfl | rfl | rfl
    · exact .w1 rfl rfl
    · exact .w2 rfl rfl (enm_ok59 he) (enm_ok he) (.inr (.inl he))
    · exact .w2 rfl rfl (enm_ok59 he) (enm_ok he) (.inr (.inl he))
    · exact .w1 rfl rfl)
  refine ⟨y, (run_nx ?_).trans run_nil⟩
  rw [evS_pre]
  have e : frz (eM s x1 x2 (kD Wd) x4 (kD (.int mm)) (kD (evD es)) x7 x8 (kD en) (kD (.int n)) x11 x12 x13) [10, 10, 9, 10, 9, 10] = eM s x1 x2 (kD Wd) x4 (kD (.int mm)) (kD (evD es)) x7 x8 (kD en) (kD (.int n)) x11 x12 x13 := by simp [frz, eM]
  rw [e]
  exact for_run (hI _) q
theorem q7_s (hmm : mm = 1 ∨ mm = 2) (hl : es.length ≤ 1000) (hvv : VV es) (he : EnM mm en) {s x1 x2 x4 x7 x8 x10 x11 x12 x13} : ∃ y10 y11, evS (callN P74 24) m7 (eM s x1 x2 (kD Wd) x4 (kD (.int mm)) (kD (evD es)) x7 x8 (kD en) x10 x11 x12 x13) [(25, bs)] = .ok (.nx (eM s x1 x2 (kD Wd) x4 (kD (.int mm)) (kD (evD es)) x7 x8 (kD en) y10 y11 x12 x13) [(25, bs)]) := by
  have hI : evIt (callN P74 24) (.rng (.bin .sub (.cst (.int 0)) (.cst (.int 1))) (.bin .add (.p1 .len (.var 6)) (.cst (.int 2)))) (eM s x1 x2 (kD Wd) x4 (kD (.int mm)) (kD (evD es)) x7 x8 (kD en) x10 x11 x12 x13) [(25, bs)] = .ok (rangeD (-1) (((es.length : Int) + 2) - (-1)).toNat, false, [(25, bs)]) :=
    rngIt2 _ (S' := [(25, bs)]) (ki := .fz) (kj := .fz) (i := -1) (by simp [runF, evSs, evT, evTo, evEs, evO, evPar, evIt, varO, deref, idxO, L2.atI, L2.ixN, cmpO, eqO, isO, p1O, p2O, binO, intO, modI, mulI, fdivI, powI, addO, kept, modE, modE2, putO, appO, popO, wr, D.lev, D.levL, put, look, setE, setEs, leave, frz, bindO, bindTu, wipeE, srcO, seqO, seq2O, zipO, truO, isaO, cutO, D.isNon, line, Out.bind_ok, Out.of_some, Out.of_none, evE_cst, evE_var, evE_tup, evE_lst, evE_dic0, evE_dic1, evE_bin, evE_neg, evE_notv, evE_andv, evE_orv, evE_cmp, evE_ifx, evE_idx, evE_cut, evE_call, evE_p1, evE_p2, evE_isa, evE_index, evE_comp, evS_pre, evS_set, evS_setSh, evS_setTu, evS_par, evS_setIx, evS_app, evS_appPop, evS_appSd, evS_setSd, evS_ife, evS_for_, evS_wh, evS_ret, evS_retV, evS_exp]) (by simp [runF, evSs, evT, evTo, evEs, evO, evPar, evIt, varO, deref, idxO, L2.atI, L2.ixN, cmpO, eqO, isO, p1O, p2O, binO, intO, modI, mulI, fdivI, powI, addO, kept, modE, modE2, putO, appO, popO, wr, D.lev, D.levL, put, look, setE, setEs, leave, frz, bindO, bindTu, wipeE, srcO, seqO, seq2O, zipO, truO, isaO, cutO, D.isNon, line, Out.bind_ok, Out.of_some, Out.of_none, evE_cst, evE_var, evE_tup, evE_lst, evE_dic0, evE_dic1, evE_bin, evE_neg, evE_notv, evE_andv, evE_orv, evE_cmp, evE_ifx, evE_idx, evE_cut, evE_call, evE_p1, evE_p2, evE_isa, evE_index, evE_comp, evS_pre, evS_set, evS_setSh, evS_setTu, evS_par, evS_setIx, evS_app, evS_appPop, evS_appSd, evS_setSd, evS_ife, evS_for_, evS_wh, evS_ret, evS_retV, evS_exp, eM]) (by decide) (by decide) (by omega) (by omega)
  obtain ⟨env', S', q, y10, y11, rfl, rfl⟩ := loopF_inv (b := forB (callN P74 24) (.nm 10) M7) (N := 10000) (P := fun n env S => ∃ y10 y11, env = eM s x1 x2 (kD Wd) x4 (kD (.int mm)) (kD (evD es)) x7 x8 (kD en) y10 y11 x12 x13 ∧ S = [(25, bs)]) (ds := rangeD (-1) (((es.length : Int) + 2) - (-1)).toNat) (n := 0) (env := eM s x1 x2 (kD Wd) x4 (kD (.int mm)) (kD (evD es)) x7 x8 (kD en) x10 x11 x12 x13) (S := [(25, bs)]) (by
    rintro d hd n hn env S ⟨y10, y11, rfl, rfl⟩
    obtain ⟨c, hc, rfl⟩ := List.mem_map.mp hd
    obtain ⟨z, h⟩ := body7 (bs := bs) hmm hl hvv he (n := -1 + (c : Nat)) (s := s) (x1 := x1) (x2 := x2) (x4 := x4) (x7 := x7) (x8 := x8) (x11 := y11) (x12 := x12) (x13 := x13)
    exact ⟨_, _, forB_nm rfl h, _, _, rfl, rfl⟩) (by simp only [rangeD, List.length_map, List.length_range]; omega) ⟨x10, x11, rfl, rfl⟩
  exact ⟨y10, y11, for_run hI q⟩
theorem q89_s {C : Cal} {S : Sto} {s x1 x2 x3 x4 x6 x7 x8 x9 x10 x11 x12 x13} : evSs C m89 (eM s x1 x2 x3 x4 (kD (.int mm)) x6 x7 x8 x9 x10 x11 x12 x13) S = .ok (.nx (eM s x1 x2 x3 x4 (kD (.int mm)) x6 x7 x8 x9 x10 x11 (oD (.lst (odd mm))) x13) S) := by
  rw [m89]
  simp [runF, evSs, evT, evTo, evEs, evO, evPar, evIt, varO, deref, idxO, L2.atI, L2.ixN, cmpO, eqO, isO, p1O, p2O, binO, intO, modI, mulI, fdivI, powI, addO, kept, modE, modE2, putO, appO, popO, wr, D.lev, D.levL, put, look, setE, setEs, leave, frz, bindO, bindTu, wipeE, srcO, seqO, seq2O, zipO, truO, isaO, cutO, D.isNon, line, Out.bind_ok, Out.of_some, Out.of_none, evE_cst, evE_var, evE_tup, evE_lst, evE_dic0, evE_dic1, evE_bin, evE_neg, evE_notv, evE_andv, evE_orv, evE_cmp, evE_ifx, evE_idx, evE_cut, evE_call, evE_p1, evE_p2, evE_isa, evE_index, evE_comp, evS_pre, evS_set, evS_setSh, evS_setTu, evS_par, evS_setIx, evS_app, evS_appPop, evS_appSd, evS_setSd, evS_ife, evS_for_, evS_wh, evS_ret, evS_retV, evS_exp, eM, odd]
theorem q10_s {C : Cal} {S : Sto} {s x1 x2 x3 x4 x5 x6 x7 x8 x10 x11 x13} : evS C m10 (eM s x1 x2 x3 x4 x5 x6 x7 x8 (kD en) x10 x11 (oD (.lst (odd mm))) x13) S = .ok (.nx (eM s x1 x2 x3 x4 x5 x6 x7 x8 (kD en) x10 x11 (oD (.lst (odd mm))) (oD (.lst (some1 mm en)))) S) := by
  have g1 : loopC (cmpB C (.tup [(.cst (.str "instead")), (.cst (.int 0)), (.var 15)]) (.nm 15) none [14, 15] (eM s x1 x2 x3 x4 x5 x6 x7 x8 (kD en) x10 x11 (oD (.lst (odd mm))) x13)) (odd mm) S [] = .ok ((odd mm).map fun x => .tup [.str "instead", .int 0, x], S) := cmap (fun x _ => by simp [runF, evSs, evT, evTo, evEs, evO, evPar, evIt, varO, deref, idxO, L2.atI, L2.ixN, cmpO, eqO, isO, p1O, p2O, binO, intO, modI, mulI, fdivI, powI, addO, kept, modE, modE2, putO, appO, popO, wr, D.lev, D.levL, put, look, setE, setEs, leave, frz, bindO, bindTu, wipeE, srcO, seqO, seq2O, zipO, truO, isaO, cutO, D.isNon, line, Out.bind_ok, Out.of_some, Out.of_none, evE_cst, evE_var, evE_tup, evE_lst, evE_dic0, evE_dic1, evE_bin, evE_neg, evE_notv, evE_andv, evE_orv, evE_cmp, evE_ifx, evE_idx, evE_cut, evE_call, evE_p1, evE_p2, evE_isa, evE_index, evE_comp, evS_pre, evS_set, evS_setSh, evS_setTu, evS_par, evS_setIx, evS_app, evS_appPop, evS_appSd, evS_setSd, evS_ife, evS_for_, evS_wh, evS_ret, evS_retV, evS_exp, cmpB, eM]) (by rw [odd_len]; omega)
  have g2 : loopC (cmpB C (.tup [(.cst (.str "behind")), (.bin .sub (.cst (.int 0)) (.cst (.int 1))), (.var 15)]) (.nm 15) none [14, 15] (eM s x1 x2 x3 x4 x5 x6 x7 x8 (kD en) x10 x11 (oD (.lst (odd mm))) x13)) (odd mm) S [] = .ok ((odd mm).map fun x => .tup [.str "behind", .int (-1), x], S) := cmap (fun x _ => by simp [runF, evSs, evT, evTo, evEs, evO, evPar, evIt, varO, deref, idxO, L2.atI, L2.ixN, cmpO, eqO, isO, p1O, p2O, binO, intO, modI, mulI, fdivI, powI, addO, kept, modE, modE2, putO, appO, popO, wr, D.lev, D.levL, put, look, setE, setEs, leave, frz, bindO, bindTu, wipeE, srcO, seqO, seq2O, zipO, truO, isaO, cutO, D.isNon, line, Out.bind_ok, Out.of_some, Out.of_none, evE_cst, evE_var, evE_tup, evE_lst, evE_dic0, evE_dic1, evE_bin, evE_neg, evE_notv, evE_andv, evE_orv, evE_cmp, evE_ifx, evE_idx, evE_cut, evE_call, evE_p1, evE_p2, evE_isa, evE_index, evE_comp, evS_pre, evS_set, evS_setSh, evS_setTu, evS_par, evS_setIx, evS_app, evS_appPop, evS_appSd, evS_setSd, evS_ife, evS_for_, evS_wh, evS_ret, evS_retV, evS_exp, cmpB, eM]) (by rw [odd_len]; omega)
  have g3 : loopC (cmpB C (.tup [(.cst (.str "behind")), (.var 15), (.var 9)]) (.nm 15) none [14, 15] (eM s x1 x2 x3 x4 x5 x6 x7 x8 (kD en) x10 x11 (oD (.lst (odd mm))) x13)) (odd mm) S [] = .ok ((odd mm).map fun x => .tup [.str "behind", x, en], S) := cmap (fun x _ => by simp [runF, evSs, evT, evTo, evEs, evO, evPar, evIt, varO, deref, idxO, L2.atI, L2.ixN, cmpO, eqO, isO, p1O, p2O, binO, intO, modI, mulI, fdivI, powI, addO, kept, modE, modE2, putO, appO, popO, wr, D.lev, D.levL, put, look, setE, setEs, leave, frz, bindO, bindTu, wipeE, srcO, seqO, seq2O, zipO, truO, isaO, cutO, D.isNon, line, Out.bind_ok, Out.of_some, Out.of_none, evE_cst, evE_var, evE_tup, evE_lst, evE_dic0, evE_dic1, evE_bin, evE_neg, evE_notv, evE_andv, evE_orv, evE_cmp, evE_ifx, evE_idx, evE_cut, evE_call, evE_p1, evE_p2, evE_isa, evE_index, evE_comp, evS_pre, evS_set, evS_setSh, evS_setTu, evS_par, evS_setIx, evS_app, evS_appPop, evS_appSd, evS_setSd, evS_ife, evS_for_, evS_wh, evS_ret, evS_retV, evS_exp, cmpB, eM]) (by rw [odd_len]; omega)
  simp only [eM] at g1 g2 g3
  rw [m10]
  simp [runF, evSs, evT, evTo, evEs, evO, evPar, evIt, varO, deref, idxO, L2.atI, L2.ixN, cmpO, eqO, isO, p1O, p2O, binO, intO, modI, mulI, fdivI, powI, addO, kept, modE, modE2, putO, appO, popO, wr, D.lev, D.levL, put, look, setE, setEs, leave, frz, bindO, bindTu, wipeE, srcO, seqO, seq2O, zipO, truO, isaO, cutO, D.isNon, line, Out.bind_ok, Out.of_some, Out.of_none, evE_cst, evE_var, evE_tup, evE_lst, evE_dic0, evE_dic1, evE_bin, evE_neg, evE_notv, evE_andv, evE_orv, evE_cmp, evE_ifx, evE_idx, evE_cut, evE_call, evE_p1, evE_p2, evE_isa, evE_index, evE_comp, evS_pre, evS_set, evS_setSh, evS_setTu, evS_par, evS_setIx, evS_app, evS_appPop, evS_appSd, evS_setSd, evS_ife, evS_for_, evS_wh, evS_ret, evS_retV, evS_exp, eM, g1, g2, g3, odd_len, some1]
theorem it11 {C : Cal} {S : Sto} {xs : List D} (hx : xs.length ≤ 1000) {s x1 x2 x3 x4 x5 x6 x7 x8 x9 x10 x11} : evIt C (.seq F11) (eM s x1 x2 x3 x4 x5 x6 x7 x8 x9 x10 x11 (oD (.lst (odd mm))) (oD (.lst xs))) S = .ok (xs ++ (odd mm).map (fun x => .tup [x]) ++ (odd mm).map (fun x => .tup [.str "away", x]), false, S) := by
  have g1 : loopC (cmpB C (.tup [(.var 15)]) (.nm 15) none [14, 15] (eM s x1 x2 x3 x4 x5 x6 x7 x8 x9 x10 x11 (oD (.lst (odd mm))) (oD (.lst xs)))) (odd mm) S [] = .ok ((odd mm).map fun x => .tup [x], S) := cmap (fun x _ => by simp [runF, evSs, evT, evTo, evEs, evO, evPar, evIt, varO, deref, idxO, L2.atI, L2.ixN, cmpO, eqO, isO, p1O, p2O, binO, intO, modI, mulI, fdivI, powI, addO, kept, modE, modE2, putO, appO, popO, wr, D.lev, D.levL, put, look, setE, setEs, leave, frz, bindO, bindTu, wipeE, srcO, seqO, seq2O, zipO, truO, isaO, cutO, D.isNon, line, Out.bind_ok, Out.of_some, Out.of_none, evE_cst, evE_var, evE_tup, evE_lst, evE_dic0, evE_dic1, evE_bin, evE_neg, evE_notv, evE_andv, evE_orv, evE_cmp, evE_ifx, evE_idx, evE_cut, evE_call, evE_p1, evE_p2, evE_isa, evE_index, evE_comp, evS_pre, evS_set, evS_setSh, evS_setTu, evS_par, evS_setIx, evS_app, evS_appPop, evS_appSd, evS_setSd, evS_ife, evS_for_, evS_wh, evS_ret, evS_retV, evS_exp, cmpB, eM]) (by rw [odd_len]; omega)
  have g2 : loopC (cmpB C (.tup [(.cst (.str "away")), (.var 15)]) (.nm 15) none [14, 15] (eM s x1 x2 x3 x4 x5 x6 x7 x8 x9 x10 x11 (oD (.lst (odd mm))) (oD (.lst xs)))) (odd mm) S [] = .ok ((odd mm).map fun x => .tup [.str "away", x], S) := cmap (fun x _ => by simp [runF, evSs, evT, evTo, evEs, evO, evPar, evIt, varO, deref, idxO, L2.atI, L2.ixN, cmpO, eqO, isO, p1O, p2O, binO, intO, modI, mulI, fdivI, powI, addO, kept, modE, modE2, putO, appO, popO, wr, D.lev, D.levL, put, look, setE, setEs, leave, frz, bindO, bindTu, wipeE, srcO, seqO, seq2O, zipO, truO, isaO, cutO, D.isNon, line, Out.bind_ok, Out.of_some, Out.of_none, evE_cst, evE_var, evE_tup, evE_lst, evE_dic0, evE_dic1, evE_bin, evE_neg, evE_notv, evE_andv, evE_orv, evE_cmp, evE_ifx, evE_idx, evE_cut, evE_call, evE_p1, evE_p2, evE_isa, evE_index, evE_comp, evS_pre, evS_set, evS_setSh, evS_setTu, evS_par, evS_setIx, evS_app, evS_appPop, evS_appSd, evS_setSd, evS_ife, evS_for_, evS_wh, evS_ret, evS_retV, evS_exp, cmpB, eM]) (by rw [odd_len]; omega)
  have l1 : xs.length + 15 ≤ 16777216 := by omega
  have l2 : xs.length + (15 + 15) ≤ 16777216 := by omega
  have l3 : xs.length + 15 + 15 ≤ 16777216 := by omega
  simp only [eM] at g1 g2
  simp [runF, evSs, evT, evTo, evEs, evO, evPar, evIt, varO, deref, idxO, L2.atI, L2.ixN, cmpO, eqO, isO, p1O, p2O, binO, intO, modI, mulI, fdivI, powI, addO, kept, modE, modE2, putO, appO, popO, wr, D.lev, D.levL, put, look, setE, setEs, leave, frz, bindO, bindTu, wipeE, srcO, seqO, seq2O, zipO, truO, isaO, cutO, D.isNon, line, Out.bind_ok, Out.of_some, Out.of_none, evE_cst, evE_var, evE_tup, evE_lst, evE_dic0, evE_dic1, evE_bin, evE_neg, evE_notv, evE_andv, evE_orv, evE_cmp, evE_ifx, evE_idx, evE_cut, evE_call, evE_p1, evE_p2, evE_isa, evE_index, evE_comp, evS_pre, evS_set, evS_setSh, evS_setTu, evS_par, evS_setIx, evS_app, evS_appPop, evS_appSd, evS_setSd, evS_ife, evS_for_, evS_wh, evS_ret, evS_retV, evS_exp, eM, F11, g1, g2, odd_len, l1, l2, l3]
theorem q11_s (hmm : mm = 1 ∨ mm = 2) (hl : es.length ≤ 1000) (hvv : VV es) (he : EnM mm en) {s x1 x2 x4 x7 x8 x10 x11} : ∃ y11, evS (callN P74 24) m11 (eM s x1 x2 (kD Wd) x4 (kD (.int mm)) (kD (evD es)) x7 x8 (kD en) x10 x11 (oD (.lst (odd mm))) (oD (.lst (some1 mm en)))) [(25, bs)] = .ok (.nx (eM s x1 x2 (kD Wd) x4 (kD (.int mm)) (kD (evD es)) x7 x8 (kD en) x10 y11 (oD (.lst (odd mm))) (oD (.lst (some1 mm en)))) [(25, bs)]) := by
  obtain ⟨y, q⟩ := lc_s (mm := mm) (bs := bs) hmm hl hvv (ds := some1 mm en ++ (odd mm).map (fun x => .tup [x]) ++ (odd mm).map (fun x => .tup [.str "away", x])) (s := s) (x1 := x1) (x2 := x2) (x4 := x4) (x7 := x7) (x8 := x8) (x9 := kD en) (x10 := x10) (x11 := x11) (x12 := oD (.lst (odd mm))) (x13 := oD (.lst (some1 mm en))) (by
    intro v hv
    simp only [some1, List.mem_append, List.mem_map] at hv
    rcases hv with (((⟨x, hx, rfl⟩ | ⟨x, hx, rfl⟩) | ⟨x, hx, rfl⟩) | ⟨x, hx, rfl⟩) | ⟨x, hx, rfl⟩
    · exact .w2 rfl rfl (odd_ok59 mm x hx) (odd_ok mm x hx) (.inl hx)
    · exact .w2 rfl rfl (odd_ok59 mm x hx) (odd_ok mm x hx) (.inl hx)
    · exact .w2 (odd_ok59 mm x hx) (odd_ok mm x hx) (enm_ok59 he) (enm_ok he) (.inr (.inl he))
    · exact one_vk x hx
    · exact .w1 (odd_ok59 mm x hx) (odd_ok mm x hx))
  refine ⟨y, ?_⟩
  have e : frz (eM s x1 x2 (kD Wd) x4 (kD (.int mm)) (kD (evD es)) x7 x8 (kD en) x10 x11 (oD (.lst (odd mm))) (oD (.lst (some1 mm en)))) [15, 15] = eM s x1 x2 (kD Wd) x4 (kD (.int mm)) (kD (evD es)) x7 x8 (kD en) x10 x11 (oD (.lst (odd mm))) (oD (.lst (some1 mm en))) := rfl
  rw [m11, evS_pre, e]
  exact for_run (it11 (by simp [some1, odd_len])) q
theorem q12_s {C : Cal} {S : Sto} {s x1 x2 x3 x4 x5 x6 x7 x8 x10 x11 x12 x13} : evS C m12 (eM s x1 x2 x3 x4 x5 x6 x7 x8 (kD en) x10 x11 x12 x13) S = .ok (.nx (eM s x1 x2 x3 x4 x5 x6 x7 x8 (kD en) x10 x11 x12 (oD (.lst (some2 en)))) S) := by
  rw [m12]
  simp [runF, evSs, evT, evTo, evEs, evO, evPar, evIt, varO, deref, idxO, L2.atI, L2.ixN, cmpO, eqO, isO, p1O, p2O, binO, intO, modI, mulI, fdivI, powI, addO, kept, modE, modE2, putO, appO, popO, wr, D.lev, D.levL, put, look, setE, setEs, leave, frz, bindO, bindTu, wipeE, srcO, seqO, seq2O, zipO, truO, isaO, cutO, D.isNon, line, Out.bind_ok, Out.of_some, Out.of_none, evE_cst, evE_var, evE_tup, evE_lst, evE_dic0, evE_dic1, evE_bin, evE_neg, evE_notv, evE_andv, evE_orv, evE_cmp, evE_ifx, evE_idx, evE_cut, evE_call, evE_p1, evE_p2, evE_isa, evE_index, evE_comp, evS_pre, evS_set, evS_setSh, evS_setTu, evS_par, evS_setIx, evS_app, evS_appPop, evS_appSd, evS_setSd, evS_ife, evS_for_, evS_wh, evS_ret, evS_retV, evS_exp, eM, some2]
theorem it13 {C : Cal} {S : Sto} {xs ys : List D} (hx : xs.length ≤ 1000) (hy : ys.length ≤ 1000) {s x1 x2 x3 x4 x5 x6 x7 x8 x9 x10 x11} : evIt C (.seq F13) (eM s x1 x2 x3 x4 x5 x6 x7 x8 x9 x10 x11 (oD (.lst xs)) (oD (.lst ys))) S = .ok (xs ++ ys ++ some3, false, S) := by
  have l1 : xs.length + ys.length ≤ 16777216 := by omega
  have l2 : xs.length + (ys.length + 3) ≤ 16777216 := by omega
  have l3 : xs.length + ys.length + 3 ≤ 16777216 := by omega
  simp [runF, evSs, evT, evTo, evEs, evO, evPar, evIt, varO, deref, idxO, L2.atI, L2.ixN, cmpO, eqO, isO, p1O, p2O, binO, intO, modI, mulI, fdivI, powI, addO, kept, modE, modE2, putO, appO, popO, wr, D.lev, D.levL, put, look, setE, setEs, leave, frz, bindO, bindTu, wipeE, srcO, seqO, seq2O, zipO, truO, isaO, cutO, D.isNon, line, Out.bind_ok, Out.of_some, Out.of_none, evE_cst, evE_var, evE_tup, evE_lst, evE_dic0, evE_dic1, evE_bin, evE_neg, evE_notv, evE_andv, evE_orv, evE_cmp, evE_ifx, evE_idx, evE_cut, evE_call, evE_p1, evE_p2, evE_isa, evE_index, evE_comp, evS_pre, evS_set, evS_setSh, evS_setTu, evS_par, evS_setIx, evS_app, evS_appPop, evS_appSd, evS_setSd, evS_ife, evS_for_, evS_wh, evS_ret, evS_retV, evS_exp, eM, F13, l1, l2, l3, some3]
theorem q13_s (hmm : mm = 1 ∨ mm = 2) (hl : es.length ≤ 1000) (hvv : VV es) (he : EnM mm en) {s x1 x2 x4 x7 x8 x9 x10 x11} : ∃ y11, evS (callN P74 24) m13 (eM s x1 x2 (kD Wd) x4 (kD (.int mm)) (kD (evD es)) x7 x8 x9 x10 x11 (oD (.lst (odd mm))) (oD (.lst (some2 en)))) [(25, bs)] = .ok (.nx (eM s x1 x2 (kD Wd) x4 (kD (.int mm)) (kD (evD es)) x7 x8 x9 x10 y11 (oD (.lst (odd mm))) (oD (.lst (some2 en)))) [(25, bs)]) := by
  obtain ⟨y, q⟩ := lc_s (mm := mm) (bs := bs) hmm hl hvv (ds := odd mm ++ some2 en ++ some3) (s := s) (x1 := x1) (x2 := x2) (x4 := x4) (x7 := x7) (x8 := x8) (x9 := x9) (x10 := x10) (x11 := x11) (x12 := oD (.lst (odd mm))) (x13 := oD (.lst (some2 en))) (by
    intro v hv
    simp only [List.mem_append] at hv
    rcases hv with (hv | hv) | hv
    · exact odd_vk v hv
    · simp only [some2, List.mem_cons, List.mem_nil_iff, or_false] at hv
      rcases hv with rfl | rfl | rfl | rfl | rfl | rfl | rfl | rfl | rfl | rfl
      · exact .leaf rfl (fun _ _ e => by cases e)
      · exact .leaf rfl (fun _ _ e => by cases e)
      · exact .w0
      · exact .w1 rfl rfl
      · exact .leaf rfl (fun _ _ e => by cases e)
      · exact .w0
      · exact .w2 rfl rfl rfl rfl (.inr (.inr rfl))
      · exact .w1 rfl rfl
      · exact .w3 rfl rfl (enm_ok59 he) (enm_ok he) rfl rfl
      · exact .w1 rfl rfl
    · simp only [some3, List.mem_cons, List.mem_nil_iff, or_false] at hv
      rcases hv with rfl | rfl | rfl
      · exact .w1 rfl rfl
      · exact .w1 rfl rfl
      · exact .w3 rfl rfl rfl rfl rfl rfl)
  refine ⟨y, ?_⟩
  rw [m13]
  exact for_run (it13 (by rw [odd_len]; omega) (by simp [some2])) q
end
def body38 : List St := [m1, m2, m3, m4, m5, m6, m7] ++ (m89 ++ [m10, m11, m12, m13])
def it38 : E := (.p2 .max (.cst (.int 3)) (.p2 .min (.p1 .len (.var 0)) (.cst (.int 6))))
theorem F38 : F74_38.np = 1 ∧ F74_38.ns = 16 ∧ F74_38.body = [.for_ (.nm 1) (.rng (.cst (.int 0)) it38) body38, .ret (.cst (.bl true))] := by unfold F74_38; exact ⟨rfl, rfl, rfl⟩
theorem body38_s {bs : List D} {ns : List Int} {k : Nat} {x2 x3 x4 x5 x6 x7 x8 x9 x10 x11 x12 x13} : ∃ (bs' : List D) (y2 y3 y4 y5 y6 y7 y8 y9 y10 y11 y12 y13 : Option (D × Bool)), evSs (callN P74 24) body38 (eM (kD (.lst (ns.map D.int))) (kD (.int k)) x2 x3 x4 x5 x6 x7 x8 x9 x10 x11 x12 x13) [(25, bs)] = .ok (.nx (eM (kD (.lst (ns.map D.int))) (kD (.int k)) y2 y3 y4 y5 y6 y7 y8 y9 y10 y11 y12 y13) [(25, bs')]) := by
  obtain ⟨bs1, hb1, h1⟩ := q1_s (bs := bs) (ns := ns) (k := k) (x2 := x2) (x3 := x3) (x4 := x4) (x5 := x5) (x6 := x6) (x7 := x7) (x8 := x8) (x9 := x9) (x10 := x10) (x11 := x11) (x12 := x12) (x13 := x13)
  obtain ⟨mm, bs3, hmm, h3, w3⟩ := q3_s (i := bs.length) hb1 (s := kD (.lst (ns.map D.int))) (x1 := kD (.int k)) (x3 := kD Wd) (x4 := kD Bok) (x5 := x5) (x6 := x6) (x7 := x7) (x8 := x8) (x9 := x9) (x10 := x10) (x11 := x11) (x12 := x12) (x13 := x13)
  have hb3 := w3.bx hb1
  obtain ⟨ls, bs4, hE, hL, h4, w4⟩ := q4_s (i := bs.length) hmm hb3 (s := kD (.lst (ns.map D.int))) (x1 := kD (.int k)) (x6 := kD (evD [])) (x7 := x7) (x8 := x8) (x9 := x9) (x10 := x10) (x11 := x11) (x12 := x12) (x13 := x13)
  have hb4 := w4.bx hb3
  obtain ⟨es, bs5, z8, hst, hle, h5, w5⟩ := q5_s (i := bs.length) hmm hb4 hE (by omega) (s := kD (.lst (ns.map D.int))) (x1 := kD (.int k)) (x8 := x8) (x9 := x9) (x10 := x10) (x11 := x11) (x12 := x12) (x13 := x13)
  have hb5 := w5.bx hb4
  have v := (hst.good Good.nil).vv
  obtain ⟨en, bs6, he, h6⟩ := q6_s (i := bs.length) hmm hb5 (s := kD (.lst (ns.map D.int))) (x1 := kD (.int k)) (x4 := kD Bok) (x6 := kD (evD es)) (x7 := kD (.tup ls)) (x8 := z8) (x9 := x9) (x10 := x10) (x11 := x11) (x12 := x12) (x13 := x13)
  obtain ⟨z10, z11, h7⟩ := q7_s (bs := bs6) hmm (by omega) v he (s := kD (.lst (ns.map D.int))) (x1 := kD (.int k)) (x2 := kD (.ref 25 bs.length)) (x4 := kD Bok) (x7 := kD (.tup ls)) (x8 := z8) (x10 := x10) (x11 := x11) (x12 := x12) (x13 := x13)
  obtain ⟨z11', h11⟩ := q11_s (bs := bs6) hmm (by omega) v he (s := kD (.lst (ns.map D.int))) (x1 := kD (.int k)) (x2 := kD (.ref 25 bs.length)) (x4 := kD Bok) (x7 := kD (.tup ls)) (x8 := z8) (x10 := z10) (x11 := z11)
  obtain ⟨z11'', h13⟩ := q13_s (bs := bs6) hmm (by omega) v he (s := kD (.lst (ns.map D.int))) (x1 := kD (.int k)) (x2 := kD (.ref 25 bs.length)) (x4 := kD Bok) (x7 := kD (.tup ls)) (x8 := z8) (x9 := kD en) (x10 := z10) (x11 := z11')
  have hA : evSs (callN P74 24) [m1, m2, m3, m4, m5, m6, m7] (eM (kD (.lst (ns.map D.int))) (kD (.int k)) x2 x3 x4 x5 x6 x7 x8 x9 x10 x11 x12 x13) [(25, bs)] = .ok (.nx (eM (kD (.lst (ns.map D.int))) (kD (.int k)) (kD (.ref 25 bs.length)) (kD Wd) (kD Bok) (kD (.int mm)) (kD (evD es)) (kD (.tup ls)) z8 (kD en) z10 z11 x12 x13) [(25, bs6)]) := by
    rw [run_nx h1, run_nx q2_s, run_nx h3, run_nx h4, run_nx h5, run_nx h6, run_nx h7]
    exact run_nil
  have hB : evSs (callN P74 24) [m10, m11, m12, m13] (eM (kD (.lst (ns.map D.int))) (kD (.int k)) (kD (.ref 25 bs.length)) (kD Wd) (kD Bok) (kD (.int mm)) (kD (evD es)) (kD (.tup ls)) z8 (kD en) z10 z11 (oD (.lst (odd mm))) x13) [(25, bs6)] = .ok (.nx (eM (kD (.lst (ns.map D.int))) (kD (.int k)) (kD (.ref 25 bs.length)) (kD Wd) (kD Bok) (kD (.int mm)) (kD (evD es)) (kD (.tup ls)) z8 (kD en) z10 z11'' (oD (.lst (odd mm))) (oD (.lst (some2 en)))) [(25, bs6)]) := by
    rw [run_nx q10_s, run_nx h11, run_nx q12_s, run_nx h13]
    exact run_nil
  exact ⟨bs6, _, _, _, _, _, _, _, _, _, _, _, _, (run_app hA).trans ((run_app q89_s).trans hB)⟩
theorem main38 (ns : List Int) (hn : ns.length ≤ 63) : callN P74 25 38 [.lst (ns.map D.int)] [] = .ok (.bl true, .fz, []) := by
  have hI : ∃ m : Nat, evIt (callN P74 24) (.rng (.cst (.int 0)) it38) (eM (kD (.lst (ns.map D.int))) none none none none none none none none none none none none none) [(25, [])] = .ok (rangeD 0 m, false, [(25, [])]) ∧ m ≤ 6 := by
    refine ⟨((if (3 : Int) < (if (6 : Int) < ns.length then 6 else (ns.length : Int)) then (if (6 : Int) < ns.length then 6 else (ns.length : Int)) else 3) - 0).toNat, rngIt _ (S' := [(25, [])]) (ki := .fz) (kj := .fz) (i := 0) (by simp [runF, evSs, evT, evTo, evEs, evO, evPar, evIt, varO, deref, idxO, L2.atI, L2.ixN, cmpO, eqO, isO, p1O, p2O, binO, intO, modI, mulI, fdivI, powI, addO, kept, modE, modE2, putO, appO, popO, wr, D.lev, D.levL, put, look, setE, setEs, leave, frz, bindO, bindTu, wipeE, srcO, seqO, seq2O, zipO, truO, isaO, cutO, D.isNon, line, Out.bind_ok, Out.of_some, Out.of_none, evE_cst, evE_var, evE_tup, evE_lst, evE_dic0, evE_dic1, evE_bin, evE_neg, evE_notv, evE_andv, evE_orv, evE_cmp, evE_ifx, evE_idx, evE_cut, evE_call, evE_p1, evE_p2, evE_isa, evE_index, evE_comp, evS_pre, evS_set, evS_setSh, evS_setTu, evS_par, evS_setIx, evS_app, evS_appPop, evS_appSd, evS_setSd, evS_ife, evS_for_, evS_wh, evS_ret, evS_retV, evS_exp]) (by simp [runF, evSs, evT, evTo, evEs, evO, evPar, evIt, varO, deref, idxO, L2.atI, L2.ixN, cmpO, eqO, isO, p1O, p2O, binO, intO, modI, mulI, fdivI, powI, addO, kept, modE, modE2, putO, appO, popO, wr, D.lev, D.levL, put, look, setE, setEs, leave, frz, bindO, bindTu, wipeE, srcO, seqO, seq2O, zipO, truO, isaO, cutO, D.isNon, line, Out.bind_ok, Out.of_some, Out.of_none, evE_cst, evE_var, evE_tup, evE_lst, evE_dic0, evE_dic1, evE_bin, evE_neg, evE_notv, evE_andv, evE_orv, evE_cmp, evE_ifx, evE_idx, evE_cut, evE_call, evE_p1, evE_p2, evE_isa, evE_index, evE_comp, evS_pre, evS_set, evS_setSh, evS_setTu, evS_par, evS_setIx, evS_app, evS_appPop, evS_appSd, evS_setSd, evS_ife, evS_for_, evS_wh, evS_ret, evS_retV, evS_exp, it38, eM]) (by decide) (by decide) ?_ ?_, ?_⟩
    all_goals (split <;> split <;> omega)
  obtain ⟨m, hI, hm⟩ := hI
  obtain ⟨env', S', q, y1, y2, y3, y4, y5, y6, y7, y8, y9, y10, y11, y12, y13, bs', rfl, rfl⟩ := loopF_inv (b := forB (callN P74 24) (.nm 1) body38) (N := 1000) (P := fun n env S => ∃ (y1 y2 y3 y4 y5 y6 y7 y8 y9 y10 y11 y12 y13 : Option (D × Bool)) (bs : List D), env = eM (kD (.lst (ns.map D.int))) y1 y2 y3 y4 y5 y6 y7 y8 y9 y10 y11 y12 y13 ∧ S = [(25, bs)]) (ds := rangeD 0 m) (n := 0) (env := eM (kD (.lst (ns.map D.int))) none none none none none none none none none none none none none) (S := [(25, [])]) (by
    rintro d hd n hn env S ⟨y1, y2, y3, y4, y5, y6, y7, y8, y9, y10, y11, y12, y13, bs, rfl, rfl⟩
    obtain ⟨c, hc, rfl⟩ := List.mem_map.mp hd
    have e0 : (0 : Int) + (c : Nat) = (c : Nat) := Int.zero_add _
    rw [e0]
    obtain ⟨bs', z2, z3, z4, z5, z6, z7, z8, z9, z10, z11, z12, z13, h⟩ := body38_s (bs := bs) (ns := ns) (k := c) (x2 := y2) (x3 := y3) (x4 := y4) (x5 := y5) (x6 := y6) (x7 := y7) (x8 := y8) (x9 := y9) (x10 := y10) (x11 := y11) (x12 := y12) (x13 := y13)
    exact ⟨_, _, forB_nm rfl h, _, _, _, _, _, _, _, _, _, _, _, _, _, _, rfl, rfl⟩) (by simp [rangeD]; omega) ⟨none, none, none, none, none, none, none, none, none, none, none, none, none, [], rfl, rfl⟩
  have hb : evSs (callN P74 24) F74_38.body (eM (kD (.lst (ns.map D.int))) none none none none none none none none none none none none none) [(25, [])] = .ok (.rt (.bl true) .fz [(25, bs')]) := by
    rw [F38.2.2]
    refine (run_nx (for_run hI q)).trans (run_rt ?_)
    rw [evS_ret, evE_cst]
    rfl
  exact run_fnS (l := 24) (S := []) (bs := bs') P74_38 F38.1.symm rfl (by rw [F38.1, F38.2.1]; rfl) hb rfl
theorem plain74 (ns : List Int) (hn : ns.length ≤ 63) (_ : ∀ z ∈ ns, Builtin.Int.intBits z ≤ 1048576) : callN m74.fn 25 38 [.lst (ns.map D.int)] [] = .ok (.bl true, .fz, []) := by
  rw [fnP74]
  exact main38 ns hn
end Z
end
open PySem PySem.W PyProof.Rows
set_option maxRecDepth 100000 in
set_option maxHeartbeats 0 in
theorem PySem.Challenge.cw_leastsaid_k74_any_event_that_can_be_holds : PySem.Challenge.rw_leastsaid_k74_any_event_that_can_be.Holds := by
  w_on; o_law; k_head; (case hw => w_witness2)
  k_fill
  refine Z.law_walk (l := PySem.Challenge.rw_leastsaid_k74_any_event_that_can_be) (m := Z.m74) (L := 25) (i := 38) (st := Z.top74 47) rfl rfl ⟨rfl, by decide, by decide⟩ (fun w h Y => PySem.W.kIn_of Y) rfl rfl rfl rfl ?F Z.plain74
  case F =>
    intro w mg h KX G
    refine' Z.mok74 KX G ?a0 ?l0 ?c0 ?k0 ?a1 ?l1 ?lt1 ?c1 ?k1 ?a2 ?l2 ?lt2 ?c2 ?k2 ?a3 ?l3 ?c3 ?k3 ?a4 ?l4 ?c4 ?k4 ?a5 ?l5 ?c5 ?k5 ?a6 ?l6 ?c6 ?k6 ?a7 ?l7 ?c7 ?k7 ?a8 ?l8 ?c8 ?k8 ?a9 ?l9 ?c9 ?k9 ?a10 ?l10 ?c10 ?k10 ?a11 ?l11 ?c11 ?k11 ?a12 ?l12 ?c12 ?k12 ?a13 ?l13 ?c13 ?k13 ?a14 ?l14 ?c14 ?k14 ?a15 ?l15 ?c15 ?k15 ?a16 ?l16 ?c16 ?k16 ?a17 ?l17 ?c17 ?k17 ?a18 ?l18 ?c18 ?k18 ?a19 ?l19 ?c19 ?k19 ?a20 ?l20 ?c20 ?k20 ?a21 ?l21 ?c21 ?k21 ?a22 ?l22 ?c22 ?k22 ?a23 ?l23 ?c23 ?k23 ?a24 ?l24 ?c24 ?k24 ?a25 ?l25 ?c25 ?k25 ?a26 ?l26 ?c26 ?k26 ?a27 ?l27 ?c27 ?k27 ?a28 ?l28 ?c28 ?k28 ?a29 ?l29 ?c29 ?k29 ?a30 ?l30 ?c30 ?k30 ?a31 ?l31 ?c31 ?k31 ?a32 ?l32 ?c32 ?k32 ?a33 ?l33 ?c33 ?k33 ?a34 ?l34 ?c34 ?k34 ?a35 ?l35 ?c35 ?k35 ?a36 ?l36 ?c36 ?k36 ?a37 ?l37 ?c37 ?k37 ?a38 ?l38 ?c38 ?k38 ?z0 ?z1 ?z2 ?z3 ?z4 ?z5 ?z6 ?z7 ?z8 ?z9 ?z10 ?z11 ?z12 ?z13 ?z14 ?z15 ?z16 ?conN0 ?conN1 ?conN2 ?conN3 ?conN4 ?conE4
    (case a0 => k_is); (case l0 => k_is); (case c0 => k_is); (case k0 => k_is)
    (case a1 => k_is); (case l1 => k_is); (case lt1 => k_is); (case c1 => k_is); (case k1 => k_is)
    (case a2 => k_is); (case l2 => k_is); (case lt2 => k_is); (case c2 => k_is); (case k2 => k_is)
    (case a3 => k_is); (case l3 => k_is); (case c3 => k_is); (case k3 => k_is)
    (case a4 => k_is); (case l4 => k_is); (case c4 => k_is); (case k4 => k_is)
    (case a5 => k_is); (case l5 => k_is); (case c5 => k_is); (case k5 => k_is)
    (case a6 => k_is); (case l6 => k_is); (case c6 => k_is); (case k6 => k_is)
    (case a7 => k_is); (case l7 => k_is); (case c7 => k_is); (case k7 => k_is)
    (case a8 => k_is); (case l8 => k_is); (case c8 => k_is); (case k8 => k_is)
    (case a9 => k_is); (case l9 => k_is); (case c9 => k_is); (case k9 => k_is)
    (case a10 => k_is); (case l10 => k_is); (case c10 => k_is); (case k10 => k_is)
    (case a11 => k_is); (case l11 => k_is); (case c11 => k_is); (case k11 => k_is)
    (case a12 => k_is); (case l12 => k_is); (case c12 => k_is); (case k12 => k_is)
    (case a13 => k_is); (case l13 => k_is); (case c13 => k_is); (case k13 => k_is)
    (case a14 => k_is); (case l14 => k_is); (case c14 => k_is); (case k14 => k_is)
    (case a15 => k_is); (case l15 => k_is); (case c15 => k_is); (case k15 => k_is)
    (case a16 => k_is); (case l16 => k_is); (case c16 => k_is); (case k16 => k_is)
    (case a17 => k_is); (case l17 => k_is); (case c17 => k_is); (case k17 => k_is)
    (case a18 => k_is); (case l18 => k_is); (case c18 => k_is); (case k18 => k_is)
    (case a19 => k_is); (case l19 => k_is); (case c19 => k_is); (case k19 => k_is)
    (case a20 => k_is); (case l20 => k_is); (case c20 => k_is); (case k20 => k_is)
    (case a21 => k_is); (case l21 => k_is); (case c21 => k_is); (case k21 => k_is)
    (case a22 => k_is); (case l22 => k_is); (case c22 => k_is); (case k22 => k_is)
    (case a23 => k_is); (case l23 => k_is); (case c23 => k_is); (case k23 => k_is)
    (case a24 => k_is); (case l24 => k_is); (case c24 => k_is); (case k24 => k_is)
    (case a25 => k_is); (case l25 => k_is); (case c25 => k_is); (case k25 => k_is)
    (case a26 => k_is); (case l26 => k_is); (case c26 => k_is); (case k26 => k_is)
    (case a27 => k_is); (case l27 => k_is); (case c27 => k_is); (case k27 => k_is)
    (case a28 => k_is); (case l28 => k_is); (case c28 => k_is); (case k28 => k_is)
    (case a29 => k_is); (case l29 => k_is); (case c29 => k_is); (case k29 => k_is)
    (case a30 => k_is); (case l30 => k_is); (case c30 => k_is); (case k30 => k_is)
    (case a31 => k_is); (case l31 => k_is); (case c31 => k_is); (case k31 => k_is)
    (case a32 => k_is); (case l32 => k_is); (case c32 => k_is); (case k32 => k_is)
    (case a33 => k_is); (case l33 => k_is); (case c33 => k_is); (case k33 => k_is)
    (case a34 => k_is); (case l34 => k_is); (case c34 => k_is); (case k34 => k_is)
    (case a35 => k_is); (case l35 => k_is); (case c35 => k_is); (case k35 => k_is)
    (case a36 => k_is); (case l36 => k_is); (case c36 => k_is); (case k36 => k_is)
    (case a37 => k_is); (case l37 => k_is); (case c37 => k_is); (case k37 => k_is)
    (case a38 => k_is); (case l38 => k_is); (case c38 => k_is); (case k38 => k_is)
    (case z0 => k_is)
    (case z1 => k_is)
    (case z2 => k_is)
    (case z3 => k_is)
    (case z4 => k_is)
    (case z5 => k_is)
    (case z6 => k_is)
    (case z7 => k_is)
    (case z8 => k_is)
    (case z9 => k_is)
    (case z10 => k_is)
    (case z11 => k_is)
    (case z12 => k_is)
    (case z13 => k_is)
    (case z14 => k_is)
    (case z15 => k_is)
    (case z16 => k_is)
    (case conN0 => k_is)
    (case conN1 => k_is)
    (case conN2 => k_is)
    (case conN3 => k_is)
    (case conN4 => k_is); (case conE4 => k_is)
