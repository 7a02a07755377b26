import PyProof.Rows.All
import Wide.All
import OpenK.AllK
import Wide.FinOn
import HandS.ForMost
import HandS.Exc
import HandS.ExcOwn
import HandS.TryMany
import HandS.WordsExc
import HandS.Wide
import HandS.IsInst
import HandS.TupAny
import HandS.Conv
import HandS.Style
import HandS.Flow
import HandS.Deep
import HandS.DictComp
import HandS.Small
import HandS.Zip
import HandS.Defaults
import HandS.Head0
import HandS.Head1
import HandS.Head2
import HandS.HeadEnd
import HandS.HeadHook1
import HandS.HeadHook2
import HandS.Ends
import PyProof.ReprRoads
import HandS.HeadHook3
import PySem.Challenge.RW_turnscaled_k33_sums_and_places
set_option Elab.async false
set_option linter.all false
set_option maxRecDepth 100000
/-! PyA: an evaluator for a small part of Python, over values without a heap: the data, the tree, the evaluator. -/
namespace PyI
open PySem L2

/-- a value. plc: a tuple that may be a dict's key; scr: the law's script; lst, dK, dT: a list, a dict that nobody changes any more; ref: a changeable object of the evaluator's heap; fn: a def of the module -/
inductive D where
  | non
  | bl (b : Bool)
  | int (i : Int)
  | str (x : Str)
  | tup (xs : List D)
  | plc (xs : List D)
  | lst (xs : List D)
  | scr (xs : List D)
  | dK (ks : List Key) (vs : List D)
  | dT (ks : List (List Key)) (vs : List D)
  | ref (n : Nat)
  | fn (i : Nat)
  deriving Inhabited

/-- a changeable object; lck: one that a loop walks just now -/
inductive MO where
  | dead
  | lst (xs : List D)
  | dK (ks : List Key) (vs : List D)
  | dT (ks : List (List Key)) (vs : List D)
  | ins (c : Nat) (fs : List (Str × D))
  | lckK (ks : List Key) (vs : List D)
  | lckT (ks : List (List Key)) (vs : List D)
  deriving Inhabited
abbrev Hea := List MO
abbrev Loc := List (Option D)

/-- what comes of a run: a value, an exception of the c-th own class, or nothing that we speak of -/
inductive Res (α : Type) where
  | ok (a : α) (h : Hea)
  | err (c : Nat) (h : Hea)
  | no
def Res.bind {α β : Type} (r : Res α) (f : α → Hea → Res β) : Res β :=
  match r with
  | .ok a h => f a h
  | .err c h => .err c h
  | .no => .no
@[simp] theorem Res.bind_ok {α β : Type} (a : α) (h : Hea) (f : α → Hea → Res β) : (Res.ok a h).bind f = f a h := rfl
@[simp] theorem Res.bind_err {α β : Type} (c : Nat) (h : Hea) (f : α → Hea → Res β) : (Res.err c h : Res α).bind f = .err c h := rfl
@[simp] theorem Res.bind_no {α β : Type} (f : α → Hea → Res β) : (Res.no : Res α).bind f = .no := rfl
/-- a reading that must be there -/
def need {α β : Type} (o : Option α) (f : α → Res β) : Res β := match o with | some a => f a | none => .no
@[simp] theorem need_some {α β : Type} (a : α) (f : α → Res β) : need (some a) f = f a := rfl
@[simp] theorem need_none {α β : Type} (f : α → Res β) : need none f = .no := rfl

inductive BOp where | add | sub | mul | fdiv | mod | pow
inductive COp where | eq | ne | lt | le | gt | ge | isN | notN | isB | notB | mem | nmem
  deriving DecidableEq
inductive Ty where | int | bool | str | tuple | list | dict
  deriving DecidableEq
/-- built-in functions and classes of one argument -/
inductive Bi where | len | abs | int | list | listM | tuple | all | any | max | min | repr | sorted | str
  deriving DecidableEq
/-- methods of built-in types -/
inductive Mt where | get2 | append | pop | popAt | update
  deriving DecidableEq

mutual
inductive E where
  | non | bl (b : Bool) | int (i : Int) | str (x : Str)
  | v (i : Nat)
  | gc (i : Nat)
  | gf (i : Nat)
  | bin (o : BOp) (a b : E)
  | neg (a : E)
  | nt (a : E)
  | cmp (o : COp) (a b : E)
  | chn (o p : COp) (a b c : E)
  | and (a b : E)
  | or (a b : E)
  | ite (c a b : E)
  | tup (es : Es)
  | tupK (es : Es)
  | lst (es : Es)
  | lstM (es : Es)
  | dnewK | dnewT
  | sub (a i : E)
  | slc (a : E) (lo hi : Es)
  | call (f : Nat) (es : Es)
  | callP (f : Nat) (es : Es)
  | bi (b : Bi) (a : E)
  | isi (a : E) (t : Ty)
  | mt (m : Mt) (o : E) (es : Es)
  | lc (m : Bool) (own : List Nat) (tg : Tg) (it : It) (c : Es) (e : E)
  | lc2 (m : Bool) (own own2 : List Nat) (tg : Tg) (it : It) (tg2 : Tg) (it2 : It) (c : Es) (e : E)
  | frz (a : E)
inductive Es where
  | nil
  | cons (e : E) (es : Es)
/-- what a loop walks -/
inductive It where
  | seq (e : E)
  | rng1 (e : E)
  | rng2 (a b : E)
  | keys (e : E)
  | enum (e : E)
  | zip (a b : E)
/-- a target -/
inductive Tg where
  | n (i : Nat)
  | t (ts : Tgs)
inductive Tgs where
  | nil
  | cons (t : Tg) (ts : Tgs)
end

mutual
inductive S where
  | set (i : Nat) (e : E)
  | asg (t : Tg) (e : E)
  | put (o i e : E)
  | par (is : List Nat) (es : Es)
  | ex (e : E)
  | ret (e : E)
  | retN
  | iff (c : E) (a b : Ss)
  | whl (c : E) (b : Ss)
  | fr (t : Tg) (it : It) (b : Ss)
  | pass | brk | cont
  | rais (c : Nat)
  | tr (b : Ss) (hs : Hs)
inductive Ss where
  | nil
  | cons (s : S) (ss : Ss)
/-- except clauses: the class, the name's slot, the suite's returned expression -/
inductive Hs where
  | nil
  | cons (c : Nat) (i : Nat) (b : Ss) (hs : Hs)
end

/-! ### views of values -/
def seqV (h : Hea) : D → Option (List D)
  | .tup xs => some xs
  | .plc xs => some xs
  | .lst xs => some xs
  | .scr xs => some xs
  | .ref n => match h[n]? with | some (.lst xs) => some xs | _ => none
  | _ => none
def plnV (h : Hea) : D → Option (List D)
  | .lst xs => some xs
  | .ref n => match h[n]? with | some (.lst xs) => some xs | _ => none
  | _ => none
def lstV (h : Hea) : D → Option (List D)
  | .lst xs => some xs
  | .scr xs => some xs
  | .ref n => match h[n]? with | some (.lst xs) => some xs | _ => none
  | _ => none
def tupV : D → Option (List D)
  | .tup xs => some xs
  | .plc xs => some xs
  | _ => none
def intV : D → Option Int
  | .int i => some i
  | _ => none
def blV : D → Option Bool
  | .bl b => some b
  | _ => none
def intsV : List D → Option (List Int)
  | [] => some []
  | .int i :: r => (intsV r).map (i :: ·)
  | _ => none
def blsV : List D → Option (List Bool)
  | [] => some []
  | .bl b :: r => (blsV r).map (b :: ·)
  | _ => none

/-- a key of ints and texts -/
def keyV : D → Option Key
  | .int i => some (.inl i)
  | .str x => some (.inr x)
  | _ => none
def keysV : List D → Option (List Key)
  | [] => some []
  | d :: r => (keyV d).bind fun k => (keysV r).map (k :: ·)
def tkeyV : D → Option (List Key)
  | .plc xs => keysV xs
  | _ => none
def kD : Key → D
  | .inl i => .int i
  | .inr x => .str x
def look {κ : Type} [DecidableEq κ] : List κ → List D → κ → Option D
  | k :: ks, v :: vs, x => if k = x then some v else look ks vs x
  | _, _, _ => none
def putAt {κ : Type} [DecidableEq κ] : List κ → List D → κ → D → List D
  | k :: ks, v :: vs, x, y => (if k = x then y else v) :: putAt ks vs x y
  | _, vs, _, _ => vs
/-- in its place, or at the end -/
def put {κ : Type} [DecidableEq κ] (ks : List κ) (vs : List D) (x : κ) (y : D) : List κ × List D :=
  if x ∈ ks then (ks, putAt ks vs x y) else (ks ++ [x], vs ++ [y])
/-- d.get(k), where d is a dict and k suits it -/
def dctGet (h : Hea) (d k : D) : Option (Option D) :=
  match d with
  | .dK ks vs => (keyV k).map (look ks vs)
  | .dT ks vs => (tkeyV k).map (look ks vs)
  | .ref n => match h[n]? with
    | some (.dK ks vs) => (keyV k).map (look ks vs)
    | some (.lckK ks vs) => (keyV k).map (look ks vs)
    | some (.dT ks vs) => (tkeyV k).map (look ks vs)
    | some (.lckT ks vs) => (tkeyV k).map (look ks vs)
    | _ => none
  | _ => none

/-! data without the heap; what is none gives dict [] -/
mutual
def pd : D → PyData
  | .non => .none
  | .bl b => .bool b
  | .int i => .int i
  | .str x => .str x
  | .tup xs => .tuple (pds xs)
  | .plc xs => .tuple (pds xs)
  | .lst xs => .list (pds xs)
  | .scr xs => .list (pds xs)
  | .dK _ _ => .dict []
  | .dT _ _ => .dict []
  | .ref _ => .dict []
  | .fn _ => .dict []
def pds : List D → List PyData
  | [] => []
  | d :: r => pd d :: pds r
end
def pdH (h : Hea) : D → PyData
  | .ref n => match h[n]? with | some (.lst xs) => .list (pds xs) | _ => .dict []
  | d => pd d
/-- repr tells it: a tuple, a list -/
def repOk (d : PyData) : Bool := (match d with | .list _ => true | .tuple _ => true | _ => false) && (SeqAt.shaped d && (d.showable && (!d.hasDict && (decide (d.depth ≤ 60) && decide (d.shown.length ≤ sizeLine)))))
def eqR (h : Hea) (x y : D) : Option Bool :=
  if SeqAt.shaped (pdH h x) && SeqAt.shaped (pdH h y) then some (PyData.eqv (pdH h x) (pdH h y)) else none
/-! no changeable object in it -/
mutual
def pure? : D → Bool
  | .tup xs => pures xs
  | .plc xs => pures xs
  | .lst xs => pures xs
  | .scr xs => pures xs
  | .dK _ vs => pures vs
  | .dT _ vs => pures vs
  | .ref _ => false
  | _ => true
def pures : List D → Bool
  | [] => true
  | d :: r => pure? d && pures r
end

/-! ### operators -/
def mulOk (i j : Int) : Bool := decide (i.natAbs.log2 + j.natAbs.log2 < 1000000)
def binR (o : BOp) (h : Hea) (x y : D) : Res D :=
  match o with
  | .add => match x, y with
    | .int i, .int j => .ok (.int (i + j)) h
    | .str a, .str b => if a.length + b.length ≤ sizeLine then .ok (.str (a ++ b)) h else .no
    | x, y => match tupV x with
      | some xs => need (tupV y) fun ys => if xs.length + ys.length ≤ sizeLine then .ok (.tup (xs ++ ys)) h else .no
      | none => need (plnV h x) fun xs => need (plnV h y) fun ys => if xs.length + ys.length ≤ sizeLine then .ok (.lst (xs ++ ys)) h else .no
  | .sub => match x, y with
    | .int i, .int j => .ok (.int (i - j)) h
    | _, _ => .no
  | .mul => match x, y with
    | .int i, .int j => if mulOk i j then .ok (.int (i * j)) h else .no
    | _, _ => .no
  | .fdiv => match x, y with
    | .int i, .int j => if 0 < j ∧ j.natAbs.log2 < 9000 then .ok (.int (i / j)) h else .no
    | _, _ => .no
  | .mod => match x, y with
    | .int i, .int j => if 0 < j then .ok (.int (i % j)) h else .no
    | _, _ => .no
  | .pow => match x, y with
    | .int i, .int j => if 0 ≤ j ∧ j ≤ 1000000 ∧ i.natAbs < 2 ^ 64 then .ok (.int (i ^ j.toNat)) h else .no
    | _, _ => .no
/-- flat things -/
def flatD : D → Bool
  | .non => true | .bl _ => true | .int _ => true | .str _ => true
  | _ => false
def isNonD : D → Bool | .non => true | _ => false
def memR (h : Hea) (x y : D) : Option Bool :=
  match lstV h y with
  | some ys => if SeqAt.shaped (pd x) && SeqAt.shaped (.list (pds ys)) then some (ys.any fun z => PyData.eqv (pd z) (pd x)) else none
  | none => match tupV y with
    | some ys => if flatD x && ys.all flatD then some (ys.any fun z => PyData.eqv (pd z) (pd x)) else none
    | none => (dctGet h y x).map (·.isSome)
def cmpR (o : COp) (h : Hea) (x y : D) : Option Bool :=
  match o with
  | .eq => match x, y with
    | .str a, .str b => some (decide (a = b))
    | x, y => eqR h x y
  | .ne => match x, y with
    | .str a, .str b => some (!decide (a = b))
    | x, y => (eqR h x y).map not
  | .lt => match x, y with
    | .int i, .int j => some (decide (i < j))
    | x, y => (tupV x).bind fun xs => (tupV y).bind fun ys => (intsV xs).bind fun ns => (intsV ys).map fun ms => HT.lexLt ns ms
  | .le => match x, y with | .int i, .int j => some (decide (i ≤ j)) | _, _ => none
  | .gt => match x, y with | .int i, .int j => some (decide (j < i)) | _, _ => none
  | .ge => match x, y with | .int i, .int j => some (decide (j ≤ i)) | _, _ => none
  | .isN => match y with | .non => some (isNonD x) | _ => none
  | .notN => match y with | .non => some (!isNonD x) | _ => none
  | .isB => match x, y with | .bl a, .bl b => some (decide (a = b)) | _, _ => none
  | .notB => match x, y with | .bl a, .bl b => some (!decide (a = b)) | _, _ => none
  | .mem => memR h x y
  | .nmem => (memR h x y).map not
def trueR (h : Hea) : D → Option Bool
  | .non => some false
  | .bl b => some b
  | .int i => some (i != 0)
  | .str x => if x.length ≤ sizeLine then some ((x.length : Int) != 0) else none
  | .tup xs => some !xs.isEmpty
  | .plc xs => some !xs.isEmpty
  | .lst xs => some !xs.isEmpty
  | .scr xs => some !xs.isEmpty
  | .ref n => match h[n]? with | some (.lst xs) => some !xs.isEmpty | some (.dK ks _) => some !ks.isEmpty | _ => none
  | _ => none
def isiR (h : Hea) (x : D) (t : Ty) : Option Bool :=
  match x with
  | .non => some false
  | .bl _ => some (t == .bool || t == .int)
  | .int _ => some (t == .int)
  | .str _ => some (t == .str)
  | .tup _ => some (t == .tuple)
  | .plc _ => some (t == .tuple)
  | .lst _ => some (t == .list)
  | .scr _ => some (t == .list)
  | .dK _ _ => some (t == .dict)
  | .dT _ _ => none
  | .ref n => match h[n]? with
    | some (.lst _) => some (t == .list)
    | some (.dK _ _) => some (t == .dict)
    | some (.dT _ _) => some (t == .dict)
    | _ => none
  | .fn _ => none
def subR (h : Hea) (x y : D) : Option D :=
  match seqV h x with
  | some xs => (intV y).bind fun i => atI xs i
  | none => (dctGet h x y).bind id
/-- the written part of a slice -/
def partV : List D → Option (Option Int)
  | [] => some none
  | [.int i] => some (some i)
  | _ => none
def cutD (xs : List D) (lo hi : Option Int) : List D := (xs.drop (HT.sIx xs.length 0 lo)).take (HT.sIx xs.length xs.length hi - HT.sIx xs.length 0 lo)
def maxI : List Int → Int
  | [] => 0
  | a :: r => r.foldl (fun a b => if b > a then b else a) a
def minI : List Int → Int
  | [] => 0
  | a :: r => r.foldl (fun a b => if b < a then b else a) a
/-- the text of a value by repr -/
def biR (b : Bi) (h : Hea) (x : D) : Res D :=
  match b with
  | .len => match seqV h x with
    | some xs => .ok (.int xs.length) h
    | none => match x with
      | .str z => if z.length ≤ sizeLine then .ok (.int z.length) h else .no
      | _ => .no
  | .abs => match x with | .int i => .ok (.int (if i < 0 then -i else i)) h | _ => .no
  | .int => match x with | .int i => .ok (.int i) h | .bl k => .ok (.int (if k then 1 else 0)) h | _ => .no
  | .list => need (seqV h x) fun xs => .ok (.lst xs) h
  | .listM => need (seqV h x) fun xs => .ok (.ref h.length) (h ++ [.lst xs])
  | .tuple => need (seqV h x) fun xs => .ok (.tup xs) h
  | .all => need (lstV h x) fun xs => need (blsV xs) fun bs => .ok (.bl (bs.all id)) h
  | .any => need (lstV h x) fun xs => need (blsV xs) fun bs => .ok (.bl (bs.any id)) h
  | .max => need (lstV h x) fun xs => need (intsV xs) fun ns => if ns = [] then .no else .ok (.int (maxI ns)) h
  | .min => need (lstV h x) fun xs => need (intsV xs) fun ns => if ns = [] then .no else .ok (.int (minI ns)) h
  | .repr => if repOk (pdH h x) = true then .ok (.str (pdH h x).shown) h else .no
  | .sorted => .no
  | .str => .no
/-- the list that a comprehension made: to be changed, or not -/
def mkL (m : Bool) (ys : List D) (h : Hea) : Res D := if m then .ok (.ref h.length) (h ++ [.lst ys]) else .ok (.lst ys) h
def allocR (o : MO) (h : Hea) : Res D := .ok (.ref h.length) (h ++ [o])
/-- the receiver is of the method's type -/
def mtOk (m : Mt) (h : Hea) (o : D) : Bool :=
  match m with
  | .append => (plnV h o).isSome
  | .pop => (plnV h o).isSome
  | .popAt => (plnV h o).isSome
  | _ => match o with
    | .dK _ _ => true
    | .dT _ _ => true
    | .ref n => match h[n]? with
      | some (.dK _ _) => true
      | some (.dT _ _) => true
      | some (.lckK _ _) => true
      | some (.lckT _ _) => true
      | _ => false
    | _ => false
def mtR (m : Mt) (h : Hea) (o : D) (xs : List D) : Res D :=
  match m, xs with
  | .get2, [k, z] => need (dctGet h o k) fun r => .ok (r.getD z) h
  | .append, [y] => match o with
    | .ref n => match h[n]? with
      | some (.lst xs) => if xs.length < sizeLine then .ok .non (h.set n (.lst (xs ++ [y]))) else .no
      | _ => .no
    | _ => .no
  | .pop, [] => match o with
    | .ref n => match h[n]? with
      | some (.lst xs) => need (xs[xs.length - 1]?) fun y => .ok y (h.set n (.lst xs.dropLast))
      | _ => .no
    | _ => .no
  | _, _ => .no
def setR (h : Hea) (o i v : D) : Option Hea :=
  match o with
  | .ref n => match h[n]? with
    | some (.lst xs) => (intV i).bind fun k => (ixN xs.length k).map fun j => h.set n (.lst (xs.set j v))
    | some (.dK ks vs) => (keyV i).bind fun k => if ks.length < sizeLine then some (h.set n (.dK (put ks vs k v).1 (put ks vs k v).2)) else none
    | some (.dT ks vs) => (tkeyV i).bind fun k => if ks.length < sizeLine then some (h.set n (.dT (put ks vs k v).1 (put ks vs k v).2)) else none
    | _ => none
  | _ => none
def frzR (h : Hea) : D → Res D
  | .ref n => match h[n]? with
    | some (.lst xs) => .ok (.lst xs) (h.set n .dead)
    | some (.dK ks vs) => .ok (.dK ks vs) (h.set n .dead)
    | some (.dT ks vs) => .ok (.dT ks vs) (h.set n .dead)
    | _ => .no
  | d => .ok d h

/-- what a def or the module is made of -/
structure Fn where
  name : Str
  np : Nat
  nv : Nat
  body : Ss
structure Tab where
  fns : List Fn
  cns : List (Str × D)
  exs : List Str

/-- the range's numbers -/
def rngL (lo : Int) : Nat → List D
  | 0 => []
  | n + 1 => .int lo :: rngL (lo + 1) n
def wipeD (ρ : Loc) : List Nat → Loc
  | [] => ρ
  | v :: vs => (wipeD ρ vs).set v none
def ok62 (i : Int) : Bool := decide (i.natAbs.log2 < 62)
theorem ok62_of {i : Int} (h : ok62 i = true) : -(2 ^ 62) ≤ i ∧ i < 2 ^ 62 := by
  have h1 := of_decide_eq_true h
  have h2 : i.natAbs < 2 ^ 62 := by
    by_cases z : i.natAbs = 0
    · rw [z]; decide
    · exact (Nat.log2_lt z).mp h1
  omega

/-- what a loop may walk: no object that changes -/
def itV : D → Option (List D)
  | .tup xs => some xs
  | .plc xs => some xs
  | .lst xs => some xs
  | .scr xs => some xs
  | _ => none
def lsV : D → Option (List D)
  | .lst xs => some xs
  | .scr xs => some xs
  | _ => none
def enumD (i : Nat) : List D → List D
  | [] => []
  | x :: r => .plc [.int i, x] :: enumD (i + 1) r
def zipD : List D → List D → List D
  | x :: xs, y :: ys => .plc [x, y] :: zipD xs ys
  | _, _ => []
mutual
/-- a target -/
def evG : Tg → Loc → D → Option Loc
  | .n i, ρ, d => some (ρ.set i (some d))
  | .t ts, ρ, d => (tupV d).bind fun xs => evGs ts ρ xs
def evGs : Tgs → Loc → List D → Option Loc
  | .nil, ρ, xs => match xs with | [] => some ρ | _ => none
  | .cons t ts, ρ, xs => match xs with | x :: r => (evG t ρ x).bind fun ρ1 => evGs ts ρ1 r | [] => none
end
section
variable (T : Tab) (cf : Nat → List D → Hea → Res D)
/-- [..] over the items, one clause: turn gives the new element, or none where a test says no -/
def lcLoop (turn : D → Hea → Res (Option D)) : List D → List D → Hea → Res (List D)
  | [], acc, h => .ok acc h
  | x :: r, acc, h => (turn x h).bind fun y h1 => match y with
    | some y => if acc.length < sizeLine then lcLoop turn r (acc ++ [y]) h1 else .no
    | none => lcLoop turn r acc h1
/-- two clauses -/
def lc2Loop (inner : D → List D → Hea → Res (List D)) : List D → List D → Hea → Res (List D)
  | [], acc, h => .ok acc h
  | x :: r, acc, h => (inner x acc h).bind fun acc1 h1 => lc2Loop inner r acc1 h1
/-- a call that sees no changeable object, and gives none -/
def pureRes (h : Hea) (r : Res D) : Res D := match r with | .ok d _ => if pure? d then .ok d h else .no | .err c _ => .err c h | .no => .no
/-- nothing may be raised within a comprehension -/
def Res.noErr {α : Type} (r : Res α) : Res α := match r with | .ok a h => .ok a h | _ => .no

/-- an expression's value, and what it says as a test -/
structure Ev where
  val : Loc → Hea → Res D
  tst : Loc → Hea → Res Bool
def Ev.of (f : Loc → Hea → Res D) : Ev := ⟨f, fun ρ h => (f ρ h).bind fun x h1 => need (trueR h1 x) fun k => .ok k h1⟩
def Ev.tt (t : Loc → Hea → Res Bool) : Ev := ⟨fun ρ h => (t ρ h).bind fun k h1 => .ok (.bl k) h1, t⟩
mutual
def ev : E → Ev
  | .non => .of fun _ h => .ok .non h
  | .bl b => .of fun _ h => .ok (.bl b) h
  | .int i => .of fun _ h => .ok (.int i) h
  | .str x => .of fun _ h => .ok (.str x) h
  | .v i => .of fun ρ h => match ρ[i]? with | some (some d) => .ok d h | _ => .no
  | .gc i => .of fun _ h => match T.cns[i]? with | some p => .ok p.2 h | none => .no
  | .gf i => .of fun _ h => match T.fns[i]? with | some _ => .ok (.fn i) h | none => .no
  | .bin o a b => .of fun ρ h => ((ev a).val ρ h).bind fun x h1 => ((ev b).val ρ h1).bind fun y h2 => binR o h2 x y
  | .neg a => .of fun ρ h => ((ev a).val ρ h).bind fun x h1 => match x with | .int i => .ok (.int (-i)) h1 | _ => .no
  | .nt a => ⟨fun ρ h => ((ev a).val ρ h).bind fun x h1 => need (trueR h1 x) fun k => .ok (.bl !k) h1, fun ρ h => ((ev a).tst ρ h).bind fun k h1 => .ok (!k) h1⟩
  | .cmp o a b => .tt fun ρ h => ((ev a).val ρ h).bind fun x h1 => ((ev b).val ρ h1).bind fun y h2 => need (cmpR o h2 x y) fun k => .ok k h2
  | .chn o p a b c => .tt fun ρ h => ((ev a).val ρ h).bind fun x h1 => ((ev b).val ρ h1).bind fun y h2 => need (cmpR o h2 x y) fun k =>
      if k then ((ev c).val ρ h2).bind fun z h3 => need (cmpR p h3 y z) fun k2 => .ok k2 h3 else .ok false h2
  | .and a b => ⟨fun ρ h => ((ev a).val ρ h).bind fun x h1 => need (trueR h1 x) fun k => if k then (ev b).val ρ h1 else .ok x h1,
      fun ρ h => ((ev a).tst ρ h).bind fun k h1 => if k then (ev b).tst ρ h1 else .ok false h1⟩
  | .or a b => ⟨fun ρ h => ((ev a).val ρ h).bind fun x h1 => need (trueR h1 x) fun k => if k then .ok x h1 else (ev b).val ρ h1,
      fun ρ h => ((ev a).tst ρ h).bind fun k h1 => if k then .ok true h1 else (ev b).tst ρ h1⟩
  | .ite c a b => ⟨fun ρ h => ((ev c).tst ρ h).bind fun k h1 => if k then (ev a).val ρ h1 else (ev b).val ρ h1,
      fun ρ h => ((ev c).tst ρ h).bind fun k h1 => if k then (ev a).tst ρ h1 else (ev b).tst ρ h1⟩
  | .tup es => .of fun ρ h => (evs es ρ h).bind fun xs h1 => if xs.length ≤ sizeLine then .ok (.tup xs) h1 else .no
  | .tupK es => .of fun ρ h => (evs es ρ h).bind fun xs h1 => if xs.length ≤ sizeLine then .ok (.plc xs) h1 else .no
  | .lst es => .of fun ρ h => (evs es ρ h).bind fun xs h1 => if xs.length ≤ sizeLine then .ok (.lst xs) h1 else .no
  | .lstM es => .of fun ρ h => (evs es ρ h).bind fun xs h1 => if xs.length ≤ sizeLine then allocR (.lst xs) h1 else .no
  | .dnewK => .of fun _ h => allocR (.dK [] []) h
  | .dnewT => .of fun _ h => allocR (.dT [] []) h
  | .sub a i => .of fun ρ h => ((ev a).val ρ h).bind fun x h1 => ((ev i).val ρ h1).bind fun y h2 => need (subR h2 x y) fun d => .ok d h2
  | .slc a lo hi => .of fun ρ h => ((ev a).val ρ h).bind fun x h1 => ((evs lo ρ h1).bind fun l h2 => need (partV l) fun l => .ok l h2).bind fun l h2 => ((evs hi ρ h2).bind fun u h3 => need (partV u) fun u => .ok u h3).bind fun u h3 =>
      match tupV x with
      | some xs => .ok (.tup (cutD xs l u)) h3
      | none => need (lstV h3 x) fun xs => .ok (.lst (cutD xs l u)) h3
  | .call f es => .of fun ρ h => (evs es ρ h).bind fun xs h1 => cf f xs h1
  | .callP f es => .of fun ρ h => (evs es ρ h).bind fun xs h1 => if pures xs then pureRes h1 (cf f xs []) else .no
  | .bi b a => .of fun ρ h => ((ev a).val ρ h).bind fun x h1 => biR b h1 x
  | .isi a t => .of fun ρ h => ((ev a).val ρ h).bind fun x h1 => need (isiR h1 x t) fun k => .ok (.bl k) h1
  | .mt m o es => .of fun ρ h => ((ev o).val ρ h).bind fun x h1 => if mtOk m h1 x then (evs es ρ h1).bind fun xs h2 => mtR m h2 x xs else .no
  | .lc m own tg it c e => .of fun ρ h => (evI it ρ h).bind fun xs h1 =>
      (lcLoop (fun x h2 => (need (evG tg (wipeD ρ own) x) fun ρ1 => (evC c ρ1 h2).bind fun k h4 =>
        if k then ((ev e).val ρ1 h4).bind fun y h5 => .ok (some y) h5 else .ok none h4).noErr) xs [] h1).bind fun ys h6 => mkL m ys h6
  | .lc2 m own own2 tg it tg2 it2 c e => .of fun ρ h => (evI it ρ h).bind fun xs h1 =>
      (lc2Loop (fun x acc h2 => (need (evG tg (wipeD ρ own) x) fun ρ1 => (evI it2 ρ1 h2).bind fun xs2 h4 =>
        lcLoop (fun x2 h5 => (need (evG tg2 (wipeD ρ1 own2) x2) fun ρ2 => (evC c ρ2 h5).bind fun k h7 =>
          if k then ((ev e).val ρ2 h7).bind fun y h8 => .ok (some y) h8 else .ok none h7).noErr) xs2 acc h4).noErr) xs [] h1).bind fun ys h6 => mkL m ys h6
  | .frz a => .of fun ρ h => ((ev a).val ρ h).bind fun x h1 => frzR h1 x
def evs : Es → Loc → Hea → Res (List D)
  | .nil, _, h => .ok [] h
  | .cons e es, ρ, h => ((ev e).val ρ h).bind fun x h1 => (evs es ρ h1).bind fun xs h2 => .ok (x :: xs) h2
/-- a clause's tests: none or one -/
def evC : Es → Loc → Hea → Res Bool
  | .nil, _, h => .ok true h
  | .cons e _, ρ, h => (ev e).tst ρ h
/-- the items that are walked -/
def evI : It → Loc → Hea → Res (List D)
  | .seq e, ρ, h => ((ev e).val ρ h).bind fun x h1 => need (itV x) fun xs => .ok xs h1
  | .rng1 e, ρ, h => ((ev e).val ρ h).bind fun x h1 => need (intV x) fun j => if ok62 j then .ok (rngL 0 j.toNat) h1 else .no
  | .rng2 a b, ρ, h => ((ev a).val ρ h).bind fun x h1 => ((ev b).val ρ h1).bind fun y h2 => need (intV x) fun i => need (intV y) fun j =>
      if ok62 i && ok62 j then .ok (rngL i (j - i).toNat) h2 else .no
  | .keys e, ρ, h => ((ev e).val ρ h).bind fun x h1 => match x with
      | .dK ks _ => .ok (ks.map kD) h1
      | .dT ks _ => .ok (ks.map fun k => .plc (k.map kD)) h1
      | _ => .no
  | .enum e, ρ, h => ((ev e).val ρ h).bind fun x h1 => need (lsV x) fun xs => .ok (enumD 0 xs) h1
  | .zip a b, ρ, h => ((ev a).val ρ h).bind fun x h1 => ((ev b).val ρ h1).bind fun y h2 => match lsV x with
      | some xs => need (lsV y) fun ys => .ok (zipD xs ys) h2
      | none => need (tupV x) fun xs => need (tupV y) fun ys => .ok (zipD xs ys) h2
end

/-! ### statements -/
inductive Fl where | nx | ret (d : D) | brk | cont
/-- what comes of a statement: the flow, the names -/
abbrev RS := Res (Fl × Loc)
/-- an exception keeps the names as they stand -/
inductive SR where
  | ok (f : Fl) (ρ : Loc) (h : Hea)
  | err (c : Nat) (ρ : Loc) (h : Hea)
  | no
def SR.thn (r : SR) (f : Loc → Hea → SR) : SR := match r with | .ok .nx ρ h => f ρ h | r => r
@[simp] theorem SR.thn_nx (ρ : Loc) (h : Hea) (f : Loc → Hea → SR) : (SR.ok .nx ρ h).thn f = f ρ h := rfl
@[simp] theorem SR.thn_ret (d : D) (ρ : Loc) (h : Hea) (f : Loc → Hea → SR) : (SR.ok (.ret d) ρ h).thn f = .ok (.ret d) ρ h := rfl
@[simp] theorem SR.thn_brk (ρ : Loc) (h : Hea) (f : Loc → Hea → SR) : (SR.ok .brk ρ h).thn f = .ok .brk ρ h := rfl
@[simp] theorem SR.thn_cont (ρ : Loc) (h : Hea) (f : Loc → Hea → SR) : (SR.ok .cont ρ h).thn f = .ok .cont ρ h := rfl
@[simp] theorem SR.thn_err (c : Nat) (ρ : Loc) (h : Hea) (f : Loc → Hea → SR) : (SR.err c ρ h).thn f = .err c ρ h := rfl
@[simp] theorem SR.thn_no (f : Loc → Hea → SR) : SR.no.thn f = .no := rfl
def Res.st {α : Type} (r : Res α) (ρ : Loc) (f : α → Hea → SR) : SR := match r with | .ok a h => f a h | .err c h => .err c ρ h | .no => .no
@[simp] theorem Res.st_ok {α : Type} (a : α) (h : Hea) (ρ : Loc) (f : α → Hea → SR) : (Res.ok a h).st ρ f = f a h := rfl
@[simp] theorem Res.st_err {α : Type} (c : Nat) (h : Hea) (ρ : Loc) (f : α → Hea → SR) : (Res.err c h : Res α).st ρ f = .err c ρ h := rfl
@[simp] theorem Res.st_no {α : Type} (ρ : Loc) (f : α → Hea → SR) : (Res.no : Res α).st ρ f = .no := rfl

/-- a loop over items: brk and ret leave it -/
def frLoop (turn : D → Loc → Hea → SR) : List D → Loc → Hea → SR
  | [], ρ, h => .ok .nx ρ h
  | x :: r, ρ, h => match turn x ρ h with
    | .ok .nx ρ1 h1 => frLoop turn r ρ1 h1
    | .ok .cont ρ1 h1 => frLoop turn r ρ1 h1
    | .ok .brk ρ1 h1 => .ok .nx ρ1 h1
    | r => r
def whLoop (t : Loc → Hea → Res Bool) (turn : Loc → Hea → SR) : Nat → Loc → Hea → SR
  | 0, _, _ => .no
  | n + 1, ρ, h => (t ρ h).st ρ fun k h1 => if k then
      (match turn ρ h1 with
       | .ok .nx ρ1 h2 => whLoop t turn n ρ1 h2
       | .ok .cont ρ1 h2 => whLoop t turn n ρ1 h2
       | .ok .brk ρ1 h2 => .ok .nx ρ1 h2
       | r => r)
      else .ok .nx ρ h1
theorem whLoop_step {t : Loc → Hea → Res Bool} {turn : Loc → Hea → SR} : ∀ (n : Nat) (ρ : Loc) (h : Hea), whLoop t turn n ρ h ≠ .no → whLoop t turn (n + 1) ρ h = whLoop t turn n ρ h
  | 0, ρ, h, e => absurd rfl e
  | n + 1, ρ, h, e => by
    have e2 : whLoop t turn (n + 1) ρ h = (t ρ h).st ρ fun k h1 => if k then
      (match turn ρ h1 with
       | .ok .nx ρ1 h2 => whLoop t turn n ρ1 h2
       | .ok .cont ρ1 h2 => whLoop t turn n ρ1 h2
       | .ok .brk ρ1 h2 => .ok .nx ρ1 h2
       | r => r)
      else .ok .nx ρ h1 := rfl
    have e3 : whLoop t turn (n + 1 + 1) ρ h = (t ρ h).st ρ fun k h1 => if k then
      (match turn ρ h1 with
       | .ok .nx ρ1 h2 => whLoop t turn (n + 1) ρ1 h2
       | .ok .cont ρ1 h2 => whLoop t turn (n + 1) ρ1 h2
       | .ok .brk ρ1 h2 => .ok .nx ρ1 h2
       | r => r)
      else .ok .nx ρ h1 := rfl
    rw [e2] at e
    rw [e2, e3]
    cases ht : t ρ h with
    | no => rfl
    | err c k => rfl
    | ok k h1 =>
      rw [ht, Res.st_ok] at e
      rw [Res.st_ok, Res.st_ok]
      cases k with
      | false => rfl
      | true =>
        rw [if_pos rfl] at e
        rw [if_pos rfl, if_pos rfl]
        cases hr : turn ρ h1 with
        | no => rfl
        | err c ρ1 h2 => rfl
        | ok f ρ1 h2 =>
          rw [hr] at e
          cases f with
          | nx => exact whLoop_step n ρ1 h2 e
          | cont => exact whLoop_step n ρ1 h2 e
          | brk => rfl
          | ret d => rfl
theorem whLoop_add {t : Loc → Hea → Res Bool} {turn : Loc → Hea → SR} (n : Nat) (ρ : Loc) (h : Hea) (e : whLoop t turn n ρ h ≠ .no) : ∀ m, whLoop t turn (n + m) ρ h = whLoop t turn n ρ h
  | 0 => rfl
  | m + 1 => by
    have ih := whLoop_add n ρ h e m
    rw [← ih]
    exact whLoop_step (n + m) ρ h (by rw [ih]; exact e)
open Classical in
/-- while, with as many turns as it takes -/
noncomputable def whR (t : Loc → Hea → Res Bool) (turn : Loc → Hea → SR) (ρ : Loc) (h : Hea) : SR :=
  if e : ∃ n, whLoop t turn n ρ h ≠ .no then whLoop t turn (Classical.choose e) ρ h else .no
theorem whR_of {t : Loc → Hea → Res Bool} {turn : Loc → Hea → SR} {n : Nat} {ρ : Loc} {h : Hea} {r : SR} (e : whLoop t turn n ρ h = r) (hr : r ≠ .no) : whR t turn ρ h = r := by
  have ex : ∃ n, whLoop t turn n ρ h ≠ .no := ⟨n, by rw [e]; exact hr⟩
  unfold whR
  rw [dif_pos ex]
  have c := Classical.choose_spec ex
  have h1 := whLoop_add _ ρ h c n
  have h2 := whLoop_add n ρ h (by rw [e]; exact hr) (Classical.choose ex)
  rw [Nat.add_comm] at h2
  rw [← h1, h2, e]
/-- one turn unfolded -/
theorem whR_eq (t : Loc → Hea → Res Bool) (turn : Loc → Hea → SR) (ρ : Loc) (h : Hea) : whR t turn ρ h = (t ρ h).st ρ fun k h1 => if k then
      (match turn ρ h1 with
       | .ok .nx ρ1 h2 => whR t turn ρ1 h2
       | .ok .cont ρ1 h2 => whR t turn ρ1 h2
       | .ok .brk ρ1 h2 => .ok .nx ρ1 h2
       | r => r)
      else .ok .nx ρ h1 := by
  have un : ∀ n, whLoop t turn (n + 1) ρ h = (t ρ h).st ρ fun k h1 => if k then
      (match turn ρ h1 with
       | .ok .nx ρ1 h2 => whLoop t turn n ρ1 h2
       | .ok .cont ρ1 h2 => whLoop t turn n ρ1 h2
       | .ok .brk ρ1 h2 => .ok .nx ρ1 h2
       | r => r)
      else .ok .nx ρ h1 := fun n => rfl
  have go : ∀ ρ1 h2, (∀ n, whLoop t turn (n + 1) ρ h = whLoop t turn n ρ1 h2) → whR t turn ρ h = whR t turn ρ1 h2 := fun ρ1 h2 k => by
    by_cases ex : ∃ n, whLoop t turn n ρ1 h2 ≠ .no
    · obtain ⟨n, hn⟩ := ex
      rw [whR_of (n := n) rfl hn]
      exact whR_of (k n) hn
    · have ex2 : ¬ ∃ n, whLoop t turn n ρ h ≠ .no := fun ⟨n, hn⟩ => by
        have hn2 : whLoop t turn (n + 1) ρ h ≠ .no := by rw [whLoop_step n ρ h hn]; exact hn
        rw [k n] at hn2
        exact ex ⟨n, hn2⟩
      unfold whR
      rw [dif_neg ex, dif_neg ex2]
  cases ht : t ρ h with
  | no =>
    have ex2 : ¬ ∃ n, whLoop t turn n ρ h ≠ .no := fun ⟨n, hn⟩ => by
      cases n with
      | zero => exact hn rfl
      | succ n => rw [un n, ht] at hn; exact hn rfl
    unfold whR
    rw [dif_neg ex2]; rfl
  | err c k => exact whR_of (n := 1) (by rw [un 0, ht]; rfl) (by intro z; cases z)
  | ok k h1 =>
    rw [Res.st_ok]
    cases k with
    | false => exact whR_of (n := 1) (by rw [un 0, ht]; rfl) (by intro z; cases z)
    | true =>
      rw [if_pos rfl]
      cases hr : turn ρ h1 with
      | no =>
        have ex2 : ¬ ∃ n, whLoop t turn n ρ h ≠ .no := fun ⟨n, hn⟩ => by
          cases n with
          | zero => exact hn rfl
          | succ n => rw [un n, ht, Res.st_ok, if_pos rfl, hr] at hn; exact hn rfl
        unfold whR
        rw [dif_neg ex2]
      | err c ρ1 h2 => exact whR_of (n := 1) (by rw [un 0, ht, Res.st_ok, if_pos rfl, hr]) (by intro z; cases z)
      | ok f ρ1 h2 =>
        cases f with
        | nx => exact go ρ1 h2 fun n => by rw [un n, ht, Res.st_ok, if_pos rfl, hr]
        | cont => exact go ρ1 h2 fun n => by rw [un n, ht, Res.st_ok, if_pos rfl, hr]
        | brk => exact whR_of (n := 1) (by rw [un 0, ht, Res.st_ok, if_pos rfl, hr]) (by intro z; cases z)
        | ret d => exact whR_of (n := 1) (by rw [un 0, ht, Res.st_ok, if_pos rfl, hr]) (by intro z; cases z)
def setAll (ρ : Loc) : List Nat → List D → Option Loc
  | [], [] => some ρ
  | i :: is, d :: ds => setAll (ρ.set i (some d)) is ds
  | _, _ => none
mutual
noncomputable def exS : S → Loc → Hea → SR
  | .set i e, ρ, h => ((ev T cf e).val ρ h).st ρ fun d h1 => .ok .nx (ρ.set i (some d)) h1
  | .asg t e, ρ, h => ((ev T cf e).val ρ h).st ρ fun d h1 => match evG t ρ d with | some ρ1 => .ok .nx ρ1 h1 | none => .no
  | .put o i e, ρ, h => ((ev T cf e).val ρ h).st ρ fun d h1 => ((ev T cf o).val ρ h1).st ρ fun x h2 => ((ev T cf i).val ρ h2).st ρ fun y h3 => match setR h3 x y d with | some h4 => .ok .nx ρ h4 | none => .no
  | .par is es, ρ, h => (evs T cf es ρ h).st ρ fun ds h1 => match setAll ρ is ds with | some ρ1 => .ok .nx ρ1 h1 | none => .no
  | .ex e, ρ, h => ((ev T cf e).val ρ h).st ρ fun _ h1 => .ok .nx ρ h1
  | .ret e, ρ, h => ((ev T cf e).val ρ h).st ρ fun d h1 => .ok (.ret d) ρ h1
  | .retN, ρ, h => .ok (.ret .non) ρ h
  | .iff c a b, ρ, h => ((ev T cf c).tst ρ h).st ρ fun k h1 => if k then exB a ρ h1 else exB b ρ h1
  | .whl c b, ρ, h => whR (ev T cf c).tst (exB b) ρ h
  | .fr t it b, ρ, h => (evI T cf it ρ h).st ρ fun xs h1 => frLoop (fun x ρ h => match evG t ρ x with | some ρ1 => exB b ρ1 h | none => .no) xs ρ h1
  | .pass, ρ, h => .ok .nx ρ h
  | .brk, ρ, h => .ok .brk ρ h
  | .cont, ρ, h => .ok .cont ρ h
  | .rais c, ρ, h => .err c ρ h
  | .tr b hs, ρ, h => match exB b ρ h with
    | .err c ρ1 h1 => exH hs c ρ1 h1
    | r => r
noncomputable def exB : Ss → Loc → Hea → SR
  | .nil, ρ, h => .ok .nx ρ h
  | .cons s ss, ρ, h => (exS s ρ h).thn (exB ss)
noncomputable def exH : Hs → Nat → Loc → Hea → SR
  | .nil, c, ρ, h => .err c ρ h
  | .cons _ _ _ _, _, _, _ => .no
end
/-- a def at its arguments -/
noncomputable def runFn (f : Fn) (ds : List D) (h : Hea) : Res D :=
  if ds.length = f.np then
    match exB T cf f.body (ds.map some ++ List.replicate (f.nv - f.np) none) h with
    | .ok .nx _ h => .ok .non h
    | .ok (.ret d) _ h => .ok d h
    | .err c _ h => .err c h
    | _ => .no
  else .no
end
/-- the i-th def by k levels of calls -/
noncomputable def callF (T : Tab) : Nat → Nat → List D → Hea → Res D
  | 0, _, _, _ => .no
  | k + 1, i, ds, h => match T.fns[i]? with
    | some f => runFn T (callF T k) f ds h
    | none => .no
end PyI

set_option Elab.async false
set_option linter.all false
set_option maxRecDepth 100000
/-! PyB: how the evaluator's values and heap lie in the layer's abstract heap. -/
namespace PyI
open PySem L2

structure Glb where
  K : PySem.W.Frag
  mg : Str → Option Value
  T : Tab
abbrev Mu := List (Option Addr)
abbrev Mk := Addr → Prop

mutual
def Rep (G : Glb) (μ : Mu) (M : Mk) (H : Hp) : D → V → Prop
  | .non, v => v = .non
  | .bl b, v => v = .bl b
  | .int i, v => v = .int i
  | .str x, v => v = .str x
  | .tup ds, v => ∃ a xs, v = .ref a ∧ SqT G.K H a xs ∧ Reps G μ M H ds xs
  | .plc ds, v => ∃ a xs, v = .ref a ∧ H a = some (.tup xs) ∧ Reps G μ M H ds xs
  | .lst ds, v => ∃ a xs, v = .ref a ∧ H a = some (.lst xs) ∧ ¬ M a ∧ Reps G μ M H ds xs
  | .scr ds, v => ∃ a xs, v = .ref a ∧ ((∃ o, H a = some (.frz o (.lst xs))) ∨ ∀ H', SqL G.K H' a xs) ∧ Reps G μ M H ds xs
  | .dK ks ds, v => ∃ a kvs, v = .ref a ∧ Rd H a (.dK kvs) ∧ ¬ M a ∧ kvs.map (·.1) = ks ∧ Reps G μ M H ds (kvs.map (·.2))
  | .dT ks ds, v => ∃ a kvs, v = .ref a ∧ Rd H a (.dT kvs) ∧ ¬ M a ∧ kvs.map (·.1) = ks ∧ Reps G μ M H ds (kvs.map (·.2))
  | .ref n, v => ∃ a, v = .ref a ∧ (μ[n]? = some (some a) ∨ μ[n]? = some none)
  | .fn i, v => ∃ f fn, v = .ref f ∧ G.T.fns[i]? = some fn ∧ G.mg fn.name = some (.ref f)
def Reps (G : Glb) (μ : Mu) (M : Mk) (H : Hp) : List D → List V → Prop
  | [], xs => xs = []
  | d :: ds, xs => ∃ x r, xs = x :: r ∧ Rep G μ M H d x ∧ Reps G μ M H ds r
end

/-- what stands at a for a changeable object -/
def MRep (G : Glb) (μ : Mu) (M : Mk) (H : Hp) (a : Addr) : MO → Prop
  | .dead => False
  | .lst ds => ∃ xs, H a = some (.lst xs) ∧ Reps G μ M H ds xs
  | .dK ks ds => ∃ kvs, H a = some (.dK kvs) ∧ kvs.map (·.1) = ks ∧ Reps G μ M H ds (kvs.map (·.2))
  | .dT ks ds => ∃ kvs, H a = some (.dT kvs) ∧ kvs.map (·.1) = ks ∧ Reps G μ M H ds (kvs.map (·.2))
  | .ins _ _ => False
  | .lckK ks ds => ∃ o kvs, H a = some (.frz o (.dK kvs)) ∧ kvs.map (·.1) = ks ∧ Reps G μ M H ds (kvs.map (·.2))
  | .lckT ks ds => ∃ o kvs, H a = some (.frz o (.dT kvs)) ∧ kvs.map (·.1) = ks ∧ Reps G μ M H ds (kvs.map (·.2))

/-- what may be changed is no tuple, and no script -/
def mutO : HO → Bool
  | .tup _ => false
  | .frz _ (.tup _) => false
  | .frz _ (.lst _) => false
  | _ => true
theorem MRep.mut {G : Glb} {μ : Mu} {M : Mk} {H : Hp} {a : Addr} {o : MO} (m : MRep G μ M H a o) : ∃ u, H a = some u ∧ mutO u = true := by
  cases o with
  | dead => exact m.elim
  | ins _ _ => exact m.elim
  | lst ds => obtain ⟨xs, q, p⟩ := m; exact ⟨_, q, rfl⟩
  | dK ks ds => obtain ⟨xs, q, k, p⟩ := m; exact ⟨_, q, rfl⟩
  | dT ks ds => obtain ⟨xs, q, k, p⟩ := m; exact ⟨_, q, rfl⟩
  | lckK ks ds => obtain ⟨o, xs, q, k, p⟩ := m; exact ⟨_, q, rfl⟩
  | lckT ks ds => obtain ⟨o, xs, q, k, p⟩ := m; exact ⟨_, q, rfl⟩
structure Hrel (G : Glb) (μ : Mu) (M : Mk) (H : Hp) (h : Hea) : Prop where
  len : μ.length = h.length
  live : ∀ (n : Nat) (o : MO), h[n]? = some o → (o = .dead ∧ μ[n]? = some none) ∨ ∃ a, μ[n]? = some (some a) ∧ MRep G μ M H a o
  inj : ∀ (n m : Nat) (a : Addr), μ[n]? = some (some a) → μ[m]? = some (some a) → n = m
  mu : ∀ (n : Nat) (a : Addr), μ[n]? = some (some a) → M a
  md : ∀ (a : Addr), M a → ∃ o, H a = some o ∧ mutO o = true

/-- from one state to a later one -/
structure Le (μ : Mu) (M : Mk) (H : Hp) (μ' : Mu) (M' : Mk) (H' : Hp) : Prop where
  len : μ.length ≤ μ'.length
  old : ∀ (n : Nat) (a : Addr), μ[n]? = some (some a) → μ'[n]? = some (some a) ∨ μ'[n]? = some none
  dead : ∀ (n : Nat), μ[n]? = some none → μ'[n]? = some none
  new : ∀ (n : Nat) (a : Addr), μ.length ≤ n → μ'[n]? = some (some a) → H a = none
  keep : ∀ (a : Addr) (o : HO), H a = some o → (∀ (n : Nat), μ[n]? ≠ some (some a)) → H' a = some o
  dom : ∀ (a : Addr) (o : HO), H a = some o → ∃ o', H' a = some o'
  mkk : ∀ a, M' a → M a ∨ H a = none
  km : ∀ a, M a → M' a ∨ (∃ n : Nat, μ[n]? = some (some a)) ∨ H a = none

section
variable {G : Glb} {μ μ' μ'' : Mu} {M M' M'' : Mk} {H H' H'' : Hp} {h h' : Hea}
theorem Le.refl : Le μ M H μ M H := ⟨Nat.le_refl _, fun _ _ e => .inl e, fun _ e => e, fun n a hn e => by
  have := (List.getElem?_eq_some_iff.mp e).1; omega, fun _ _ e _ => e, fun _ o e => ⟨o, e⟩, fun _ e => .inl e, fun _ e => .inl e⟩
theorem Le.back (l : Le μ M H μ' M' H') {n : Nat} {a : Addr} (hn : n < μ.length) (e : μ'[n]? = some (some a)) : μ[n]? = some (some a) := by
  cases q : μ[n]? with
  | none => rw [List.getElem?_eq_none_iff] at q; omega
  | some x =>
    cases x with
    | none => rw [l.dead n q] at e; cases e
    | some b => rcases l.old n b q with z | z <;> (rw [z] at e; cases e); rfl
theorem Le.trans (l : Le μ M H μ' M' H') (k : Le μ' M' H' μ'' M'' H'') : Le μ M H μ'' M'' H'' where
  len := Nat.le_trans l.len k.len
  old := fun n a e => by
    rcases l.old n a e with z | z
    · exact k.old n a z
    · exact .inr (k.dead n z)
  dead := fun n e => k.dead n (l.dead n e)
  new := fun n a hn e => by
    by_cases hn' : n < μ'.length
    · exact l.new n a hn (k.back hn' e)
    · have z := k.new n a (Nat.le_of_not_lt hn') e
      cases q : H a with
      | none => rfl
      | some o => obtain ⟨o', z'⟩ := l.dom a o q; rw [z] at z'; cases z'
  keep := fun a o e hn => k.keep a o (l.keep a o e hn) fun n z => by
    by_cases hl : n < μ.length
    · exact hn n (l.back hl z)
    · have := l.new n a (Nat.le_of_not_lt hl) z
      rw [e] at this; cases this
  dom := fun a o e => by
    obtain ⟨o', z⟩ := l.dom a o e
    exact k.dom a o' z
  mkk := fun a e => by
    rcases k.mkk a e with z | z
    · exact l.mkk a z
    · cases q : H a with
      | none => exact .inr rfl
      | some o => obtain ⟨o', z'⟩ := l.dom a o q; rw [z] at z'; cases z'
  km := fun a e => by
    rcases l.km a e with z | z | z
    · rcases k.km a z with y | ⟨n, y⟩ | y
      · exact .inl y
      · by_cases hl : n < μ.length
        · exact .inr (.inl ⟨n, l.back hl y⟩)
        · exact .inr (.inr (l.new n a (Nat.le_of_not_lt hl) y))
      · refine .inr (.inr ?_)
        cases q : H a with
        | none => rfl
        | some o => obtain ⟨o', z'⟩ := l.dom a o q; rw [y] at z'; cases z'
    · exact .inr (.inl z)
    · exact .inr (.inr z)

/-- a live address holds no tuple -/
theorem Hrel.noTup (r : Hrel G μ M H h) {n : Nat} {a : Addr} (e : μ[n]? = some (some a)) {xs : List V} : ¬ Rd H a (.tup xs) := fun q => by
  have hn : n < h.length := by rw [← r.len]; exact (List.getElem?_eq_some_iff.mp e).1
  obtain ⟨o, ho⟩ : ∃ o, h[n]? = some o := ⟨h[n], List.getElem?_eq_getElem hn⟩
  rcases r.live n o ho with ⟨_, z⟩ | ⟨b, z, m⟩
  · rw [e] at z; cases z
  · rw [e] at z; cases z
    cases o with
    | dead => exact m
    | ins _ _ => exact m
    | lst ds => obtain ⟨ys, hy, _⟩ := m; rcases q with q | ⟨_, q⟩ <;> (rw [hy] at q; cases q)
    | dK ks ds => obtain ⟨ys, hy, _⟩ := m; rcases q with q | ⟨_, q⟩ <;> (rw [hy] at q; cases q)
    | dT ks ds => obtain ⟨ys, hy, _⟩ := m; rcases q with q | ⟨_, q⟩ <;> (rw [hy] at q; cases q)
    | lckK ks ds => obtain ⟨_, ys, hy, _⟩ := m; rcases q with q | ⟨_, q⟩ <;> (rw [hy] at q; cases q)
    | lckT ks ds => obtain ⟨_, ys, hy, _⟩ := m; rcases q with q | ⟨_, q⟩ <;> (rw [hy] at q; cases q)
theorem Hrel.noScr (r : Hrel G μ M H h) {n : Nat} {a : Addr} (e : μ[n]? = some (some a)) {xs : List V} {ob : Obj} : ¬ H a = some (.frz ob (.lst xs)) := fun q => by
  have hn : n < h.length := by rw [← r.len]; exact (List.getElem?_eq_some_iff.mp e).1
  obtain ⟨o, ho⟩ : ∃ o, h[n]? = some o := ⟨h[n], List.getElem?_eq_getElem hn⟩
  rcases r.live n o ho with ⟨_, z⟩ | ⟨b, z, m⟩
  · rw [e] at z; cases z
  · rw [e] at z; cases z
    cases o with
    | dead => exact m
    | ins _ _ => exact m
    | lst ds => obtain ⟨ys, hy, _⟩ := m; rw [hy] at q; cases q
    | dK ks ds => obtain ⟨ys, hy, _⟩ := m; rw [hy] at q; cases q
    | dT ks ds => obtain ⟨ys, hy, _⟩ := m; rw [hy] at q; cases q
    | lckK ks ds => obtain ⟨_, ys, hy, _⟩ := m; rw [hy] at q; cases q
    | lckT ks ds => obtain ⟨_, ys, hy, _⟩ := m; rw [hy] at q; cases q
/-- what is kept, read -/
theorem Le.rd (l : Le μ M H μ' M' H') {a : Addr} {u : HO} (q : Rd H a u) (hn : ∀ n : Nat, μ[n]? ≠ some (some a)) : Rd H' a u := by
  rcases q with q | ⟨o, q⟩
  · exact .inl (l.keep a _ q hn)
  · exact .inr ⟨o, l.keep a _ q hn⟩
theorem rd_some {a : Addr} {u : HO} (q : Rd H a u) : ∃ o, H a = some o := by
  rcases q with q | ⟨o, q⟩ <;> exact ⟨_, q⟩
theorem Le.fz (l : Le μ M H μ' M' H') {a : Addr} {u : HO} (q : Rd H a u) (m : ¬ M a) : ¬ M' a := fun z => by
  rcases l.mkk a z with y | y
  · exact m y
  · obtain ⟨o, e⟩ := rd_some q; rw [y] at e; cases e
theorem Hrel.noM (r : Hrel G μ M H h) {a : Addr} (m : ¬ M a) : ∀ n : Nat, μ[n]? ≠ some (some a) := fun n e => m (r.mu n a e)

mutual
theorem Rep.le (r : Hrel G μ M H h) (l : Le μ M H μ' M' H') : ∀ (d : D) (v : V), Rep G μ M H d v → Rep G μ' M' H' d v
  | .non, v, q => by simpa [Rep] using q
  | .bl b, v, q => by simpa [Rep] using q
  | .int i, v, q => by simpa [Rep] using q
  | .str x, v, q => by simpa [Rep] using q
  | .tup ds, v, q => by
    unfold Rep at q ⊢
    obtain ⟨a, xs, e, s, p⟩ := q
    refine ⟨a, xs, e, ?_, Reps.le r l ds xs p⟩
    rcases s with s | s
    · exact .inl (l.rd s fun n z => r.noTup z s)
    · exact .inr s
  | .plc ds, v, q => by
    unfold Rep at q ⊢
    obtain ⟨a, xs, e, s, p⟩ := q
    exact ⟨a, xs, e, l.keep _ _ s fun n z => r.noTup z (.inl s), Reps.le r l ds xs p⟩
  | .lst ds, v, q => by
    unfold Rep at q ⊢
    obtain ⟨a, xs, e, s, m, p⟩ := q
    exact ⟨a, xs, e, l.keep _ _ s (r.noM m), l.fz (.inl s) m, Reps.le r l ds xs p⟩
  | .scr ds, v, q => by
    unfold Rep at q ⊢
    obtain ⟨a, xs, e, s, p⟩ := q
    refine ⟨a, xs, e, ?_, Reps.le r l ds xs p⟩
    rcases s with ⟨o, s⟩ | s
    · exact .inl ⟨o, l.keep _ _ s fun n z => r.noScr z s⟩
    · exact .inr s
  | .dK ks ds, v, q => by
    unfold Rep at q ⊢
    obtain ⟨a, xs, e, s, m, k, p⟩ := q
    exact ⟨a, xs, e, l.rd s (r.noM m), l.fz s m, k, Reps.le r l ds _ p⟩
  | .dT ks ds, v, q => by
    unfold Rep at q ⊢
    obtain ⟨a, xs, e, s, m, k, p⟩ := q
    exact ⟨a, xs, e, l.rd s (r.noM m), l.fz s m, k, Reps.le r l ds _ p⟩
  | .ref n, v, q => by
    unfold Rep at q ⊢
    obtain ⟨a, e, s⟩ := q
    refine ⟨a, e, ?_⟩
    rcases s with s | s
    · exact l.old n a s
    · exact .inr (l.dead n s)
  | .fn i, v, q => by unfold Rep at q ⊢; exact q
theorem Reps.le (r : Hrel G μ M H h) (l : Le μ M H μ' M' H') : ∀ (ds : List D) (xs : List V), Reps G μ M H ds xs → Reps G μ' M' H' ds xs
  | [], xs, q => by simpa [Reps] using q
  | d :: ds, xs, q => by
    unfold Reps at q ⊢
    obtain ⟨x, t, e, p, q⟩ := q
    exact ⟨x, t, e, Rep.le r l d x p, Reps.le r l ds t q⟩
end

theorem Reps.length : ∀ {ds : List D} {xs : List V}, Reps G μ M H ds xs → xs.length = ds.length
  | [], xs, q => by unfold Reps at q; subst q; rfl
  | d :: ds, xs, q => by
    unfold Reps at q
    obtain ⟨x, t, rfl, _, q⟩ := q
    simp [Reps.length q]
theorem Reps.get : ∀ {ds : List D} {xs : List V} {i : Nat} {d : D}, Reps G μ M H ds xs → ds[i]? = some d → ∃ x, xs[i]? = some x ∧ Rep G μ M H d x
  | [], xs, i, d, q, e => by simp at e
  | d :: ds, xs, 0, d', q, e => by
    unfold Reps at q
    obtain ⟨x, t, rfl, p, q⟩ := q
    simp at e; subst e; exact ⟨x, rfl, p⟩
  | d :: ds, xs, i + 1, d', q, e => by
    unfold Reps at q
    obtain ⟨x, t, rfl, p, q⟩ := q
    simpa using Reps.get (i := i) q (by simpa using e)
theorem Reps.getV : ∀ {ds : List D} {xs : List V} {i : Nat} {x : V}, Reps G μ M H ds xs → xs[i]? = some x → ∃ d, ds[i]? = some d ∧ Rep G μ M H d x
  | [], xs, i, d, q, e => by unfold Reps at q; subst q; simp at e
  | d :: ds, xs, 0, x', q, e => by
    unfold Reps at q
    obtain ⟨x, t, rfl, p, q⟩ := q
    simp at e; subst e; exact ⟨d, rfl, p⟩
  | d :: ds, xs, i + 1, x', q, e => by
    unfold Reps at q
    obtain ⟨x, t, rfl, p, q⟩ := q
    simpa using Reps.getV (i := i) q (by simpa using e)
theorem Reps.append : ∀ {ds es : List D} {xs ys : List V}, Reps G μ M H ds xs → Reps G μ M H es ys → Reps G μ M H (ds ++ es) (xs ++ ys)
  | [], es, xs, ys, q, p => by unfold Reps at q; subst q; exact p
  | d :: ds, es, xs, ys, q, p => by
    unfold Reps at q
    obtain ⟨x, t, rfl, r, q⟩ := q
    show Reps G μ M H (d :: (ds ++ es)) (x :: (t ++ ys))
    unfold Reps
    exact ⟨x, _, rfl, r, Reps.append q p⟩
theorem Reps.nil : Reps G μ M H [] [] := by unfold Reps; rfl
theorem Reps.cons {d : D} {ds : List D} {x : V} {xs : List V} (p : Rep G μ M H d x) (q : Reps G μ M H ds xs) : Reps G μ M H (d :: ds) (x :: xs) := by unfold Reps; exact ⟨x, xs, rfl, p, q⟩
theorem Reps.drop : ∀ {ds : List D} {xs : List V} (n : Nat), Reps G μ M H ds xs → Reps G μ M H (ds.drop n) (xs.drop n)
  | ds, xs, 0, q => by simpa using q
  | [], xs, n + 1, q => by unfold Reps at q; subst q; simpa using Reps.nil
  | d :: ds, xs, n + 1, q => by
    unfold Reps at q
    obtain ⟨x, t, rfl, r, q⟩ := q
    simpa using Reps.drop n q
theorem Reps.take : ∀ {ds : List D} {xs : List V} (n : Nat), Reps G μ M H ds xs → Reps G μ M H (ds.take n) (xs.take n)
  | ds, xs, 0, q => by simpa using Reps.nil
  | [], xs, n + 1, q => by unfold Reps at q; subst q; simpa using Reps.nil
  | d :: ds, xs, n + 1, q => by
    unfold Reps at q
    obtain ⟨x, t, rfl, r, q⟩ := q
    simpa using Reps.cons r (Reps.take n q)
theorem Reps.set {d : D} {x : V} (p : Rep G μ M H d x) : ∀ {ds : List D} {xs : List V} (n : Nat), Reps G μ M H ds xs → Reps G μ M H (ds.set n d) (xs.set n x)
  | [], xs, n, q => by unfold Reps at q; subst q; simpa using Reps.nil
  | d' :: ds, xs, 0, q => by
    unfold Reps at q
    obtain ⟨x', t, rfl, r, q⟩ := q
    simpa using Reps.cons p q
  | d' :: ds, xs, n + 1, q => by
    unfold Reps at q
    obtain ⟨x', t, rfl, r, q⟩ := q
    simpa using Reps.cons r (Reps.set p n q)
theorem Reps.dropLast {ds : List D} {xs : List V} (q : Reps G μ M H ds xs) : Reps G μ M H ds.dropLast xs.dropLast := by
  rw [List.dropLast_eq_take, List.dropLast_eq_take, q.length]
  exact q.take _

/-- the names -/
structure Envi (G : Glb) (μ : Mu) (M : Mk) (H : Hp) (ρ : Loc) (σ : St) : Prop where
  len : σ.length = ρ.length
  at_ : ∀ (i : Nat) (d : D), ρ[i]? = some (some d) → ∃ v, σ[i]? = some (some v) ∧ Rep G μ M H d v
theorem Envi.le {ρ : Loc} {σ : St} (e : Envi G μ M H ρ σ) (r : Hrel G μ M H h) (l : Le μ M H μ' M' H') : Envi G μ' M' H' ρ σ :=
  ⟨e.len, fun i d q => let ⟨v, a, b⟩ := e.at_ i d q; ⟨v, a, Rep.le r l d v b⟩⟩
theorem Envi.set {ρ : Loc} {σ : St} {d : D} {v : V} (e : Envi G μ M H ρ σ) (i : Nat) (p : Rep G μ M H d v) : Envi G μ M H (ρ.set i (some d)) (σ.set i (some v)) := by
  refine ⟨by rw [List.length_set, List.length_set, e.len], fun j d' q => ?_⟩
  by_cases hj : i = j
  · subst hj
    by_cases hi : i < ρ.length
    · rw [List.getElem?_set_self hi] at q
      cases q
      exact ⟨v, List.getElem?_set_self (by rw [e.len]; exact hi), p⟩
    · rw [List.getElem?_eq_none (by simpa using hi)] at q; cases q
  · rw [List.getElem?_set_ne hj] at q ⊢
    exact e.at_ j d' q
theorem Envi.unset {ρ : Loc} {σ : St} (e : Envi G μ M H ρ σ) (i : Nat) : Envi G μ M H (ρ.set i none) (σ.set i none) := by
  refine ⟨by rw [List.length_set, List.length_set, e.len], fun j d' q => ?_⟩
  by_cases hj : i = j
  · subst hj
    by_cases hi : i < ρ.length
    · rw [List.getElem?_set_self hi] at q
      cases q
    · rw [List.getElem?_eq_none (by simpa using hi)] at q; cases q
  · rw [List.getElem?_set_ne hj] at q ⊢
    exact e.at_ j d' q
theorem Envi.wipe {ρ : Loc} {σ : St} (e : Envi G μ M H ρ σ) : ∀ vs : List Nat, Envi G μ M H (wipeD ρ vs) (L2.wipe σ vs)
  | [] => e
  | v :: vs => (Envi.wipe e vs).unset v

/-- a new object that nobody changes -/
theorem Le.fresh {p : Addr} {o : HO} (hp : H p = none) : Le μ M H μ M (upd H p o) where
  len := Nat.le_refl _
  old := fun _ _ e => .inl e
  dead := fun _ e => e
  new := fun n a hn e => by have := (List.getElem?_eq_some_iff.mp e).1; omega
  keep := fun a o' e _ => by rw [upd_ne (ne_of_none e hp)]; exact e
  dom := fun a o' e => ⟨o', by rw [upd_ne (ne_of_none e hp)]; exact e⟩
  mkk := fun _ e => .inl e
  km := fun _ e => .inl e
theorem MRep.le (r : Hrel G μ M H h) (l : Le μ M H μ' M' H') {a : Addr} {o : MO} (e : H' a = H a) (m : MRep G μ M H a o) : MRep G μ' M' H' a o := by
  cases o with
  | dead => exact m
  | ins _ _ => exact m
  | lst ds => obtain ⟨xs, q, p⟩ := m; exact ⟨xs, e.trans q, Reps.le r l _ _ p⟩
  | dK ks ds => obtain ⟨xs, q, k, p⟩ := m; exact ⟨xs, e.trans q, k, Reps.le r l _ _ p⟩
  | dT ks ds => obtain ⟨xs, q, k, p⟩ := m; exact ⟨xs, e.trans q, k, Reps.le r l _ _ p⟩
  | lckK ks ds => obtain ⟨o, xs, q, k, p⟩ := m; exact ⟨o, xs, e.trans q, k, Reps.le r l _ _ p⟩
  | lckT ks ds => obtain ⟨o, xs, q, k, p⟩ := m; exact ⟨o, xs, e.trans q, k, Reps.le r l _ _ p⟩
theorem MRep.some {a : Addr} {o : MO} (m : MRep G μ M H a o) : ∃ u, H a = some u := by
  cases o with
  | dead => exact m.elim
  | ins _ _ => exact m.elim
  | lst ds => obtain ⟨xs, q, p⟩ := m; exact ⟨_, q⟩
  | dK ks ds => obtain ⟨xs, q, k, p⟩ := m; exact ⟨_, q⟩
  | dT ks ds => obtain ⟨xs, q, k, p⟩ := m; exact ⟨_, q⟩
  | lckK ks ds => obtain ⟨o, xs, q, k, p⟩ := m; exact ⟨_, q⟩
  | lckT ks ds => obtain ⟨o, xs, q, k, p⟩ := m; exact ⟨_, q⟩
theorem Hrel.fresh {p : Addr} {o : HO} (r : Hrel G μ M H h) (hp : H p = none) : Hrel G μ M (upd H p o) h where
  len := r.len
  live := fun n u e => by
    rcases r.live n u e with z | ⟨a, z, m⟩
    · exact .inl z
    · obtain ⟨w, q⟩ := m.some
      exact .inr ⟨a, z, m.le r (Le.fresh hp) (upd_ne (ne_of_none q hp))⟩
  inj := r.inj
  mu := r.mu
  md := fun a m => let ⟨o', e, k⟩ := r.md a m; ⟨o', by rw [upd_ne (ne_of_none e hp)]; exact e, k⟩
theorem Hrel.noMp (r : Hrel G μ M H h) {p : Addr} (hp : H p = none) : ¬ M p := fun m => by
  obtain ⟨o, e, _⟩ := r.md p m
  rw [hp] at e; cases e

/-- a new changeable object -/
theorem Le.alloc {p : Addr} {o : HO} (hp : H p = none) : Le μ M H (μ ++ [some p]) (fun a => M a ∨ a = p) (upd H p o) where
  len := by simp
  old := fun n a e => .inl (by rw [List.getElem?_append_left (List.getElem?_eq_some_iff.mp e).1]; exact e)
  dead := fun n e => by rw [List.getElem?_append_left (List.getElem?_eq_some_iff.mp e).1]; exact e
  new := fun n a hn e => by
    rw [List.getElem?_append_right hn] at e
    have h1 := (List.getElem?_eq_some_iff.mp e).1
    have h2 : n - μ.length = 0 := by simp at h1; omega
    rw [h2] at e; simp at e; subst e; exact hp
  keep := fun a o' e _ => by rw [upd_ne (ne_of_none e hp)]; exact e
  dom := fun a o' e => ⟨o', by rw [upd_ne (ne_of_none e hp)]; exact e⟩
  mkk := fun a e => by rcases e with e | e; exact .inl e; exact .inr (by rw [e]; exact hp)
  km := fun _ e => .inl (.inl e)
theorem Hrel.alloc {p : Addr} {o : HO} {u : MO} (r : Hrel G μ M H h) (hp : H p = none) (m : MRep G (μ ++ [some p]) (fun a => M a ∨ a = p) (upd H p o) p u) :
    Hrel G (μ ++ [some p]) (fun a => M a ∨ a = p) (upd H p o) (h ++ [u]) where
  len := by simp [r.len]
  live := fun n w e => by
    by_cases hn : n < h.length
    · rw [List.getElem?_append_left hn] at e
      have hn' : n < μ.length := by rw [r.len]; exact hn
      rw [List.getElem?_append_left hn']
      rcases r.live n w e with z | ⟨a, z, q⟩
      · exact .inl z
      · obtain ⟨t, y⟩ := q.some
        exact .inr ⟨a, z, q.le r (Le.alloc hp) (upd_ne (ne_of_none y hp))⟩
    · rw [List.getElem?_append_right (Nat.le_of_not_lt hn)] at e
      have h1 := (List.getElem?_eq_some_iff.mp e).1
      have h2 : n - h.length = 0 := by simp at h1; omega
      rw [h2] at e; simp at e; subst e
      refine .inr ⟨p, ?_, m⟩
      rw [List.getElem?_append_right (by rw [r.len]; omega)]
      have h3 : n - μ.length = 0 := by rw [r.len]; omega
      rw [h3]; rfl
  inj := fun n k a e1 e2 => by
    have key : ∀ n : Nat, (μ ++ [some p])[n]? = some (some a) → (n < μ.length ∧ μ[n]? = some (some a)) ∨ (n = μ.length ∧ a = p) := fun n e => by
      by_cases hn : n < μ.length
      · rw [List.getElem?_append_left hn] at e; exact .inl ⟨hn, e⟩
      · rw [List.getElem?_append_right (Nat.le_of_not_lt hn)] at e
        have h1 := (List.getElem?_eq_some_iff.mp e).1
        have h2 : n - μ.length = 0 := by simp at h1; omega
        rw [h2] at e; simp at e
        exact .inr ⟨by omega, e.symm⟩
    have no : ∀ n : Nat, μ[n]? = some (some p) → False := fun n e => r.noMp hp (r.mu n p e)
    rcases key n e1 with ⟨h1, h2⟩ | ⟨h1, h2⟩ <;> rcases key k e2 with ⟨h3, h4⟩ | ⟨h3, h4⟩
    · exact r.inj n k a h2 h4
    · exact (no n (h4 ▸ h2)).elim
    · exact (no k (h2 ▸ h4)).elim
    · omega
  mu := fun n a e => by
    by_cases hn : n < μ.length
    · rw [List.getElem?_append_left hn] at e; exact .inl (r.mu n a e)
    · rw [List.getElem?_append_right (Nat.le_of_not_lt hn)] at e
      have h1 := (List.getElem?_eq_some_iff.mp e).1
      have h2 : n - μ.length = 0 := by simp at h1; omega
      rw [h2] at e; simp at e; exact .inr e.symm
  md := fun a ma => by
    rcases ma with m' | m'
    · obtain ⟨o', e, k⟩ := r.md a m'
      exact ⟨o', by rw [upd_ne (ne_of_none e hp)]; exact e, k⟩
    · rw [m']; exact m.mut

/-- a live object is written -/
theorem Le.write {a : Addr} {o : HO} {n : Nat} (e : μ[n]? = some (some a)) : Le μ M H μ M (upd H a o) where
  len := Nat.le_refl _
  old := fun _ _ e => .inl e
  dead := fun _ e => e
  new := fun n a hn e => by have := (List.getElem?_eq_some_iff.mp e).1; omega
  keep := fun b o' q hb => by
    have : b ≠ a := fun z => hb n (z ▸ e)
    rw [upd_ne this]; exact q
  dom := fun b o' q => by
    by_cases hb : b = a
    · rw [hb]; exact ⟨o, upd_same⟩
    · exact ⟨o', by rw [upd_ne hb]; exact q⟩
  mkk := fun _ e => .inl e
  km := fun _ e => .inl e
theorem Hrel.write {a : Addr} {o : HO} {n : Nat} {u : MO} (r : Hrel G μ M H h) (e : μ[n]? = some (some a)) (m : MRep G μ M (upd H a o) a u) : Hrel G μ M (upd H a o) (h.set n u) where
  len := by rw [List.length_set]; exact r.len
  live := fun k w q => by
    by_cases hk : n = k
    · subst hk
      have hn : n < h.length := by rw [← r.len]; exact (List.getElem?_eq_some_iff.mp e).1
      rw [List.getElem?_set_self hn] at q; cases q
      exact .inr ⟨a, e, m⟩
    · rw [List.getElem?_set_ne hk] at q
      rcases r.live k w q with z | ⟨b, z, y⟩
      · exact .inl z
      · have hb : b ≠ a := fun hb => hk (r.inj n k a e (hb ▸ z))
        exact .inr ⟨b, z, y.le r (Le.write e) (upd_ne hb)⟩
  inj := r.inj
  mu := r.mu
  md := fun b mb => by
    by_cases hb : b = a
    · rw [hb]; exact m.mut
    · obtain ⟨o', q, k⟩ := r.md b mb
      exact ⟨o', by rw [upd_ne hb]; exact q, k⟩
/-- a live object is given up -/
theorem Le.die {a : Addr} {n : Nat} (e : μ[n]? = some (some a)) : Le μ M H (μ.set n none) (fun b => M b ∧ b ≠ a) H where
  len := by simp
  old := fun k b q => by
    by_cases hk : n = k
    · subst hk; exact .inr (List.getElem?_set_self (List.getElem?_eq_some_iff.mp q).1)
    · rw [List.getElem?_set_ne hk]; exact .inl q
  dead := fun k q => by
    by_cases hk : n = k
    · subst hk; exact List.getElem?_set_self (List.getElem?_eq_some_iff.mp q).1
    · rw [List.getElem?_set_ne hk]; exact q
  new := fun k b hk q => by have := (List.getElem?_eq_some_iff.mp q).1; simp at this; omega
  keep := fun _ _ q _ => q
  dom := fun _ o q => ⟨o, q⟩
  mkk := fun _ q => .inl q.1
  km := fun b q => by
    by_cases hb : b = a
    · exact .inr (.inl ⟨n, hb ▸ e⟩)
    · exact .inl ⟨q, hb⟩
theorem Hrel.die {a : Addr} {n : Nat} (r : Hrel G μ M H h) (e : μ[n]? = some (some a)) : Hrel G (μ.set n none) (fun b => M b ∧ b ≠ a) H (h.set n .dead) where
  len := by rw [List.length_set, List.length_set]; exact r.len
  live := fun k w q => by
    by_cases hk : n = k
    · subst hk
      have hn : n < h.length := by rw [← r.len]; exact (List.getElem?_eq_some_iff.mp e).1
      rw [List.getElem?_set_self hn] at q; cases q
      exact .inl ⟨rfl, List.getElem?_set_self (List.getElem?_eq_some_iff.mp e).1⟩
    · rw [List.getElem?_set_ne hk] at q
      rw [List.getElem?_set_ne hk]
      rcases r.live k w q with z | ⟨b, z, y⟩
      · exact .inl z
      · exact .inr ⟨b, z, y.le r (Le.die e) rfl⟩
  inj := fun k j b e1 e2 => by
    have key : ∀ k : Nat, (μ.set n none)[k]? = some (some b) → μ[k]? = some (some b) := fun k q => by
      by_cases hk : n = k
      · subst hk; rw [List.getElem?_set_self (List.getElem?_eq_some_iff.mp e).1] at q; cases q
      · rw [List.getElem?_set_ne hk] at q; exact q
    exact r.inj k j b (key k e1) (key j e2)
  mu := fun k b q => by
    by_cases hk : n = k
    · subst hk; rw [List.getElem?_set_self (List.getElem?_eq_some_iff.mp e).1] at q; cases q
    · rw [List.getElem?_set_ne hk] at q
      exact ⟨r.mu k b q, fun hb => hk (r.inj n k a e (hb ▸ q))⟩
  md := fun b m => r.md b m.1

/-- the class of the c-th exception -/
def exN (G : Glb) (c : Nat) (C : Addr) : Prop := ∃ x, G.T.exs[c]? = some x ∧ G.mg x = some (.ref C)
/-- what is to hold behind a run -/
def Post {α β : Type} (G : Glb) (R : Mu → Mk → Hp → α → β → Prop) (W : Value → Hp → Prop) (μ : Mu) (M : Mk) (H : Hp) (r : Res α) (Q : β → Hp → Prop) : Prop :=
  match r with
  | .ok a h' => ∀ b μ' M' H', Le μ M H μ' M' H' → Hrel G μ' M' H' h' → R μ' M' H' a b → Q b H'
  | .err c h' => ∀ C μ' M' H', exN G c C → Le μ M H μ' M' H' → Hrel G μ' M' H' h' → W (.ref C) H'
  | .no => False
theorem Post.le {α β : Type} {R : Mu → Mk → Hp → α → β → Prop} {W : Value → Hp → Prop} {r : Res α} {Q : β → Hp → Prop} (p : Post G R W μ M H r Q) (l : Le μ M H μ' M' H') : Post G R W μ' M' H' r Q := by
  cases r with
  | ok a h' => exact fun b μ2 M2 H2 k => p b μ2 M2 H2 (l.trans k)
  | err c h' => exact fun C μ2 M2 H2 e k => p C μ2 M2 H2 e (l.trans k)
  | no => exact p
theorem Post.bind {α β γ δ : Type} {R : Mu → Mk → Hp → α → β → Prop} {R2 : Mu → Mk → Hp → γ → δ → Prop} {W : Value → Hp → Prop} {r : Res α} {f : α → Hea → Res γ} {Q : δ → Hp → Prop}
    (p : Post G R2 W μ M H (r.bind f) Q) : Post G R W μ M H r (fun b H1 => ∃ a μ1 M1 h1, Le μ M H μ1 M1 H1 ∧ Hrel G μ1 M1 H1 h1 ∧ R μ1 M1 H1 a b ∧ Post G R2 W μ1 M1 H1 (f a h1) Q) := by
  cases r with
  | ok a h' => exact fun b μ2 M2 H2 k hr q => ⟨a, μ2, M2, h', k, hr, q, Post.le (show Post G R2 W μ M H (f a h') Q from p) k⟩
  | err c h' => exact p
  | no => exact p
theorem Post.mono {α β : Type} {R : Mu → Mk → Hp → α → β → Prop} {W W' : Value → Hp → Prop} {r : Res α} {Q Q' : β → Hp → Prop} (p : Post G R W μ M H r Q) (hW : ∀ c H, W c H → W' c H) (hQ : ∀ b H, Q b H → Q' b H) : Post G R W' μ M H r Q' := by
  cases r with
  | ok a h' => exact fun b μ2 M2 H2 k hr q => hQ _ _ (p b μ2 M2 H2 k hr q)
  | err c h' => exact fun C μ2 M2 H2 e k hr => hW _ _ (p C μ2 M2 H2 e k hr)
  | no => exact p
end
end PyI

set_option Elab.async false
set_option linter.all false
set_option maxRecDepth 100000
/-! PyC: the evaluator's operations on values, as rules of the layer. -/
namespace PyI
open PySem L2

section
variable {G : Glb} {μ : Mu} {M : Mk} {H : Hp} {h : Hea} {d : D} {v : V}
theorem rep_non : Rep G μ M H .non v = (v = .non) := by unfold Rep; rfl
theorem rep_bl {b : Bool} : Rep G μ M H (.bl b) v = (v = .bl b) := by unfold Rep; rfl
theorem rep_int {i : Int} : Rep G μ M H (.int i) v = (v = .int i) := by unfold Rep; rfl
theorem rep_str {x : Str} : Rep G μ M H (.str x) v = (v = .str x) := by unfold Rep; rfl
theorem rep_tup {ds : List D} : Rep G μ M H (.tup ds) v = (∃ a xs, v = .ref a ∧ SqT G.K H a xs ∧ Reps G μ M H ds xs) := by unfold Rep; rfl
theorem rep_plc {ds : List D} : Rep G μ M H (.plc ds) v = (∃ a xs, v = .ref a ∧ H a = some (.tup xs) ∧ Reps G μ M H ds xs) := by unfold Rep; rfl
theorem rep_lst {ds : List D} : Rep G μ M H (.lst ds) v = (∃ a xs, v = .ref a ∧ H a = some (.lst xs) ∧ ¬ M a ∧ Reps G μ M H ds xs) := by unfold Rep; rfl
theorem rep_scr {ds : List D} : Rep G μ M H (.scr ds) v = (∃ a xs, v = .ref a ∧ ((∃ o, H a = some (.frz o (.lst xs))) ∨ ∀ H', SqL G.K H' a xs) ∧ Reps G μ M H ds xs) := by unfold Rep; rfl
theorem rep_dK {ks : List Key} {ds : List D} : Rep G μ M H (.dK ks ds) v = (∃ a kvs, v = .ref a ∧ Rd H a (.dK kvs) ∧ ¬ M a ∧ kvs.map (·.1) = ks ∧ Reps G μ M H ds (kvs.map (·.2))) := by unfold Rep; rfl
theorem rep_dT {ks : List (List Key)} {ds : List D} : Rep G μ M H (.dT ks ds) v = (∃ a kvs, v = .ref a ∧ Rd H a (.dT kvs) ∧ ¬ M a ∧ kvs.map (·.1) = ks ∧ Reps G μ M H ds (kvs.map (·.2))) := by unfold Rep; rfl
theorem rep_ref {n : Nat} : Rep G μ M H (.ref n) v = (∃ a, v = .ref a ∧ (μ[n]? = some (some a) ∨ μ[n]? = some none)) := by unfold Rep; rfl
theorem rep_fn {i : Nat} : Rep G μ M H (.fn i) v = (∃ f fn, v = .ref f ∧ G.T.fns[i]? = some fn ∧ G.mg fn.name = some (.ref f)) := by unfold Rep; rfl

/-- the live object at n -/
theorem Hrel.at_ (r : Hrel G μ M H h) {n : Nat} {o : MO} (p : Rep G μ M H (.ref n) v) (e : h[n]? = some o) (ho : o ≠ .dead) : ∃ a, v = .ref a ∧ μ[n]? = some (some a) ∧ MRep G μ M H a o := by
  rw [rep_ref] at p
  obtain ⟨a, rfl, q⟩ := p
  rcases r.live n o e with ⟨z, _⟩ | ⟨b, z, m⟩
  · exact absurd z ho
  · rcases q with q | q
    · rw [z] at q; cases q; exact ⟨a, rfl, z, m⟩
    · rw [z] at q; cases q

theorem tup_rep {ds : List D} (p : Rep G μ M H d v) (e : tupV d = some ds) : ∃ a xs, v = .ref a ∧ SqT G.K H a xs ∧ Reps G μ M H ds xs := by
  unfold tupV at e
  split at e
  · cases e; rw [rep_tup] at p; exact p
  · cases e; rw [rep_plc] at p; obtain ⟨a, xs, e, s, q⟩ := p; exact ⟨a, xs, e, .of s, q⟩
  · cases e
theorem pln_rep (r : Hrel G μ M H h) {ds : List D} (p : Rep G μ M H d v) (e : plnV h d = some ds) : ∃ a xs, v = .ref a ∧ H a = some (.lst xs) ∧ Reps G μ M H ds xs := by
  unfold plnV at e
  split at e
  · cases e; rw [rep_lst] at p; obtain ⟨a, xs, e, s, _, q⟩ := p; exact ⟨a, xs, e, s, q⟩
  · split at e
    · rename_i q
      cases e
      obtain ⟨a, e, _, xs, s, t⟩ := r.at_ p q (by intro z; cases z)
      exact ⟨a, xs, e, s, t⟩
    · cases e
  · cases e
theorem lst_rep (r : Hrel G μ M H h) {ds : List D} (p : Rep G μ M H d v) (e : lstV h d = some ds) : ∃ a xs, v = .ref a ∧ SqL G.K H a xs ∧ Reps G μ M H ds xs := by
  unfold lstV at e
  split at e
  · cases e; rw [rep_lst] at p; obtain ⟨a, xs, e, s, _, q⟩ := p; exact ⟨a, xs, e, .of s, q⟩
  · cases e; rw [rep_scr] at p; obtain ⟨a, xs, e, s, q⟩ := p
    refine ⟨a, xs, e, ?_, q⟩
    rcases s with ⟨o, s⟩ | s
    · exact .inl (.inr ⟨o, s⟩)
    · exact s H
  · split at e
    · rename_i q
      cases e
      obtain ⟨a, e, _, xs, s, t⟩ := r.at_ p q (by intro z; cases z)
      exact ⟨a, xs, e, .of s, t⟩
    · cases e
  · cases e
theorem seq_cases {ds : List D} (e : seqV h d = some ds) : tupV d = some ds ∨ lstV h d = some ds := by
  unfold seqV at e
  split at e
  · exact .inl e
  · exact .inl e
  · exact .inr e
  · exact .inr e
  · exact .inr e
  · cases e
theorem seq_rep (r : Hrel G μ M H h) {ds : List D} (p : Rep G μ M H d v) (e : seqV h d = some ds) : ∃ a xs, v = .ref a ∧ (SqL G.K H a xs ∨ SqT G.K H a xs) ∧ Reps G μ M H ds xs := by
  rcases seq_cases e with e | e
  · obtain ⟨a, xs, e, s, q⟩ := tup_rep p e; exact ⟨a, xs, e, .inr s, q⟩
  · obtain ⟨a, xs, e, s, q⟩ := lst_rep r p e; exact ⟨a, xs, e, .inl s, q⟩
theorem int_rep {i : Int} (p : Rep G μ M H d v) (e : intV d = some i) : v = .int i := by
  unfold intV at e
  split at e
  · cases e; rw [rep_int] at p; exact p
  · cases e
theorem bl_rep {b : Bool} (p : Rep G μ M H d v) (e : blV d = some b) : v = .bl b := by
  unfold blV at e
  split at e
  · cases e; rw [rep_bl] at p; exact p
  · cases e
theorem ints_rep : ∀ {ds : List D} {xs : List V} {ns : List Int}, Reps G μ M H ds xs → intsV ds = some ns → xs = ns.map V.int
  | [], xs, ns, p, e => by unfold intsV at e; cases e; unfold Reps at p; subst p; rfl
  | d :: r, xs, ns, p, e => by
    unfold Reps at p
    obtain ⟨x, t, rfl, p, q⟩ := p
    cases d with
    | int i =>
      unfold intsV at e
      obtain ⟨ms, e2, rfl⟩ := Option.map_eq_some_iff.mp e
      rw [rep_int] at p
      subst p
      rw [ints_rep q e2]; rfl
    | _ => simp [intsV] at e
theorem bls_rep : ∀ {ds : List D} {xs : List V} {ns : List Bool}, Reps G μ M H ds xs → blsV ds = some ns → xs = ns.map V.bl
  | [], xs, ns, p, e => by unfold blsV at e; cases e; unfold Reps at p; subst p; rfl
  | d :: r, xs, ns, p, e => by
    unfold Reps at p
    obtain ⟨x, t, rfl, p, q⟩ := p
    cases d with
    | bl i =>
      unfold blsV at e
      obtain ⟨ms, e2, rfl⟩ := Option.map_eq_some_iff.mp e
      rw [rep_bl] at p
      subst p
      rw [bls_rep q e2]; rfl
    | _ => simp [blsV] at e

/-- data read by the layer's deep equality -/
theorem dp_all : (∀ d v, Rep G μ M H d v → (pd d).canLay0 = true → Dp G.K H v (pd d)) ∧ True := ⟨by
  have key : ∀ n : Nat, (∀ d v, sizeOf d < n → Rep G μ M H d v → (pd d).canLay0 = true → Dp G.K H v (pd d)) ∧ (∀ ds xs, sizeOf ds < n → Reps G μ M H ds xs → PyData.canLayAll0 (pds ds) = true → DpAll G.K H xs (pds ds)) := by
    intro n
    induction n with
    | zero => exact ⟨fun _ _ z => absurd z (Nat.not_lt_zero _), fun _ _ z => absurd z (Nat.not_lt_zero _)⟩
    | succ n ih =>
      refine ⟨fun d v hn p c => ?_, fun ds xs hn p c => ?_⟩
      · cases d with
        | non => rw [rep_non] at p; subst p; exact .non
        | bl b => rw [rep_bl] at p; subst p; exact .bl b
        | int i => rw [rep_int] at p; subst p; exact .int i
        | str x => rw [rep_str] at p; subst p; exact .str x
        | tup es =>
          rw [rep_tup] at p; obtain ⟨a, xs, rfl, s, q⟩ := p
          have c' : PyData.canLayAll0 (pds es) = true := by simpa [pd, PyData.canLay0] using c
          exact .tup s (ih.2 es xs (by simp at hn; omega) q c')
        | plc es =>
          rw [rep_plc] at p; obtain ⟨a, xs, rfl, s, q⟩ := p
          have c' : PyData.canLayAll0 (pds es) = true := by simpa [pd, PyData.canLay0] using c
          exact .tup (.of s) (ih.2 es xs (by simp at hn; omega) q c')
        | lst es =>
          rw [rep_lst] at p; obtain ⟨a, xs, rfl, s, _, q⟩ := p
          have c' : PyData.canLayAll0 (pds es) = true := by simpa [pd, PyData.canLay0] using c
          exact .lst (.of s) (ih.2 es xs (by simp at hn; omega) q c')
        | scr es =>
          have e : lstV [] (.scr es) = some es := rfl
          rw [rep_scr] at p; obtain ⟨a, xs, rfl, s, q⟩ := p
          have c' : PyData.canLayAll0 (pds es) = true := by simpa [pd, PyData.canLay0] using c
          refine .lst ?_ (ih.2 es xs (by simp at hn; omega) q c')
          rcases s with ⟨o, s⟩ | s
          · exact .inl (.inr ⟨o, s⟩)
          · exact s H
        | dK _ _ => simp [pd, PyData.canLay0] at c
        | dT _ _ => simp [pd, PyData.canLay0] at c
        | ref _ => simp [pd, PyData.canLay0] at c
        | fn _ => simp [pd, PyData.canLay0] at c
      · cases ds with
        | nil => unfold Reps at p; subst p; exact .nil
        | cons d r =>
          unfold Reps at p
          obtain ⟨x, t, rfl, p, q⟩ := p
          have c' : (pd d).canLay0 = true ∧ PyData.canLayAll0 (pds r) = true := by simpa [pds, PyData.canLayAll0] using c
          exact .cons (ih.1 d x (by simp at hn; omega) p c'.1) (ih.2 r t (by simp at hn; omega) q c'.2)
  exact fun d v => (key (sizeOf d + 1)).1 d v (Nat.lt_succ_self _), True.intro⟩
theorem dp_of (p : Rep G μ M H d v) (c : (pd d).canLay0 = true) : Dp G.K H v (pd d) := dp_all.1 d v p c
theorem dps_of : ∀ {ds : List D} {xs : List V}, Reps G μ M H ds xs → PyData.canLayAll0 (pds ds) = true → DpAll G.K H xs (pds ds)
  | [], xs, p, _ => by unfold Reps at p; subst p; exact .nil
  | d :: r, xs, p, c => by
    unfold Reps at p
    obtain ⟨x, t, rfl, p, q⟩ := p
    have c' : (pd d).canLay0 = true ∧ PyData.canLayAll0 (pds r) = true := by simpa [pds, PyData.canLayAll0] using c
    exact .cons (dp_of p c'.1) (dps_of q c'.2)
theorem shaped_can {d : PyData} (s : SeqAt.shaped d = true) : d.canLay0 = true := SeqAt.canLay_of_shaped s
theorem dpH_of (r : Hrel G μ M H h) (p : Rep G μ M H d v) (c : SeqAt.shaped (pdH h d) = true) : Dp G.K H v (pdH h d) := by
  have c := shaped_can c
  unfold pdH at c ⊢
  split
  · rename_i n
    simp only at c
    split
    · rename_i xs q
      rw [q] at c
      obtain ⟨a, e, _, ys, s, t⟩ := r.at_ p q (by intro z; cases z)
      subst e
      have c' : PyData.canLayAll0 (pds xs) = true := by simpa [PyData.canLay0] using c
      exact .lst (.of s) (dps_of t c')
    · rename_i hno
      split at c
      · rename_i xs q; exact absurd q (hno xs)
      · simp [PyData.canLay0] at c
  · rename_i hno
    split at c
    · exact absurd rfl (hno _)
    · exact dp_of p c

/-! ### dicts -/
theorem keyV_kV {k : Key} (p : Rep G μ M H d v) (e : keyV d = some k) : v = kV k := by
  unfold keyV at e
  split at e
  · cases e; rw [rep_int] at p; exact p
  · cases e; rw [rep_str] at p; exact p
  · cases e
theorem keysV_kV : ∀ {ds : List D} {xs : List V} {ks : List Key}, Reps G μ M H ds xs → keysV ds = some ks → xs = ks.map kV
  | [], xs, ks, p, e => by unfold keysV at e; cases e; unfold Reps at p; subst p; rfl
  | d :: r, xs, ks, p, e => by
    unfold Reps at p
    obtain ⟨x, t, rfl, p, q⟩ := p
    unfold keysV at e
    obtain ⟨k, e1, e⟩ := Option.bind_eq_some_iff.mp e
    obtain ⟨ks', e2, rfl⟩ := Option.map_eq_some_iff.mp e
    rw [keyV_kV p e1, keysV_kV q e2]; rfl
theorem tkeyV_kV {k : List Key} (p : Rep G μ M H d v) (e : tkeyV d = some k) : ∃ b, v = .ref b ∧ H b = some (.tup (k.map kV)) := by
  unfold tkeyV at e
  split at e
  · rw [rep_plc] at p
    obtain ⟨a, xs, rfl, s, q⟩ := p
    rw [keysV_kV q e] at s
    exact ⟨a, rfl, s⟩
  · cases e
/-- an optional value -/
def RepO (G : Glb) (μ : Mu) (M : Mk) (H : Hp) : Option D → Option V → Prop
  | some d, some v => Rep G μ M H d v
  | none, none => True
  | _, _ => False
theorem look_rep {κ : Type} [DecidableEq κ] (x : κ) : ∀ {kvs : List (κ × V)} {ks : List κ} {ds : List D}, kvs.map (·.1) = ks → Reps G μ M H ds (kvs.map (·.2)) → RepO G μ M H (look ks ds x) (valV kvs x)
  | [], ks, ds, e, p => by subst e; rw [valV_nil]; simp [look, RepO]
  | kv :: r, ks, ds, e, p => by
    subst e
    cases ds with
    | nil => have := p.length; simp at this
    | cons d ds =>
      have p' : ∃ y t, kv.2 :: r.map (·.2) = y :: t ∧ Rep G μ M H d y ∧ Reps G μ M H ds t := by simpa [Reps] using p
      obtain ⟨y, t, e, q1, q2⟩ := p'
      cases e
      have ih := look_rep x (kvs := r) rfl q2
      show RepO G μ M H (look (kv.1 :: r.map (·.1)) (d :: ds) x) _
      unfold look
      by_cases hk : kv.1 = x
      · rw [if_pos hk, valV_pos hk]; exact q1
      · rw [if_neg hk, valV_neg hk]; exact ih
theorem look_none {κ : Type} [DecidableEq κ] (x : κ) : ∀ {ks : List κ} {ds : List D}, ks.length = ds.length → (look ks ds x).isSome = decide (x ∈ ks)
  | [], ds, e => by simp [look]
  | k :: ks, ds, e => by
    cases ds with
    | nil => simp at e
    | cons d ds =>
      unfold look
      by_cases hk : k = x
      · simp [hk]
      · rw [if_neg hk, look_none x (ks := ks) (ds := ds) (by simpa using e)]
        simp [Ne.symm hk]
theorem putAt_rep {κ : Type} [DecidableEq κ] {x : κ} {y : V} {z : D} (q : Rep G μ M H z y) : ∀ {kvs : List (κ × V)} {ks : List κ} {ds : List D}, kvs.map (·.1) = ks → Reps G μ M H ds (kvs.map (·.2)) →
    Reps G μ M H (putAt ks ds x z) ((kvs.map fun kv => if kv.1 = x then (kv.1, y) else kv).map (·.2))
  | [], ks, ds, e, p => by
    subst e
    have := p.length
    cases ds with
    | nil => simpa [putAt] using p
    | cons _ _ => simp at this
  | kv :: r, ks, ds, e, p => by
    subst e
    cases ds with
    | nil => have := p.length; simp at this
    | cons d ds =>
      have p' : ∃ y t, kv.2 :: r.map (·.2) = y :: t ∧ Rep G μ M H d y ∧ Reps G μ M H ds t := by simpa [Reps] using p
      obtain ⟨w, t, e, q1, q2⟩ := p'
      cases e
      have ih := putAt_rep (x := x) q (kvs := r) rfl q2
      show Reps G μ M H ((if kv.1 = x then z else d) :: putAt (r.map (·.1)) ds x z) ((if kv.1 = x then (kv.1, y) else kv).2 :: _)
      refine Reps.cons ?_ ih
      by_cases hk : kv.1 = x
      · rw [if_pos hk, if_pos hk]; exact q
      · rw [if_neg hk, if_neg hk]; exact q1
theorem map_if_fst {κ : Type} [DecidableEq κ] (x : κ) (y : V) (kvs : List (κ × V)) : (kvs.map fun kv => if kv.1 = x then (kv.1, y) else kv).map (·.1) = kvs.map (·.1) := by
  induction kvs with
  | nil => rfl
  | cons c l ih =>
    rw [List.map_cons, List.map_cons, List.map_cons, ih]
    by_cases hk : c.1 = x
    · rw [if_pos hk]
    · rw [if_neg hk]
theorem put_rep {κ : Type} [DecidableEq κ] {x : κ} {y : V} {z : D} (q : Rep G μ M H z y) {kvs : List (κ × V)} {ks : List κ} {ds : List D} (e : kvs.map (·.1) = ks) (p : Reps G μ M H ds (kvs.map (·.2))) :
    (putK kvs x y).map (·.1) = (put ks ds x z).1 ∧ Reps G μ M H (put ks ds x z).2 ((putK kvs x y).map (·.2)) := by
  subst e
  have ea : (kvs.any fun kv => decide (kv.1 = x)) = decide (x ∈ kvs.map (·.1)) := by
    rw [Bool.eq_iff_iff]
    simp [List.any_eq_true]
  unfold putK put
  rw [ea]
  by_cases hx : x ∈ kvs.map (·.1)
  · rw [if_pos hx, if_pos (by simpa using hx)]
    exact ⟨map_if_fst x y kvs, putAt_rep q rfl p⟩
  · rw [if_neg hx, if_neg (by simpa using hx)]
    refine ⟨by simp, ?_⟩
    rw [List.map_append]
    exact p.append (Reps.cons q Reps.nil)
/-- what the layer's look-up gives -/
theorem dctGet_rep (r : Hrel G μ M H h) {k : D} {y : V} {o : Option D} (p : Rep G μ M H d v) (q : Rep G μ M H k y) (e : dctGet h d k = some o) : ∃ a w, v = .ref a ∧ IsD H a ∧ DGet H a y w ∧ RepO G μ M H o w := by
  unfold dctGet at e
  split at e
  · obtain ⟨k', e1, rfl⟩ := Option.map_eq_some_iff.mp e
    rw [rep_dK] at p
    obtain ⟨a, kvs, rfl, s, _, ek, t⟩ := p
    exact ⟨a, valV kvs k', rfl, .inl ⟨kvs, s⟩, .inl ⟨kvs, k', s, keyV_kV q e1, rfl⟩, look_rep k' ek t⟩
  · obtain ⟨k', e1, rfl⟩ := Option.map_eq_some_iff.mp e
    rw [rep_dT] at p
    obtain ⟨a, kvs, rfl, s, _, ek, t⟩ := p
    obtain ⟨b, rfl, hb⟩ := tkeyV_kV q e1
    exact ⟨a, valV kvs k', rfl, .inr ⟨kvs, s⟩, .inr ⟨kvs, k', b, s, rfl, hb, rfl⟩, look_rep k' ek t⟩
  · split at e
    · rename_i z
      obtain ⟨k', e1, rfl⟩ := Option.map_eq_some_iff.mp e
      obtain ⟨a, rfl, _, kvs, s, ek, t⟩ := r.at_ p z (by intro z; cases z)
      exact ⟨a, valV kvs k', rfl, .inl ⟨kvs, .inl s⟩, .inl ⟨kvs, k', .inl s, keyV_kV q e1, rfl⟩, look_rep k' ek t⟩
    · rename_i z
      obtain ⟨k', e1, rfl⟩ := Option.map_eq_some_iff.mp e
      obtain ⟨a, rfl, _, ob, kvs, s, ek, t⟩ := r.at_ p z (by intro z; cases z)
      exact ⟨a, valV kvs k', rfl, .inl ⟨kvs, .inr ⟨ob, s⟩⟩, .inl ⟨kvs, k', .inr ⟨ob, s⟩, keyV_kV q e1, rfl⟩, look_rep k' ek t⟩
    · rename_i z
      obtain ⟨k', e1, rfl⟩ := Option.map_eq_some_iff.mp e
      obtain ⟨a, rfl, _, kvs, s, ek, t⟩ := r.at_ p z (by intro z; cases z)
      obtain ⟨b, rfl, hb⟩ := tkeyV_kV q e1
      exact ⟨a, valV kvs k', rfl, .inr ⟨kvs, .inl s⟩, .inr ⟨kvs, k', b, .inl s, rfl, hb, rfl⟩, look_rep k' ek t⟩
    · rename_i z
      obtain ⟨k', e1, rfl⟩ := Option.map_eq_some_iff.mp e
      obtain ⟨a, rfl, _, ob, kvs, s, ek, t⟩ := r.at_ p z (by intro z; cases z)
      obtain ⟨b, rfl, hb⟩ := tkeyV_kV q e1
      exact ⟨a, valV kvs k', rfl, .inr ⟨kvs, .inr ⟨ob, s⟩⟩, .inr ⟨kvs, k', b, .inr ⟨ob, s⟩, rfl, hb, rfl⟩, look_rep k' ek t⟩
    · cases e
  · cases e
end
end PyI

set_option Elab.async false
set_option linter.all false
set_option maxRecDepth 100000
/-! PyD: operators, comparisons, truth, built-ins of the evaluator's values. -/
namespace PyI
open PySem L2

def BOp.op : BOp → Operator
  | .add => .Add | .sub => .Sub | .mul => .Mult | .fdiv => .FloorDiv | .mod => .Mod | .pow => .Pow
def COp.op : COp → CmpOp
  | .eq => .Eq | .ne => .NotEq | .lt => .Lt | .le => .LtE | .gt => .Gt | .ge => .GtE
  | .isN => .Is | .notN => .IsNot | .isB => .Is | .notB => .IsNot | .mem => .In | .nmem => .NotIn

/-- what is to hold of a value that an operation gives -/
def PostV (G : Glb) (μ : Mu) (M : Mk) (H : Hp) (r : Res D) (Q : VK) : Prop :=
  match r with
  | .ok d h' => ∀ v μ' M' H', Le μ M H μ' M' H' → Hrel G μ' M' H' h' → Rep G μ' M' H' d v → Q v H'
  | _ => False

section
variable {G : Glb} {μ : Mu} {M : Mk} {H : Hp} {h : Hea} {X : Cx}
theorem Post.toV {W : Value → Hp → Prop} {r : Res D} {Q : VK} (p : Post G (Rep G) W μ M H r Q) (n : ∀ c k, r ≠ .err c k) : PostV G μ M H r Q := by
  cases r with
  | ok d k => exact p
  | err c k => exact absurd rfl (n c k)
  | no => exact p
theorem PostV.here {d : D} {v : V} {Q : VK} (p : PostV G μ M H (.ok d h) Q) (r : Hrel G μ M H h) (q : Rep G μ M H d v) : Q v H := p v μ M H Le.refl r q
/-- a new object that nobody changes -/
theorem PostV.new {d : D} {Q : VK} {o : HO} (p : PostV G μ M H (.ok d h) Q) (r : Hrel G μ M H h) (q : ∀ a, H a = none → Rep G μ M (upd H a o) d (.ref a)) : ∀ a, H a = none → Q (.ref a) (upd H a o) :=
  fun a ha => p (.ref a) μ M _ (Le.fresh ha) (r.fresh ha) (q a ha)
theorem Reps.fresh {ds : List D} {xs : List V} {a : Addr} {o : HO} (q : Reps G μ M H ds xs) (r : Hrel G μ M H h) (ha : H a = none) : Reps G μ M (upd H a o) ds xs := Reps.le r (Le.fresh ha) ds xs q
theorem Rep.newTup {ds : List D} {xs : List V} {a : Addr} (r : Hrel G μ M H h) (ha : H a = none) (q : Reps G μ M H ds xs) : Rep G μ M (upd H a (.tup xs)) (.tup ds) (.ref a) := by
  rw [rep_tup]; exact ⟨a, xs, rfl, .of upd_same, q.fresh r ha⟩
theorem Rep.newPlc {ds : List D} {xs : List V} {a : Addr} (r : Hrel G μ M H h) (ha : H a = none) (q : Reps G μ M H ds xs) : Rep G μ M (upd H a (.tup xs)) (.plc ds) (.ref a) := by
  rw [rep_plc]; exact ⟨a, xs, rfl, upd_same, q.fresh r ha⟩
theorem Rep.newLst {ds : List D} {xs : List V} {a : Addr} (r : Hrel G μ M H h) (ha : H a = none) (q : Reps G μ M H ds xs) : Rep G μ M (upd H a (.lst xs)) (.lst ds) (.ref a) := by
  rw [rep_lst]; exact ⟨a, xs, rfl, upd_same, r.noMp ha, q.fresh r ha⟩

/-! ### operators -/
def rBin (G : Glb) (o : BOp) : R2 := fun x y H Q => ∃ a b μ M h, Hrel G μ M H h ∧ Rep G μ M H a x ∧ Rep G μ M H b y ∧ PostV G μ M H (binR o h a b) Q
theorem mulOk_of {i j : Int} (e : mulOk i j = true) : CMulW i j := by
  unfold mulOk at e
  have e' : i.natAbs.log2 + j.natAbs.log2 < 1000000 := by simpa using e
  exact e'
theorem PostV.need {α : Type} {o : Option α} {f : α → Res D} {Q : VK} (p : PostV G μ M H (need o f) Q) : ∃ a, o = some a ∧ PostV G μ M H (f a) Q := by
  cases o with
  | none => exact p.elim
  | some a => exact ⟨a, rfl, p⟩
theorem PostV.ite {c : Prop} [Decidable c] {r : Res D} {Q : VK} (p : PostV G μ M H (if c then r else .no) Q) : c ∧ PostV G μ M H r Q := by
  by_cases hc : c
  · rw [if_pos hc] at p; exact ⟨hc, p⟩
  · rw [if_neg hc] at p; exact p.elim
theorem op_bin (o : BOp) (eK : X.K = G.K) : OpR X (binaryOp o.op) (rBin G o) := by
  intro pins s σ H x y v u Q I rx ry ⟨a, b, μ, M, h, r, pa, pb, q⟩
  cases o with
  | add =>
    unfold binR at q
    simp only at q
    split at q
    · rw [rep_int] at pa pb; subst pa pb
      exact op_add pins s σ H _ _ v u Q I rx ry ⟨_, _, rfl, rfl, q.here r (by rw [rep_int])⟩
    · rw [rep_str] at pa pb; subst pa pb
      obtain ⟨c, q⟩ := q.ite
      exact op_add_str pins s σ H _ _ v u Q I rx ry ⟨_, _, rfl, rfl, c, q.here r (by rw [rep_str])⟩
    · split at q
      · rename_i xs e
        obtain ⟨ys, e2, q⟩ := q.need
        obtain ⟨c, q⟩ := q.ite
        obtain ⟨a1, us, rfl, s1, t1⟩ := tup_rep pa e
        obtain ⟨b1, ws, rfl, s2, t2⟩ := tup_rep pb e2
        refine op_catA pins s σ H _ _ v u Q I rx ry ⟨a1, b1, us, ws, rfl, rfl, eK ▸ s1, eK ▸ s2, by rw [t1.length, t2.length]; exact c, fun z => ?_, fun _ z => ?_, fun _ _ => ?_⟩
        · subst z
          have hx : xs = [] := List.eq_nil_of_length_eq_zero t1.length.symm
          subst hx
          exact q.here r (by rw [rep_tup]; exact ⟨b1, ws, rfl, s2, t2⟩)
        · subst z
          have hy : ys = [] := List.eq_nil_of_length_eq_zero t2.length.symm
          subst hy
          exact q.here r (by rw [List.append_nil, rep_tup]; exact ⟨a1, us, rfl, s1, t1⟩)
        · exact q.new r fun p hp => Rep.newTup r hp (t1.append t2)
      · obtain ⟨xs, e, q⟩ := q.need
        obtain ⟨ys, e2, q⟩ := q.need
        obtain ⟨c, q⟩ := q.ite
        obtain ⟨a1, us, rfl, s1, t1⟩ := pln_rep r pa e
        obtain ⟨b1, ws, rfl, s2, t2⟩ := pln_rep r pb e2
        exact op_cat pins s σ H _ _ v u Q I rx ry ⟨a1, b1, us, ws, rfl, rfl, s1, s2, by rw [t1.length, t2.length]; exact c, q.new r fun p hp => Rep.newLst r hp (t1.append t2)⟩
  | sub =>
    unfold binR at q
    simp only at q
    split at q
    · rw [rep_int] at pa pb; subst pa pb
      exact op_sub pins s σ H _ _ v u Q I rx ry ⟨_, _, rfl, rfl, q.here r (by rw [rep_int])⟩
    · exact q.elim
  | mul =>
    unfold binR at q
    simp only at q
    split at q
    · rw [rep_int] at pa pb; subst pa pb
      obtain ⟨c, q⟩ := q.ite
      exact op_mulW pins s σ H _ _ v u Q I rx ry ⟨_, _, rfl, rfl, mulOk_of c, q.here r (by rw [rep_int])⟩
    · exact q.elim
  | fdiv =>
    unfold binR at q
    simp only at q
    split at q
    · rw [rep_int] at pa pb; subst pa pb
      obtain ⟨c, q⟩ := q.ite
      exact op_fdivW pins s σ H _ _ v u Q I rx ry ⟨_, _, rfl, rfl, c, q.here r (by rw [rep_int])⟩
    · exact q.elim
  | mod =>
    unfold binR at q
    simp only at q
    split at q
    · rw [rep_int] at pa pb; subst pa pb
      obtain ⟨c, q⟩ := q.ite
      exact op_mod pins s σ H _ _ v u Q I rx ry ⟨_, _, rfl, rfl, c, q.here r (by rw [rep_int])⟩
    · exact q.elim
  | pow =>
    unfold binR at q
    simp only at q
    split at q
    · rw [rep_int] at pa pb; subst pa pb
      obtain ⟨c, q⟩ := q.ite
      exact op_pow pins s σ H _ _ v u Q I rx ry ⟨_, _, rfl, rfl, c, q.here r (by rw [rep_int])⟩
    · exact q.elim

/-! ### comparisons -/
def rCmp (G : Glb) (o : COp) : R2 := fun x y H Q => ∃ a b μ M h k, Hrel G μ M H h ∧ Rep G μ M H a x ∧ Rep G μ M H b y ∧ cmpR o h a b = some k ∧ Q (.bl k) H
theorem eqR_of {h : Hea} {a b : D} {k : Bool} (e : eqR h a b = some k) : SeqAt.shaped (pdH h a) = true ∧ SeqAt.shaped (pdH h b) = true ∧ k = PyData.eqv (pdH h a) (pdH h b) := by
  unfold eqR at e
  split at e
  · rename_i c
    rw [Bool.and_eq_true] at c
    exact ⟨c.1, c.2, (Option.some.inj e).symm⟩
  · cases e
theorem flat_rep {d : D} {v : V} (f : flatD d = true) (p : Rep G μ M H d v) : flatV v = true := by
  cases d with
  | non => rw [rep_non] at p; subst p; rfl
  | bl _ => rw [rep_bl] at p; subst p; rfl
  | int _ => rw [rep_int] at p; subst p; rfl
  | str _ => rw [rep_str] at p; subst p; rfl
  | _ => exact absurd f Bool.false_ne_true
theorem flat_eq {d e : D} {v w : V} (f : flatD d = true) (g : flatD e = true) (p : Rep G μ M H d v) (q : Rep G μ M H e w) : eqV v w = PyData.eqv (pd d) (pd e) := by
  cases d with
  | non =>
    rw [rep_non] at p; subst p
    cases e with
    | non => rw [rep_non] at q; subst q; simp [eqV, PyData.eqv, pd]
    | bl _ => rw [rep_bl] at q; subst q; simp [eqV, PyData.eqv, pd]
    | int _ => rw [rep_int] at q; subst q; simp [eqV, PyData.eqv, pd]
    | str _ => rw [rep_str] at q; subst q; simp [eqV, PyData.eqv, pd]
    | _ => exact absurd g Bool.false_ne_true
  | bl _ =>
    rw [rep_bl] at p; subst p
    cases e with
    | non => rw [rep_non] at q; subst q; simp [eqV, PyData.eqv, pd]
    | bl _ => rw [rep_bl] at q; subst q; simp [eqV, PyData.eqv, pd]
    | int _ => rw [rep_int] at q; subst q; simp [eqV, PyData.eqv, pd]
    | str _ => rw [rep_str] at q; subst q; simp [eqV, PyData.eqv, pd]
    | _ => exact absurd g Bool.false_ne_true
  | int _ =>
    rw [rep_int] at p; subst p
    cases e with
    | non => rw [rep_non] at q; subst q; simp [eqV, PyData.eqv, pd]
    | bl _ => rw [rep_bl] at q; subst q; simp [eqV, PyData.eqv, pd]
    | int _ => rw [rep_int] at q; subst q; simp [eqV, PyData.eqv, pd]
    | str _ => rw [rep_str] at q; subst q; simp [eqV, PyData.eqv, pd]
    | _ => exact absurd g Bool.false_ne_true
  | str _ =>
    rw [rep_str] at p; subst p
    cases e with
    | non => rw [rep_non] at q; subst q; simp [eqV, PyData.eqv, pd]
    | bl _ => rw [rep_bl] at q; subst q; simp [eqV, PyData.eqv, pd]
    | int _ => rw [rep_int] at q; subst q; simp [eqV, PyData.eqv, pd]
    | str _ => rw [rep_str] at q; subst q; simp [eqV, PyData.eqv, pd]
    | _ => exact absurd g Bool.false_ne_true
  | _ => exact absurd f Bool.false_ne_true
theorem flats_rep : ∀ {ds : List D} {xs : List V}, ds.all flatD = true → Reps G μ M H ds xs → xs.all flatV = true
  | [], xs, f, p => by unfold Reps at p; subst p; rfl
  | d :: r, xs, f, p => by
    unfold Reps at p
    obtain ⟨x, t, rfl, p, q⟩ := p
    rw [List.all_cons, Bool.and_eq_true] at f ⊢
    exact ⟨flat_rep f.1 p, flats_rep f.2 q⟩
theorem flats_in {e : D} {w : V} (g : flatD e = true) (q : Rep G μ M H e w) : ∀ {ds : List D} {xs : List V}, ds.all flatD = true → Reps G μ M H ds xs → inV w xs = ds.any fun z => PyData.eqv (pd z) (pd e)
  | [], xs, f, p => by unfold Reps at p; subst p; rfl
  | d :: r, xs, f, p => by
    unfold Reps at p
    obtain ⟨x, t, rfl, p, pr⟩ := p
    rw [List.all_cons, Bool.and_eq_true] at f
    have ih := flats_in g q f.2 pr
    unfold inV at ih ⊢
    rw [List.any_cons, List.any_cons, ih, flat_eq f.1 g p q]
theorem any_pds (f : PyData → Bool) : ∀ ds : List D, (pds ds).any f = ds.any fun z => f (pd z)
  | [] => rfl
  | d :: r => by
    show (pd d :: pds r).any f = _
    rw [List.any_cons, List.any_cons, any_pds f r]
theorem memR_in {pins : List (Addr × Obj)} {s : Shared} {σ : St} {x y : V} {v u : Value} {a b : D} {k : Bool} {Q : VK} (eK : X.K = G.K) (hu : X.A.units + 65 < cLine) (I : Inv X pins σ H s) (rx : RelV x v) (ry : RelV y u) (r : Hrel G μ M H h) (pa : Rep G μ M H a x) (pb : Rep G μ M H b y)
    (e : memR h a b = some k) (q : Q (.bl k) H) : wpAny (model X.prog X.w) X.A (compareOp .In v u) (EP X pins σ Q) X.xe s := by
  unfold memR at e
  split at e
  · rename_i ys el
    split at e
    · rename_i c
      rw [Bool.and_eq_true] at c
      cases e
      obtain ⟨b1, ws, rfl, s2, t2⟩ := lst_rep r pb el
      have c2 : PyData.canLayAll0 (pds ys) = true := by simpa [PyData.canLay0] using shaped_can c.2
      refine op_inD hu pins s σ H _ _ v u Q I rx ry ⟨pd a, pds ys, eK ▸ dp_of pa (shaped_can c.1), eK ▸ .lst s2 (dps_of t2 c2), c.1, c.2, ?_⟩
      rw [any_pds]; exact q
    · cases e
  · split at e
    · rename_i ys et
      split at e
      · rename_i c
        rw [Bool.and_eq_true] at c
        cases e
        obtain ⟨b1, ws, rfl, s2, t2⟩ := tup_rep pb et
        refine op_in_seq pins s σ H _ _ v u Q I rx ry ⟨b1, ws, rfl, .inr (eK ▸ s2), flat_rep c.1 pa, flats_rep c.2 t2, ?_⟩
        show Q (.bl (inV x ws)) H
        rw [flats_in c.1 pa c.2 t2]; exact q
      · cases e
    · obtain ⟨o, eo, rfl⟩ := Option.map_eq_some_iff.mp e
      obtain ⟨d, w, rfl, _, g, ro⟩ := dctGet_rep r pb pa eo
      obtain rfl : u = Value.ref d := ry
      refine d_in (by omega) I g rx fun s3 I3 => ⟨.bl w.isSome, H, I3, rfl, ?_⟩
      have : w.isSome = o.isSome := by cases o <;> cases w <;> first | rfl | exact ro.elim
      rw [this]; exact q
theorem memR_notin {pins : List (Addr × Obj)} {s : Shared} {σ : St} {x y : V} {v u : Value} {a b : D} {k : Bool} {Q : VK} (eK : X.K = G.K) (hu : X.A.units + 65 < cLine) (I : Inv X pins σ H s) (rx : RelV x v) (ry : RelV y u) (r : Hrel G μ M H h) (pa : Rep G μ M H a x) (pb : Rep G μ M H b y)
    (e : memR h a b = some k) (q : Q (.bl !k) H) : wpAny (model X.prog X.w) X.A (compareOp .NotIn v u) (EP X pins σ Q) X.xe s := by
  unfold memR at e
  split at e
  · rename_i ys el
    split at e
    · rename_i c
      rw [Bool.and_eq_true] at c
      cases e
      obtain ⟨b1, ws, rfl, s2, t2⟩ := lst_rep r pb el
      have c2 : PyData.canLayAll0 (pds ys) = true := by simpa [PyData.canLay0] using shaped_can c.2
      refine op_notInD hu pins s σ H _ _ v u Q I rx ry ⟨pd a, pds ys, eK ▸ dp_of pa (shaped_can c.1), eK ▸ .lst s2 (dps_of t2 c2), c.1, c.2, ?_⟩
      rw [any_pds]; exact q
    · cases e
  · split at e
    · rename_i ys et
      split at e
      · rename_i c
        rw [Bool.and_eq_true] at c
        cases e
        obtain ⟨b1, ws, rfl, s2, t2⟩ := tup_rep pb et
        refine op_notIn_seq pins s σ H _ _ v u Q I rx ry ⟨b1, ws, rfl, .inr (eK ▸ s2), flat_rep c.1 pa, flats_rep c.2 t2, ?_⟩
        show Q (.bl (!inV x ws)) H
        rw [flats_in c.1 pa c.2 t2]; exact q
      · cases e
    · obtain ⟨o, eo, rfl⟩ := Option.map_eq_some_iff.mp e
      obtain ⟨d, w, rfl, _, g, ro⟩ := dctGet_rep r pb pa eo
      obtain rfl : u = Value.ref d := ry
      refine d_notIn (by omega) I g rx fun s3 I3 => ⟨.bl (!w.isSome), H, I3, rfl, ?_⟩
      have : w.isSome = o.isSome := by cases o <;> cases w <;> first | rfl | exact ro.elim
      rw [this]; exact q
theorem isNon_rep {d : D} {v : V} (p : Rep G μ M H d v) : decide (v = V.non) = isNonD d := by
  cases d with
  | non => rw [rep_non] at p; subst p; rfl
  | bl _ => rw [rep_bl] at p; subst p; rfl
  | int _ => rw [rep_int] at p; subst p; rfl
  | str _ => rw [rep_str] at p; subst p; rfl
  | tup _ => rw [rep_tup] at p; obtain ⟨_, _, rfl, _⟩ := p; rfl
  | plc _ => rw [rep_plc] at p; obtain ⟨_, _, rfl, _⟩ := p; rfl
  | lst _ => rw [rep_lst] at p; obtain ⟨_, _, rfl, _⟩ := p; rfl
  | scr _ => rw [rep_scr] at p; obtain ⟨_, _, rfl, _⟩ := p; rfl
  | dK _ _ => rw [rep_dK] at p; obtain ⟨_, _, rfl, _⟩ := p; rfl
  | dT _ _ => rw [rep_dT] at p; obtain ⟨_, _, rfl, _⟩ := p; rfl
  | ref _ => rw [rep_ref] at p; obtain ⟨_, rfl, _⟩ := p; rfl
  | fn _ => rw [rep_fn] at p; obtain ⟨_, _, rfl, _⟩ := p; rfl
theorem op_cmp (o : COp) (eK : X.K = G.K) (hu : X.A.units + 65 < cLine) : OpR X (compareOp o.op) (rCmp G o) := by
  intro pins s σ H x y v u Q I rx ry ⟨a, b, μ, M, h, k, r, pa, pb, e, q⟩
  cases o with
  | eq =>
    unfold cmpR at e
    simp only at e
    split at e
    · cases e
      rw [rep_str] at pa pb; subst pa pb
      exact op_eq pins s σ H _ _ v u Q I rx ry ⟨rfl, by simpa using q⟩
    obtain ⟨c1, c2, rfl⟩ := eqR_of e
    exact op_eqD (by omega) pins s σ H _ _ v u Q I rx ry ⟨_, _, eK ▸ dpH_of r pa c1, eK ▸ dpH_of r pb c2, c1, c2, q⟩
  | ne =>
    unfold cmpR at e
    simp only at e
    split at e
    · cases e
      rw [rep_str] at pa pb; subst pa pb
      exact op_ne pins s σ H _ _ v u Q I rx ry ⟨rfl, by simpa using q⟩
    obtain ⟨k', e2, rfl⟩ := Option.map_eq_some_iff.mp e
    obtain ⟨c1, c2, rfl⟩ := eqR_of e2
    exact op_neD (by omega) pins s σ H _ _ v u Q I rx ry ⟨_, _, eK ▸ dpH_of r pa c1, eK ▸ dpH_of r pb c2, c1, c2, q⟩
  | lt =>
    unfold cmpR at e
    simp only at e
    split at e
    · cases e
      rw [rep_int] at pa pb; subst pa pb
      exact op_lt pins s σ H _ _ v u Q I rx ry ⟨_, _, rfl, rfl, q⟩
    · obtain ⟨xs, e1, e⟩ := Option.bind_eq_some_iff.mp e
      obtain ⟨ys, e2, e⟩ := Option.bind_eq_some_iff.mp e
      obtain ⟨ns, e3, e⟩ := Option.bind_eq_some_iff.mp e
      obtain ⟨ms, e4, rfl⟩ := Option.map_eq_some_iff.mp e
      obtain ⟨a1, us, rfl, s1, t1⟩ := tup_rep pa e1
      obtain ⟨b1, ws, rfl, s2, t2⟩ := tup_rep pb e2
      rw [ints_rep t1 e3] at s1
      rw [ints_rep t2 e4] at s2
      exact op_ltT (by omega) pins s σ H _ _ v u Q I rx ry ⟨a1, b1, ns, ms, rfl, rfl, eK ▸ s1, eK ▸ s2, q⟩
  | le =>
    unfold cmpR at e
    simp only at e
    split at e
    · cases e
      rw [rep_int] at pa pb; subst pa pb
      exact op_le pins s σ H _ _ v u Q I rx ry ⟨_, _, rfl, rfl, q⟩
    · cases e
  | gt =>
    unfold cmpR at e
    simp only at e
    split at e
    · cases e
      rw [rep_int] at pa pb; subst pa pb
      exact op_gt pins s σ H _ _ v u Q I rx ry ⟨_, _, rfl, rfl, q⟩
    · cases e
  | ge =>
    unfold cmpR at e
    simp only at e
    split at e
    · cases e
      rw [rep_int] at pa pb; subst pa pb
      exact op_ge pins s σ H _ _ v u Q I rx ry ⟨_, _, rfl, rfl, q⟩
    · cases e
  | isN =>
    unfold cmpR at e
    simp only at e
    split at e
    · cases e
      rw [rep_non] at pb; subst pb
      refine op_isN pins s σ H _ _ v u Q I rx ry ⟨rfl, ?_⟩
      rw [isNon_rep pa]; exact q
    · cases e
  | notN =>
    unfold cmpR at e
    simp only at e
    split at e
    · cases e
      rw [rep_non] at pb; subst pb
      refine op_notN pins s σ H _ _ v u Q I rx ry ⟨rfl, ?_⟩
      rw [isNon_rep pa]; exact q
    · cases e
  | isB =>
    unfold cmpR at e
    simp only at e
    split at e
    · cases e
      rw [rep_bl] at pa pb; subst pa pb
      exact op_isBl pins s σ H _ _ v u Q I rx ry ⟨_, _, rfl, rfl, q⟩
    · cases e
  | notB =>
    unfold cmpR at e
    simp only at e
    split at e
    · cases e
      rw [rep_bl] at pa pb; subst pa pb
      exact op_notBl pins s σ H _ _ v u Q I rx ry ⟨_, _, rfl, rfl, q⟩
    · cases e
  | mem => exact memR_in eK hu I rx ry r pa pb e q
  | nmem =>
    obtain ⟨k', e2, rfl⟩ := Option.map_eq_some_iff.mp (show (memR h a b).map not = some k from e)
    exact memR_notin eK hu I rx ry r pa pb e2 q

/-! ### truth -/
theorem isEmpty_reps {ds : List D} {xs : List V} (q : Reps G μ M H ds xs) : xs.isEmpty = ds.isEmpty := by
  have := q.length
  cases ds <;> cases xs <;> first | rfl | simp at this
theorem true_rep (r : Hrel G μ M H h) {d : D} {v : V} {k : Bool} (p : Rep G μ M H d v) (e : trueR h d = some k) : TruV G.K v H k := by
  unfold trueR at e
  split at e
  · cases e; rw [rep_non] at p; subst p; rfl
  · cases e; rw [rep_bl] at p; subst p; rfl
  · cases e; rw [rep_int] at p; subst p; rfl
  · split at e
    · rename_i c; cases e; rw [rep_str] at p; subst p; exact ⟨c, rfl⟩
    · cases e
  · cases e; rw [rep_tup] at p; obtain ⟨a, xs, rfl, s, q⟩ := p; exact .inr (.inl ⟨xs, s, by rw [isEmpty_reps q]⟩)
  · cases e; rw [rep_plc] at p; obtain ⟨a, xs, rfl, s, q⟩ := p; exact .inr (.inl ⟨xs, .of s, by rw [isEmpty_reps q]⟩)
  · cases e; rw [rep_lst] at p; obtain ⟨a, xs, rfl, s, _, q⟩ := p; exact .inl ⟨xs, .of s, by rw [isEmpty_reps q]⟩
  · cases e; rw [rep_scr] at p; obtain ⟨a, xs, rfl, s, q⟩ := p
    refine .inl ⟨xs, ?_, by rw [isEmpty_reps q]⟩
    rcases s with ⟨o, s⟩ | s
    · exact .inl (.inr ⟨o, s⟩)
    · exact s H
  · split at e
    · rename_i z; cases e
      obtain ⟨a, rfl, _, xs, s, q⟩ := r.at_ p z (by intro z; cases z)
      exact .inl ⟨xs, .of s, by rw [isEmpty_reps q]⟩
    · rename_i z; cases e
      obtain ⟨a, rfl, _, kvs, s, ek, q⟩ := r.at_ p z (by intro z; cases z)
      refine .inr (.inr ⟨kvs, s, ?_⟩)
      subst ek
      cases kvs <;> rfl
    · cases e
  · cases e

/-! ### isinstance -/
def Ty.nm : Ty → String
  | .int => "int" | .bool => "bool" | .str => "str" | .tuple => "tuple" | .list => "list" | .dict => "dict"
theorem kit_all : ∀ a b : Ty, kitB a.nm b.nm = some (a == b || (a == .bool && b == .int)) := by
  intro a b; cases a <;> cases b <;> decide +kernel
theorem kit_none (b : Ty) : kitB "NoneType" b.nm = some false := by cases b <;> decide +kernel
theorem isi_rep (r : Hrel G μ M H h) {d : D} {v : V} {t : Ty} {k : Bool} (p : Rep G μ M H d v) (e : isiR h d t = some k) : ∃ T, TyX G.K H v (.type T) ∧ kitB T t.nm = some k := by
  unfold isiR at e
  split at e
  · cases e; rw [rep_non] at p; subst p; exact ⟨_, .base .non, kit_none t⟩
  · cases e; rw [rep_bl] at p; subst p
    refine ⟨_, .base (.bl _), ?_⟩
    have := kit_all .bool t
    rw [show (Ty.bool).nm = "bool" from rfl] at this
    rw [this]; cases t <;> rfl
  · cases e; rw [rep_int] at p; subst p
    refine ⟨_, .base (.int _), ?_⟩
    have := kit_all .int t
    rw [show (Ty.int).nm = "int" from rfl] at this
    rw [this]; cases t <;> rfl
  · cases e; rw [rep_str] at p; subst p
    refine ⟨_, .base (.str _), ?_⟩
    have := kit_all .str t
    rw [show (Ty.str).nm = "str" from rfl] at this
    rw [this]; cases t <;> rfl
  · cases e; rw [rep_tup] at p; obtain ⟨a, xs, rfl, s, q⟩ := p
    have e2 : kitB "tuple" t.nm = some (t == .tuple) := by
      have := kit_all .tuple t
      rw [show (Ty.tuple).nm = "tuple" from rfl] at this
      rw [this]; cases t <;> rfl
    rcases s with (s | ⟨o, s⟩) | ⟨o, its, n, hk, hc, _⟩
    · exact ⟨_, .base (.tup s), e2⟩
    · exact ⟨_, .fTuple s, e2⟩
    · exact ⟨_, .kTuple hk hc, e2⟩
  · cases e; rw [rep_plc] at p; obtain ⟨a, xs, rfl, s, q⟩ := p
    refine ⟨_, .base (.tup s), ?_⟩
    have := kit_all .tuple t
    rw [show (Ty.tuple).nm = "tuple" from rfl] at this
    rw [this]; cases t <;> rfl
  · cases e; rw [rep_lst] at p; obtain ⟨a, xs, rfl, s, _, q⟩ := p
    refine ⟨_, .base (.lst s), ?_⟩
    have := kit_all .list t
    rw [show (Ty.list).nm = "list" from rfl] at this
    rw [this]; cases t <;> rfl
  · cases e; rw [rep_scr] at p; obtain ⟨a, xs, rfl, s, q⟩ := p
    have e2 : kitB "list" t.nm = some (t == .list) := by
      have := kit_all .list t
      rw [show (Ty.list).nm = "list" from rfl] at this
      rw [this]; cases t <;> rfl
    rcases s with ⟨o, s⟩ | s
    · exact ⟨_, .base (.frz s), e2⟩
    · rcases s (fun _ => none) with (s | ⟨o, s⟩) | ⟨o, its, n, hk, hc, _⟩
      · cases s
      · cases s
      · exact ⟨_, .kList hk hc, e2⟩
  · cases e; rw [rep_dK] at p; obtain ⟨a, xs, rfl, s, _⟩ := p
    have e2 : kitB "dict" t.nm = some (t == .dict) := by
      have := kit_all .dict t
      rw [show (Ty.dict).nm = "dict" from rfl] at this
      rw [this]; cases t <;> rfl
    rcases s with s | ⟨o, s⟩
    · exact ⟨_, .base (.dK s), e2⟩
    · exact ⟨_, .fDict s, e2⟩
  · cases e
  · split at e
    · rename_i z; cases e
      obtain ⟨a, rfl, _, xs, s, q⟩ := r.at_ p z (by intro z; cases z)
      refine ⟨_, .base (.lst s), ?_⟩
      have := kit_all .list t
      rw [show (Ty.list).nm = "list" from rfl] at this
      rw [this]; cases t <;> rfl
    · rename_i z; cases e
      obtain ⟨a, rfl, _, xs, s, q⟩ := r.at_ p z (by intro z; cases z)
      refine ⟨_, .base (.dK s), ?_⟩
      have := kit_all .dict t
      rw [show (Ty.dict).nm = "dict" from rfl] at this
      rw [this]; cases t <;> rfl
    · rename_i z; cases e
      obtain ⟨a, rfl, _, xs, s, q⟩ := r.at_ p z (by intro z; cases z)
      refine ⟨_, .base (.dT s), ?_⟩
      have := kit_all .dict t
      rw [show (Ty.dict).nm = "dict" from rfl] at this
      rw [this]; cases t <;> rfl
    · cases e
  · cases e
end
end PyI

set_option Elab.async false
set_option linter.all false
set_option maxRecDepth 100000
/-! PyE: the tree held against the program's own syntax; readings. -/
namespace PyI
open PySem L2

def Bi.nm : Bi → Str
  | .len => "len" | .abs => "abs" | .int => "int" | .list => "list" | .listM => "list" | .tuple => "tuple" | .all => "all" | .any => "any"
  | .max => "max" | .min => "min" | .repr => "repr" | .sorted => "sorted" | .str => "str"
def Mt.nm : Mt → Str
  | .get2 => "get" | .append => "append" | .pop => "pop" | .popAt => "pop" | .update => "update"
def Ty.nmS (t : Ty) : Str := Str.ofString t.nm

def visB (sc : Scope) (x : Str) : Bool := (match sc.names.lookup x with | some .local => true | some .cell => true | some .free => true | _ => false)
def locB (sc : Scope) (fo : Str → Bool) (x : Str) : Bool := (match sc.names.lookup x with | some .local => true | some .cell => fo x | _ => false)
def varB (N : List Str) (sc : Scope) (i : Nat) (x : Str) : Bool := decide (N[i]? = some x) && visB sc x && !(x == ("__debug__" : Str)) && !(x == ("__classdict__" : Str))
def glB (sc : Scope) (x : Str) : Bool := decide (sc.names.lookup x = some .globalImplicit) && !(x == ("__debug__" : Str)) && !(x == ("__name__" : Str))
def ownOf (N : List Str) (own : List Nat) : List (Str × Nat) := own.map fun i => (N.getD i Str.empty, i)
def exprNil : List Expr → Bool
  | [] => true
  | _ => false
/-- not and, or, not, a comparison, an if-expression -/
def plainB : Expr → Bool
  | .UnaryOp .Not _ _ => false
  | .BoolOp _ _ _ => false
  | .IfExp _ _ _ _ => false
  | .Compare _ _ _ _ => false
  | _ => true

def mtA : Mt → Es → Bool
  | .append, .cons _ .nil => true
  | .pop, .nil => true
  | .get2, .cons _ (.cons _ .nil) => true
  | _, _ => false
section
variable (N : List Str)
mutual
/-- a target; own: its names are among these (a comprehension's) -/
def ckG (sc : Scope) (fo : Str → Bool) (own : List Nat) : Tg → Expr → Bool
  | .n i, t => match t with | .Name x _ => decide (N[i]? = some x) && locB sc fo x && own.contains i | _ => false
  | .t ts, t => match t with | .Tuple xs _ _ => ckGs sc fo own ts xs | _ => false
def ckGs (sc : Scope) (fo : Str → Bool) (own : List Nat) : Tgs → List Expr → Bool
  | .nil, a => match a with | [] => true | _ => false
  | .cons t ts, a => match a with | x :: xs => ckG sc fo own t x && ckGs sc fo own ts xs | _ => false
end
end
section
variable (T : Tab) (N : List Str)
mutual
def ckE (sc : Scope) (fo : Str → Bool) : E → Expr → Bool
  | .non, a => match a with | .Constant .none _ _ => true | _ => false
  | .bl b, a => match a with | .Constant (.bool c) _ _ => b == c | _ => false
  | .int i, a => match a with | .Constant (.int j) _ _ => decide (i = j) | _ => false
  | .str x, a => match a with | .Constant (.str y) _ _ => decide (x = y) | _ => false
  | .v i, a => match a with | .Name x _ => varB N sc i x | _ => false
  | .gc i, a => match a with | .Name x _ => glB sc x && (match T.cns[i]? with | some p => decide (p.1 = x) | none => false) | _ => false
  | .gf i, a => match a with | .Name x _ => glB sc x && (match T.fns[i]? with | some p => decide (p.name = x) | none => false) | _ => false
  | .bin o a b, e => match e with | .BinOp l op r _ => decide (op = o.op) && ckE sc fo a l && ckE sc fo b r | _ => false
  | .neg a, e => match e with | .UnaryOp .USub l _ => ckE sc fo a l | _ => false
  | .nt a, e => match e with | .UnaryOp .Not l _ => ckE sc fo a l | _ => false
  | .cmp o a b, e => match e with | .Compare l [op] [r] _ => decide (op = o.op) && ckE sc fo a l && ckE sc fo b r | _ => false
  | .chn o p a b c, e => match e with | .Compare l [op, op'] [m, r] _ => decide (op = o.op) && decide (op' = p.op) && ckE sc fo a l && ckE sc fo b m && ckE sc fo c r | _ => false
  | .and a b, e => match e with
    | .BoolOp .And [x, y] _ => ckE sc fo a x && ckE sc fo b y
    | .BoolOp .And (x :: y :: z :: r) pos => ckE sc fo a x && ckE sc fo b (.BoolOp .And (y :: z :: r) pos)
    | _ => false
  | .or a b, e => match e with
    | .BoolOp .Or [x, y] _ => ckE sc fo a x && ckE sc fo b y
    | .BoolOp .Or (x :: y :: z :: r) pos => ckE sc fo a x && ckE sc fo b (.BoolOp .Or (y :: z :: r) pos)
    | _ => false
  | .ite c a b, e => match e with | .IfExp t x y _ => ckE sc fo c t && ckE sc fo a x && ckE sc fo b y | _ => false
  | .tup es, e => match e with | .Tuple xs _ _ => ckEs sc fo es xs | _ => false
  | .tupK es, e => match e with | .Tuple xs _ _ => ckEs sc fo es xs | _ => false
  | .lst es, e => match e with | .List xs _ => ckEs sc fo es xs | _ => false
  | .lstM es, e => match e with | .List xs _ => ckEs sc fo es xs | _ => false
  | .dnewK, e => match e with | .Dict [] [] _ => true | _ => false
  | .dnewT, e => match e with | .Dict [] [] _ => true | _ => false
  | .sub a i, e => match e with | .Subscript l r _ => ckE sc fo a l && ckE sc fo i r | _ => false
  | .slc a lo hi, e => match e with | .Subscript l (.Slice x y none _) _ => ckE sc fo a l && ckO sc fo lo x && ckO sc fo hi y | _ => false
  | .call f es, e => match e with | .Call (.Name x _) (y :: ys) [] _ => glB sc x && (match T.fns[f]? with | some p => decide (p.name = x) | none => false) && ckEs sc fo es (y :: ys) | _ => false
  | .callP f es, e => match e with | .Call (.Name x _) (y :: ys) [] _ => glB sc x && (match T.fns[f]? with | some p => decide (p.name = x) | none => false) && ckEs sc fo es (y :: ys) | _ => false
  | .bi b a, e => match e with | .Call (.Name x _) [y] [] _ => glB sc x && decide (x = b.nm) && ckE sc fo a y | _ => false
  | .isi a t, e => match e with | .Call (.Name x _) [y, .Name z _] [] _ => glB sc x && decide (x = "isinstance") && glB sc z && decide (z = t.nmS) && ckE sc fo a y | _ => false
  | .mt m o es, e => match e with | .Call (.Attribute l a apos) xs [] pos => decide (a = m.nm) && (apos.endLine == pos.line) && ckE sc fo o l && ckEs sc fo es xs && mtA m es | _ => false
  | .lc _ own tg it c e, a => match a with
    | .ListComp el [⟨t, i, ifs, k⟩] scope _ => decide (k = 0) && blkC N sc scope (ownOf N own) && ckI sc fo it t i && ckG N (relS scope sc) (fun x => scope.names.lookup x == some .cell) own tg t &&
        ckC (relS scope sc) (fun x => scope.names.lookup x == some .cell) c ifs && ckE (relS scope sc) (fun x => scope.names.lookup x == some .cell) e el
    | _ => false
  | .lc2 _ own own2 tg it tg2 it2 c e, a => match a with
    | .ListComp el [⟨t, i, [], k⟩, ⟨t2, i2, ifs, k2⟩] scope _ => decide (k = 0) && decide (k2 = 0) && blkC N sc scope (ownOf N own) && ckI sc fo it t i && ckG N (relS scope sc) (fun x => scope.names.lookup x == some .cell) own tg t &&
        ckI (relS scope sc) (fun x => scope.names.lookup x == some .cell) it2 t2 i2 && own2.all (fun i => own.contains i) && ckG N (relS scope sc) (fun x => scope.names.lookup x == some .cell) own2 tg2 t2 &&
        ckC (relS scope sc) (fun x => scope.names.lookup x == some .cell) c ifs && ckE (relS scope sc) (fun x => scope.names.lookup x == some .cell) e el
    | _ => false
  | .frz a, e => plainB e && ckE sc fo a e
def ckEs (sc : Scope) (fo : Str → Bool) : Es → List Expr → Bool
  | .nil, a => match a with | [] => true | _ => false
  | .cons e es, a => match a with | x :: xs => ckE sc fo e x && ckEs sc fo es xs | _ => false
/-- a slice's part -/
def ckO (sc : Scope) (fo : Str → Bool) : Es → Option Expr → Bool
  | .nil, a => match a with | none => true | _ => false
  | .cons e es, a => match a with | some x => ckE sc fo e x && (match es with | .nil => true | _ => false) | _ => false
/-- a clause's tests -/
def ckC (sc : Scope) (fo : Str → Bool) : Es → List Expr → Bool
  | .nil, a => match a with | [] => true | _ => false
  | .cons e es, a => match a with | [x] => ckE sc fo e x && (match es with | .nil => true | _ => false) | _ => false
def ckI (sc : Scope) (fo : Str → Bool) : It → Expr → Expr → Bool
  | .seq e, _, i => ckE sc fo e i
  | .rng1 e, _, i => match i with | .Call (.Name x _) [a] [] _ => glB sc x && decide (x = "range") && ckE sc fo e a | _ => false
  | .rng2 e e2, _, i => match i with | .Call (.Name x _) [a, b] [] _ => glB sc x && decide (x = "range") && ckE sc fo e a && ckE sc fo e2 b | _ => false
  | .keys _, _, _ => false
  | .enum e, t, i => match i, t with | .Call (.Name x _) [a] [] _, .Tuple _ _ _ => glB sc x && decide (x = "enumerate") && ckE sc fo e a | _, _ => false
  | .zip e e2, t, i => match i, t with | .Call (.Name x _) [a, b] [] _, .Tuple _ _ _ => glB sc x && decide (x = "zip") && ckE sc fo e a && ckE sc fo e2 b | _, _ => false
end
end

/-! ### what a checked tree is not -/
section
variable {T : Tab} {N : List Str} {sc : Scope} {fo : Str → Bool}
theorem ck_starred {v : Expr} {p : Pos} : ∀ e : E, ckE T N sc fo e (.Starred v p) = true → False
  | .frz a, h => by
    have h' : (plainB (.Starred v p) && ckE T N sc fo a (.Starred v p)) = true := h
    rw [Bool.and_eq_true] at h'
    exact ck_starred a h'.2
  | .non, h | .bl _, h | .int _, h | .str _, h | .v _, h | .gc _, h | .gf _, h | .bin _ _ _, h | .neg _, h | .nt _, h | .cmp _ _ _, h | .chn _ _ _ _ _, h | .and _ _, h | .or _ _, h | .ite _ _ _, h
  | .tup _, h | .tupK _, h | .lst _, h | .lstM _, h | .dnewK, h | .dnewT, h | .sub _ _, h | .slc _ _ _, h | .call _ _, h | .callP _ _, h | .bi _ _, h | .isi _ _, h | .mt _ _ _, h | .lc _ _ _ _ _ _, h | .lc2 _ _ _ _ _ _ _ _ _, h => Bool.noConfusion (show false = true from h)
theorem ck_set {v : List Expr} {k : Nat} {p : Pos} : ∀ e : E, ckE T N sc fo e (.Set v k p) = true → False
  | .frz a, h => by
    have h' : (plainB (.Set v k p) && ckE T N sc fo a (.Set v k p)) = true := h
    rw [Bool.and_eq_true] at h'
    exact ck_set a h'.2
  | .non, h | .bl _, h | .int _, h | .str _, h | .v _, h | .gc _, h | .gf _, h | .bin _ _ _, h | .neg _, h | .nt _, h | .cmp _ _ _, h | .chn _ _ _ _ _, h | .and _ _, h | .or _ _, h | .ite _ _ _, h
  | .tup _, h | .tupK _, h | .lst _, h | .lstM _, h | .dnewK, h | .dnewT, h | .sub _ _, h | .slc _ _ _, h | .call _ _, h | .callP _ _, h | .bi _ _, h | .isi _ _, h | .mt _ _ _, h | .lc _ _ _ _ _ _, h | .lc2 _ _ _ _ _ _ _ _ _, h => Bool.noConfusion (show false = true from h)
theorem ck_call0 {x : Str} {q p : Pos} : ∀ e : E, ckE T N sc fo e (.Call (.Name x q) [] [] p) = true → False
  | .frz a, h => by
    have h' : (plainB (.Call (.Name x q) [] [] p) && ckE T N sc fo a (.Call (.Name x q) [] [] p)) = true := h
    rw [Bool.and_eq_true] at h'
    exact ck_call0 a h'.2
  | .non, h | .bl _, h | .int _, h | .str _, h | .v _, h | .gc _, h | .gf _, h | .bin _ _ _, h | .neg _, h | .nt _, h | .cmp _ _ _, h | .chn _ _ _ _ _, h | .and _ _, h | .or _ _, h | .ite _ _ _, h
  | .tup _, h | .tupK _, h | .lst _, h | .lstM _, h | .dnewK, h | .dnewT, h | .sub _ _, h | .slc _ _ _, h | .call _ _, h | .callP _ _, h | .bi _ _, h | .isi _ _, h | .mt _ _ _, h | .lc _ _ _ _ _ _, h | .lc2 _ _ _ _ _ _ _ _ _, h => Bool.noConfusion (show false = true from h)
theorem ck_slice {a b c : Option Expr} {p : Pos} : ∀ e : E, ckE T N sc fo e (.Slice a b c p) = true → False
  | .frz e, h => by
    have h' : (plainB (.Slice a b c p) && ckE T N sc fo e (.Slice a b c p)) = true := h
    rw [Bool.and_eq_true] at h'
    exact ck_slice e h'.2
  | .non, h | .bl _, h | .int _, h | .str _, h | .v _, h | .gc _, h | .gf _, h | .bin _ _ _, h | .neg _, h | .nt _, h | .cmp _ _ _, h | .chn _ _ _ _ _, h | .and _ _, h | .or _ _, h | .ite _ _ _, h
  | .tup _, h | .tupK _, h | .lst _, h | .lstM _, h | .dnewK, h | .dnewT, h | .sub _ _, h | .slc _ _ _, h | .call _ _, h | .callP _ _, h | .bi _ _, h | .isi _ _, h | .mt _ _ _, h | .lc _ _ _ _ _ _, h | .lc2 _ _ _ _ _ _ _ _ _, h => Bool.noConfusion (show false = true from h)
theorem ck_setcomp {a : Expr} {g : List Comprehension} {s : Scope} {p : Pos} : ∀ e : E, ckE T N sc fo e (.SetComp a g s p) = true → False
  | .frz e, h => by
    have h' : (plainB (.SetComp a g s p) && ckE T N sc fo e (.SetComp a g s p)) = true := h
    rw [Bool.and_eq_true] at h'
    exact ck_setcomp e h'.2
  | .non, h | .bl _, h | .int _, h | .str _, h | .v _, h | .gc _, h | .gf _, h | .bin _ _ _, h | .neg _, h | .nt _, h | .cmp _ _ _, h | .chn _ _ _ _ _, h | .and _ _, h | .or _ _, h | .ite _ _ _, h
  | .tup _, h | .tupK _, h | .lst _, h | .lstM _, h | .dnewK, h | .dnewT, h | .sub _ _, h | .slc _ _ _, h | .call _ _, h | .callP _ _, h | .bi _ _, h | .isi _ _, h | .mt _ _ _, h | .lc _ _ _ _ _ _, h | .lc2 _ _ _ _ _ _ _ _ _, h => Bool.noConfusion (show false = true from h)
theorem ck_dictcomp {a b : Expr} {g : List Comprehension} {s : Scope} {p : Pos} : ∀ e : E, ckE T N sc fo e (.DictComp a b g s p) = true → False
  | .frz e, h => by
    have h' : (plainB (.DictComp a b g s p) && ckE T N sc fo e (.DictComp a b g s p)) = true := h
    rw [Bool.and_eq_true] at h'
    exact ck_dictcomp e h'.2
  | .non, h | .bl _, h | .int _, h | .str _, h | .v _, h | .gc _, h | .gf _, h | .bin _ _ _, h | .neg _, h | .nt _, h | .cmp _ _ _, h | .chn _ _ _ _ _, h | .and _ _, h | .or _ _, h | .ite _ _ _, h
  | .tup _, h | .tupK _, h | .lst _, h | .lstM _, h | .dnewK, h | .dnewT, h | .sub _ _, h | .slc _ _ _, h | .call _ _, h | .callP _ _, h | .bi _ _, h | .isi _ _, h | .mt _ _ _, h | .lc _ _ _ _ _ _, h | .lc2 _ _ _ _ _ _ _ _ _, h => Bool.noConfusion (show false = true from h)
theorem ck_star {e : E} {a : Expr} (h : ckE T N sc fo e a = true) (es : List Expr) (env : Env) : starEach (a :: es) env = (false, eval a env) :: starEach es env := by
  cases a <;> first | rfl | exact (ck_starred e h).elim
theorem ck_base {e : E} {a : Expr} (h : ckE T N sc fo e a = true) (x : Str) (env : Env) (w : Sem Value) : attributeBase a x env w = w := by
  cases a with
  | Call f xs ks p =>
    cases f with
    | Name id q =>
      cases xs with
      | nil =>
        cases ks with
        | nil => exact (ck_call0 e h).elim
        | cons _ _ => rfl
      | cons _ _ => rfl
    | _ => rfl
  | _ => rfl
theorem ck_folded {e : E} {a : Expr} (h : ckE T N sc fo e a = true) (env : Env) (x : Value) : foldedSetIterable a env x = pure x := by
  cases a <;> first | rfl | exact (ck_set e h).elim
theorem ck_ix {e : E} {a : Expr} (h : ckE T N sc fo e a = true) (o i : Value) : subscripted a false o i = operate [o, i] (getItem o i) := by
  cases a <;> first | rfl | exact (ck_slice e h).elim
theorem ck_mark {e : E} {a : Expr} (h : ckE T N sc fo e a = true) (op : CmpOp) : behindInMarks op a = false := by
  cases a <;> first | rfl | exact (ck_set e h).elim
/-- no comprehension -/
def lcB : Expr → Bool
  | .ListComp _ _ _ _ => true
  | _ => false
theorem ck_swap {e : E} {a : Expr} (h : ckE T N sc fo e a = true) (n : lcB a = false) (t : Option Expr) (l : Nat) (env : Env) : swapsWith a t l env = pure false := by
  cases a <;> first | rfl | exact (ck_setcomp e h).elim | exact (ck_dictcomp e h).elim | exact Bool.noConfusion n
theorem plain_true {a : Expr} (h : plainB a = true) (env : Env) (whole : Sem Value) : isTrue a env whole = (do let v ← whole; standAt a.pos; holding [v] (truthy v)) := by
  cases a with
  | UnaryOp op x p => cases op <;> first | rfl | exact Bool.noConfusion h
  | BoolOp _ _ _ => exact Bool.noConfusion h
  | IfExp _ _ _ _ => exact Bool.noConfusion h
  | Compare _ _ _ _ => exact Bool.noConfusion h
  | _ => rfl
theorem varB_vis {i : Nat} {x : Str} (h : varB N sc i x = true) : N[i]? = some x ∧ Vis sc x ∧ (x == ("__debug__" : Str)) = false ∧ (x == ("__classdict__" : Str)) = false := by
  unfold varB at h
  simp only [Bool.and_eq_true, Bool.not_eq_true', decide_eq_true_eq] at h
  obtain ⟨⟨⟨h1, h2⟩, h3⟩, h4⟩ := h
  refine ⟨h1, ?_, h3, h4⟩
  unfold visB at h2
  split at h2
  · exact .inl (by assumption)
  · exact .inr (.inl (by assumption))
  · exact .inr (.inr (by assumption))
  · cases h2
theorem glB_gl {x : Str} (h : glB sc x = true) : sc.names.lookup x = some .globalImplicit ∧ (x == ("__debug__" : Str)) = false ∧ x ≠ "__name__" := by
  unfold glB at h
  simp only [Bool.and_eq_true, Bool.not_eq_true', decide_eq_true_eq] at h
  refine ⟨h.1.1, h.1.2, fun e => ?_⟩
  have := h.2
  rw [e] at this
  simp at this
end
end PyI

set_option Elab.async false
set_option linter.all false
set_option maxRecDepth 100000
/-! PyE2: what a def promises where no guard of a repr stands around it. -/
namespace PyI
open PySem PySem.Spec PyProof.Rows L2

/-- as FnOk, around a stack without guards -/
structure FnG (P : Program) (w : World) (K : PySem.W.Frag) (mg : Str → Option Value) (base : Heap) (CX : CXT)
    (k : Nat) (f : Addr) (fd : FuncData) (ps : List Str) (sp : Sp) : Prop where
  len : ∀ xs H Q E, sp xs H Q E → xs.length = ps.length
  run : ∀ (A : Around) (fr : List Env) (s : Shared) (H : Hp) (gv : Args) (us : List Value) (xs : List V) (Q : VK) (E : XK),
    Room k A → A.guards = some [] → Env0 P w K mg base A fr s H → BindsTo s fd gv (ps.zip us) → Vals xs us → sp xs H Q E →
      codeAny (model P w) A (.call (.ref f) gv) (CR CX fr P w H s Q E) s

/-- a call of such a def -/
theorem pe_callG {X : Cx} {CX : CXT} {k : Nat} {f : Addr} {fd : FuncData} {ps : List Str} {sp : Sp} {E : L2.St → XK} {x : Str} {p pos : Pos} {e : Expr} {es : List Expr} {t : TA}
    (F : FnG X.prog X.w X.K X.mg X.base CX k f fd ps sp) (room : Room k X.A) (free : X.A.guards = some []) (gl : Gl X x) (at_ : X.mg x = some (.ref f)) (kept : PySem.W.keepIn X.K (.ref f) = true)
    (bd : Binds X.K fd ps []) (out : ∀ σ, PassesAt CX X σ (E σ)) (args : PA X (e :: es) t) (nd : (x == ("__debug__" : Str)) = false)
    (st : starEach (e :: es) X.env = (false, eval e X.env) :: starEach es X.env) (pl : (backTo pos (starEach es X.env)).any (·.1) = false) :
    PE X (.Call (.Name x p) (e :: es) [] pos) (tCallS sp E t) := by
  constructor
  intro pins s σ H Q I h
  apply wpAny_Call_Name_kw
  refine ld_glob I gl at_ ?_ nd
  refine PySem.W.callWith_K (h₀ := X.base) I.ok.mod.kin kept ?_ st pl
  refine thn (args.run pos pins s σ H _ I h) ?_
  rintro us s1 ⟨xs, H1, I1, r, q⟩
  refine ⟨I1.kIn, ?_⟩
  have n1 : (us ++ []).length = ps.length := by
    rw [List.append_nil, ← r.length]
    exact F.len _ _ _ _ q
  have b1 := bd s1 us I1.kIn n1
  rw [List.append_nil] at b1
  apply wpAny_call
  refine codeAny_mono (F.run X.A X.stack s1 H1 ⟨us, []⟩ us xs Q (E σ) room free I1.env0 b1 r q) ?_
  intro z s2 c
  match z, c with
  | .error z, c => exact out σ pins H1 s1 z s2 I1 c
  | .ok (.ret u), c => exact I1.after c
  | .ok .next, c => exact c.elim
  | .ok .brk, c => exact c.elim
  | .ok .cont, c => exact c.elim

/-- such a def by its body -/
theorem fnG_of {CX : CXT} {P : Program} {w : World} {K : PySem.W.Frag} {mg : Str → Option Value} {base : Heap} {k : Nat} {f : Addr} {x qual : Str} {params : Arguments} {body : List Stmt} {scope : Scope}
    {dvs : List V} {kws : List (Str × V)} {fd : FuncData} {N ps : List Str} {sp : Sp} (F : FunD K x qual params body scope dvs kws f fd) (S : FnScope N ps scope) (len : ∀ xs H Q E, sp xs H Q E → xs.length = ps.length)
    (inner : ∀ (cd : Value) (A : Around) (fr : List Env) (s : Shared) (H : Hp) (xs : List V) (Q : VK) (E : XK), Room k (A.deeper (envOfC qual scope s.heap.objs.size f cd)) → A.guards = some [] → sp xs H Q E →
      ∃ t, PSs (cxOf CX P w K mg base N qual scope f cd A fr s H E) body t ∧ t { nx := fun _ H' => Q .non H', rt := Q } (L2.start N xs) H) : FnG P w K mg base CX (k + 1) f fd ps sp := by
  obtain ⟨oc, od, dV, kV, doc, pm, an, cd, ct, osl, rfl, lk, hcd, _, _⟩ := F.ex
  refine ⟨len, ?_⟩
  intro A fr s H gv us xs Q E room free e0 bd r h
  have n1 := len _ _ _ _ h
  have inK : K.In s.heap := e0.mod.kin.keeps fun b o e => (e0.bs b o e).1
  have noL : s.heap.NoLimit := e0.mod.nolimit.keeps fun b o e => (e0.bs b o e).1
  have kinds : ∀ y ∈ ps.zip us, scope.names.lookup y.1 = some .local ∨ (scope.names.lookup y.1 = some .cell ∧ ((cellsFrom (s.heap.objs.size + 1) scope.names []).lookup y.1).isSome = true) := by
    rintro ⟨y, v⟩ hy
    rcases S.par y (List.of_mem_zip hy).1 with z | z
    · exact .inl z
    · exact .inr ⟨z, PySem.W.cellsFrom_some _ _ _ (.inl z)⟩
  refine codeAny_call_function room.depth (inK _ _ lk) rfl S.co S.gen rfl (PySem.W.codeRec_of inK hcd) (bd _ _ _ _ ?_)
  refine wpAny_newFunctionEnv_cells S.kind kinds ?_
  rintro env rfl s1 c1
  refine ⟨noL.keeps c1.toInCall.keep, codeAny_func ?_⟩
  obtain ⟨t, pt, qt⟩ := inner cd A fr s H xs Q E (room.deeper _) free h
  have I : Inv (cxOf CX P w K mg base N qual scope f cd A fr s H E) [] (L2.start N xs) H s1 := inv_start S room.hd e0 n1 r c1
  refine wpAny_mono (pt.run [] s1 (L2.start N xs) H _ I qt) ?_ (fun _ _ z => z)
  intro fl s2 c
  match fl, c with
  | .ret u, ⟨v, _, H', J, rv, q⟩ => exact ⟨v, H', J.os, J.bare, J.base, J.hok, rv, q⟩
  | .next, ⟨_, H', J, q⟩ => exact ⟨V.non, H', J.os, J.bare, J.base, J.hok, rfl, q⟩
  | .brk, ⟨_, _, _, q⟩ => exact q.elim
  | .cont, ⟨_, _, _, q⟩ => exact q.elim

/-- the law's def is called, the script its argument -/
theorem law_callG {P : Program} {w : World} {K : PySem.W.Frag} {mg mb : Str → Option Value} {CX : CXT} {k : Nat} {fa a : Addr} {fd : FuncData} {x : Str} {sp : Sp} {s1 : Shared} {vs : List Value} {ns : List Int}
    (inK : K.In s1.heap) (nsM : s1.heap.Ns mainGlobals mg) (nsB : s1.heap.Ns builtinsNs mb) (boot : ∀ x : Str, x ≠ "__name__" → mb x = bootBuiltins x) (noL : s1.heap.NoLimit) (gens : s1.gens = #[])
    (obj : s1.heap.get? a = some { cls := .type "list", data := .seq vs.toArray }) (isInts : IntsAre vs ns) (few : ns.length ≤ sizeLine) (room : Room k callerA)
    (F : ∀ base : Heap, K.In base → base.Ns mainGlobals mg → FnG P w K mg base CX k fa fd [x] sp) (bd : ∀ (s : Shared) (u : Value), BindsTo s fd ⟨[u], []⟩ [(x, u)])
    (law : ∀ H : Hp, Only H → SqL K H a (ns.map V.int) → sp [.ref a] H (fun v _ => v = .bl true) fun _ _ _ => False)
    (noX : ∀ H e s', CX [] H s1 (fun _ _ _ => False) e s' → False) :
    codeAny (model P w) callerA (.call (.ref fa) ⟨[.ref a], []⟩) (fun r s' => r = .ok (.ret (.bool true)) ∧ OldK s1.heap s'.heap ∧ s'.os = s1.os ∧ AllBare s'.gens) s1 := by
  have rv := vals_ints isInts
  have n1 := isInts.length
  have main : ∀ H : Hp, Only H → SqL K H a (ns.map V.int) → HOk P w H s1.heap → (∀ b, H b ≠ none → b = a) → (H a ≠ none → K.lookup a = none) →
      codeAny (model P w) callerA (.call (.ref fa) ⟨[.ref a], []⟩) (fun r s' => r = .ok (.ret (.bool true)) ∧ OldK s1.heap s'.heap ∧ s'.os = s1.os ∧ AllBare s'.gens) s1 := by
    intro H only sq ok atA freeK
    have hid : ∀ {b : Addr} {o : Obj}, s1.heap.get? b = some o → H b = none → (hidT s1.heap H).get? b = some o := fun e z => hidT_get e z
    have same : ∀ {b : Addr}, H b ≠ none → b = a := fun {b} z => atA b z
    have dictFree : ∀ {b : Addr} {o : Obj} {es : Array DictEntry} {ep : Nat}, s1.heap.get? b = some o → o.data = .dict es ep → H b = none := by
      intro b o es ep e d
      cases q : H b with
      | none => rfl
      | some u =>
        have z := same (b := b) (by rw [q]; intro y; cases y)
        rw [z, obj] at e
        cases e
        have d2 : Data.seq vs.toArray _ = Data.dict es ep := d
        cases d2
    have nsH : ∀ {b : Addr} {m : Str → Option Value}, s1.heap.Ns b m → (hidT s1.heap H).Ns b m := by
      rintro b m ⟨o, es, ep, e, d, r⟩
      exact ⟨o, es, ep, hid e (dictFree e d), d, r⟩
    have inH : K.In (hidT s1.heap H) := by
      intro b o e
      refine hid (inK b o e) ?_
      cases q : H b with
      | none => rfl
      | some u =>
        have nn : H b ≠ none := by rw [q]; intro y; cases y
        have z := same nn
        rw [z] at nn e
        rw [freeK nn] at e
        cases e
    have md : Mod K mg (hidT s1.heap H) := by
      obtain ⟨mc, h1, h2⟩ := noL
      exact ⟨inH, nsH nsM, ⟨mb, nsH nsB, boot⟩, mc, nsH h1, h2⟩
    have e0 : Env0 P w K mg (hidT s1.heap H) callerA [] s1 H := ⟨rfl, md, fun b o e => of_hidT e, Nat.le_of_eq (hidT_size _ _), trivial, (fun b z => by cases z), ok, .of_eq gens⟩
    refine codeAny_mono ((F _ inH (nsH nsM)).run callerA [] s1 H ⟨[.ref a], []⟩ [.ref a] [.ref a] _ _ room rfl e0 (bd s1 (.ref a)) (.cons rfl .nil) (law H only sq)) ?_
    intro r s2 c
    match r, c with
    | .error e, c => exact (noX H e s2 c).elim
    | .ok .next, c => exact c.elim
    | .ok .brk, c => exact c.elim
    | .ok .cont, c => exact c.elim
    | .ok (.ret u), ⟨v, H2, os, bare, un, ok2, rel, q⟩ =>
      have q2 : v = .bl true := q
      subst q2
      cases (show u = Value.bool true from rel)
      refine ⟨rfl, OldK.of_keep ?_, os, bare⟩
      intro b o e
      cases q : H b with
      | none => exact un.keep b o e q (by intro z; cases z) (by intro z; cases z)
      | some u =>
        rcases only b with z | ⟨ob, ys, z⟩
        · rw [q] at z; cases z
        · obtain ⟨g1, _⟩ := ok b _ z
          obtain ⟨g2, _⟩ := ok2 b _ (un.frzs b ob _ z)
          rw [e] at g1
          cases g1
          exact g2
  cases hk : K.lookup a with
  | some o =>
    have e := inK a o hk
    rw [obj] at e
    cases e
    refine main (fun _ => none) (fun _ => .inl rfl) ?_ (fun b u z => by cases (show (none : Option HO) = some u from z)) (fun b z => (z rfl).elim) (fun z => (z rfl).elim)
    refine .inr ⟨_, vs.toArray, _, hk, rfl, rfl, rfl, ?_, ?_⟩
    · rw [List.size_toArray, n1]; exact few
    · simpa using rv
  | none =>
    have yes : (fun b => if b = a then some (HO.frz { cls := .type "list", data := .seq vs.toArray } (.lst (ns.map V.int))) else none) a = some (.frz { cls := .type "list", data := .seq vs.toArray } (.lst (ns.map V.int))) := if_pos rfl
    refine main (fun b => if b = a then some (.frz { cls := .type "list", data := .seq vs.toArray } (.lst (ns.map V.int))) else none) ?_ (.inl (.inr ⟨_, yes⟩)) ?_ ?_ (fun _ => hk)
    · intro b
      by_cases hb : b = a
      · exact .inr ⟨_, _, if_pos hb⟩
      · exact .inl (if_neg hb)
    · intro b u z
      by_cases hb : b = a
      · cases (if_pos hb).symm.trans z
        subst hb
        exact ⟨obj, by rw [List.length_map]; exact few, vs, _, rv, obj⟩
      · cases (if_neg hb).symm.trans z
    · intro b z
      by_cases hb : b = a
      · exact hb
      · exact (z (if_neg hb)).elim
end PyI

set_option Elab.async false
set_option linter.all false
set_option maxRecDepth 100000
/-! PyF: readings of the evaluator; what a def promises; calls, built-ins, methods. -/
namespace PyI
open PySem L2

/-- a reading by the evaluator -/
def tG {α β : Type} (G : Glb) (W : WX) (R : Mu → Mk → Hp → α → β → Prop) (f : Loc → Hea → Res α) : St → Hp → (β → Hp → Prop) → Prop := fun σ H Q =>
  ∃ μ M ρ h, Envi G μ M H ρ σ ∧ Hrel G μ M H h ∧ Post G R (fun c H' => W c none σ H') μ M H (f ρ h) Q
abbrev tE (G : Glb) (W : WX) (f : Loc → Hea → Res D) : TE := tG G W (Rep G) f
abbrev tT (G : Glb) (W : WX) (f : Loc → Hea → Res Bool) : TT := tG G W (fun _ _ _ a b => a = b) f
abbrev tAr (G : Glb) (W : WX) (f : Loc → Hea → Res (List D)) : TA := tG G W (Reps G) f

/-- what a relation bears -/
def Stab {α β : Type} (G : Glb) (R : Mu → Mk → Hp → α → β → Prop) : Prop := ∀ {μ M H h μ' M' H' a b}, Hrel G μ M H h → Le μ M H μ' M' H' → R μ M H a b → R μ' M' H' a b
theorem stab_rep {G : Glb} : Stab G (Rep G) := fun r l q => Rep.le r l _ _ q
theorem stab_reps {G : Glb} : Stab G (Reps G) := fun r l q => Reps.le r l _ _ q
theorem stab_eq {G : Glb} {α : Type} : Stab G (fun _ _ _ (a b : α) => a = b) := fun _ _ q => q

section
variable {G : Glb} {W : WX} {σ : St} {H : Hp} {α β γ δ ε ζ : Type} {R : Mu → Mk → Hp → α → β → Prop} {R1 : Mu → Mk → Hp → ε → ζ → Prop} {R2 : Mu → Mk → Hp → γ → δ → Prop}
/-- what comes behind the first -/
theorem tG.bind {f : Loc → Hea → Res α} {g : Loc → α → Hea → Res γ} {Q : δ → Hp → Prop} (q : tG G W R2 (fun ρ h => (f ρ h).bind (g ρ)) σ H Q) :
    tG G W R f σ H (fun b H1 => ∃ a μ M ρ h, Envi G μ M H1 ρ σ ∧ Hrel G μ M H1 h ∧ R μ M H1 a b ∧ Post G R2 (fun c H' => W c none σ H') μ M H1 (g ρ a h) Q) := by
  obtain ⟨μ, M, ρ, h, e, r, p⟩ := q
  refine ⟨μ, M, ρ, h, e, r, p.bind.mono (fun _ _ z => z) ?_⟩
  rintro b H1 ⟨a, μ1, M1, h1, l, r1, q1, p1⟩
  exact ⟨a, μ1, M1, ρ, h1, e.le r l, r1, q1, p1⟩
/-- behind two -/
theorem tG.bind2 (st : Stab G R) {f : Loc → Hea → Res α} {f1 : Loc → Hea → Res ε} {g : Loc → α → ε → Hea → Res γ} {Q : δ → Hp → Prop}
    (q : tG G W R2 (fun ρ h => (f ρ h).bind fun a h1 => (f1 ρ h1).bind fun b h2 => g ρ a b h2) σ H Q) :
    tG G W R f σ H (fun b H1 => tG G W R1 f1 σ H1 fun b1 H2 => ∃ a a1 μ M ρ h, Envi G μ M H2 ρ σ ∧ Hrel G μ M H2 h ∧ R μ M H2 a b ∧ R1 μ M H2 a1 b1 ∧ Post G R2 (fun c H' => W c none σ H') μ M H2 (g ρ a a1 h) Q) := by
  obtain ⟨μ, M, ρ, h, e, r, p⟩ := q
  refine ⟨μ, M, ρ, h, e, r, p.bind.mono (fun _ _ z => z) ?_⟩
  rintro b H1 ⟨a, μ1, M1, h1, l, r1, q1, p1⟩
  refine ⟨μ1, M1, ρ, h1, e.le r l, r1, p1.bind.mono (fun _ _ z => z) ?_⟩
  rintro b1 H2 ⟨a1, μ2, M2, h2, l2, r2, q2, p2⟩
  exact ⟨a, a1, μ2, M2, ρ, h2, (e.le r l).le r1 l2, r2, st r1 l2 q1, q2, p2⟩
end
theorem imE {X : Cx} {e : Expr} {t t' : TE} (p : PE X e t) (i : ∀ σ H Q, t' σ H Q → t σ H Q) : PE X e t' := ⟨fun pins s σ H Q I h => p.run pins s σ H Q I (i σ H Q h)⟩
theorem imT {X : Cx} {e : Expr} {t t' : TT} (p : PT X e t) (i : ∀ σ H Q, t' σ H Q → t σ H Q) : PT X e t' := ⟨fun pins s σ H Q I h => p.run pins s σ H Q I (i σ H Q h)⟩
theorem imW {X : Cx} {e : Expr} {t t' : TT} (p : PW X e t) (i : ∀ σ H Q, t' σ H Q → t σ H Q) : PW X e t' := ⟨fun wh pins s σ H Q I h => p.run wh pins s σ H Q I (i σ H Q h)⟩
theorem imA {X : Cx} {e : List Expr} {t t' : TA} (p : PA X e t) (i : ∀ σ H Q, t' σ H Q → t σ H Q) : PA X e t' := ⟨fun pos pins s σ H Q I h => p.run pos pins s σ H Q I (i σ H Q h)⟩
theorem imI {X : Cx} {tg e : Expr} {t t' : TI} (p : PI X tg e t) (i : ∀ σ H Q, t' σ H Q → t σ H Q) : PI X tg e t' := ⟨fun pins s σ H Q I h => p.run pins s σ H Q I (i σ H Q h)⟩
theorem orE {X : Cx} {e : Expr} {t t' : TE} (p : PE X e t) (p' : PE X e t') : PE X e (fun σ H Q => t σ H Q ∨ t' σ H Q) := ⟨fun pins s σ H Q I h => h.elim (p.run pins s σ H Q I) (p'.run pins s σ H Q I)⟩
theorem orI {X : Cx} {tg e : Expr} {t t' : TI} (p : PI X tg e t) (p' : PI X tg e t') : PI X tg e (fun σ H Q => t σ H Q ∨ t' σ H Q) := ⟨fun pins s σ H Q I h => h.elim (p.run pins s σ H Q I) (p'.run pins s σ H Q I)⟩

/-- a def's promise, by the evaluator -/
def spF (G : Glb) (np : Nat) (f : List D → Hea → Res D) : Sp := fun vs H Q E => vs.length = np ∧ ∃ μ M ds h, Hrel G μ M H h ∧ Reps G μ M H ds vs ∧ Post G (Rep G) (fun c H' => E c none H') μ M H (f ds h) Q

def bltNames : List Str := ["len", "abs", "int", "list", "tuple", "all", "any", "max", "min", "repr", "sorted", "str", "isinstance", "range", "enumerate", "zip", "set", "dict", "bool"]
/-- what the module holds -/
structure Facts (P : Program) (w : World) (base : Heap) (G : Glb) (cf : Nat → List D → Hea → Res D) (n : Nat) : Prop where
  blt : ∀ x ∈ bltNames, G.mg x = none
  cns : ∀ (i : Nat) (p : Str × D), G.T.cns[i]? = some p → ∃ u v, G.mg p.1 = some u ∧ RelV v u ∧ ∀ μ M H, Rep G μ M H p.2 v
  fns : ∀ (i : Nat) (fn : Fn), G.T.fns[i]? = some fn → ∃ f fd ps, G.mg fn.name = some (.ref f) ∧ FnG P w G.K G.mg base (L2.CX P w) n f fd ps (spF G fn.np (cf i)) ∧ PySem.W.keepIn G.K (.ref f) = true ∧ Binds G.K fd ps []
  ar : ∀ (i : Nat) (fn : Fn) (ds : List D) (h : Hea), G.T.fns[i]? = some fn → ds.length ≠ fn.np → cf i ds h = .no
  exs : ∀ (c : Nat) (x : Str), G.T.exs[c]? = some x → ∃ C B newId initId bmB, ExcBaseFacts B newId initId bmB ∧ PySem.W.excIn G.K C bmB newId = true ∧ G.mg x = some (.ref C) ∧ PySem.W.keepIn G.K (.ref C) = true ∧
    PySem.W.subIn G.K (.ref C) (.type "BaseException") = some true ∧ PySem.W.typeIn G.K (.ref C) = some (.type "type")
/-- a context of ours -/
structure Good (P : Program) (w : World) (base : Heap) (G : Glb) (n : Nat) (N : List Str) (sc : Scope) (fo : Str → Bool) (X : Cx) : Prop where
  prog : X.prog = P
  w : X.w = w
  K : X.K = G.K
  mg : X.mg = G.mg
  base : X.base = base
  N : X.N = N
  nd : X.N.Nodup
  calm : X.calm = true
  room : Room n X.A
  gd : X.A.guards = some []
  sc : X.env.scope = sc
  fn : X.fn = fo

/-! ### pure data -/
section
variable {G : Glb} {μ μ' : Mu} {M M' : Mk} {H H' : Hp} {h : Hea}
mutual
theorem Rep.pure : ∀ (d : D) (v : V), pure? d = true → Rep G μ M H d v → Rep G μ' M H d v
  | .non, v, _, q => by unfold Rep at q ⊢; exact q
  | .bl b, v, _, q => by unfold Rep at q ⊢; exact q
  | .int i, v, _, q => by unfold Rep at q ⊢; exact q
  | .str x, v, _, q => by unfold Rep at q ⊢; exact q
  | .tup ds, v, c, q => by
    unfold Rep at q ⊢
    obtain ⟨a, xs, e, s, p⟩ := q
    exact ⟨a, xs, e, s, Reps.pure ds xs (by simpa [pure?] using c) p⟩
  | .plc ds, v, c, q => by
    unfold Rep at q ⊢
    obtain ⟨a, xs, e, s, p⟩ := q
    exact ⟨a, xs, e, s, Reps.pure ds xs (by simpa [pure?] using c) p⟩
  | .lst ds, v, c, q => by
    unfold Rep at q ⊢
    obtain ⟨a, xs, e, s, m, p⟩ := q
    exact ⟨a, xs, e, s, m, Reps.pure ds xs (by simpa [pure?] using c) p⟩
  | .scr ds, v, c, q => by
    unfold Rep at q ⊢
    obtain ⟨a, xs, e, s, p⟩ := q
    exact ⟨a, xs, e, s, Reps.pure ds xs (by simpa [pure?] using c) p⟩
  | .dK ks ds, v, c, q => by
    unfold Rep at q ⊢
    obtain ⟨a, xs, e, s, m, k, p⟩ := q
    exact ⟨a, xs, e, s, m, k, Reps.pure ds _ (by simpa [pure?] using c) p⟩
  | .dT ks ds, v, c, q => by
    unfold Rep at q ⊢
    obtain ⟨a, xs, e, s, m, k, p⟩ := q
    exact ⟨a, xs, e, s, m, k, Reps.pure ds _ (by simpa [pure?] using c) p⟩
  | .ref n, v, c, q => by simp [pure?] at c
  | .fn i, v, c, q => by unfold Rep at q ⊢; exact q
theorem Reps.pure : ∀ (ds : List D) (xs : List V), pures ds = true → Reps G μ M H ds xs → Reps G μ' M H ds xs
  | [], xs, _, q => by unfold Reps at q ⊢; exact q
  | d :: ds, xs, c, q => by
    unfold Reps at q ⊢
    have c' : pure? d = true ∧ pures ds = true := by simpa [pures] using c
    obtain ⟨x, t, e, p, q⟩ := q
    exact ⟨x, t, e, Rep.pure d x c'.1 p, Reps.pure ds t c'.2 q⟩
end
theorem Hrel.empty (r : Hrel G μ M H h) : Hrel G [] M H [] where
  len := rfl
  live := fun n o e => by simp at e
  inj := fun n m a e => by simp at e
  mu := fun n a e => by simp at e
  md := r.md
/-- a run that saw nothing changeable -/
theorem Le.frame (l : Le [] M H μ' M' H') (r : Hrel G μ M H h) : Le μ M H μ M H' where
  len := Nat.le_refl _
  old := fun _ _ e => .inl e
  dead := fun _ e => e
  new := fun n a hn e => by have := (List.getElem?_eq_some_iff.mp e).1; omega
  keep := fun a o e _ => l.keep a o e fun n z => by simp at z
  dom := l.dom
  mkk := fun _ e => .inl e
  km := fun _ e => .inl e
theorem Hrel.frame (l : Le [] M H μ' M' H') (r : Hrel G μ M H h) : Hrel G μ M H' h where
  len := r.len
  live := fun n u e => by
    rcases r.live n u e with z | ⟨a, z, m⟩
    · exact .inl z
    · obtain ⟨w, q⟩ := m.some
      exact .inr ⟨a, z, m.le r (l.frame r) ((l.keep a w q fun n z => by simp at z).trans q.symm)⟩
  inj := r.inj
  mu := r.mu
  md := fun a m => let ⟨o, e, k⟩ := r.md a m; ⟨o, l.keep a o e fun n z => by simp at z, k⟩
mutual
theorem Rep.back (l : Le [] M H μ' M' H') (r : Hrel G μ M H h) : ∀ (d : D) (v : V), pure? d = true → Rep G μ' M' H' d v → Rep G μ M H' d v
  | .non, v, _, q => by unfold Rep at q ⊢; exact q
  | .bl b, v, _, q => by unfold Rep at q ⊢; exact q
  | .int i, v, _, q => by unfold Rep at q ⊢; exact q
  | .str x, v, _, q => by unfold Rep at q ⊢; exact q
  | .tup ds, v, c, q => by
    unfold Rep at q ⊢
    obtain ⟨a, xs, e, s, p⟩ := q
    exact ⟨a, xs, e, s, Reps.back l r ds xs (by simpa [pure?] using c) p⟩
  | .plc ds, v, c, q => by
    unfold Rep at q ⊢
    obtain ⟨a, xs, e, s, p⟩ := q
    exact ⟨a, xs, e, s, Reps.back l r ds xs (by simpa [pure?] using c) p⟩
  | .lst ds, v, c, q => by
    unfold Rep at q ⊢
    obtain ⟨a, xs, e, s, m, p⟩ := q
    exact ⟨a, xs, e, s, l.noMk r m, Reps.back l r ds xs (by simpa [pure?] using c) p⟩
  | .scr ds, v, c, q => by
    unfold Rep at q ⊢
    obtain ⟨a, xs, e, s, p⟩ := q
    exact ⟨a, xs, e, s, Reps.back l r ds xs (by simpa [pure?] using c) p⟩
  | .dK ks ds, v, c, q => by
    unfold Rep at q ⊢
    obtain ⟨a, xs, e, s, m, k, p⟩ := q
    exact ⟨a, xs, e, s, l.noMk r m, k, Reps.back l r ds _ (by simpa [pure?] using c) p⟩
  | .dT ks ds, v, c, q => by
    unfold Rep at q ⊢
    obtain ⟨a, xs, e, s, m, k, p⟩ := q
    exact ⟨a, xs, e, s, l.noMk r m, k, Reps.back l r ds _ (by simpa [pure?] using c) p⟩
  | .ref n, v, c, q => by simp [pure?] at c
  | .fn i, v, c, q => by unfold Rep at q ⊢; exact q
theorem Reps.back (l : Le [] M H μ' M' H') (r : Hrel G μ M H h) : ∀ (ds : List D) (xs : List V), pures ds = true → Reps G μ' M' H' ds xs → Reps G μ M H' ds xs
  | [], xs, _, q => by unfold Reps at q ⊢; exact q
  | d :: ds, xs, c, q => by
    unfold Reps at q ⊢
    have c' : pure? d = true ∧ pures ds = true := by simpa [pures] using c
    obtain ⟨x, t, e, p, q⟩ := q
    exact ⟨x, t, e, Rep.back l r d x c'.1 p, Reps.back l r ds t c'.2 q⟩
theorem Le.noMk (l : Le [] M H μ' M' H') (r : Hrel G μ M H h) {a : Addr} (m : ¬ M' a) : ¬ M a := fun z => by
  rcases l.km a z with y | ⟨n, y⟩ | y
  · exact m y
  · simp at y
  · obtain ⟨o, e, _⟩ := r.md a z; rw [y] at e; cases e
end
end

/-! ### calls -/
section
variable {P : Program} {w : World} {base : Heap} {G : Glb} {cf : Nat → List D → Hea → Res D} {n : Nat} {N : List Str} {sc : Scope} {fo : Str → Bool} {X : Cx} {W : WX}
theorem Good.gl (g : Good P w base G n N sc fo X) {x : Str} (h : glB sc x = true) : Gl X x := by
  have := (glB_gl h).1
  show X.env.kindOf x = _
  unfold Env.kindOf
  rw [g.sc]; exact this
theorem Good.hu (g : Good P w base G n N sc fo X) : X.A.units + 65 < cLine := by
  have := g.room.un; omega
theorem Good.hu1 (g : Good P w base G n N sc fo X) : X.A.units + 1 < cLine := by
  have := g.room.un; omega

theorem snd_call (F : Facts P w base G cf n) (g : Good P w base G n N sc fo X) (tk : Takes X W) {f : Nat} {fn : Fn} {x : Str} {y : Expr} {ys : List Expr} {p pos : Pos} {fs : Loc → Hea → Res (List D)} (ef : G.T.fns[f]? = some fn) (ex : fn.name = x) (gx : glB sc x = true)
    (ha : PA X (y :: ys) (tAr G W fs)) (hs : starEach (y :: ys) X.env = (false, eval y X.env) :: starEach ys X.env) (hpl : (backTo pos (starEach ys X.env)).any (·.1) = false) :
    PE X (.Call (.Name x p) (y :: ys) [] pos) (tE G W fun ρ h => (fs ρ h).bind fun xs h1 => cf f xs h1) := by
  obtain ⟨a, fd, ps, hm, ok, kp, bd⟩ := F.fns f fn ef
  rw [ex] at hm
  have ok' : FnG X.prog X.w X.K X.mg X.base (L2.CX X.prog X.w) n a fd ps (spF G fn.np (cf f)) := by rw [g.prog, g.w, g.K, g.mg, g.base]; exact ok
  refine imE (pe_callG ok' g.room g.gd (g.gl gx) (by rw [g.mg]; exact hm) (by rw [g.K]; exact kp) (by rw [g.K]; exact bd) (passAt tk) ha (glB_gl gx).2.1 hs hpl) fun σ H Q q => ?_
  refine (show tAr G W fs σ H _ from tG.bind (g := fun _ xs h1 => cf f xs h1) q |> fun ⟨μ, M, ρ, h, e, r, p⟩ => ⟨μ, M, ρ, h, e, r, p.mono (fun _ _ z => z) ?_⟩)
  rintro vs H1 ⟨ds, μ, M, ρ, h, e, r, q1, p1⟩
  refine ⟨?_, μ, M, ds, h, r, q1, p1⟩
  rw [q1.length]
  by_cases hl : ds.length = fn.np
  · exact hl
  · rw [F.ar f fn ds h ef hl] at p1; exact p1.elim
theorem snd_callP (F : Facts P w base G cf n) (g : Good P w base G n N sc fo X) (tk : Takes X W) {f : Nat} {fn : Fn} {x : Str} {y : Expr} {ys : List Expr} {p pos : Pos} {fs : Loc → Hea → Res (List D)} (ef : G.T.fns[f]? = some fn) (ex : fn.name = x) (gx : glB sc x = true)
    (ha : PA X (y :: ys) (tAr G W fs)) (hs : starEach (y :: ys) X.env = (false, eval y X.env) :: starEach ys X.env) (hpl : (backTo pos (starEach ys X.env)).any (·.1) = false) :
    PE X (.Call (.Name x p) (y :: ys) [] pos) (tE G W fun ρ h => (fs ρ h).bind fun xs h1 => if pures xs then pureRes h1 (cf f xs []) else .no) := by
  obtain ⟨a, fd, ps, hm, ok, kp, bd⟩ := F.fns f fn ef
  rw [ex] at hm
  have ok' : FnG X.prog X.w X.K X.mg X.base (L2.CX X.prog X.w) n a fd ps (spF G fn.np (cf f)) := by rw [g.prog, g.w, g.K, g.mg, g.base]; exact ok
  refine imE (pe_callG ok' g.room g.gd (g.gl gx) (by rw [g.mg]; exact hm) (by rw [g.K]; exact kp) (by rw [g.K]; exact bd) (passAt tk) ha (glB_gl gx).2.1 hs hpl) fun σ H Q q => ?_
  refine (show tAr G W fs σ H _ from tG.bind (g := fun _ xs h1 => if pures xs then pureRes h1 (cf f xs []) else .no) q |> fun ⟨μ, M, ρ, h, e, r, p⟩ => ⟨μ, M, ρ, h, e, r, p.mono (fun _ _ z => z) ?_⟩)
  rintro vs H1 ⟨ds, μ, M, ρ, h, e, r, q1, p1⟩
  by_cases hp : pures ds = true
  · rw [if_pos hp] at p1
    refine ⟨?_, [], M, ds, [], r.empty, Reps.pure ds vs hp q1, ?_⟩
    · rw [q1.length]
      by_cases hl : ds.length = fn.np
      · exact hl
      · rw [F.ar f fn ds [] ef hl] at p1; exact p1.elim
    · cases ec : cf f ds [] with
      | no => rw [ec] at p1; exact p1.elim
      | err c h2 =>
        rw [ec] at p1
        exact fun C μ' M' H' ex l _ => p1 C μ M H' ex (l.frame r) (r.frame l)
      | ok d h2 =>
        rw [ec] at p1
        have p2 : Post G (Rep G) (fun c H' => W c none σ H') μ M H1 (if pure? d then Res.ok d h else .no) Q := p1
        intro v μ' M' H' l r2 q2
        by_cases hd : pure? d = true
        · rw [if_pos hd] at p2
          exact p2 v μ M H' (l.frame r) (r.frame l) (Rep.back l r d v hd q2)
        · rw [if_neg hd] at p2; exact p2.elim
  · rw [if_neg hp] at p1; exact p1.elim
end
end PyI

set_option Elab.async false
set_option linter.all false
set_option maxRecDepth 100000
/-! PyG: built-ins, subscripts, slices, methods, by the evaluator's values. -/
namespace PyI
open PySem L2

section
variable {G : Glb} {μ : Mu} {M : Mk} {H : Hp} {h : Hea} {X : Cx}
def Bi.isTy : Bi → Bool
  | .int => true | .list => true | .listM => true | .tuple => true | .str => true
  | _ => false
def Bi.id : Bi → String
  | .len => "len" | .abs => "abs" | .int => "int" | .list => "list" | .listM => "list" | .tuple => "tuple" | .all => "all" | .any => "any"
  | .max => "max" | .min => "min" | .repr => "repr" | .sorted => "sorted" | .str => "str"
def Bi.val (b : Bi) : Value := if b.isTy then .type b.id else .builtin b.id
theorem bi_boot (b : Bi) : bootBuiltins b.nm = some b.val := by cases b <;> decide +kernel
theorem bi_free (b : Bi) : b.nm ∈ bltNames := by cases b <;> decide +kernel
def rBi (G : Glb) (b : Bi) : List V → Hp → VK → Prop := fun xs H Q => ∃ d v μ M h, xs = [v] ∧ Hrel G μ M H h ∧ Rep G μ M H d v ∧ PostV G μ M H (biR b h d) Q
theorem foldl_max : ∀ (r : List Int) (a : Int), let m := r.foldl (fun a b => if b > a then b else a) a; a ≤ m ∧ (∀ y ∈ r, y ≤ m) ∧ (m = a ∨ m ∈ r)
  | [], a => by simp
  | b :: r, a => by
    have ih := foldl_max r (if b > a then b else a)
    simp only [List.foldl_cons]
    obtain ⟨h1, h2, h3⟩ := ih
    refine ⟨?_, fun y hy => ?_, ?_⟩
    · by_cases c : b > a
      · rw [if_pos c] at h1 ⊢; omega
      · rw [if_neg c] at h1 ⊢; exact h1
    · rcases List.mem_cons.mp hy with e | hy
      · subst e
        by_cases c : y > a
        · rw [if_pos c] at h1 ⊢; exact h1
        · rw [if_neg c] at h1 ⊢; omega
      · exact h2 y hy
    · by_cases c : b > a
      · rw [if_pos c] at h3 ⊢
        rcases h3 with z | z
        · exact .inr (by rw [z]; exact List.mem_cons_self)
        · exact .inr (List.mem_cons_of_mem _ z)
      · rw [if_neg c] at h3 ⊢
        rcases h3 with z | z
        · exact .inl z
        · exact .inr (List.mem_cons_of_mem _ z)
theorem foldl_min : ∀ (r : List Int) (a : Int), let m := r.foldl (fun a b => if b < a then b else a) a; m ≤ a ∧ (∀ y ∈ r, m ≤ y) ∧ (m = a ∨ m ∈ r)
  | [], a => by simp
  | b :: r, a => by
    have ih := foldl_min r (if b < a then b else a)
    simp only [List.foldl_cons]
    obtain ⟨h1, h2, h3⟩ := ih
    refine ⟨?_, fun y hy => ?_, ?_⟩
    · by_cases c : b < a
      · rw [if_pos c] at h1 ⊢; omega
      · rw [if_neg c] at h1 ⊢; exact h1
    · rcases List.mem_cons.mp hy with e | hy
      · subst e
        by_cases c : y < a
        · rw [if_pos c] at h1 ⊢; exact h1
        · rw [if_neg c] at h1 ⊢; omega
      · exact h2 y hy
    · by_cases c : b < a
      · rw [if_pos c] at h3 ⊢
        rcases h3 with z | z
        · exact .inr (by rw [z]; exact List.mem_cons_self)
        · exact .inr (List.mem_cons_of_mem _ z)
      · rw [if_neg c] at h3 ⊢
        rcases h3 with z | z
        · exact .inl z
        · exact .inr (List.mem_cons_of_mem _ z)
theorem maxI_eq {ns : List Int} {m : Int} (hm : m ∈ ns) (hl : ∀ y, y ∈ ns → y ≤ m) : m = maxI ns := by
  cases ns with
  | nil => simp at hm
  | cons a r =>
    obtain ⟨h1, h2, h3⟩ := foldl_max r a
    have e : maxI (a :: r) = r.foldl (fun a b => if b > a then b else a) a := rfl
    rw [e]
    have k1 : m ≤ r.foldl (fun a b => if b > a then b else a) a := by
      rcases List.mem_cons.mp hm with z | z
      · rw [z]; exact h1
      · exact h2 m z
    have k2 : r.foldl (fun a b => if b > a then b else a) a ≤ m := by
      rcases h3 with z | z
      · rw [z]; exact hl a List.mem_cons_self
      · exact hl _ (List.mem_cons_of_mem _ z)
    omega
theorem minI_eq {ns : List Int} {m : Int} (hm : m ∈ ns) (hl : ∀ y, y ∈ ns → m ≤ y) : m = minI ns := by
  cases ns with
  | nil => simp at hm
  | cons a r =>
    obtain ⟨h1, h2, h3⟩ := foldl_min r a
    have e : minI (a :: r) = r.foldl (fun a b => if b < a then b else a) a := rfl
    rw [e]
    have k1 : r.foldl (fun a b => if b < a then b else a) a ≤ m := by
      rcases List.mem_cons.mp hm with z | z
      · rw [z]; exact h1
      · exact h2 m z
    have k2 : m ≤ r.foldl (fun a b => if b < a then b else a) a := by
      rcases h3 with z | z
      · rw [z]; exact hl a List.mem_cons_self
      · exact hl _ (List.mem_cons_of_mem _ z)
    omega
theorem cr_repr (eK : X.K = G.K) (gd : X.A.guards = some []) (hu : X.A.units + 65 < cLine) {pins : List (Addr × Obj)} {s : Shared} {σ : St} {us : List Value} {Q : VK} {d : D} {v : V} (I : Inv X pins σ H s) (rr : Vals [v] us) (r : Hrel G μ M H h) (p : Rep G μ M H d v)
    (c : repOk (pdH h d) = true) (q : Q (.str (pdH h d).shown) H) : wpAny (model X.prog X.w) X.A (call (.builtin "repr") us) (EP X pins σ Q) X.xe s := by
  unfold repOk at c
  simp only [Bool.and_eq_true, decide_eq_true_eq, Bool.not_eq_true'] at c
  obtain ⟨c0, c1, c2, c3, c4, c5⟩ := c
  have dp := dpH_of r p c1
  obtain ⟨u, rfl, ru⟩ := vals1 rr
  obtain ⟨as, rd⟩ := Dp.reads I _ _ _ (eK ▸ dp) ru
  obtain ⟨a, rfl⟩ : ∃ a, u = .ref a := by
    revert c0 rd
    cases pdH h d <;> intro c0 rd <;> first | (cases rd; exact ⟨_, rfl⟩) | cases c0
  exact repr_of_reads' rd c2 (fun z => by rw [c3] at z; cases z) gd (by omega) (fun _ _ e => e) (fun h' u' tk keep => ⟨.str _, H, I.kept (t' := tk) keep, ⟨_, rfl⟩, q⟩) c5
theorem cr_bi (b : Bi) (eK : X.K = G.K) (hc : X.calm = true) (gd : X.A.guards = some []) (hu : X.A.units + 65 < cLine) : CallR X b.val (rBi G b) := by
  intro pins s σ H xs us Q I rr ⟨d, v, μ, M, h, e, r, p, q⟩
  subst e
  cases b with
  | len =>
    unfold biR at q
    simp only at q
    split at q
    · rename_i ds e
      obtain ⟨a, ys, rfl, sq, t⟩ := seq_rep r p e
      exact call_len_seq pins s σ H _ us Q I rr ⟨a, ys, rfl, eK ▸ sq, q.here r (by rw [rep_int, t.length])⟩
    · split at q
      · rw [rep_str] at p; subst p
        obtain ⟨c, q⟩ := q.ite
        exact call_len_str pins s σ H _ us Q I rr ⟨_, rfl, c, q.here r (by rw [rep_int])⟩
      · exact q.elim
  | abs =>
    unfold biR at q
    simp only at q
    split at q
    · rw [rep_int] at p; subst p
      exact call_abs pins s σ H _ us Q I rr ⟨_, rfl, q.here r (by rw [rep_int])⟩
    · exact q.elim
  | int =>
    unfold biR at q
    simp only at q
    split at q
    · rw [rep_int] at p; subst p
      exact call_int1 pins s σ H _ us Q I rr (.inl ⟨_, rfl, q.here r (by rw [rep_int])⟩)
    · rw [rep_bl] at p; subst p
      exact call_int1 pins s σ H _ us Q I rr (.inr ⟨_, rfl, q.here r (by rw [rep_int])⟩)
    · exact q.elim
  | list =>
    unfold biR at q
    obtain ⟨ds, e, q⟩ := q.need
    obtain ⟨a, ys, rfl, sq, t⟩ := seq_rep r p e
    exact call_list_of pins s σ H _ us Q I rr ⟨a, ys, rfl, eK ▸ sq, q.new r fun b hb => Rep.newLst r hb t⟩
  | listM =>
    unfold biR at q
    obtain ⟨ds, e, q⟩ := q.need
    obtain ⟨a, ys, rfl, sq, t⟩ := seq_rep r p e
    refine call_list_of pins s σ H _ us Q I rr ⟨a, ys, rfl, eK ▸ sq, fun b hb => ?_⟩
    refine q (.ref b) _ _ _ (Le.alloc hb) (r.alloc hb ⟨ys, upd_same, Reps.le r (Le.alloc hb) _ _ t⟩) ?_
    rw [rep_ref]
    exact ⟨b, rfl, .inl (by rw [← r.len, List.getElem?_append_right (Nat.le_refl _), Nat.sub_self]; rfl)⟩
  | tuple =>
    unfold biR at q
    obtain ⟨ds, e, q⟩ := q.need
    rcases seq_cases e with e2 | e2
    · obtain ⟨a, ys, rfl, sq, t⟩ := tup_rep p e2
      exact call_tuple_of pins s σ H _ us Q I rr ⟨a, ys, rfl, .inr ⟨eK ▸ sq, q.here r (by rw [rep_tup]; exact ⟨a, ys, rfl, sq, t⟩)⟩⟩
    · obtain ⟨a, ys, rfl, sq, t⟩ := lst_rep r p e2
      exact call_tuple_of pins s σ H _ us Q I rr ⟨a, ys, rfl, .inl ⟨eK ▸ sq, q.new r fun b hb => Rep.newTup r hb t⟩⟩
  | all =>
    unfold biR at q
    obtain ⟨ds, e, q⟩ := q.need
    obtain ⟨bs, e2, q⟩ := q.need
    obtain ⟨a, ys, rfl, sq, t⟩ := lst_rep r p e
    rw [bls_rep t e2] at sq
    exact cr_all hc pins s σ H _ us Q I rr ⟨a, bs, rfl, eK ▸ sq, q.here r (by rw [rep_bl])⟩
  | any =>
    unfold biR at q
    obtain ⟨ds, e, q⟩ := q.need
    obtain ⟨bs, e2, q⟩ := q.need
    obtain ⟨a, ys, rfl, sq, t⟩ := lst_rep r p e
    rw [bls_rep t e2] at sq
    exact cr_any hc pins s σ H _ us Q I rr ⟨a, bs, rfl, eK ▸ sq, q.here r (by rw [rep_bl])⟩
  | max =>
    unfold biR at q
    obtain ⟨ds, e, q⟩ := q.need
    obtain ⟨ns, e2, q⟩ := q.need
    obtain ⟨a, ys, rfl, sq, t⟩ := lst_rep r p e
    rw [ints_rep t e2] at sq
    by_cases hn : ns = []
    · rw [if_pos hn] at q; exact q.elim
    · rw [if_neg hn] at q
      exact cr_max hc pins s σ H _ us Q I rr ⟨a, ns, rfl, eK ▸ sq, List.length_pos_iff.mpr hn, fun m hm hl => q.here r (by rw [rep_int, maxI_eq hm hl])⟩
  | min =>
    unfold biR at q
    obtain ⟨ds, e, q⟩ := q.need
    obtain ⟨ns, e2, q⟩ := q.need
    obtain ⟨a, ys, rfl, sq, t⟩ := lst_rep r p e
    rw [ints_rep t e2] at sq
    by_cases hn : ns = []
    · rw [if_pos hn] at q; exact q.elim
    · rw [if_neg hn] at q
      exact cr_min hc pins s σ H _ us Q I rr ⟨a, ns, rfl, eK ▸ sq, List.length_pos_iff.mpr hn, fun m hm hl => q.here r (by rw [rep_int, minI_eq hm hl])⟩
  | repr =>
    unfold biR at q
    obtain ⟨c, q⟩ := q.ite
    exact cr_repr eK gd hu I rr r p c (q.here r (by rw [rep_str]))
  | sorted => exact q.elim
  | str => exact q.elim
end
end PyI

set_option Elab.async false
set_option linter.all false
set_option maxRecDepth 100000
/-! PyH: the rules of values, each by the evaluator's own step. -/
namespace PyI
open PySem L2

section
variable {α β γ δ : Type} {G : Glb} {μ : Mu} {M : Mk} {H : Hp} {h : Hea} {W : WX} {σ : St} {R : Mu → Mk → Hp → α → β → Prop} {R2 : Mu → Mk → Hp → γ → δ → Prop}
theorem Post.here {Wv : Value → Hp → Prop} {a : α} {b : β} {Q : β → Hp → Prop} (p : Post G R Wv μ M H (.ok a h) Q) (r : Hrel G μ M H h) (q : R μ M H a b) : Q b H := p b μ M H Le.refl r q
theorem Post.need {Wv : Value → Hp → Prop} {o : Option γ} {f : γ → Res α} {Q : β → Hp → Prop} (p : Post G R Wv μ M H (need o f) Q) : ∃ a, o = some a ∧ Post G R Wv μ M H (f a) Q := by
  cases o with
  | none => exact p.elim
  | some a => exact ⟨a, rfl, p⟩
theorem Post.ite {Wv : Value → Hp → Prop} {c : Prop} [Decidable c] {r : Res α} {Q : β → Hp → Prop} (p : Post G R Wv μ M H (if c then r else .no) Q) : c ∧ Post G R Wv μ M H r Q := by
  by_cases hc : c
  · rw [if_pos hc] at p; exact ⟨hc, p⟩
  · rw [if_neg hc] at p; exact p.elim
theorem tG.mono {f : Loc → Hea → Res α} {Q Q' : β → Hp → Prop} (p : tG G W R f σ H Q) (k : ∀ b H', Q b H' → Q' b H') : tG G W R f σ H Q' := by
  obtain ⟨μ, M, ρ, h, e, r, p⟩ := p
  exact ⟨μ, M, ρ, h, e, r, p.mono (fun _ _ z => z) k⟩
/-- from one state of the evaluator -/
theorem tG.of {f : Loc → Hea → Res α} {ρ : Loc} {Q : β → Hp → Prop} (e : Envi G μ M H ρ σ) (r : Hrel G μ M H h) (p : Post G R (fun c H' => W c none σ H') μ M H (f ρ h) Q) : tG G W R f σ H Q := ⟨μ, M, ρ, h, e, r, p⟩
/-- the rest behind a value, from one state -/
theorem tG.thn {f : Loc → Hea → Res α} {g : α → Hea → Res γ} {ρ : Loc} {Q : δ → Hp → Prop} (e : Envi G μ M H ρ σ) (r : Hrel G μ M H h) (p : Post G R2 (fun c H' => W c none σ H') μ M H ((f ρ h).bind g) Q) :
    tG G W R f σ H (fun b H1 => ∃ a μ1 M1 h1, Le μ M H μ1 M1 H1 ∧ Envi G μ1 M1 H1 ρ σ ∧ Hrel G μ1 M1 H1 h1 ∧ R μ1 M1 H1 a b ∧ Post G R2 (fun c H' => W c none σ H') μ1 M1 H1 (g a h1) Q) := by
  refine ⟨μ, M, ρ, h, e, r, p.bind.mono (fun _ _ z => z) ?_⟩
  rintro b H1 ⟨a, μ1, M1, h1, l, r1, q1, p1⟩
  exact ⟨a, μ1, M1, h1, l, e.le r l, r1, q1, p1⟩

theorem tG.congr {f f' : Loc → Hea → Res α} {Q : β → Hp → Prop} (q : tG G W R f σ H Q) (e : ∀ ρ h, f ρ h = f' ρ h) : tG G W R f' σ H Q := by
  obtain ⟨μ, M, ρ, h, e1, r, p⟩ := q
  exact ⟨μ, M, ρ, h, e1, r, e ρ h ▸ p⟩
theorem tG.out {f : Loc → Hea → Res α} {Q : β → Hp → Prop} (q : tG G W R f σ H Q) : ∃ μ M ρ h, Envi G μ M H ρ σ ∧ Hrel G μ M H h ∧ Post G R (fun c H' => W c none σ H') μ M H (f ρ h) Q := q
/-- behind one value, behind two -/
theorem tE.b1 {f : Loc → Hea → Res D} {g : Loc → D → Hea → Res γ} {Q : δ → Hp → Prop} (q : tG G W R2 (fun ρ h => (f ρ h).bind (g ρ)) σ H Q) :
    tE G W f σ H (fun b H1 => ∃ a μ M ρ h, Envi G μ M H1 ρ σ ∧ Hrel G μ M H1 h ∧ Rep G μ M H1 a b ∧ Post G R2 (fun c H' => W c none σ H') μ M H1 (g ρ a h) Q) := tG.bind q
theorem tT.b1 {f : Loc → Hea → Res Bool} {g : Loc → Bool → Hea → Res γ} {Q : δ → Hp → Prop} (q : tG G W R2 (fun ρ h => (f ρ h).bind (g ρ)) σ H Q) :
    tT G W f σ H (fun b H1 => ∃ μ M ρ h, Envi G μ M H1 ρ σ ∧ Hrel G μ M H1 h ∧ Post G R2 (fun c H' => W c none σ H') μ M H1 (g ρ b h) Q) := by
  refine tG.mono (tG.bind (R := fun _ _ _ a b => a = b) q) ?_
  rintro b H1 ⟨a, μ, M, ρ, h, e, r, rfl, p⟩
  exact ⟨μ, M, ρ, h, e, r, p⟩
theorem tA.b1 {f : Loc → Hea → Res (List D)} {g : Loc → List D → Hea → Res γ} {Q : δ → Hp → Prop} (q : tG G W R2 (fun ρ h => (f ρ h).bind (g ρ)) σ H Q) :
    tAr G W f σ H (fun b H1 => ∃ a μ M ρ h, Envi G μ M H1 ρ σ ∧ Hrel G μ M H1 h ∧ Reps G μ M H1 a b ∧ Post G R2 (fun c H' => W c none σ H') μ M H1 (g ρ a h) Q) := tG.bind q
theorem tE.b2 {f f1 : Loc → Hea → Res D} {g : Loc → D → D → Hea → Res γ} {Q : δ → Hp → Prop} (q : tG G W R2 (fun ρ h => (f ρ h).bind fun a h1 => (f1 ρ h1).bind fun b h2 => g ρ a b h2) σ H Q) :
    tE G W f σ H (fun b H1 => tE G W f1 σ H1 fun b1 H2 => ∃ a a1 μ M ρ h, Envi G μ M H2 ρ σ ∧ Hrel G μ M H2 h ∧ Rep G μ M H2 a b ∧ Rep G μ M H2 a1 b1 ∧ Post G R2 (fun c H' => W c none σ H') μ M H2 (g ρ a a1 h) Q) :=
  tG.bind2 (R := Rep G) (R1 := Rep G) stab_rep q
theorem Res.bind_assoc {α β γ : Type} (r : Res α) (f : α → Hea → Res β) (g : β → Hea → Res γ) : (r.bind f).bind g = r.bind fun a h => (f a h).bind g := by cases r <;> rfl
theorem need_bind {α β γ : Type} (o : Option α) (f : α → Res β) (g : β → Hea → Res γ) : (need o f).bind g = need o fun a => (f a).bind g := by cases o <;> rfl

theorem binR_ne {o : BOp} {x y : D} {c : Nat} {k : Hea} : binR o h x y ≠ .err c k := by
  intro e
  unfold binR at e
  repeat' (first | (cases e; done) | (split at e))
  all_goals first
    | (cases e; done)
    | (rename_i xs _
       cases q : tupV y with
       | none => rw [q] at e; cases e
       | some ys => rw [q] at e; simp only [need_some] at e; split at e <;> cases e)
    | (cases q : plnV h x with
       | none => rw [q] at e; cases e
       | some xs =>
         rw [q] at e
         cases q2 : plnV h y with
         | none => rw [q2] at e; cases e
         | some ys => rw [q2] at e; simp only [need_some] at e; split at e <;> cases e)
theorem need_ne {α β : Type} {o : Option α} {f : α → Res β} {c : Nat} {k : Hea} (n : ∀ a, f a ≠ .err c k) : need o f ≠ .err c k := by
  cases o with
  | none => intro e; cases e
  | some a => exact n a
theorem ite_ne {β : Type} {p : Prop} [Decidable p] {r : Res β} {c : Nat} {k : Hea} (n : r ≠ .err c k) : (if p then r else .no) ≠ .err c k := by
  by_cases h : p
  · rw [if_pos h]; exact n
  · rw [if_neg h]; intro e; cases e
theorem biR_ne {b : Bi} {x : D} {c : Nat} {k : Hea} : biR b h x ≠ .err c k := by
  cases b <;> unfold biR
  · simp only
    split
    · intro e; cases e
    · split
      · exact ite_ne (fun e => by cases e)
      · intro e; cases e
  · simp only; split <;> (intro e; cases e)
  · simp only; split <;> (intro e; cases e)
  · exact need_ne fun _ e => by cases e
  · exact need_ne fun _ e => by cases e
  · exact need_ne fun _ e => by cases e
  · exact need_ne fun _ => need_ne fun _ e => by cases e
  · exact need_ne fun _ => need_ne fun _ e => by cases e
  · refine need_ne fun _ => need_ne fun _ e => ?_
    split at e <;> cases e
  · refine need_ne fun _ => need_ne fun _ e => ?_
    split at e <;> cases e
  · exact ite_ne (fun e => by cases e)
  · intro e; cases e
  · intro e; cases e
end

section
variable {P : Program} {w : World} {base : Heap} {G : Glb} {cf : Nat → List D → Hea → Res D} {n : Nat} {N : List Str} {sc : Scope} {fo : Str → Bool} {X : Cx} {W : WX}
variable {a b c : Expr} {fa fb fc : Loc → Hea → Res D} {pos : Pos}
theorem sv_const {v : V} {d : D} {e : Expr} (p : PE X e (tC v)) (q : ∀ μ M H, Rep G μ M H d v) : PE X e (tE G W fun _ h => .ok d h) :=
  imE p fun σ H Q ⟨μ, M, ρ, h, e, r, p⟩ => p.here r (q μ M H)
theorem sv_v (g : Good P w base G n N sc fo X) {i : Nat} {x : Str} (k : varB N sc i x = true) : PE X (.Name x pos) (tE G W fun ρ h => match ρ[i]? with | some (some d) => .ok d h | _ => .no) := by
  obtain ⟨h1, h2, h3, h4⟩ := varB_vis k
  refine imE (pe_var (i := i) (by rw [g.N]; exact h1) (by rw [g.sc]; exact h2) h3 h4) fun σ H Q q => ?_
  obtain ⟨μ, M, ρ, h, e, r, p⟩ := q.out
  split at p
  · rename_i d q
    obtain ⟨v, hv, hr⟩ := e.at_ i d q
    exact ⟨v, hv, p.here r hr⟩
  · exact p.elim
theorem sv_gc (F : Facts P w base G cf n) (g : Good P w base G n N sc fo X) {i : Nat} {p : Str × D} {x : Str} (ei : G.T.cns[i]? = some p) (ex : p.1 = x) (k : glB sc x = true) :
    PE X (.Name x pos) (tE G W fun _ h => match G.T.cns[i]? with | some p => .ok p.2 h | none => .no) := by
  obtain ⟨u, v, hm, rv, hr⟩ := F.cns i p ei
  rw [ex] at hm
  rw [ei]
  exact sv_const (pe_glob (g.gl k) (by rw [g.mg]; exact hm) rv (glB_gl k).2.1) hr
theorem sv_gf (F : Facts P w base G cf n) (g : Good P w base G n N sc fo X) {i : Nat} {fn : Fn} {x : Str} (ei : G.T.fns[i]? = some fn) (ex : fn.name = x) (k : glB sc x = true) :
    PE X (.Name x pos) (tE G W fun _ h => match G.T.fns[i]? with | some _ => .ok (.fn i) h | none => .no) := by
  obtain ⟨f, fd, ps, hm, _⟩ := F.fns i fn ei
  have hm2 := hm
  rw [ex] at hm
  rw [ei]
  exact sv_const (v := .ref f) (pe_glob (g.gl k) (by rw [g.mg]; exact hm) rfl (glB_gl k).2.1) fun μ M H => by rw [rep_fn]; exact ⟨f, fn, rfl, ei, hm2⟩
theorem sv_bin (g : Good P w base G n N sc fo X) {o : BOp} (ha : PE X a (tE G W fa)) (hb : PE X b (tE G W fb)) :
    PE X (.BinOp a o.op b pos) (tE G W fun ρ h => (fa ρ h).bind fun x h1 => (fb ρ h1).bind fun y h2 => binR o h2 x y) := by
  refine imE (pe_op (op_bin o g.K) ha hb) fun σ H Q q => ?_
  refine tG.mono (tE.b2 q) ?_
  exact fun x H1 z => z.mono fun y H2 ⟨d, e, μ, M, ρ, h, _, r, pa, pb, p⟩ => ⟨d, e, μ, M, h, r, pa, pb, p.toV fun c k => binR_ne⟩
theorem sv_neg (ha : PE X a (tE G W fa)) : PE X (.UnaryOp .USub a pos) (tE G W fun ρ h => (fa ρ h).bind fun x h1 => match x with | .int i => .ok (.int (-i)) h1 | _ => .no) := by
  refine imE (pe_un un_neg ha) fun σ H Q q => ?_
  refine tG.mono (tE.b1 q) ?_
  rintro v H1 ⟨d, μ, M, ρ, h, e, r, pa, p⟩
  split at p
  · rw [rep_int] at pa
    exact ⟨_, pa, p.here r (by rw [rep_int])⟩
  · exact p.elim
theorem sv_nt (g : Good P w base G n N sc fo X) (ha : PE X a (tE G W fa)) : PE X (.UnaryOp .Not a pos) (tE G W fun ρ h => (fa ρ h).bind fun x h1 => need (trueR h1 x) fun k => .ok (.bl !k) h1) := by
  refine imE (pe_notT ha) fun σ H Q q => ?_
  refine tG.mono (tE.b1 q) ?_
  rintro v H1 ⟨d, μ, M, ρ, h, e, r, pa, p⟩
  obtain ⟨k, ek, p⟩ := p.need
  exact ⟨k, by rw [g.K]; exact true_rep r pa ek, p.here r (by rw [rep_bl])⟩
theorem sv_cmp (g : Good P w base G n N sc fo X) {o : COp} (ha : PE X a (tE G W fa)) (hb : PE X b (tE G W fb)) (hm : behindInMarks o.op b = false) :
    PE X (.Compare a [o.op] [b] pos) (tE G W fun ρ h => ((fa ρ h).bind fun x h1 => (fb ρ h1).bind fun y h2 => need (cmpR o h2 x y) fun k => .ok k h2).bind fun k h1 => .ok (.bl k) h1) := by
  refine imE (pe_cmpR (op_cmp o g.K g.hu) ha hb hm) fun σ H Q q => ?_
  have q2 : tE G W (fun ρ h => (fa ρ h).bind fun x h1 => (fb ρ h1).bind fun y h2 => need (cmpR o h2 x y) fun k => .ok (.bl k) h2) σ H Q := tG.congr q fun ρ h => by simp only [Res.bind_assoc, need_bind, Res.bind_ok]
  refine tG.mono (tE.b2 q2) ?_
  exact fun x H1 z => z.mono fun y H2 ⟨d, e, μ, M, ρ, h, _, r, pa, pb, p⟩ => by
    obtain ⟨k, ek, p⟩ := p.need
    exact ⟨d, e, μ, M, h, k, r, pa, pb, ek, p.here r (by rw [rep_bl])⟩
theorem st_cmp (g : Good P w base G n N sc fo X) {o : COp} (ha : PE X a (tE G W fa)) (hb : PE X b (tE G W fb)) (hm : behindInMarks o.op b = false) :
    PT X (.Compare a [o.op] [b] pos) (tT G W fun ρ h => (fa ρ h).bind fun x h1 => (fb ρ h1).bind fun y h2 => need (cmpR o h2 x y) fun k => .ok k h2) := by
  refine imT (pt_cmpR (op_cmp o g.K g.hu) ha hb hm) fun σ H Q q => ?_
  refine tG.mono (tE.b2 q) ?_
  exact fun x H1 z => z.mono fun y H2 ⟨d, e, μ, M, ρ, h, _, r, pa, pb, p⟩ => by
    obtain ⟨k, ek, p⟩ := p.need
    exact ⟨d, e, μ, M, h, k, r, pa, pb, ek, k, rfl, p.here r rfl⟩
theorem st_plain (g : Good P w base G n N sc fo X) (pl : plainB a = true) (ha : PE X a (tE G W fa)) : PT X a (tT G W fun ρ h => (fa ρ h).bind fun x h1 => need (trueR h1 x) fun k => .ok k h1) := by
  refine imT (pt_truth ha (plain_true pl X.env)) fun σ H Q q => ?_
  refine tG.mono (tE.b1 q) ?_
  rintro v H1 ⟨d, μ, M, ρ, h, e, r, pa, p⟩
  obtain ⟨k, ek, p⟩ := p.need
  exact ⟨k, by rw [g.K]; exact true_rep r pa ek, p.here r rfl⟩

/-! chains -/
def chnR (o p : COp) (fa fb fc : Loc → Hea → Res D) (ρ : Loc) (h : Hea) : Res Bool :=
  (fa ρ h).bind fun x h1 => (fb ρ h1).bind fun y h2 => need (cmpR o h2 x y) fun k => if k then (fc ρ h2).bind fun z h3 => need (cmpR p h3 y z) fun k2 => .ok k2 h3 else .ok false h2
theorem chn_read (g : Good P w base G n N sc fo X) {o p : COp} {σ : St} {H : Hp} {Q : Bool → Hp → Prop} (q : tT G W (chnR o p fa fb fc) σ H Q) {Q2 : VK} (hQ : ∀ k H', Q k H' → Q2 (.bl k) H') :
    tChain (rCmp G o) (rCmp G p) (tE G W fa) (tE G W fb) (tE G W fc) σ H Q2 := by
  refine tG.mono (tE.b2 q) ?_
  exact fun x H1 z => z.mono fun y H2 ⟨d, d2, μ, M, ρ, h, e, r, pa, pb, p⟩ => by
    obtain ⟨k, ek, p⟩ := p.need
    refine ⟨d, d2, μ, M, h, k, r, pa, pb, ek, k, rfl, ?_⟩
    cases k with
    | false => exact hQ _ _ (p.here r rfl)
    | true =>
      refine tG.mono (tG.thn (f := fc) e r p) ?_
      rintro v H3 ⟨d3, μ1, M1, h1, l, e1, r1, pc, p1⟩
      obtain ⟨k2, ek2, p1⟩ := p1.need
      exact ⟨d2, d3, μ1, M1, h1, k2, r1, Rep.le r l _ _ pb, pc, ek2, hQ _ _ (p1.here r1 rfl)⟩
theorem lastMarks2 {o p : CmpOp} : lastMarks [o, p] [b, c] = behindInMarks p c := rfl
theorem st_chn (g : Good P w base G n N sc fo X) {o p : COp} (ha : PE X a (tE G W fa)) (hb : PE X b (tE G W fb)) (hc : PE X c (tE G W fc)) (hm : behindInMarks p.op c = false) :
    PT X (.Compare a [o.op, p.op] [b, c] pos) (tT G W (chnR o p fa fb fc)) :=
  imT (pt_chain (op_cmp o g.K g.hu) (op_cmp p g.K g.hu) ha hb hc (lastMarks2.trans hm)) fun σ H Q q => chn_read g q fun k H' q => ⟨k, rfl, q⟩
theorem sv_chn (g : Good P w base G n N sc fo X) {o p : COp} (ha : PE X a (tE G W fa)) (hb : PE X b (tE G W fb)) (hc : PE X c (tE G W fc)) (hm : behindInMarks p.op c = false) :
    PE X (.Compare a [o.op, p.op] [b, c] pos) (tE G W fun ρ h => (chnR o p fa fb fc ρ h).bind fun k h1 => .ok (.bl k) h1) := by
  refine imE (pe_chain (op_cmp o g.K g.hu) (op_cmp p g.K g.hu) ha hb hc (lastMarks2.trans hm)) fun σ H Q q => ?_
  refine chn_read g (Q := fun k H' => Q (.bl k) H') ?_ fun k H' q => q
  obtain ⟨μ, M, ρ, h, e, r, q⟩ := q.out
  refine ⟨μ, M, ρ, h, e, r, ?_⟩
  generalize chnR o p fa fb fc ρ h = z at q ⊢
  cases z with
  | no => exact q
  | err c k => exact q
  | ok k h1 =>
    intro k' μ' M' H' l r' ek
    cases ek
    exact q (.bl k) μ' M' H' l r' (by rw [rep_bl])

/-! and, or -/
variable {rest : List Expr} {ta tb : Loc → Hea → Res Bool}
theorem sv_and (g : Good P w base G n N sc fo X) (ha : PE X a (tE G W fa)) (hb : PE X (.BoolOp .And (b :: rest) pos) (tE G W fb)) :
    PE X (.BoolOp .And (a :: b :: rest) pos) (tE G W fun ρ h => (fa ρ h).bind fun x h1 => need (trueR h1 x) fun k => if k then fb ρ h1 else .ok x h1) := by
  refine imE (pe_andT ha hb) fun σ H Q q => ?_
  refine tG.mono (tE.b1 q) ?_
  rintro v H1 ⟨d, μ, M, ρ, h, e, r, pa, p⟩
  obtain ⟨k, ek, p⟩ := p.need
  refine ⟨k, by rw [g.K]; exact true_rep r pa ek, ?_⟩
  cases k with
  | true => exact ⟨μ, M, ρ, h, e, r, p⟩
  | false => exact p.here r pa
theorem sv_or (g : Good P w base G n N sc fo X) (ha : PE X a (tE G W fa)) (hb : PE X (.BoolOp .Or (b :: rest) pos) (tE G W fb)) :
    PE X (.BoolOp .Or (a :: b :: rest) pos) (tE G W fun ρ h => (fa ρ h).bind fun x h1 => need (trueR h1 x) fun k => if k then .ok x h1 else fb ρ h1) := by
  refine imE (pe_orT ha hb) fun σ H Q q => ?_
  refine tG.mono (tE.b1 q) ?_
  rintro v H1 ⟨d, μ, M, ρ, h, e, r, pa, p⟩
  obtain ⟨k, ek, p⟩ := p.need
  refine ⟨k, by rw [g.K]; exact true_rep r pa ek, ?_⟩
  cases k with
  | false => exact ⟨μ, M, ρ, h, e, r, p⟩
  | true => exact p.here r pa
theorem st_and (ha : PT X a (tT G W ta)) (hb : PW X (.BoolOp .And (b :: rest) pos) (tT G W tb)) :
    PW X (.BoolOp .And (a :: b :: rest) pos) (tT G W fun ρ h => (ta ρ h).bind fun k h1 => if k then tb ρ h1 else .ok false h1) := by
  refine imW (pw_and ha hb) fun σ H Q q => ?_
  refine tG.mono (tT.b1 q) ?_
  rintro k H1 ⟨μ, M, ρ, h, e, r, p⟩
  cases k with
  | true => exact ⟨μ, M, ρ, h, e, r, p⟩
  | false => exact p.here r rfl
theorem st_or (ha : PT X a (tT G W ta)) (hb : PW X (.BoolOp .Or (b :: rest) pos) (tT G W tb)) :
    PW X (.BoolOp .Or (a :: b :: rest) pos) (tT G W fun ρ h => (ta ρ h).bind fun k h1 => if k then .ok true h1 else tb ρ h1) := by
  refine imW (pw_or ha hb) fun σ H Q q => ?_
  refine tG.mono (tT.b1 q) ?_
  rintro k H1 ⟨μ, M, ρ, h, e, r, p⟩
  cases k with
  | false => exact ⟨μ, M, ρ, h, e, r, p⟩
  | true => exact p.here r rfl
theorem st_nt (ha : PT X a (tT G W ta)) : PT X (.UnaryOp .Not a pos) (tT G W fun ρ h => (ta ρ h).bind fun k h1 => .ok (!k) h1) := by
  refine imT (pt_not ha) fun σ H Q q => ?_
  refine tG.mono (tT.b1 q) ?_
  rintro k H1 ⟨μ, M, ρ, h, e, r, p⟩
  exact p.here r rfl
theorem sv_ite {tc : Loc → Hea → Res Bool} (hc : PT X c (tT G W tc)) (ha : PE X a (tE G W fa)) (hb : PE X b (tE G W fb)) :
    PE X (.IfExp c a b pos) (tE G W fun ρ h => (tc ρ h).bind fun k h1 => if k then fa ρ h1 else fb ρ h1) := by
  refine imE (pe_ifExp hc ha hb) fun σ H Q q => ?_
  refine tG.mono (tT.b1 q) ?_
  rintro k H1 ⟨μ, M, ρ, h, e, r, p⟩
  cases k with
  | true => exact ⟨μ, M, ρ, h, e, r, p⟩
  | false => exact ⟨μ, M, ρ, h, e, r, p⟩
theorem st_ite {tc ta tb : Loc → Hea → Res Bool} (hc : PT X c (tT G W tc)) (ha : PT X a (tT G W ta)) (hb : PT X b (tT G W tb)) :
    PT X (.IfExp c a b pos) (tT G W fun ρ h => (tc ρ h).bind fun k h1 => if k then ta ρ h1 else tb ρ h1) := by
  refine ⟨fun pins s σ H Q I q => ?_⟩
  show wpAny _ _ (do if ← isTrue c X.env (eval c X.env) then isTrue a X.env (eval a X.env) else isTrue b X.env (eval b X.env)) _ _ s
  refine wpAny_bind (thn (hc.run pins s σ H _ I (tT.b1 q)) fun k s1 z => ?_)
  obtain ⟨H1, I1, μ, M, ρ, h, e, r, p⟩ := z
  cases k with
  | true => exact ha.run pins s1 σ H1 Q I1 ⟨μ, M, ρ, h, e, r, p⟩
  | false => exact hb.run pins s1 σ H1 Q I1 ⟨μ, M, ρ, h, e, r, p⟩
end
end PyI

set_option Elab.async false
set_option linter.all false
set_option maxRecDepth 100000
/-! PyJ: displays, subscripts, slices, calls, methods. -/
namespace PyI
open PySem L2

section
variable {α β γ δ : Type} {G : Glb} {μ : Mu} {M : Mk} {H : Hp} {h : Hea} {W : WX} {σ : St} {R2 : Mu → Mk → Hp → γ → δ → Prop}
theorem tG.split (p : D → Hea → Bool) {f f1 : Loc → Hea → Res D} {g : Loc → D → D → Hea → Res γ} {Q : δ → Hp → Prop} (q : tG G W R2 (fun ρ h => (f ρ h).bind fun a h1 => (f1 ρ h1).bind fun b h2 => g ρ a b h2) σ H Q) :
    tG G W R2 (fun ρ h => (f ρ h).bind fun a h1 => (f1 ρ h1).bind fun b h2 => if p a h2 = true then g ρ a b h2 else .no) σ H Q ∨ tG G W R2 (fun ρ h => (f ρ h).bind fun a h1 => (f1 ρ h1).bind fun b h2 => if p a h2 = false then g ρ a b h2 else .no) σ H Q := by
  obtain ⟨μ, M, ρ, h, e, r, q⟩ := q.out
  cases ef : f ρ h with
  | no => rw [ef] at q; exact q.elim
  | err c k => rw [ef] at q; exact .inl (tG.of e r (by rw [ef]; exact q))
  | ok a h1 =>
    rw [ef, Res.bind_ok] at q
    cases ef1 : f1 ρ h1 with
    | no => rw [ef1] at q; exact q.elim
    | err c k => rw [ef1] at q; exact .inl (tG.of e r (by rw [ef, Res.bind_ok, ef1]; exact q))
    | ok b h2 =>
      rw [ef1, Res.bind_ok] at q
      cases ep : p a h2 with
      | true => exact .inl (tG.of e r (by rw [ef, Res.bind_ok, ef1, Res.bind_ok, if_pos ep]; exact q))
      | false => exact .inr (tG.of e r (by rw [ef, Res.bind_ok, ef1, Res.bind_ok, if_pos ep]; exact q))
theorem tA.b2 {f : Loc → Hea → Res D} {f1 : Loc → Hea → Res (List D)} {g : Loc → D → List D → Hea → Res γ} {Q : δ → Hp → Prop} (q : tG G W R2 (fun ρ h => (f ρ h).bind fun a h1 => (f1 ρ h1).bind fun b h2 => g ρ a b h2) σ H Q) :
    tE G W f σ H (fun b H1 => tAr G W f1 σ H1 fun b1 H2 => ∃ a a1 μ M ρ h, Envi G μ M H2 ρ σ ∧ Hrel G μ M H2 h ∧ Rep G μ M H2 a b ∧ Reps G μ M H2 a1 b1 ∧ Post G R2 (fun c H' => W c none σ H') μ M H2 (g ρ a a1 h) Q) :=
  tG.bind2 (R := Rep G) (R1 := Reps G) stab_rep q
/-- a new changeable object is told -/
theorem Post.alloc {Wv : Value → Hp → Prop} {u : MO} {o : HO} {Q : VK} {p : Addr} (q : Post G (Rep G) Wv μ M H (allocR u h) Q) (r : Hrel G μ M H h) (hp : H p = none)
    (m : MRep G (μ ++ [some p]) (fun a => M a ∨ a = p) (upd H p o) p u) : Q (.ref p) (upd H p o) := by
  refine q (.ref p) _ _ _ (Le.alloc hp) (r.alloc hp m) ?_
  rw [rep_ref]
  exact ⟨p, rfl, .inl (by rw [← r.len, List.getElem?_append_right (Nat.le_refl _), Nat.sub_self]; rfl)⟩
theorem frz_post {Wv : Value → Hp → Prop} {d : D} {v : V} {Q : VK} (p : Post G (Rep G) Wv μ M H (frzR h d) Q) (r : Hrel G μ M H h) (q : Rep G μ M H d v) : Q v H := by
  unfold frzR at p
  split at p
  · rename_i n
    split at p
    · rename_i xs e
      obtain ⟨a, rfl, hn, ys, s, t⟩ := r.at_ q e (by intro z; cases z)
      exact p (.ref a) _ _ _ (Le.die hn) (r.die hn) (by rw [rep_lst]; exact ⟨a, ys, rfl, s, fun z => z.2 rfl, Reps.le r (Le.die hn) _ _ t⟩)
    · rename_i ks ds e
      obtain ⟨a, rfl, hn, ys, s, k, t⟩ := r.at_ q e (by intro z; cases z)
      exact p (.ref a) _ _ _ (Le.die hn) (r.die hn) (by rw [rep_dK]; exact ⟨a, ys, rfl, .inl s, fun z => z.2 rfl, k, Reps.le r (Le.die hn) _ _ t⟩)
    · rename_i ks ds e
      obtain ⟨a, rfl, hn, ys, s, k, t⟩ := r.at_ q e (by intro z; cases z)
      exact p (.ref a) _ _ _ (Le.die hn) (r.die hn) (by rw [rep_dT]; exact ⟨a, ys, rfl, .inl s, fun z => z.2 rfl, k, Reps.le r (Le.die hn) _ _ t⟩)
    · exact p.elim
  · exact p.here r q
theorem subR_seq {x y d : D} {xs : List D} (e : seqV h x = some xs) (q : subR h x y = some d) : ∃ i, intV y = some i ∧ atI xs i = some d := by
  unfold subR at q
  rw [e] at q
  exact Option.bind_eq_some_iff.mp q
theorem atI_rep {ds : List D} {xs : List V} {i : Int} {d : D} (q : Reps G μ M H ds xs) (e : atI ds i = some d) : ∃ v, atI xs i = some v ∧ Rep G μ M H d v := by
  unfold atI at e ⊢
  rw [q.length]
  revert e
  generalize ixN ds.length i = k
  cases k with
  | none => intro e; cases e
  | some j => exact fun e => q.get e
theorem plain_to {pos : Pos} {ts : List (Bool × Sem Value)} (h : ts.any (·.1) = false) : backTo pos ts = ts := by
  unfold backTo
  induction ts with
  | nil => rfl
  | cons t r ih =>
    have h' : t.1 = false ∧ r.any (·.1) = false := by simpa using h
    obtain ⟨s, t⟩ := t
    have : s = false := h'.1
    subst this
    rw [List.map_cons, ih h'.2]; rfl
end

section
variable {P : Program} {w : World} {base : Heap} {G : Glb} {cf : Nat → List D → Hea → Res D} {n : Nat} {N : List Str} {sc : Scope} {fo : Str → Bool} {X : Cx} {W : WX}
variable {a b c : Expr} {es : List Expr} {fa fb fc : Loc → Hea → Res D} {fs : Loc → Hea → Res (List D)} {pos : Pos}
theorem sv_nil : PA X [] (tAr G W fun _ h => .ok [] h) := imA pa_nil fun σ H Q q => by
  obtain ⟨μ, M, ρ, h, e, r, p⟩ := q.out
  exact p.here r Reps.nil
theorem sv_cons (ha : PE X a (tE G W fa)) (hr : PA X es (tAr G W fs)) (hs : starEach (a :: es) X.env = (false, eval a X.env) :: starEach es X.env) :
    PA X (a :: es) (tAr G W fun ρ h => (fa ρ h).bind fun x h1 => (fs ρ h1).bind fun xs h2 => .ok (x :: xs) h2) := by
  refine imA (pa_cons ha hr hs) fun σ H Q q => ?_
  refine tG.mono (tA.b2 q) ?_
  exact fun v H1 z => z.mono fun vs H2 ⟨d, ds, μ, M, ρ, h, e, r, pa, pb, p⟩ => p.here r (pb.cons pa |> fun x => x)
theorem sv_tup {x1} (hs : PA X es (tAr G W fs)) : PE X (.Tuple es x1 pos) (tE G W fun ρ h => (fs ρ h).bind fun xs h1 => if xs.length ≤ sizeLine then .ok (.tup xs) h1 else .no) := by
  refine imE (pe_tup hs) fun σ H Q q => ?_
  refine tG.mono (tA.b1 q) ?_
  rintro vs H1 ⟨ds, μ, M, ρ, h, e, r, pa, p⟩
  obtain ⟨z, p⟩ := p.ite
  exact ⟨by rw [pa.length]; exact z, fun a ha => p (.ref a) μ M _ (Le.fresh ha) (r.fresh ha) (Rep.newTup r ha pa)⟩
theorem sv_tupK {x1} (hs : PA X es (tAr G W fs)) : PE X (.Tuple es x1 pos) (tE G W fun ρ h => (fs ρ h).bind fun xs h1 => if xs.length ≤ sizeLine then .ok (.plc xs) h1 else .no) := by
  refine imE (pe_tup hs) fun σ H Q q => ?_
  refine tG.mono (tA.b1 q) ?_
  rintro vs H1 ⟨ds, μ, M, ρ, h, e, r, pa, p⟩
  obtain ⟨z, p⟩ := p.ite
  exact ⟨by rw [pa.length]; exact z, fun a ha => p (.ref a) μ M _ (Le.fresh ha) (r.fresh ha) (Rep.newPlc r ha pa)⟩
theorem sv_lst (hs : PA X es (tAr G W fs)) : PE X (.List es pos) (tE G W fun ρ h => (fs ρ h).bind fun xs h1 => if xs.length ≤ sizeLine then .ok (.lst xs) h1 else .no) := by
  refine imE (pe_lst hs) fun σ H Q q => ?_
  refine tG.mono (tA.b1 q) ?_
  rintro vs H1 ⟨ds, μ, M, ρ, h, e, r, pa, p⟩
  obtain ⟨z, p⟩ := p.ite
  exact ⟨by rw [pa.length]; exact z, fun a ha => p (.ref a) μ M _ (Le.fresh ha) (r.fresh ha) (Rep.newLst r ha pa)⟩
theorem sv_lstM (hs : PA X es (tAr G W fs)) : PE X (.List es pos) (tE G W fun ρ h => (fs ρ h).bind fun xs h1 => if xs.length ≤ sizeLine then allocR (.lst xs) h1 else .no) := by
  refine imE (pe_lst hs) fun σ H Q q => ?_
  refine tG.mono (tA.b1 q) ?_
  rintro vs H1 ⟨ds, μ, M, ρ, h, e, r, pa, p⟩
  obtain ⟨z, p⟩ := p.ite
  exact ⟨by rw [pa.length]; exact z, fun a ha => p.alloc r ha ⟨vs, upd_same, Reps.le r (Le.alloc ha) _ _ pa⟩⟩
theorem sv_dnewK : PE X (.Dict [] [] pos) (tE G W fun _ h => allocR (.dK [] []) h) := by
  refine imE pe_dnewK fun σ H Q q => ?_
  obtain ⟨μ, M, ρ, h, e, r, p⟩ := q.out
  exact fun a ha => p.alloc r ha ⟨[], upd_same, rfl, Reps.nil⟩
theorem sv_dnewT : PE X (.Dict [] [] pos) (tE G W fun _ h => allocR (.dT [] []) h) := by
  refine imE pe_dnewT fun σ H Q q => ?_
  obtain ⟨μ, M, ρ, h, e, r, p⟩ := q.out
  exact fun a ha => p.alloc r ha ⟨[], upd_same, rfl, Reps.nil⟩
theorem sv_frz (ha : PE X a (tE G W fa)) : PE X a (tE G W fun ρ h => (fa ρ h).bind fun x h1 => frzR h1 x) := by
  refine imE ha fun σ H Q q => ?_
  refine tG.mono (tE.b1 q) ?_
  rintro v H1 ⟨d, μ, M, ρ, h, e, r, pa, p⟩
  exact frz_post p r pa
theorem sv_sub (g : Good P w base G n N sc fo X) (ha : PE X a (tE G W fa)) (hb : PE X b (tE G W fb)) (hs : PlainIx b) :
    PE X (.Subscript a b pos) (tE G W fun ρ h => (fa ρ h).bind fun x h1 => (fb ρ h1).bind fun y h2 => need (subR h2 x y) fun d => .ok d h2) := by
  refine imE (orE (pe_ix ix_seq ha hb hs) (pe_dget g.hu1 ha hb hs)) fun σ H Q q => ?_
  rcases tG.split (fun x h => (seqV h x).isSome) q with q | q
  · refine .inl (tG.mono (tE.b2 q) ?_)
    exact fun v H1 z => z.mono fun u H2 ⟨d, d2, μ, M, ρ, h, e, r, pa, pb, p⟩ => by
      obtain ⟨c, p⟩ := p.ite
      obtain ⟨y, ey, p⟩ := p.need
      obtain ⟨xs, ex⟩ := Option.isSome_iff_exists.mp c
      obtain ⟨i, ei, ej⟩ := subR_seq ex ey
      obtain ⟨p', vs, rfl, sq, t⟩ := seq_rep r pa ex
      obtain ⟨z, ez, rz⟩ := atI_rep t ej
      have eu := int_rep pb ei
      subst eu
      rw [g.K]
      rcases sq with sq | sq
      · exact .inl ⟨p', vs, i, z, rfl, rfl, sq, ez, p.here r rz⟩
      · exact .inr (.inl ⟨p', vs, i, z, rfl, rfl, sq, ez, p.here r rz⟩)
  · refine .inr (tG.mono (tE.b2 q) ?_)
    exact fun v H1 z => z.mono fun u H2 ⟨d, d2, μ, M, ρ, h, e, r, pa, pb, p⟩ => by
      obtain ⟨c, p⟩ := p.ite
      obtain ⟨y, ey, p⟩ := p.need
      unfold subR at ey
      have c' : seqV h d = none := by simpa using c
      rw [c'] at ey
      obtain ⟨o, eo, e2⟩ := Option.bind_eq_some_iff.mp (show (dctGet h d d2).bind id = some y from ey)
      cases (show o = some y from e2)
      obtain ⟨q', w', rfl, isd, dg, rw'⟩ := dctGet_rep r pa pb eo
      cases w' with
      | none => exact rw'.elim
      | some w' => exact ⟨q', w', rfl, dg, p.here r rw'⟩
theorem sv_bi (F : Facts P w base G cf n) (g : Good P w base G n N sc fo X) {bi : Bi} {x : Str} {p : Pos} (ex : x = bi.nm) (k : glB sc x = true) (ha : PE X a (tE G W fa))
    (hs : starEach [a] X.env = (false, eval a X.env) :: starEach [] X.env) :
    PE X (.Call (.Name x p) [a] [] pos) (tE G W fun ρ h => (fa ρ h).bind fun x h1 => biR bi h1 x) := by
  have hg := g.gl k
  have hm : X.mg x = none := by rw [g.mg, ex]; exact F.blt _ (bi_free bi)
  have hv : bootBuiltins x = some bi.val := by rw [ex]; exact bi_boot bi
  have cr := cr_bi (G := G) (X := X) bi g.K g.calm g.gd g.hu
  have ar : PA X [a] (tCons (tE G W fa) tNil) := pa_cons ha pa_nil hs
  have key : PE X (.Call (.Name x p) [a] [] pos) (tCB (rBi G bi) (tCons (tE G W fa) tNil)) := by
    unfold Bi.val at hv cr
    by_cases t : bi.isTy = true
    · rw [if_pos t] at hv cr
      exact pe_callTy cr hg hm hv ar (glB_gl k).2.2 (glB_gl k).2.1 hs rfl
    · rw [if_neg t] at hv cr
      exact pe_callB cr hg hm hv ar (glB_gl k).2.2 (glB_gl k).2.1 hs rfl
  refine imE key fun σ H Q q => ?_
  refine tG.mono (tE.b1 q) ?_
  rintro v H1 ⟨d, μ, M, ρ, h, e, r, pa, p⟩
  exact ⟨d, v, μ, M, h, rfl, r, pa, p.toV fun _ _ => biR_ne⟩
def Ty.val (t : Ty) : Value := .type t.nm
theorem ty_boot (t : Ty) : bootBuiltins t.nmS = some t.val := by cases t <;> decide +kernel
theorem ty_free (t : Ty) : t.nmS ∈ bltNames := by cases t <;> decide +kernel
theorem sv_isi (F : Facts P w base G cf n) (g : Good P w base G n N sc fo X) {t : Ty} {x z : Str} {p p2 : Pos} (ex : x = "isinstance") (k : glB sc x = true) (ez : z = t.nmS) (k2 : glB sc z = true) (ha : PE X a (tE G W fa))
    (hs : starEach [a, .Name z p2] X.env = (false, eval a X.env) :: starEach [.Name z p2] X.env) :
    PE X (.Call (.Name x p) [a, .Name z p2] [] pos) (tE G W fun ρ h => (fa ρ h).bind fun x h1 => need (isiR h1 x t) fun k => .ok (.bl k) h1) := by
  have hm : X.mg x = none := by rw [g.mg, ex]; exact F.blt _ (by decide +kernel)
  have hv : bootBuiltins x = some (.builtin "isinstance") := by rw [ex]; decide +kernel
  have h2 : PE X (.Name z p2) (tC (.ty t.nm)) := pe_bltn (g.gl k2) (by rw [g.mg, ez]; exact F.blt _ (ty_free t)) (by rw [ez]; exact ty_boot t) rfl (glB_gl k2).2.2 (glB_gl k2).2.1
  have ar : PA X [a, .Name z p2] (tCons (tE G W fa) (tCons (tC (.ty t.nm)) tNil)) := pa_cons ha (pa_cons h2 pa_nil rfl) hs
  refine imE (pe_callB call_isi (g.gl k) hm hv ar (glB_gl k).2.2 (glB_gl k).2.1 hs rfl) fun σ H Q q => ?_
  refine tG.mono (tE.b1 q) ?_
  rintro v H1 ⟨d, μ, M, ρ, h, e, r, pa, p⟩
  obtain ⟨kk, ek, p⟩ := p.need
  obtain ⟨T, ty, kb⟩ := isi_rep r pa ek
  exact ⟨v, .ty t.nm, .type T, .type t.nm, kk, rfl, .ty _, g.K ▸ ty, kb, p.here r (by rw [rep_bl])⟩

/-! ### slices -/
theorem so_none : PO X none tNoPart := po_none
/-- a slice's part, by the evaluator -/
def tPa (G : Glb) (W : WX) (f : Loc → Hea → Res (List D)) : TO := tG G W (fun _ _ _ a b => a = b) fun ρ h => (f ρ h).bind fun l h1 => need (partV l) fun l => .ok l h1
theorem imO {e : Option Expr} {t t' : TO} (p : PO X e t) (i : ∀ σ H Q, t' σ H Q → t σ H Q) : PO X e t' := ⟨fun pins s σ H Q I h => p.run pins s σ H Q I (i σ H Q h)⟩
theorem sv_ono : PO X none (tPa G W fun _ h => .ok [] h) := imO po_none fun σ H Q q => by
  obtain ⟨μ, M, ρ, h, e, r, p⟩ := q.out
  exact p.here r rfl
theorem sv_osome (ha : PE X a (tE G W fa)) : PO X (some a) (tPa G W fun ρ h => (fa ρ h).bind fun x h1 => (Res.ok [] h1).bind fun xs h2 => .ok (x :: xs) h2) := by
  refine imO (po_some ha) fun σ H Q q => ?_
  have q2 : tG G W (fun _ _ _ a b => a = b) (fun ρ h => (fa ρ h).bind fun x h1 => need (partV [x]) fun l => .ok l h1) σ H Q := tG.congr q fun ρ h => by simp only [Res.bind_assoc, Res.bind_ok]
  refine tG.mono (tE.b1 q2) ?_
  rintro v H1 ⟨d, μ, M, ρ, h, e, r, pa, p⟩
  obtain ⟨o, eo, p⟩ := p.need
  cases d with
  | int i =>
    cases (show some (some i) = some o from eo)
    rw [rep_int] at pa
    exact ⟨i, pa, p.here r rfl⟩
  | _ => cases eo
theorem cut_rep {μ : Mu} {M : Mk} {H : Hp} {ds : List D} {xs : List V} {lo hi : Option Int} (q : Reps G μ M H ds xs) : Reps G μ M H (cutD ds lo hi) (cutV xs lo hi) := by
  unfold cutD cutV
  rw [q.length]
  exact (q.drop _).take _
theorem cut_all {ds : List D} {lo hi : Option Int} (c : HT.sIx ds.length 0 lo = 0 ∧ HT.sIx ds.length ds.length hi = ds.length) : cutD ds lo hi = ds := by
  unfold cutD
  rw [c.1, c.2]; simp
def slcR (fa : Loc → Hea → Res D) (fl fh : Loc → Hea → Res (List D)) (ρ : Loc) (h : Hea) : Res D :=
  (fa ρ h).bind fun x h1 => ((fl ρ h1).bind fun l h2 => need (partV l) fun l => .ok l h2).bind fun l h2 => ((fh ρ h2).bind fun u h3 => need (partV u) fun u => .ok u h3).bind fun u h3 =>
      match tupV x with
      | some xs => .ok (.tup (cutD xs l u)) h3
      | none => need (lstV h3 x) fun xs => .ok (.lst (cutD xs l u)) h3
theorem sv_slc (g : Good P w base G n N sc fo X) {lo hi : Option Expr} {fl fh : Loc → Hea → Res (List D)} {p2 : Pos} (ha : PE X a (tE G W fa)) (hl : PO X lo (tPa G W fl)) (hh : PO X hi (tPa G W fh)) :
    PE X (.Subscript a (.Slice lo hi none p2) pos) (tE G W (slcR fa fl fh)) := by
  refine imE (pe_slice (SlR.or sl_list sl_tupA) ha hl hh) fun σ H Q q => ?_
  obtain ⟨μ, M, ρ, h, e, r, p⟩ := q.out
  unfold slcR at p
  refine tG.mono (tG.thn (f := fa) e r p) ?_
  rintro v H1 ⟨d, μ1, M1, h1, l1, e1, r1, pa, p1⟩
  refine tG.mono (tG.thn (R := fun _ _ _ a b => a = b) (f := fun ρ h => (fl ρ h).bind fun l h1 => need (partV l) fun l => .ok l h1) e1 r1 p1) ?_
  rintro lo' H2 ⟨_, μ2, M2, h2, l2, e2, r2, rfl, p2⟩
  refine tG.mono (tG.thn (R := fun _ _ _ a b => a = b) (f := fun ρ h => (fh ρ h).bind fun l h1 => need (partV l) fun l => .ok l h1) e2 r2 p2) ?_
  rintro hi' H3 ⟨_, μ3, M3, h3, l3, e3, r3, rfl, p3⟩
  have pd := Rep.le r1 (l2.trans l3) _ _ pa
  rw [g.K]
  split at p3
  · rename_i xs ex
    obtain ⟨a', ys, rfl, sq, t⟩ := tup_rep pd ex
    have hl := t.length
    refine .inr ⟨a', ys, rfl, sq, fun c => ?_, fun _ p hp => ?_⟩
    · rw [hl] at c
      refine p3.here r3 ?_
      rw [cut_all c, rep_tup]
      exact ⟨a', ys, rfl, sq, t⟩
    · exact p3 (.ref p) μ3 M3 _ (Le.fresh hp) (r3.fresh hp) (Rep.newTup r3 hp (cut_rep t))
  · obtain ⟨xs, ex, p3⟩ := p3.need
    obtain ⟨a', ys, rfl, sq, t⟩ := lst_rep r3 pd ex
    exact .inl ⟨a', ys, rfl, sq, fun p hp => p3 (.ref p) μ3 M3 _ (Le.fresh hp) (r3.fresh hp) (Rep.newLst r3 hp (cut_rep t))⟩

/-! ### methods -/
variable {apos : Pos}
theorem pln_ty {μ : Mu} {M : Mk} {H : Hp} {h : Hea} {d : D} {v : V} (r : Hrel G μ M H h) (p : Rep G μ M H d v) (k : (plnV h d).isSome = true) : tyV G.K "list" v H := by
  obtain ⟨ds, e⟩ := Option.isSome_iff_exists.mp k
  obtain ⟨a, xs, rfl, s, _⟩ := pln_rep r p e
  exact .inl ⟨rfl, xs, .of s⟩
theorem isD_of {μ : Mu} {M : Mk} {H : Hp} {h : Hea} {d : D} {v : V} (r : Hrel G μ M H h) (p : Rep G μ M H d v) (k : mtOk .get2 h d = true) : ∃ a, v = .ref a ∧ IsD H a := by
  unfold mtOk at k
  split at k
  · rename_i q; cases q
  · rename_i q; cases q
  · rename_i q; cases q
  · split at k
    · rw [rep_dK] at p; obtain ⟨a, kvs, rfl, s, _⟩ := p; exact ⟨a, rfl, .inl ⟨kvs, s⟩⟩
    · rw [rep_dT] at p; obtain ⟨a, kvs, rfl, s, _⟩ := p; exact ⟨a, rfl, .inr ⟨kvs, s⟩⟩
    · split at k
      · rename_i z; obtain ⟨a, rfl, _, kvs, s, _⟩ := r.at_ p z (by intro z; cases z); exact ⟨a, rfl, .inl ⟨kvs, .inl s⟩⟩
      · rename_i z; obtain ⟨a, rfl, _, kvs, s, _⟩ := r.at_ p z (by intro z; cases z); exact ⟨a, rfl, .inr ⟨kvs, .inl s⟩⟩
      · rename_i z; obtain ⟨a, rfl, _, ob, kvs, s, _⟩ := r.at_ p z (by intro z; cases z); exact ⟨a, rfl, .inl ⟨kvs, .inr ⟨ob, s⟩⟩⟩
      · rename_i z; obtain ⟨a, rfl, _, ob, kvs, s, _⟩ := r.at_ p z (by intro z; cases z); exact ⟨a, rfl, .inr ⟨kvs, .inr ⟨ob, s⟩⟩⟩
      · cases k
    · cases k
/-- what stands behind a method's name -/
def mtF (m : Mt) (fo : Loc → Hea → Res D) (fs : Loc → Hea → Res (List D)) (ρ : Loc) (h : Hea) : Res D :=
  (fo ρ h).bind fun x h1 => if mtOk m h1 x then (fs ρ h1).bind fun xs h2 => mtR m h2 x xs else .no
theorem mt_append_post {Wv : Value → Hp → Prop} {μ : Mu} {M : Mk} {H : Hp} {h : Hea} {d : D} {v : V} {ds : List D} {vs : List V} {Q : VK} (p : Post G (Rep G) Wv μ M H (mtR .append h d ds) Q) (r : Hrel G μ M H h) (pa : Rep G μ M H d v) (pb : Reps G μ M H ds vs) : rAppend v vs H Q := by
  unfold mtR at p
  split at p
  · rename_i q; cases q
  · rename_i y q
    split at p
    · rename_i n
      split at p
      · rename_i xs ex
        obtain ⟨z, p⟩ := p.ite
        obtain ⟨a, rfl, hn, ys, s, t⟩ := r.at_ pa ex (by intro z; cases z)
        unfold Reps at pb
        obtain ⟨u, tl, rfl, pu, pt⟩ := pb
        unfold Reps at pt
        subst pt
        refine ⟨a, ys, u, rfl, rfl, s, by rw [t.length]; exact z, ?_⟩
        exact p .non μ M _ (Le.write hn) (r.write hn ⟨ys ++ [u], upd_same, (Reps.le r (Le.write hn) _ _ t).append (Reps.cons (Rep.le r (Le.write hn) _ _ pu) Reps.nil)⟩) (by rw [rep_non])
      · exact p.elim
    · exact p.elim
  · rename_i q; cases q
  · exact p.elim
theorem mt_pop_post {Wv : Value → Hp → Prop} {μ : Mu} {M : Mk} {H : Hp} {h : Hea} {d : D} {v : V} {Q : VK} (p : Post G (Rep G) Wv μ M H (mtR .pop h d []) Q) (r : Hrel G μ M H h) (pa : Rep G μ M H d v) : rPop v [] H Q := by
  unfold mtR at p
  split at p
  · rename_i q; cases q
  · rename_i q; cases q
  · split at p
    · rename_i n
      split at p
      · rename_i xs ex
        obtain ⟨y, ey, p⟩ := p.need
        obtain ⟨a, rfl, hn, ys, s, t⟩ := r.at_ pa ex (by intro z; cases z)
        obtain ⟨u, eu, ru⟩ := t.get ey
        refine ⟨a, ys, u, rfl, rfl, s, by rw [t.length]; exact eu, ?_⟩
        exact p u μ M _ (Le.write hn) (r.write hn ⟨ys.dropLast, upd_same, (Reps.le r (Le.write hn) _ _ t).dropLast⟩) (Rep.le r (Le.write hn) _ _ ru)
      · exact p.elim
    · exact p.elim
  · rename_i hno; exact absurd rfl (hno rfl)
theorem few_of {es : List Expr} {pos : Pos} (hp : (backTo pos (starEach es X.env)).any (·.1) = false) (hl : es.length < 20) : ((backTo pos (starEach es X.env)).all (fun x => !x.1) && (backToKw pos (keywordEach [] X.env)).all (fun x => x.1.isSome)
    && decide (es.length + ([] : List Keyword).length + (if ([] : List Keyword).isEmpty then 0 else 1) < 30)) = true := by
  have h1 : (backTo pos (starEach es X.env)).all (fun x => !x.1) = true := by
    rw [← Bool.not_eq_false', ← hp]
    rw [List.not_all_eq_any_not]; simp
  rw [h1]
  have h2 : (backToKw pos (keywordEach [] X.env)).all (fun x => x.1.isSome) = true := rfl
  rw [h2]
  simp; omega
theorem sv_append (g : Good P w base G n N sc fo X) {name : Str} (en : name = "append") {e : Expr} (ha : PE X a (tE G W fa)) (hs : PA X [e] (tAr G W fs)) (hb : attributeBase a name X.env (eval a X.env) = eval a X.env) (hl : (apos.endLine == pos.line) = true)
    (he : starEach [e] X.env = (false, eval e X.env) :: starEach [] X.env) :
    PE X (.Call (.Attribute a name apos) [e] [] pos) (tE G W (mtF .append fa fs)) := by
  subst en
  have hp : (backTo pos (starEach [e] X.env)).any (·.1) = false := by rw [he]; rfl
  refine imE (pe_bm PySem.F.plainAttrs_list PySem.F.slot_list_append PySem.F.type_list_append mt_append ha hs hb (few_of hp (by simp)) hl he rfl) fun σ H Q q => ?_
  obtain ⟨μ, M, ρ, h, e1, r, p⟩ := q.out
  unfold mtF at p
  refine tG.mono (tG.thn (f := fa) e1 r p) ?_
  rintro v H1 ⟨d, μ1, M1, h1, l1, e1, r1, pa, p1⟩
  obtain ⟨k, p1⟩ := p1.ite
  refine ⟨by rw [g.K]; exact pln_ty r1 pa k, tG.mono (tG.thn (f := fs) e1 r1 p1) ?_⟩
  rintro vs H2 ⟨ds, μ2, M2, h2, l2, e2, r2, pb, p2⟩
  exact mt_append_post p2 r2 (Rep.le r1 l2 _ _ pa) pb
theorem sv_pop (g : Good P w base G n N sc fo X) {name : Str} (en : name = "pop") (ha : PE X a (tE G W fa)) (hb : attributeBase a name X.env (eval a X.env) = eval a X.env) (hl : (apos.endLine == pos.line) = true) :
    PE X (.Call (.Attribute a name apos) [] [] pos) (tE G W (mtF .pop fa fun _ h => .ok [] h)) := by
  subst en
  refine imE (pe_bm0 PySem.F.plainAttrs_list PySem.F.slot_list_pop PySem.F.type_list_pop mt_pop ha hb hl) fun σ H Q q => ?_
  obtain ⟨μ, M, ρ, h, e1, r, p⟩ := q.out
  unfold mtF at p
  refine tG.mono (tG.thn (f := fa) e1 r p) ?_
  rintro v H1 ⟨d, μ1, M1, h1, l1, e1, r1, pa, p1⟩
  obtain ⟨k, p1⟩ := p1.ite
  exact ⟨by rw [g.K]; exact pln_ty r1 pa k, mt_pop_post p1 r1 pa⟩
theorem sv_get2 (g : Good P w base G n N sc fo X) {name : Str} (en : name = "get") (ha : PE X a (tE G W fa)) (h1 : PE X b (tE G W fb)) (h2 : PE X c (tE G W fc)) (hb : attributeBase a name X.env (eval a X.env) = eval a X.env) (hl : (apos.endLine == pos.line) = true)
    (he : starEach [b, c] X.env = [(false, eval b X.env), (false, eval c X.env)]) :
    PE X (.Call (.Attribute a name apos) [b, c] [] pos) (tE G W (mtF .get2 fa fun ρ h => (fb ρ h).bind fun x h1 => ((fc ρ h1).bind fun y h2 => (Res.ok [] h2).bind fun xs h3 => .ok (y :: xs) h3).bind fun xs h2 => .ok (x :: xs) h2)) := by
  subst en
  have hp : backTo pos (starEach [b, c] X.env) = [(false, eval b X.env), (false, eval c X.env)] := by rw [he]; rfl
  refine imE (pe_dget2 g.hu1 ha h1 h2 ⟨hb, few_of (by rw [hp]; rfl) (by simp), hl, hp⟩) fun σ H Q q => ?_
  have q2 : tE G W (fun ρ h => (fa ρ h).bind fun x h1 => if mtOk .get2 h1 x = true then (fb ρ h1).bind fun y h2 => (fc ρ h2).bind fun z h3 => mtR .get2 h3 x [y, z] else .no) σ H Q :=
    tG.congr q fun ρ h => by unfold mtF; simp only [Res.bind_assoc, Res.bind_ok]
  obtain ⟨μ, M, ρ, h, e1, r, p⟩ := q2.out
  refine tG.mono (tG.thn (f := fa) e1 r p) ?_
  rintro v H1 ⟨d, μ1, M1, h1, l1, e1, r1, pa, p1⟩
  obtain ⟨k, p1⟩ := p1.ite
  obtain ⟨a', rfl, isd⟩ := isD_of r1 pa k
  refine ⟨a', rfl, isd, tG.mono (tG.thn (f := fb) e1 r1 p1) ?_⟩
  rintro y H2 ⟨d2, μ2, M2, h2, l2, e2, r2, pb, p2⟩
  refine tG.mono (tG.thn (f := fc) e2 r2 p2) ?_
  rintro z H3 ⟨d3, μ3, M3, h3, l3, e3, r3, pc, p3⟩
  have p3 : Post G (Rep G) (fun c H' => W c none σ H') μ3 M3 H3 (need (dctGet h3 d d2) fun r => .ok (r.getD d3) h3) Q := p3
  obtain ⟨o, eo, p3⟩ := p3.need
  obtain ⟨q', w', e4, isd', dg, rw'⟩ := dctGet_rep r3 (Rep.le r1 (l2.trans l3) _ _ pa) (Rep.le r2 l3 _ _ pb) eo
  cases e4
  refine ⟨w', dg, p3.here r3 ?_⟩
  cases o with
  | none => cases w' with
    | none => exact pc
    | some _ => exact rw'.elim
  | some o => cases w' with
    | none => exact rw'.elim
    | some _ => exact rw'
end
end PyI

set_option Elab.async false
set_option linter.all false
set_option maxRecDepth 100000
/-! PyK: targets; what loops walk. -/
namespace PyI
open PySem L2

/-! ### targets -/
/-- a target by the evaluator -/
def tGt (G : Glb) (own : List Nat) (t : Tg) : TG := fun v σ H Q => ∃ μ M ρ d ρ', Envi G μ M H ρ σ ∧ Rep G μ M H d v ∧ evG t ρ d = some ρ' ∧ ∀ σ', Envi G μ M H ρ' σ' → L2.wipe σ' own = L2.wipe σ own → Q σ' H
def tGts (G : Glb) (own : List Nat) (t : Tgs) : TGs := fun vs σ H Q => ∃ μ M ρ ds ρ', Envi G μ M H ρ σ ∧ Reps G μ M H ds vs ∧ evGs t ρ ds = some ρ' ∧ ∀ σ', Envi G μ M H ρ' σ' → L2.wipe σ' own = L2.wipe σ own → Q σ' H
theorem set_set_none {α : Type} (l : List (Option α)) (i : Nat) (x : Option α) : (l.set i x).set i none = l.set i none := by rw [List.set_set]
theorem wipe_set {σ : St} {i : Nat} {x : Option V} : ∀ {own : List Nat}, i ∈ own → L2.wipe (σ.set i x) own = L2.wipe σ own
  | v :: vs, h => by
    unfold L2.wipe
    by_cases hv : i = v
    · subst hv
      by_cases hm : i ∈ vs
      · rw [wipe_set hm]
      · have : ∀ vs : List Nat, (L2.wipe (σ.set i x) vs).set i none = (L2.wipe σ vs).set i none := by
          intro vs
          induction vs with
          | nil => simp [L2.wipe, List.set_set]
          | cons u us ih =>
            unfold L2.wipe
            by_cases hu : u = i
            · subst hu; rw [List.set_set, List.set_set]; exact ih
            · rw [List.set_comm _ _ hu, List.set_comm _ _ hu, ih]
        exact this vs
    · rcases List.mem_cons.mp h with e | h
      · exact absurd e hv
      · rw [wipe_set h]
theorem imG {X : Cx} {e : Expr} {t t' : TG} (p : PG X e t) (i : ∀ v σ H Q, t' v σ H Q → t v σ H Q) : PG X e t' := ⟨fun pins s σ H v u Q I r h => p.run pins s σ H v u Q I r (i v σ H Q h)⟩
theorem imGs {X : Cx} {e : List Expr} {t t' : TGs} (p : PGs X e t) (i : ∀ v σ H Q, t' v σ H Q → t v σ H Q) : PGs X e t' := ⟨fun pins s σ H v u Q I r h => p.run pins s σ H v u Q I r (i v σ H Q h)⟩
theorem ckG_assign {N : List Str} {sc : Scope} {fo : Str → Bool} {own : List Nat} : ∀ {t : Tg} {a : Expr}, ckG N sc fo own t a = true → ∀ (es : List Expr) (env : Env), assignEach (a :: es) env = (false, assign a env) :: assignEach es env := by
  intro t a h es env
  cases a <;> first | rfl | (cases t <;> exact Bool.noConfusion h)
theorem ckGs_assign {N : List Str} {sc : Scope} {fo : Str → Bool} {own : List Nat} (env : Env) : ∀ {ts : Tgs} {es : List Expr}, ckGs N sc fo own ts es = true → assignEach es env = es.map fun a => (false, assign a env)
  | .nil, es, h => by cases es <;> first | rfl | exact Bool.noConfusion h
  | .cons t ts, es, h => by
    cases es with
    | nil => exact Bool.noConfusion h
    | cons a es =>
      have h' : (ckG N sc fo own t a && ckGs N sc fo own ts es) = true := h
      rw [Bool.and_eq_true] at h'
      rw [ckG_assign h'.1, ckGs_assign env h'.2]; rfl
theorem ckGs_len {N : List Str} {sc : Scope} {fo : Str → Bool} {own : List Nat} : ∀ {ts : Tgs} {es : List Expr}, ckGs N sc fo own ts es = true → ∀ {ρ : Loc} {ds : List D} {ρ' : Loc}, evGs ts ρ ds = some ρ' → ds.length = es.length
  | .nil, es, h => by
    cases es with
    | nil => rename_i ds _; intro e; cases ds with | nil => rfl | cons _ _ => cases e
    | cons _ _ => exact Bool.noConfusion h
  | .cons t ts, es, h => by
    cases es with
    | nil => exact Bool.noConfusion h
    | cons a es =>
      have h' : (ckG N sc fo own t a && ckGs N sc fo own ts es) = true := h
      rw [Bool.and_eq_true] at h'
      rename_i ρ ds ρ'
      intro e
      cases ds with
      | nil => cases e
      | cons d ds =>
        obtain ⟨ρ1, _, e2⟩ := Option.bind_eq_some_iff.mp (show (evG t ρ d).bind (fun ρ1 => evGs ts ρ1 ds) = some ρ' from e)
        rw [List.length_cons, List.length_cons, ckGs_len h'.2 e2]
section
variable {P : Program} {w : World} {base : Heap} {G : Glb} {n : Nat} {N : List Str} {sc : Scope} {fo : Str → Bool} {X : Cx}
theorem locB_loc {x : Str} (h : locB sc fo x = true) : L2.Loc sc x ∧ (fo x = true ∨ sc.names.lookup x = some .local) := by
  unfold locB at h
  split at h
  · rename_i e; exact ⟨.inl e, .inr e⟩
  · rename_i e; exact ⟨.inr e, .inl h⟩
  · cases h
mutual
theorem snd_G (g : Good P w base G n N sc fo X) {own : List Nat} : ∀ (t : Tg) (a : Expr), ckG N sc fo own t a = true → PG X a (tGt G own t)
  | .n i, a, h => by
    cases a with
    | Name x pos =>
      have h' : (decide (N[i]? = some x) && locB sc fo x && own.contains i) = true := h
      simp only [Bool.and_eq_true, decide_eq_true_eq] at h'
      obtain ⟨⟨h1, h2⟩, h3⟩ := h'
      obtain ⟨l1, l2⟩ := locB_loc h2
      refine imG (pg_name g.nd (by rw [g.N]; exact h1) (by rw [g.sc]; exact l1) (by rw [g.fn, g.sc]; exact l2)) fun v σ H Q q => ?_
      obtain ⟨μ, M, ρ, d, ρ', e, p, ev, q⟩ := q
      cases ev
      exact q _ (e.set i p) (wipe_set (by simpa using h3))
    | _ => exact Bool.noConfusion h
  | .t ts, a, h => by
    cases a with
    | Tuple xs k pos =>
      have h' : ckGs N sc fo own ts xs = true := h
      have ea := ckGs_assign X.env h'
      refine imG (pg_tup (n := xs.length) g.calm (snd_Gs g ts xs h') (by rw [ea, List.length_map]) (by rw [ea, List.findIdx?_map]; exact List.findIdx?_eq_none_iff.mpr fun _ _ => rfl)) fun v σ H Q q => ?_
      obtain ⟨μ, M, ρ, d, ρ', e, p, ev, q⟩ := q
      obtain ⟨ds, ed, e2⟩ := Option.bind_eq_some_iff.mp (show (tupV d).bind (fun xs => evGs ts ρ xs) = some ρ' from ev)
      obtain ⟨b, ys, rfl, sq, t⟩ := tup_rep p ed
      exact ⟨b, ys, rfl, by rw [g.K]; exact sq, by rw [t.length]; exact ckGs_len h' e2, μ, M, ρ, ds, ρ', e, t, e2, q⟩
    | _ => exact Bool.noConfusion h
theorem snd_Gs (g : Good P w base G n N sc fo X) {own : List Nat} : ∀ (ts : Tgs) (es : List Expr), ckGs N sc fo own ts es = true → PGs X es (tGts G own ts)
  | .nil, es, h => by
    cases es with
    | nil =>
      refine imGs pgs_nil fun v σ H Q q => ?_
      obtain ⟨μ, M, ρ, ds, ρ', e, p, ev, q⟩ := q
      cases ds with
      | nil => cases ev; unfold Reps at p; exact ⟨p, q σ e rfl⟩
      | cons _ _ => cases ev
    | cons _ _ => exact Bool.noConfusion h
  | .cons t ts, es, h => by
    cases es with
    | nil => exact Bool.noConfusion h
    | cons a es =>
      have h' : (ckG N sc fo own t a && ckGs N sc fo own ts es) = true := h
      rw [Bool.and_eq_true] at h'
      refine imGs (pgs_cons (snd_G g t a h'.1) (snd_Gs g ts es h'.2) (by rw [ckG_assign h'.1]; rfl)) fun v σ H Q q => ?_
      obtain ⟨μ, M, ρ, ds, ρ', e, p, ev, q⟩ := q
      cases ds with
      | nil => cases ev
      | cons d ds =>
        unfold Reps at p
        obtain ⟨x, r, rfl, p1, p2⟩ := p
        obtain ⟨ρ1, e1, e2⟩ := Option.bind_eq_some_iff.mp (show (evG t ρ d).bind (fun ρ1 => evGs ts ρ1 ds) = some ρ' from ev)
        exact ⟨x, r, rfl, μ, M, ρ, d, ρ1, e, p1, e1, fun σ1 e3 w1 => ⟨μ, M, ρ1, ds, ρ', e3, p2, e2, fun σ2 e4 w2 => q σ2 e4 (w2.trans w1)⟩⟩
end
end

/-! ### walks -/
/-- a weaker 'later': marked objects may change at will -/
structure Lw (μ : Mu) (M : Mk) (H : Hp) (μ' : Mu) (M' : Mk) (H' : Hp) : Prop where
  old : ∀ (n : Nat) (a : Addr), μ[n]? = some (some a) → μ'[n]? = some (some a) ∨ μ'[n]? = some none
  dead : ∀ (n : Nat), μ[n]? = some none → μ'[n]? = some none
  keep : ∀ (a : Addr) (o : HO), H a = some o → ¬ M a → H' a = some o ∧ ¬ M' a
theorem Le.lw {G : Glb} {μ μ' : Mu} {M M' : Mk} {H H' : Hp} {h : Hea} (l : Le μ M H μ' M' H') (r : Hrel G μ M H h) : Lw μ M H μ' M' H' :=
  ⟨l.old, l.dead, fun a o e m => ⟨l.keep a o e (r.noM m), l.fz (.inl e) m⟩⟩
theorem Lw.refl {μ : Mu} {M : Mk} {H : Hp} : Lw μ M H μ M H := ⟨fun _ _ e => .inl e, fun _ e => e, fun _ _ e m => ⟨e, m⟩⟩
theorem Lw.trans {μ μ' μ'' : Mu} {M M' M'' : Mk} {H H' H'' : Hp} (l : Lw μ M H μ' M' H') (k : Lw μ' M' H' μ'' M'' H'') : Lw μ M H μ'' M'' H'' where
  old := fun n a e => by
    rcases l.old n a e with z | z
    · exact k.old n a z
    · exact .inr (k.dead n z)
  dead := fun n e => k.dead n (l.dead n e)
  keep := fun a o e m => let ⟨e1, m1⟩ := l.keep a o e m; k.keep a o e1 m1
section
variable {G : Glb} {μ μ' : Mu} {M M' : Mk} {H H' : Hp} {h : Hea}
theorem Lw.rd (l : Lw μ M H μ' M' H') {a : Addr} {u : HO} (q : Rd H a u) (m : ¬ M a) : Rd H' a u ∧ ¬ M' a := by
  rcases q with q | ⟨o, q⟩
  · exact ⟨.inl (l.keep a _ q m).1, (l.keep a _ q m).2⟩
  · exact ⟨.inr ⟨o, (l.keep a _ q m).1⟩, (l.keep a _ q m).2⟩
theorem Hrel.tupM (r : Hrel G μ M H h) {a : Addr} {xs : List V} (q : Rd H a (.tup xs)) : ¬ M a := fun m => by
  obtain ⟨o, e, k⟩ := r.md a m
  rcases q with q | ⟨_, q⟩ <;> (rw [e] at q; cases q; cases k)
theorem Hrel.scrM (r : Hrel G μ M H h) {a : Addr} {xs : List V} {ob : Obj} (q : H a = some (.frz ob (.lst xs))) : ¬ M a := fun m => by
  obtain ⟨o, e, k⟩ := r.md a m
  rw [e] at q; cases q; cases k
mutual
theorem Rep.lw (r : Hrel G μ M H h) (l : Lw μ M H μ' M' H') : ∀ (d : D) (v : V), Rep G μ M H d v → Rep G μ' M' H' d v
  | .non, v, q => by simpa [Rep] using q
  | .bl b, v, q => by simpa [Rep] using q
  | .int i, v, q => by simpa [Rep] using q
  | .str x, v, q => by simpa [Rep] using q
  | .tup ds, v, q => by
    unfold Rep at q ⊢
    obtain ⟨a, xs, e, s, p⟩ := q
    refine ⟨a, xs, e, ?_, Reps.lw r l ds xs p⟩
    rcases s with s | s
    · exact .inl (l.rd s (r.tupM s)).1
    · exact .inr s
  | .plc ds, v, q => by
    unfold Rep at q ⊢
    obtain ⟨a, xs, e, s, p⟩ := q
    exact ⟨a, xs, e, (l.keep _ _ s (r.tupM (.inl s))).1, Reps.lw r l ds xs p⟩
  | .lst ds, v, q => by
    unfold Rep at q ⊢
    obtain ⟨a, xs, e, s, m, p⟩ := q
    exact ⟨a, xs, e, (l.keep _ _ s m).1, (l.keep _ _ s m).2, Reps.lw r l ds xs p⟩
  | .scr ds, v, q => by
    unfold Rep at q ⊢
    obtain ⟨a, xs, e, s, p⟩ := q
    refine ⟨a, xs, e, ?_, Reps.lw r l ds xs p⟩
    rcases s with ⟨o, s⟩ | s
    · exact .inl ⟨o, (l.keep _ _ s (r.scrM s)).1⟩
    · exact .inr s
  | .dK ks ds, v, q => by
    unfold Rep at q ⊢
    obtain ⟨a, xs, e, s, m, k, p⟩ := q
    exact ⟨a, xs, e, (l.rd s m).1, (l.rd s m).2, k, Reps.lw r l ds _ p⟩
  | .dT ks ds, v, q => by
    unfold Rep at q ⊢
    obtain ⟨a, xs, e, s, m, k, p⟩ := q
    exact ⟨a, xs, e, (l.rd s m).1, (l.rd s m).2, k, Reps.lw r l ds _ p⟩
  | .ref n, v, q => by
    unfold Rep at q ⊢
    obtain ⟨a, e, s⟩ := q
    refine ⟨a, e, ?_⟩
    rcases s with s | s
    · exact l.old n a s
    · exact .inr (l.dead n s)
  | .fn i, v, q => by unfold Rep at q ⊢; exact q
theorem Reps.lw (r : Hrel G μ M H h) (l : Lw μ M H μ' M' H') : ∀ (ds : List D) (xs : List V), Reps G μ M H ds xs → Reps G μ' M' H' ds xs
  | [], xs, q => by simpa [Reps] using q
  | d :: ds, xs, q => by
    unfold Reps at q ⊢
    obtain ⟨x, t, e, p, q⟩ := q
    exact ⟨x, t, e, Rep.lw r l d x p, Reps.lw r l ds t q⟩
end
theorem Envi.lw {ρ : Loc} {σ : St} (e : Envi G μ M H ρ σ) (r : Hrel G μ M H h) (l : Lw μ M H μ' M' H') : Envi G μ' M' H' ρ σ :=
  ⟨e.len, fun i d q => let ⟨v, a, b⟩ := e.at_ i d q; ⟨v, a, Rep.lw r l d v b⟩⟩
end
/-- J walks over ds, now and later -/
def Walks (G : Glb) (J : L2.It) (ds : List D) (μ : Mu) (M : Mk) (H : Hp) : Prop := ∀ μ' M' H' h', Lw μ M H μ' M' H' → Hrel G μ' M' H' h' → ∀ i : Nat,
  (∀ d, ds[i]? = some d → J.go i H' ∧ ∀ x H2, J.yld i H' x H2 → Le μ' M' H' μ' M' H2 ∧ Hrel G μ' M' H2 h' ∧ Rep G μ' M' H2 d x) ∧ (ds.length ≤ i → J.stop i H')
def RW (G : Glb) (μ : Mu) (M : Mk) (H : Hp) (ds : List D) (J : L2.It) : Prop := Walks G J ds μ M H
theorem stab_rw {G : Glb} : Stab G (RW G) := fun r l q => fun μ' M' H' h' l' => q μ' M' H' h' ((l.lw r).trans l')
abbrev tIr (G : Glb) (W : WX) (f : Loc → Hea → Res (List D)) : TI := tG G W (RW G) f

section
variable {G : Glb} {μ : Mu} {M : Mk} {H : Hp} {h : Hea}
theorem walk_list (r : Hrel G μ M H h) {d : D} {a : Addr} {ds : List D} (p : Rep G μ M H d (.ref a)) (e : lsV d = some ds) : Walks G (Itl G.K a) ds μ M H := by
  intro μ' M' H' h' l r' i
  have p' := Rep.lw r l _ _ p
  have e' : lstV h' d = some ds := by
    unfold lsV at e
    split at e
    · cases e; rfl
    · cases e; rfl
    · cases e
  obtain ⟨b, xs, eb, sq, t⟩ := lst_rep r' p' e'
  cases eb
  refine ⟨fun d ed => ?_, fun hl => ⟨xs, sq, by rw [t.length]; exact hl⟩⟩
  obtain ⟨x, ex, rx⟩ := t.get ed
  refine ⟨⟨xs, x, sq, ex⟩, fun y H2 q => ?_⟩
  obtain ⟨rfl, q⟩ := q
  have := q xs sq
  rw [ex] at this
  cases this
  exact ⟨Le.refl, r', rx⟩
theorem walk_tup (r : Hrel G μ M H h) {d : D} {a : Addr} {ds : List D} (p : Rep G μ M H d (.ref a)) (e : tupV d = some ds) : Walks G (Itt G.K a) ds μ M H := by
  intro μ' M' H' h' l r' i
  have p' := Rep.lw r l _ _ p
  obtain ⟨b, xs, eb, sq, t⟩ := tup_rep p' e
  cases eb
  refine ⟨fun d ed => ?_, fun hl => ⟨xs, sq, by rw [t.length]; exact hl⟩⟩
  obtain ⟨x, ex, rx⟩ := t.get ed
  refine ⟨⟨xs, x, sq, ex⟩, fun y H2 q => ?_⟩
  obtain ⟨rfl, q⟩ := q
  have := q xs sq
  rw [ex] at this
  cases this
  exact ⟨Le.refl, r', rx⟩
theorem rngL_len : ∀ (n : Nat) (lo : Int), (rngL lo n).length = n
  | 0, _ => rfl
  | n + 1, lo => by unfold rngL; rw [List.length_cons, rngL_len n]
theorem rngL_get : ∀ (n : Nat) (lo : Int) (i : Nat) (d : D), (rngL lo n)[i]? = some d → i < n ∧ d = .int (lo + i)
  | 0, lo, i, d, e => by simp [rngL] at e
  | n + 1, lo, 0, d, e => by simp [rngL] at e; exact ⟨Nat.succ_pos _, by rw [← e]; simp⟩
  | n + 1, lo, i + 1, d, e => by
    have e' : (rngL (lo + 1) n)[i]? = some d := by simpa [rngL] using e
    obtain ⟨h1, h2⟩ := rngL_get n (lo + 1) i d e'
    exact ⟨Nat.succ_lt_succ h1, by rw [h2]; congr 1; omega⟩
theorem walk_rng (lo : Int) (n : Nat) : Walks G (Itr lo n) (rngL lo n) μ M H := by
  intro μ' M' H' h' l r' i
  refine ⟨fun d ed => ?_, fun hl => by rw [rngL_len] at hl; exact hl⟩
  obtain ⟨h1, h2⟩ := rngL_get n lo i d ed
  refine ⟨h1, fun y H2 q => ?_⟩
  obtain ⟨rfl, rfl⟩ := q
  subst h2
  exact ⟨Le.refl, r', by rw [rep_int]⟩
theorem enumD_len : ∀ (xs : List D) (k : Nat), (enumD k xs).length = xs.length
  | [], _ => rfl
  | x :: r, k => by unfold enumD; rw [List.length_cons, List.length_cons, enumD_len r]
theorem enumD_get : ∀ (xs : List D) (k i : Nat) (d : D), (enumD k xs)[i]? = some d → ∃ x, xs[i]? = some x ∧ d = .plc [.int ((k + i : Nat) : Int), x]
  | [], k, i, d, e => by simp [enumD] at e
  | x :: r, k, 0, d, e => by simp [enumD] at e; exact ⟨x, rfl, by rw [← e]; simp⟩
  | x :: r, k, i + 1, d, e => by
    have e' : (enumD (k + 1) r)[i]? = some d := by simpa [enumD] using e
    obtain ⟨y, h1, h2⟩ := enumD_get r (k + 1) i d e'
    exact ⟨y, h1, by rw [h2]; congr 3; omega⟩
theorem zipD_get : ∀ (xs ys : List D) (i : Nat) (d : D), (zipD xs ys)[i]? = some d → ∃ x y, xs[i]? = some x ∧ ys[i]? = some y ∧ d = .plc [x, y]
  | [], ys, i, d, e => by simp [zipD] at e
  | x :: r, [], i, d, e => by simp [zipD] at e
  | x :: r, y :: t, 0, d, e => by simp [zipD] at e; exact ⟨x, y, rfl, rfl, e.symm⟩
  | x :: r, y :: t, i + 1, d, e => by
    have e' : (zipD r t)[i]? = some d := by simpa [zipD] using e
    obtain ⟨u, v, h1, h2, h3⟩ := zipD_get r t i d e'
    exact ⟨u, v, h1, h2, h3⟩
theorem zipD_len : ∀ (xs ys : List D) (i : Nat), (zipD xs ys).length ≤ i → xs.length ≤ i ∨ ys.length ≤ i
  | [], ys, i, e => .inl (Nat.zero_le _)
  | x :: r, [], i, e => .inr (Nat.zero_le _)
  | x :: r, y :: t, 0, e => by simp [zipD] at e
  | x :: r, y :: t, i + 1, e => by
    have e' : (zipD r t).length ≤ i := by simpa [zipD] using e
    rcases zipD_len r t i e' with z | z
    · exact .inl (Nat.succ_le_succ z)
    · exact .inr (Nat.succ_le_succ z)
theorem newPair {μ' : Mu} {M' : Mk} {H' : Hp} {h' : Hea} (r' : Hrel G μ' M' H' h') {T : Addr} (hT : H' T = none) {d1 d2 : D} {x y : V} (p1 : Rep G μ' M' H' d1 x) (p2 : Rep G μ' M' H' d2 y) :
    Le μ' M' H' μ' M' (upd H' T (.tup [x, y])) ∧ Hrel G μ' M' (upd H' T (.tup [x, y])) h' ∧ Rep G μ' M' (upd H' T (.tup [x, y])) (.plc [d1, d2]) (.ref T) :=
  ⟨Le.fresh hT, r'.fresh hT, Rep.newPlc r' hT (Reps.cons p1 (Reps.cons p2 Reps.nil))⟩
theorem walk_enum (r : Hrel G μ M H h) {d : D} {a : Addr} {ds : List D} (p : Rep G μ M H d (.ref a)) (e : lsV d = some ds) : Walks G (Ite G.K a) (enumD 0 ds) μ M H := by
  intro μ' M' H' h' l r' i
  have p' := Rep.lw r l _ _ p
  have e' : lstV h' d = some ds := by
    unfold lsV at e
    split at e
    · cases e; rfl
    · cases e; rfl
    · cases e
  obtain ⟨b, xs, eb, sq, t⟩ := lst_rep r' p' e'
  cases eb
  refine ⟨fun d ed => ?_, fun hl => ⟨xs, sq, by rw [enumD_len] at hl; rw [t.length]; exact hl⟩⟩
  obtain ⟨y, ey, rfl⟩ := enumD_get ds 0 i d ed
  obtain ⟨x, ex, rx⟩ := t.get ey
  refine ⟨⟨xs, x, sq, ex⟩, fun y H2 q => ?_⟩
  obtain ⟨T, x', rfl, hT, rfl, q⟩ := q
  have := q xs sq
  rw [ex] at this
  cases this
  exact newPair r' hT (by rw [rep_int]; simp) rx
theorem walk_zip (r : Hrel G μ M H h) {d d2 : D} {a a2 : Addr} {ds ds2 : List D} (p : Rep G μ M H d (.ref a)) (e : lsV d = some ds) (p2 : Rep G μ M H d2 (.ref a2)) (e2 : lsV d2 = some ds2) : Walks G (Itz G.K a a2) (zipD ds ds2) μ M H := by
  intro μ' M' H' h' l r' i
  have key : ∀ {d : D} {ds : List D}, lsV d = some ds → lstV h' d = some ds := fun {d ds} e => by
    unfold lsV at e
    split at e
    · cases e; rfl
    · cases e; rfl
    · cases e
  obtain ⟨b, xs, eb, sq, t⟩ := lst_rep r' (Rep.lw r l _ _ p) (key e)
  cases eb
  obtain ⟨b, ys, eb, sq2, t2⟩ := lst_rep r' (Rep.lw r l _ _ p2) (key e2)
  cases eb
  refine ⟨fun d ed => ?_, fun hl => ⟨xs, ys, sq, sq2, by rw [t.length, t2.length]; exact zipD_len _ _ _ hl⟩⟩
  obtain ⟨y, z, ey, ez, rfl⟩ := zipD_get ds ds2 i d ed
  obtain ⟨x, ex, rx⟩ := t.get ey
  obtain ⟨x2, ex2, rx2⟩ := t2.get ez
  refine ⟨⟨xs, ys, x, x2, sq, sq2, ex, ex2⟩, fun y H2 q => ?_⟩
  obtain ⟨T, x', x2', rfl, hT, rfl, q, q2⟩ := q
  have q' := q xs sq
  rw [ex] at q'
  cases q'
  have q' := q2 ys sq2
  rw [ex2] at q'
  cases q'
  exact newPair r' hT rx rx2
theorem walk_zipT (r : Hrel G μ M H h) {d d2 : D} {a a2 : Addr} {ds ds2 : List D} (p : Rep G μ M H d (.ref a)) (e : tupV d = some ds) (p2 : Rep G μ M H d2 (.ref a2)) (e2 : tupV d2 = some ds2) : Walks G (RZ.ItzT G.K a a2) (zipD ds ds2) μ M H := by
  intro μ' M' H' h' l r' i
  obtain ⟨b, xs, eb, sq, t⟩ := tup_rep (Rep.lw r l _ _ p) e
  cases eb
  obtain ⟨b, ys, eb, sq2, t2⟩ := tup_rep (Rep.lw r l _ _ p2) e2
  cases eb
  refine ⟨fun d ed => ?_, fun hl => ⟨xs, ys, sq, sq2, by rw [t.length, t2.length]; exact zipD_len _ _ _ hl⟩⟩
  obtain ⟨y, z, ey, ez, rfl⟩ := zipD_get ds ds2 i d ed
  obtain ⟨x, ex, rx⟩ := t.get ey
  obtain ⟨x2, ex2, rx2⟩ := t2.get ez
  refine ⟨⟨xs, ys, x, x2, sq, sq2, ex, ex2⟩, fun y H2 q => ?_⟩
  obtain ⟨T, x', x2', rfl, hT, rfl, q, q2⟩ := q
  have q' := q xs sq
  rw [ex] at q'
  cases q'
  have q' := q2 ys sq2
  rw [ex2] at q'
  cases q'
  exact newPair r' hT rx rx2
end

/-! ### iterators -/
section
variable {γ δ : Type} {G : Glb} {H : Hp} {W : WX} {σ : St} {R2 : Mu → Mk → Hp → γ → δ → Prop}
theorem tG.split1 (p : D → Bool) {f : Loc → Hea → Res D} {g : Loc → D → Hea → Res γ} {Q : δ → Hp → Prop} (q : tG G W R2 (fun ρ h => (f ρ h).bind fun a h1 => g ρ a h1) σ H Q) :
    tG G W R2 (fun ρ h => (f ρ h).bind fun a h1 => if p a = true then g ρ a h1 else .no) σ H Q ∨ tG G W R2 (fun ρ h => (f ρ h).bind fun a h1 => if p a = false then g ρ a h1 else .no) σ H Q := by
  obtain ⟨μ, M, ρ, h, e, r, q⟩ := q.out
  cases ef : f ρ h with
  | no => rw [ef] at q; exact q.elim
  | err c k => rw [ef] at q; exact .inl (tG.of e r (by rw [ef]; exact q))
  | ok a h1 =>
    rw [ef, Res.bind_ok] at q
    cases ep : p a with
    | true => exact .inl (tG.of e r (by rw [ef, Res.bind_ok, if_pos ep]; exact q))
    | false => exact .inr (tG.of e r (by rw [ef, Res.bind_ok, if_pos ep]; exact q))
end
section
variable {P : Program} {w : World} {base : Heap} {G : Glb} {cf : Nat → List D → Hea → Res D} {n : Nat} {N : List Str} {sc : Scope} {fo : Str → Bool} {X : Cx} {W : WX}
variable {a b tg : Expr} {fa fb : Loc → Hea → Res D} {pos p : Pos}
theorem lsV_ref {μ : Mu} {M : Mk} {H : Hp} {d : D} {v : V} {ds : List D} (e : lsV d = some ds) (q : Rep G μ M H d v) : ∃ a, v = .ref a := by
  unfold lsV at e
  split at e
  · rw [rep_lst] at q; obtain ⟨a, _, rfl, _⟩ := q; exact ⟨a, rfl⟩
  · rw [rep_scr] at q; obtain ⟨a, _, rfl, _⟩ := q; exact ⟨a, rfl⟩
  · cases e
theorem lsV_lstV {h : Hea} {d : D} {ds : List D} (e : lsV d = some ds) : lstV h d = some ds := by
  unfold lsV at e
  split at e
  · cases e; rfl
  · cases e; rfl
  · cases e
theorem si_seq (g : Good P w base G n N sc fo X) (ha : PE X a (tE G W fa)) : PI X tg a (tIr G W fun ρ h => (fa ρ h).bind fun x h1 => need (itV x) fun xs => .ok xs h1) := by
  refine imI (orI (pi_tup ha) (pi_list ha)) fun σ H Q q => ?_
  rcases tG.split1 (fun x => (tupV x).isSome) q with q | q
  · refine .inl (tG.mono (tE.b1 q) ?_)
    rintro v H1 ⟨d, μ, M, ρ, h, e, r, pa, p⟩
    obtain ⟨c, p⟩ := p.ite
    obtain ⟨xs, ex, p⟩ := p.need
    obtain ⟨ds, ed⟩ := Option.isSome_iff_exists.mp c
    have : xs = ds := by
      unfold tupV at ed; unfold itV at ex
      cases d <;> first | (cases ed; cases ex; rfl) | cases ed
    subst this
    obtain ⟨a', ys, rfl, sq, t⟩ := tup_rep pa ed
    exact ⟨a', rfl, ⟨ys, by rw [g.K]; exact sq⟩, by rw [g.K]; exact p.here r (walk_tup r pa ed)⟩
  · refine .inr (tG.mono (tE.b1 q) ?_)
    rintro v H1 ⟨d, μ, M, ρ, h, e, r, pa, p⟩
    obtain ⟨c, p⟩ := p.ite
    obtain ⟨xs, ex, p⟩ := p.need
    have ed : lsV d = some xs := by
      unfold itV at ex; unfold tupV at c; unfold lsV
      cases d <;> first | exact ex | cases c | cases ex
    obtain ⟨a', ys, rfl, sq, t⟩ := lst_rep r pa (lsV_lstV ed)
    exact ⟨a', rfl, ⟨ys, by rw [g.K]; exact sq⟩, by rw [g.K]; exact p.here r (walk_list r pa ed)⟩
theorem nil_any {pos : Pos} : (backTo pos (starEach [] X.env)).any (·.1) = false := rfl
theorem si_rng1 (F : Facts P w base G cf n) (g : Good P w base G n N sc fo X) {x : Str} (ex : x = "range") (k : glB sc x = true) (ha : PE X a (tE G W fa)) (hs : starEach [a] X.env = (false, eval a X.env) :: starEach [] X.env) :
    PI X tg (.Call (.Name x p) [a] [] pos) (tIr G W fun ρ h => (fa ρ h).bind fun x h1 => need (intV x) fun j => if ok62 j then .ok (rngL 0 j.toNat) h1 else .no) := by
  subst ex
  refine imI (pi_range1 (g.gl k) (by rw [g.mg]; exact F.blt _ (by decide +kernel)) (pa_cons ha pa_nil hs) hs) fun σ H Q q => ?_
  refine tG.mono (tE.b1 q) ?_
  rintro v H1 ⟨d, μ, M, ρ, h, e, r, pa, p⟩
  obtain ⟨j, ej, p⟩ := p.need
  obtain ⟨c, p⟩ := p.ite
  have ev := int_rep pa ej
  subst ev
  obtain ⟨c1, c2⟩ := ok62_of c
  exact ⟨j, rfl, c1, c2, p.here r (walk_rng 0 _)⟩
theorem si_rng2 (F : Facts P w base G cf n) (g : Good P w base G n N sc fo X) {x : Str} (ex : x = "range") (k : glB sc x = true) (ha : PE X a (tE G W fa)) (hb : PE X b (tE G W fb)) (hs : starEach [a, b] X.env = (false, eval a X.env) :: starEach [b] X.env)
    (hs2 : starEach [b] X.env = (false, eval b X.env) :: starEach [] X.env) :
    PI X tg (.Call (.Name x p) [a, b] [] pos) (tIr G W fun ρ h => (fa ρ h).bind fun x h1 => (fb ρ h1).bind fun y h2 => need (intV x) fun i => need (intV y) fun j =>
      if ok62 i && ok62 j then .ok (rngL i (j - i).toNat) h2 else .no) := by
  subst ex
  refine imI (pi_range2 (g.gl k) (by rw [g.mg]; exact F.blt _ (by decide +kernel)) (pa_cons ha (pa_cons hb pa_nil hs2) hs) (by rw [hs, hs2]; rfl) hs2) fun σ H Q q => ?_
  refine tG.mono (tE.b2 q) ?_
  exact fun v H1 z => z.mono fun u H2 ⟨d, d2, μ, M, ρ, h, e, r, pa, pb, p⟩ => by
    obtain ⟨i, ei, p⟩ := p.need
    obtain ⟨j, ej, p⟩ := p.need
    obtain ⟨c, p⟩ := p.ite
    have ev := int_rep pa ei
    have eu := int_rep pb ej
    subst ev
    subst eu
    rw [Bool.and_eq_true] at c
    obtain ⟨c1, c2⟩ := ok62_of c.1
    obtain ⟨c3, c4⟩ := ok62_of c.2
    exact ⟨i, j, rfl, ⟨c1, c2, c3, c4⟩, p.here r (walk_rng i _)⟩
theorem si_enum (F : Facts P w base G cf n) (g : Good P w base G n N sc fo X) {x : Str} {elts : List Expr} {kk : Nat} {tpos : Pos} (ex : x = "enumerate") (k : glB sc x = true) (ha : PE X a (tE G W fa)) (hs : starEach [a] X.env = (false, eval a X.env) :: starEach [] X.env) :
    PI X (.Tuple elts kk tpos) (.Call (.Name x p) [a] [] pos) (tIr G W fun ρ h => (fa ρ h).bind fun x h1 => need (lsV x) fun xs => .ok (enumD 0 xs) h1) := by
  subst ex
  refine imI (pi_enum (g.gl k) (by rw [g.mg]; exact F.blt _ (by decide +kernel)) (pa_cons ha pa_nil hs) hs) fun σ H Q q => ?_
  refine tG.mono (tE.b1 q) ?_
  rintro v H1 ⟨d, μ, M, ρ, h, e, r, pa, p⟩
  obtain ⟨xs, ex, p⟩ := p.need
  obtain ⟨a', ys, rfl, sq, t⟩ := lst_rep r pa (lsV_lstV ex)
  exact ⟨a', ys, rfl, by rw [g.K]; exact sq, by rw [g.K]; exact p.here r (walk_enum r pa ex)⟩
theorem si_zip (F : Facts P w base G cf n) (g : Good P w base G n N sc fo X) {x : Str} {elts : List Expr} {kk : Nat} {tpos : Pos} (ex : x = "zip") (k : glB sc x = true) (ha : PE X a (tE G W fa)) (hb : PE X b (tE G W fb)) (hs : starEach [a, b] X.env = (false, eval a X.env) :: starEach [b] X.env)
    (hs2 : starEach [b] X.env = (false, eval b X.env) :: starEach [] X.env) :
    PI X (.Tuple elts kk tpos) (.Call (.Name x p) [a, b] [] pos) (tIr G W fun ρ h => (fa ρ h).bind fun x h1 => (fb ρ h1).bind fun y h2 => match lsV x with
      | some xs => need (lsV y) fun ys => .ok (zipD xs ys) h2
      | none => need (tupV x) fun xs => need (tupV y) fun ys => .ok (zipD xs ys) h2) := by
  subst ex
  refine imI (RZ.pi_zipA (g.gl k) (by rw [g.mg]; exact F.blt _ (by decide +kernel)) (pa_cons ha (pa_cons hb pa_nil hs2) hs) hs (by rw [hs2]; rfl)) fun σ H Q q => ?_
  refine tG.mono (tE.b2 q) ?_
  exact fun v H1 z => z.mono fun u H2 ⟨d, d2, μ, M, ρ, h, e, r, pa, pb, p⟩ => by
    split at p
    · rename_i xs ex
      obtain ⟨ys, ey, p⟩ := p.need
      obtain ⟨a1, zs, rfl, sq, t⟩ := lst_rep r pa (lsV_lstV ex)
      obtain ⟨a2, us, rfl, sq2, t2⟩ := lst_rep r pb (lsV_lstV ey)
      exact ⟨a1, a2, zs, us, rfl, .inl ⟨by rw [g.K]; exact sq, by rw [g.K]; exact sq2, by rw [g.K]; exact p.here r (walk_zip r pa ex pb ey)⟩⟩
    · obtain ⟨xs, ex, p⟩ := p.need
      obtain ⟨ys, ey, p⟩ := p.need
      obtain ⟨a1, zs, rfl, sq, t⟩ := tup_rep pa ex
      obtain ⟨a2, us, rfl, sq2, t2⟩ := tup_rep pb ey
      exact ⟨a1, a2, zs, us, rfl, .inr ⟨by rw [g.K]; exact sq, by rw [g.K]; exact sq2, by rw [g.K]; exact p.here r (walk_zipT r pa ex pb ey)⟩⟩
end
end PyI

set_option Elab.async false
set_option linter.all false
set_option maxRecDepth 100000
/-! PyL: comprehensions. -/
namespace PyI
open PySem L2

def W0 : WX := fun _ _ _ _ => False
theorem wipe_get {σ : St} : ∀ (vs : List Nat) (j : Nat), (L2.wipe σ vs)[j]? = if j ∈ vs ∧ j < σ.length then some none else σ[j]?
  | [], j => by simp [L2.wipe]
  | v :: vs, j => by
    unfold L2.wipe
    by_cases hv : v = j
    · subst hv
      by_cases hl : v < σ.length
      · rw [List.getElem?_set_self (by rw [wipe_length]; exact hl), if_pos ⟨List.mem_cons_self, hl⟩]
      · rw [List.getElem?_eq_none (by rw [List.length_set, wipe_length]; omega), if_neg (fun z => hl z.2), List.getElem?_eq_none (by omega)]
    · rw [List.getElem?_set_ne hv, wipe_get vs j]
      have : (j ∈ v :: vs ∧ j < σ.length) ↔ (j ∈ vs ∧ j < σ.length) := by
        simp [Ne.symm hv]
      simp only [this]
theorem wipe_idem (σ : St) (vs : List Nat) : L2.wipe (L2.wipe σ vs) vs = L2.wipe σ vs := by
  apply List.ext_getElem?
  intro j
  rw [wipe_get, wipe_length]
  by_cases h : j ∈ vs ∧ j < σ.length
  · rw [if_pos h, wipe_get, if_pos h]
  · rw [if_neg h]

/-- the list that a comprehension fills: it stands at D, marked, in nobody's hands -/
structure LcS (G : Glb) (D : Addr) (μ0 : Mu) (M0 : Mk) (H0 : Hp) (μ : Mu) (M : Mk) (H : Hp) (h : Hea) (ds : List PyI.D) (acc : List V) : Prop where
  le : Le μ0 M0 H0 μ M H
  rel : Hrel G μ M H h
  mD : M D
  nl : ∀ n : Nat, μ[n]? ≠ some (some D)
  at_ : H D = some (.lst acc)
  reps : Reps G μ M H ds acc
section
variable {G : Glb} {μ0 μ μ' : Mu} {M0 M M' : Mk} {H0 H H' : Hp} {h h' : Hea} {D : Addr} {ds : List PyI.D} {acc : List V}
theorem Le.nl (l : Le μ M H μ' M' H') {o : HO} (e : H D = some o) (n0 : ∀ n : Nat, μ[n]? ≠ some (some D)) : ∀ n : Nat, μ'[n]? ≠ some (some D) := fun n z => by
  by_cases hn : n < μ.length
  · exact n0 n (l.back hn z)
  · have := l.new n D (Nat.le_of_not_lt hn) z
    rw [e] at this; cases this
theorem Le.kmD (l : Le μ M H μ' M' H') {o : HO} (e : H D = some o) (n0 : ∀ n : Nat, μ[n]? ≠ some (some D)) (m : M D) : M' D := by
  rcases l.km D m with z | ⟨n, z⟩ | z
  · exact z
  · exact absurd z (n0 n)
  · rw [e] at z; cases z
/-- marked, in nobody's hands: written -/
theorem Lw.dirty {o : HO} (m : M D) : Lw μ M H μ M (upd H D o) := ⟨fun _ _ e => .inl e, fun _ e => e, fun a o' e ma => ⟨by rw [upd_ne (fun z : a = D => ma (by rw [z]; exact m))]; exact e, ma⟩⟩
theorem Hrel.dirty {o : HO} (r : Hrel G μ M H h) (m : M D) (n0 : ∀ n : Nat, μ[n]? ≠ some (some D)) (k : mutO o = true) : Hrel G μ M (upd H D o) h where
  len := r.len
  live := fun n u e => by
    rcases r.live n u e with z | ⟨a, z, y⟩
    · exact .inl z
    · have ha : a ≠ D := fun q => n0 n (q ▸ z)
      refine .inr ⟨a, z, ?_⟩
      have e' : upd H D o a = H a := upd_ne ha
      cases u with
      | dead => exact y
      | ins _ _ => exact y
      | lst ds => obtain ⟨xs, q, p⟩ := y; exact ⟨xs, e'.trans q, Reps.lw r (Lw.dirty m) _ _ p⟩
      | dK ks ds => obtain ⟨xs, q, k, p⟩ := y; exact ⟨xs, e'.trans q, k, Reps.lw r (Lw.dirty m) _ _ p⟩
      | dT ks ds => obtain ⟨xs, q, k, p⟩ := y; exact ⟨xs, e'.trans q, k, Reps.lw r (Lw.dirty m) _ _ p⟩
      | lckK ks ds => obtain ⟨o, xs, q, k, p⟩ := y; exact ⟨o, xs, e'.trans q, k, Reps.lw r (Lw.dirty m) _ _ p⟩
      | lckT ks ds => obtain ⟨o, xs, q, k, p⟩ := y; exact ⟨o, xs, e'.trans q, k, Reps.lw r (Lw.dirty m) _ _ p⟩
  inj := r.inj
  mu := r.mu
  md := fun b mb => by
    by_cases hb : b = D
    · rw [hb]; exact ⟨o, upd_same, k⟩
    · obtain ⟨o', q, k⟩ := r.md b mb
      exact ⟨o', by rw [upd_ne hb]; exact q, k⟩
theorem Le.dirty {o : HO} (l : Le μ0 M0 H0 μ M H) (e0 : H0 D = none) : Le μ0 M0 H0 μ M (upd H D o) where
  len := l.len
  old := l.old
  dead := l.dead
  new := l.new
  keep := fun a o' e n => by rw [upd_ne (ne_of_none e e0)]; exact l.keep a o' e n
  dom := fun a o' e => by rw [upd_ne (ne_of_none e e0)]; exact l.dom a o' e
  mkk := l.mkk
  km := l.km
theorem Le.mark {o : HO} (e0 : H0 D = none) : Le μ0 M0 H0 μ0 (fun a => M0 a ∨ a = D) (upd H0 D o) where
  len := Nat.le_refl _
  old := fun _ _ e => .inl e
  dead := fun _ e => e
  new := fun n a hn e => by have := (List.getElem?_eq_some_iff.mp e).1; omega
  keep := fun a o' e _ => by rw [upd_ne (ne_of_none e e0)]; exact e
  dom := fun a o' e => ⟨o', by rw [upd_ne (ne_of_none e e0)]; exact e⟩
  mkk := fun a e => by
    rcases e with e | e
    · exact .inl e
    · exact .inr (by rw [e]; exact e0)
  km := fun _ e => .inl (.inl e)
theorem Hrel.mark {o : HO} (r : Hrel G μ0 M0 H0 h) (e0 : H0 D = none) (k : mutO o = true) : Hrel G μ0 (fun a => M0 a ∨ a = D) (upd H0 D o) h where
  len := r.len
  live := fun n u e => by
    rcases r.live n u e with z | ⟨a, z, y⟩
    · exact .inl z
    · obtain ⟨w, q⟩ := y.some
      exact .inr ⟨a, z, y.le r (Le.mark e0) (upd_ne (ne_of_none q e0))⟩
  inj := r.inj
  mu := fun n a e => .inl (r.mu n a e)
  md := fun a m => by
    rcases m with m | m
    · obtain ⟨o, e, k⟩ := r.md a m
      exact ⟨o, by rw [upd_ne (ne_of_none e e0)]; exact e, k⟩
    · rw [m]; exact ⟨_, upd_same, k⟩
/-- a new list, marked -/
theorem LcS.start (r : Hrel G μ0 M0 H0 h) (e0 : H0 D = none) : LcS G D μ0 M0 H0 μ0 (fun a => M0 a ∨ a = D) (upd H0 D (.lst [])) h [] [] where
  le := Le.mark e0
  rel := r.mark e0 rfl
  mD := .inr rfl
  nl := fun n e => r.noMp e0 (r.mu n D e)
  at_ := upd_same
  reps := Reps.nil
theorem LcS.step (s : LcS G D μ0 M0 H0 μ M H h ds acc) (l : Le μ M H μ' M' H') (r : Hrel G μ' M' H' h') : LcS G D μ0 M0 H0 μ' M' H' h' ds acc where
  le := s.le.trans l
  rel := r
  mD := l.kmD s.at_ s.nl s.mD
  nl := l.nl s.at_ s.nl
  at_ := l.keep D _ s.at_ s.nl
  reps := Reps.le s.rel l _ _ s.reps
theorem LcS.push (s : LcS G D μ0 M0 H0 μ M H h ds acc) (e0 : H0 D = none) {d : PyI.D} {v : V} (q : Rep G μ M H d v) : LcS G D μ0 M0 H0 μ M (upd H D (.lst (acc ++ [v]))) h (ds ++ [d]) (acc ++ [v]) where
  le := s.le.dirty e0
  rel := s.rel.dirty s.mD s.nl rfl
  mD := s.mD
  nl := s.nl
  at_ := upd_same
  reps := (Reps.lw s.rel (Lw.dirty s.mD) _ _ s.reps).append (Reps.cons (Rep.lw s.rel (Lw.dirty s.mD) _ _ q) Reps.nil)
/-- the loop is over: a list that nobody changes -/
theorem LcS.fin (s : LcS G D μ0 M0 H0 μ M H h ds acc) (e0 : H0 D = none) : Le μ0 M0 H0 μ (fun a => M a ∧ a ≠ D) H ∧ Hrel G μ (fun a => M a ∧ a ≠ D) H h ∧ Rep G μ (fun a => M a ∧ a ≠ D) H (.lst ds) (.ref D) := by
  have lw : Lw μ M H μ (fun a => M a ∧ a ≠ D) H := ⟨fun _ _ e => .inl e, fun _ e => e, fun a o e m => ⟨e, fun z => m z.1⟩⟩
  refine ⟨{ len := s.le.len, old := s.le.old, dead := s.le.dead, new := s.le.new, keep := s.le.keep, dom := s.le.dom, mkk := fun a m => s.le.mkk a m.1, km := fun a m => ?_ }, ?_, ?_⟩
  · rcases s.le.km a m with z | z | z
    · by_cases ha : a = D
      · exact .inr (.inr (by rw [ha]; exact e0))
      · exact .inl ⟨z, ha⟩
    · exact .inr (.inl z)
    · exact .inr (.inr z)
  · exact {
      len := s.rel.len
      live := fun n u e => by
        rcases s.rel.live n u e with z | ⟨a, z, y⟩
        · exact .inl z
        · refine .inr ⟨a, z, ?_⟩
          cases u with
          | dead => exact y
          | ins _ _ => exact y
          | lst ds => obtain ⟨xs, q, p⟩ := y; exact ⟨xs, q, Reps.lw s.rel lw _ _ p⟩
          | dK ks ds => obtain ⟨xs, q, k, p⟩ := y; exact ⟨xs, q, k, Reps.lw s.rel lw _ _ p⟩
          | dT ks ds => obtain ⟨xs, q, k, p⟩ := y; exact ⟨xs, q, k, Reps.lw s.rel lw _ _ p⟩
          | lckK ks ds => obtain ⟨o, xs, q, k, p⟩ := y; exact ⟨o, xs, q, k, Reps.lw s.rel lw _ _ p⟩
          | lckT ks ds => obtain ⟨o, xs, q, k, p⟩ := y; exact ⟨o, xs, q, k, Reps.lw s.rel lw _ _ p⟩
      inj := s.rel.inj
      mu := fun n a e => ⟨s.rel.mu n a e, fun z => s.nl n (z ▸ e)⟩
      md := fun a m => s.rel.md a m.1 }
  · rw [rep_lst]
    exact ⟨D, acc, rfl, s.at_, fun z => z.2 rfl, Reps.lw s.rel lw _ _ s.reps⟩
/-- the loop is over: a list to be changed -/
theorem LcS.live (s : LcS G D μ0 M0 H0 μ M H h ds acc) (e0 : H0 D = none) : Le μ0 M0 H0 (μ ++ [some D]) M H ∧ Hrel G (μ ++ [some D]) M H (h ++ [.lst ds]) ∧ Rep G (μ ++ [some D]) M H (.ref h.length) (.ref D) := by
  have lt : ∀ {n : Nat} {x : Option Addr}, μ[n]? = some x → (μ ++ [some D])[n]? = some x := fun {n x} e => by
    rw [List.getElem?_append_left (List.getElem?_eq_some_iff.mp e).1]; exact e
  have lw : Lw μ M H (μ ++ [some D]) M H := ⟨fun _ _ e => .inl (lt e), fun _ e => lt e, fun a o e m => ⟨e, m⟩⟩
  have inv : ∀ {n : Nat} {x : Option Addr}, (μ ++ [some D])[n]? = some x → μ[n]? = some x ∨ (n = μ.length ∧ x = some D) := fun {n x} e => by
    by_cases hn : n < μ.length
    · rw [List.getElem?_append_left hn] at e; exact .inl e
    · rw [List.getElem?_append_right (Nat.le_of_not_lt hn)] at e
      have h1 := (List.getElem?_eq_some_iff.mp e).1
      have h2 : n - μ.length = 0 := by simp at h1; omega
      rw [h2] at e; simp at e; exact .inr ⟨by omega, e.symm⟩
  refine ⟨{ len := by { have := s.le.len; simp; omega }, old := fun n a e => ?_, dead := fun n e => lt (s.le.dead n e), new := fun n a hn e => ?_, keep := s.le.keep, dom := s.le.dom, mkk := s.le.mkk, km := s.le.km }, ?_, ?_⟩
  · rcases s.le.old n a e with z | z
    · exact .inl (lt z)
    · exact .inr (lt z)
  · rcases inv e with z | ⟨_, z⟩
    · exact s.le.new n a hn z
    · cases z; exact e0
  · exact {
      len := by simp [s.rel.len]
      live := fun n u e => by
        by_cases hn : n < h.length
        · rw [List.getElem?_append_left hn] at e
          rcases s.rel.live n u e with ⟨z1, z2⟩ | ⟨a, z, y⟩
          · exact .inl ⟨z1, lt z2⟩
          · refine .inr ⟨a, lt z, ?_⟩
            cases u with
            | dead => exact y
            | ins _ _ => exact y
            | lst ds => obtain ⟨xs, q, p⟩ := y; exact ⟨xs, q, Reps.lw s.rel lw _ _ p⟩
            | dK ks ds => obtain ⟨xs, q, k, p⟩ := y; exact ⟨xs, q, k, Reps.lw s.rel lw _ _ p⟩
            | dT ks ds => obtain ⟨xs, q, k, p⟩ := y; exact ⟨xs, q, k, Reps.lw s.rel lw _ _ p⟩
            | lckK ks ds => obtain ⟨o, xs, q, k, p⟩ := y; exact ⟨o, xs, q, k, Reps.lw s.rel lw _ _ p⟩
            | lckT ks ds => obtain ⟨o, xs, q, k, p⟩ := y; exact ⟨o, xs, q, k, Reps.lw s.rel lw _ _ p⟩
        · rw [List.getElem?_append_right (Nat.le_of_not_lt hn)] at e
          have h1 := (List.getElem?_eq_some_iff.mp e).1
          have h2 : n - h.length = 0 := by simp at h1; omega
          rw [h2] at e; simp at e; subst e
          refine .inr ⟨D, ?_, acc, s.at_, Reps.lw s.rel lw _ _ s.reps⟩
          have h3 : n = μ.length := by rw [s.rel.len]; omega
          rw [h3, List.getElem?_append_right (Nat.le_refl _), Nat.sub_self]; rfl
      inj := fun n k a e1 e2 => by
        rcases inv e1 with z1 | ⟨h1, z1⟩ <;> rcases inv e2 with z2 | ⟨h2, z2⟩
        · exact s.rel.inj n k a z1 z2
        · cases z2; exact absurd z1 (s.nl n)
        · cases z1; exact absurd z2 (s.nl k)
        · omega
      mu := fun n a e => by
        rcases inv e with z | ⟨_, z⟩
        · exact s.rel.mu n a z
        · cases z; exact s.mD
      md := s.rel.md }
  · rw [rep_ref]
    exact ⟨D, rfl, .inl (by rw [← s.rel.len, List.getElem?_append_right (Nat.le_refl _), Nat.sub_self]; rfl)⟩
end

/-! ### the evaluator's loops -/
theorem noErr_ok {α : Type} {r : Res α} {a : α} {h : Hea} : r.noErr = .ok a h ↔ r = .ok a h := by
  cases r <;> simp [Res.noErr]
theorem noErr_ne {α : Type} {r : Res α} {c : Nat} {h : Hea} : r.noErr ≠ .err c h := by
  cases r <;> simp [Res.noErr]
theorem bind_okE {α β : Type} {r : Res α} {f : α → Hea → Res β} {b : β} {h : Hea} (e : r.bind f = .ok b h) : ∃ a h1, r = .ok a h1 ∧ f a h1 = .ok b h := by
  cases r with
  | ok a h1 => exact ⟨a, h1, rfl, e⟩
  | err c k => cases e
  | no => cases e
theorem need_okE {α β : Type} {o : Option α} {f : α → Res β} {b : β} {h : Hea} (e : need o f = .ok b h) : ∃ a, o = some a ∧ f a = .ok b h := by
  cases o with
  | none => cases e
  | some a => exact ⟨a, rfl, e⟩
theorem lcLoop_ne {turn : D → Hea → Res (Option D)} (n : ∀ x h c k, turn x h ≠ .err c k) : ∀ (xs acc : List D) (h : Hea) (c : Nat) (k : Hea), lcLoop turn xs acc h ≠ .err c k
  | [], acc, h, c, k, e => by cases e
  | x :: r, acc, h, c, k, e => by
    unfold lcLoop at e
    cases et : turn x h with
    | no => rw [et] at e; cases e
    | err c' k' => exact n x h c' k' et
    | ok y h1 =>
      rw [et, Res.bind_ok] at e
      cases y with
      | none => exact lcLoop_ne n r acc h1 c k e
      | some y =>
        simp only at e
        split at e
        · exact lcLoop_ne n r _ h1 c k e
        · cases e
theorem lcLoop_cons {turn : D → Hea → Res (Option D)} {x : D} {r acc ys : List D} {h hF : Hea} (e : lcLoop turn (x :: r) acc h = .ok ys hF) : ∃ y h1, turn x h = .ok y h1 ∧
    ((∃ z, y = some z ∧ acc.length < sizeLine ∧ lcLoop turn r (acc ++ [z]) h1 = .ok ys hF) ∨ (y = none ∧ lcLoop turn r acc h1 = .ok ys hF)) := by
  unfold lcLoop at e
  obtain ⟨y, h1, et, e⟩ := bind_okE e
  refine ⟨y, h1, et, ?_⟩
  cases y with
  | none => exact .inr ⟨rfl, e⟩
  | some y =>
    simp only at e
    split at e
    · rename_i c; exact .inl ⟨y, rfl, c, e⟩
    · cases e
theorem lc2Loop_ne {inner : D → List D → Hea → Res (List D)} (n : ∀ x acc h c k, inner x acc h ≠ .err c k) : ∀ (xs acc : List D) (h : Hea) (c : Nat) (k : Hea), lc2Loop inner xs acc h ≠ .err c k
  | [], acc, h, c, k, e => by cases e
  | x :: r, acc, h, c, k, e => by
    unfold lc2Loop at e
    cases et : inner x acc h with
    | no => rw [et] at e; cases e
    | err c' k' => exact n x acc h c' k' et
    | ok y h1 =>
      rw [et, Res.bind_ok] at e
      exact lc2Loop_ne n r y h1 c k e
/-- one turn of a comprehension -/
def lcTurn (own : List Nat) (tg : Tg) (fc : Loc → Hea → Res Bool) (fe : Loc → Hea → Res D) (ρ : Loc) (x : D) (h2 : Hea) : Res (Option D) :=
  (need (evG tg (wipeD ρ own) x) fun ρ1 => (fc ρ1 h2).bind fun k h4 => if k then (fe ρ1 h4).bind fun y h5 => .ok (some y) h5 else .ok none h4).noErr
def lcF (m : Bool) (own : List Nat) (tg : Tg) (fi : Loc → Hea → Res (List D)) (fc : Loc → Hea → Res Bool) (fe : Loc → Hea → Res D) (ρ : Loc) (h : Hea) : Res D :=
  (fi ρ h).bind fun xs h1 => (lcLoop (lcTurn own tg fc fe ρ) xs [] h1).bind fun ys h6 => mkL m ys h6
theorem lcTurn_ok {own : List Nat} {tg : Tg} {fc : Loc → Hea → Res Bool} {fe : Loc → Hea → Res D} {ρ : Loc} {x : D} {h h1 : Hea} {y : Option D} (e : lcTurn own tg fc fe ρ x h = .ok y h1) :
    ∃ ρ1 k h4, evG tg (wipeD ρ own) x = some ρ1 ∧ fc ρ1 h = .ok k h4 ∧ ((k = true ∧ ∃ z, y = some z ∧ fe ρ1 h4 = .ok z h1) ∨ (k = false ∧ y = none ∧ h1 = h4)) := by
  obtain ⟨ρ1, e1, e⟩ := need_okE (noErr_ok.mp e)
  obtain ⟨k, h4, e2, e⟩ := bind_okE e
  refine ⟨ρ1, k, h4, e1, e2, ?_⟩
  cases k with
  | true =>
    obtain ⟨z, h5, e3, e⟩ := bind_okE (show (fe ρ1 h4).bind _ = _ from e)
    cases e
    exact .inl ⟨rfl, z, rfl, e3⟩
  | false => cases e; exact .inr ⟨rfl, rfl, rfl⟩
section
variable {G : Glb} {W : WX} {σ : St} {H : Hp} {own : List Nat} {tg : Tg} {fi : Loc → Hea → Res (List D)} {fc : Loc → Hea → Res Bool} {fe : Loc → Hea → Res D}
/-- the turn, by the layer's readings: from a state with the list at L -/
theorem lc_turn {L : Addr} {μ0 μ : Mu} {M0 M : Mk} {H0 H : Hp} {h h1 : Hea} {ds : List D} {acc : List V} {ρ : Loc} {σ : St} {x : D} {v : V} {y : Option D} {Nx : Hp → Prop} (e0 : H0 L = none)
    (s : LcS G L μ0 M0 H0 μ M H h ds acc) (en : Envi G μ M H ρ σ) (rx : Rep G μ M H x v) (et : lcTurn own tg fc fe ρ x h = .ok y h1)
    (hn : ∀ μ' M' H' ds' acc', (match y with | some z => ds.length < sizeLine ∧ ds' = ds ++ [z] | none => ds' = ds) → LcS G L μ0 M0 H0 μ' M' H' h1 ds' acc' → Envi G μ' M' H' ρ σ → Lw μ M H μ' M' H' → Nx H')
    (hz : ∀ z, y = some z → ds.length < sizeLine) :
    tGt G own tg v (L2.wipe σ own) H fun σ2 H2 => L2.wipe σ2 own = L2.wipe σ own ∧ tT G W0 fc σ2 H2 fun b H3 =>
      if b = true then tE G W0 fe σ2 H3 fun y H4 => ∃ acc, H4 L = some (.lst acc) ∧ acc.length < sizeLine ∧ Nx (upd H4 L (.lst (acc ++ [y]))) else Nx H3 := by
  obtain ⟨ρ1, k, h4, e1, e2, e3⟩ := lcTurn_ok et
  refine ⟨μ, M, wipeD ρ own, x, ρ1, en.wipe own, rx, e1, fun σ2 en2 w2 => ⟨w2.trans (wipe_idem σ own), ?_⟩⟩
  refine ⟨μ, M, ρ1, h, en2, s.rel, ?_⟩
  rw [e2]
  intro b μ1 M1 H1 l1 r1 eb
  subst eb
  have s1 := s.step l1 r1
  rcases e3 with ⟨rfl, z, rfl, e3⟩ | ⟨rfl, rfl, rfl⟩
  · rw [if_pos rfl]
    refine ⟨μ1, M1, ρ1, h4, en2.le s.rel l1, r1, ?_⟩
    rw [e3]
    intro u μ2 M2 H2 l2 r2 ru
    have s2 := s1.step l2 r2
    refine ⟨acc, s2.at_, by rw [s2.reps.length]; exact hz z rfl, ?_⟩
    exact hn μ2 M2 _ (ds ++ [z]) (acc ++ [u]) ⟨hz z rfl, rfl⟩ (s2.push e0 ru) (((en.le s.rel l1).le r1 l2).lw r2 (Lw.dirty s2.mD)) (((l1.trans l2).lw s.rel).trans (Lw.dirty s2.mD))
  · rw [if_neg Bool.false_ne_true]
    exact hn μ1 M1 H1 ds acc rfl s1 (en.le s.rel l1) (l1.lw s.rel)
theorem lc_read {m0 : Bool} {Q : VK} (q : tE G W (lcF m0 own tg fi fc fe) σ H Q) : tLc (tIr G W fi) (tGt G own tg) (tT G W0 fc) (tE G W0 fe) own σ H Q := by
  obtain ⟨μ, M, ρ, h, e, r, p⟩ := q.out
  unfold lcF at p
  refine tG.mono (tG.thn (R := RW G) (f := fi) e r p) ?_
  rintro J H1 ⟨xs, μ1, M1, h1, l1, e1, r1, wk, p1⟩
  intro L e0
  obtain ⟨ys, hF, eF⟩ : ∃ ys hF, lcLoop (lcTurn own tg fc fe ρ) xs [] h1 = .ok ys hF := by
    revert p1
    cases ec : lcLoop (lcTurn own tg fc fe ρ) xs [] h1 with
    | ok ys hF => exact fun _ => ⟨ys, hF, rfl⟩
    | err c k => exact absurd ec (lcLoop_ne (fun x h c k => noErr_ne) xs [] h1 c k)
    | no => exact fun z => z.elim
  rw [eF, Res.bind_ok] at p1
  refine ⟨fun i m H => i + m = xs.length ∧ ∃ μ M h ds acc, LcS G L μ1 M1 H1 μ M H h ds acc ∧ Envi G μ M H ρ σ ∧ Lw μ1 M1 H1 μ M H ∧ lcLoop (lcTurn own tg fc fe ρ) (xs.drop i) ds h = .ok ys hF,
    ⟨xs.length, by omega, μ1, _, h1, [], [], LcS.start r1 e0, e1.le r1 (LcS.start r1 e0).le, (LcS.start r1 e0).le.lw r1, by rw [List.drop_zero]; exact eF⟩, ?_⟩
  rintro i m H2 ⟨hi, μ2, M2, h2, ds, acc, s, en, lw, el⟩
  have wk2 := wk μ2 M2 H2 h2 lw s.rel i
  by_cases hd : i < xs.length
  · refine .inr ?_
    have ex : xs[i]? = some xs[i] := List.getElem?_eq_getElem hd
    rw [List.drop_eq_getElem_cons hd] at el
    obtain ⟨y, h3, et, el⟩ := lcLoop_cons el
    obtain ⟨go, yl⟩ := wk2.1 _ ex
    refine ⟨go, fun H' => (i + 1) + (m - 1) = xs.length ∧ ∃ μ M h ds acc, LcS G L μ1 M1 H1 μ M H' h ds acc ∧ Envi G μ M H' ρ σ ∧ Lw μ1 M1 H1 μ M H' ∧ lcLoop (lcTurn own tg fc fe ρ) (xs.drop (i + 1)) ds h = .ok ys hF, fun H' z => ⟨m - 1, by omega, z⟩, ?_⟩
    intro v H3 yd
    obtain ⟨l3, r3, rv⟩ := yl v H3 yd
    have s3 := s.step l3 r3
    refine lc_turn e0 s3 (en.le s.rel l3) rv et ?_ ?_
    · intro μ' M' H' ds' acc' hy s' en' lw'
      refine ⟨by omega, μ', M', h3, ds', acc', s', en', (lw.trans (l3.lw s.rel)).trans lw', ?_⟩
      rcases el with ⟨z, rfl, hz, el⟩ | ⟨rfl, el⟩
      · rw [hy.2]; exact el
      · have hy : ds' = ds := hy
        rw [hy]; exact el
    · intro z ez
      rcases el with ⟨z', _, hz, _⟩ | ⟨e, _⟩
      · exact hz
      · rw [e] at ez; cases ez
  · refine .inl ⟨wk2.2 (Nat.le_of_not_lt hd), ?_⟩
    rw [List.drop_eq_nil_of_le (Nat.le_of_not_lt hd)] at el
    cases (show Res.ok ds h2 = Res.ok ys hF from el)
    cases m0 with
    | false =>
      obtain ⟨f1, f2, f3⟩ := s.fin e0
      exact p1 (.ref L) μ2 _ H2 f1 f2 f3
    | true =>
      obtain ⟨f1, f2, f3⟩ := s.live e0
      exact p1 (.ref L) _ M2 H2 f1 f2 f3

/-! two clauses -/
def lc2In (own own2 : List Nat) (tg tg2 : Tg) (fi2 : Loc → Hea → Res (List D)) (fc : Loc → Hea → Res Bool) (fe : Loc → Hea → Res D) (ρ : Loc) (x : D) (acc : List D) (h2 : Hea) : Res (List D) :=
  (need (evG tg (wipeD ρ own) x) fun ρ1 => (fi2 ρ1 h2).bind fun xs2 h4 => lcLoop (lcTurn own2 tg2 fc fe ρ1) xs2 acc h4).noErr
def lc2F (m : Bool) (own own2 : List Nat) (tg tg2 : Tg) (fi fi2 : Loc → Hea → Res (List D)) (fc : Loc → Hea → Res Bool) (fe : Loc → Hea → Res D) (ρ : Loc) (h : Hea) : Res D :=
  (fi ρ h).bind fun xs h1 => (lc2Loop (lc2In own own2 tg tg2 fi2 fc fe ρ) xs [] h1).bind fun ys h6 => mkL m ys h6
variable {own2 : List Nat} {tg2 : Tg} {fi2 : Loc → Hea → Res (List D)}
theorem lc2_read {m0 : Bool} {Q : VK} (q : tE G W (lc2F m0 own own2 tg tg2 fi fi2 fc fe) σ H Q) : tLc2 (tIr G W fi) (tGt G own tg) tYes (tIr G W0 fi2) (tGt G own2 tg2) (tT G W0 fc) (tE G W0 fe) own own2 σ H Q := by
  obtain ⟨μ, M, ρ, h, e, r, p⟩ := q.out
  unfold lc2F at p
  refine tG.mono (tG.thn (R := RW G) (f := fi) e r p) ?_
  rintro J H1 ⟨xs, μ1, M1, h1, l1, e1, r1, wk, p1⟩
  intro L e0
  obtain ⟨ys, hF, eF⟩ : ∃ ys hF, lc2Loop (lc2In own own2 tg tg2 fi2 fc fe ρ) xs [] h1 = .ok ys hF := by
    revert p1
    cases ec : lc2Loop (lc2In own own2 tg tg2 fi2 fc fe ρ) xs [] h1 with
    | ok ys hF => exact fun _ => ⟨ys, hF, rfl⟩
    | err c k => exact absurd ec (lc2Loop_ne (fun x acc h c k => noErr_ne) xs [] h1 c k)
    | no => exact fun z => z.elim
  rw [eF, Res.bind_ok] at p1
  refine ⟨fun i m H => i + m = xs.length ∧ ∃ μ M h ds acc, LcS G L μ1 M1 H1 μ M H h ds acc ∧ Envi G μ M H ρ σ ∧ Lw μ1 M1 H1 μ M H ∧ lc2Loop (lc2In own own2 tg tg2 fi2 fc fe ρ) (xs.drop i) ds h = .ok ys hF,
    ⟨xs.length, by omega, μ1, _, h1, [], [], LcS.start r1 e0, e1.le r1 (LcS.start r1 e0).le, (LcS.start r1 e0).le.lw r1, by rw [List.drop_zero]; exact eF⟩, ?_⟩
  rintro i m H2 ⟨hi, μ2, M2, h2, ds, acc, s, en, lw, el⟩
  have wk2 := wk μ2 M2 H2 h2 lw s.rel i
  by_cases hd : i < xs.length
  · refine .inr ?_
    have ex : xs[i]? = some xs[i] := List.getElem?_eq_getElem hd
    rw [List.drop_eq_getElem_cons hd] at el
    obtain ⟨ds1, h3, et, el⟩ := bind_okE (show (lc2In own own2 tg tg2 fi2 fc fe ρ xs[i] ds h2).bind (fun acc1 h1 => lc2Loop (lc2In own own2 tg tg2 fi2 fc fe ρ) (xs.drop (i + 1)) acc1 h1) = .ok ys hF from el)
    obtain ⟨go, yl⟩ := wk2.1 _ ex
    refine ⟨go, fun H' => (i + 1) + (m - 1) = xs.length ∧ ∃ μ M h ds acc, LcS G L μ1 M1 H1 μ M H' h ds acc ∧ Envi G μ M H' ρ σ ∧ Lw μ1 M1 H1 μ M H' ∧ lc2Loop (lc2In own own2 tg tg2 fi2 fc fe ρ) (xs.drop (i + 1)) ds h = .ok ys hF, fun H' z => ⟨m - 1, by omega, z⟩, ?_⟩
    intro v H3 yd
    obtain ⟨l3, r3, rv⟩ := yl v H3 yd
    have s3 := s.step l3 r3
    have en3 := en.le s.rel l3
    obtain ⟨ρ1, e1', et⟩ := need_okE (noErr_ok.mp et)
    obtain ⟨xs2, h4, e2', et⟩ := bind_okE et
    refine ⟨μ2, M2, wipeD ρ own, xs[i], ρ1, en3.wipe own, rv, e1', fun σ2 en2 w2 => ⟨w2.trans (wipe_idem σ own), ?_⟩⟩
    show tIr G W0 fi2 σ2 H3 _
    refine ⟨μ2, M2, ρ1, h2, en2, r3, ?_⟩
    rw [e2']
    intro J1 μ4 M4 H4 l4 r4 wkI
    have s4 := s3.step l4 r4
    refine ⟨fun j k H => j + k = xs2.length ∧ ∃ μ M h dsb acc, LcS G L μ1 M1 H1 μ M H h dsb acc ∧ Envi G μ M H ρ1 σ2 ∧ Envi G μ M H ρ σ ∧ Lw μ1 M1 H1 μ M H ∧ Lw μ4 M4 H4 μ M H ∧ lcLoop (lcTurn own2 tg2 fc fe ρ1) (xs2.drop j) dsb h = .ok ds1 h3,
      ⟨xs2.length, by omega, μ4, M4, h4, ds, acc, s4, en2.le r3 l4, en3.le r3 l4, (lw.trans (l3.lw s.rel)).trans (l4.lw r3), Lw.refl, by rw [List.drop_zero]; exact et⟩, ?_⟩
    rintro j k H5 ⟨hj, μ5, M5, h5, dsb, acc5, s5, en5, en5', lw5, lw5', el5⟩
    have wk5 := wkI μ5 M5 H5 h5 lw5' s5.rel j
    by_cases hd5 : j < xs2.length
    · refine .inr ?_
      have ex5 : xs2[j]? = some xs2[j] := List.getElem?_eq_getElem hd5
      rw [List.drop_eq_getElem_cons hd5] at el5
      obtain ⟨y, h6, et5, el6⟩ := lcLoop_cons el5
      obtain ⟨go5, yl5⟩ := wk5.1 _ ex5
      refine ⟨go5, fun H' => (j + 1) + (k - 1) = xs2.length ∧ ∃ μ M h dsb acc, LcS G L μ1 M1 H1 μ M H' h dsb acc ∧ Envi G μ M H' ρ1 σ2 ∧ Envi G μ M H' ρ σ ∧ Lw μ1 M1 H1 μ M H' ∧ Lw μ4 M4 H4 μ M H' ∧ lcLoop (lcTurn own2 tg2 fc fe ρ1) (xs2.drop (j + 1)) dsb h = .ok ds1 h3, fun H' z => ⟨k - 1, by omega, z⟩, ?_⟩
      intro v5 H6 yd5
      obtain ⟨l6, r6, rv6⟩ := yl5 v5 H6 yd5
      have s6 := s5.step l6 r6
      refine lc_turn e0 s6 (en5.le s5.rel l6) rv6 et5 ?_ ?_
      · intro μ' M' H' ds' acc' hy s' en' lw'
        have lw6 := (l6.lw s5.rel).trans lw'
        refine ⟨by omega, μ', M', h6, ds', acc', s', en', en5'.lw s5.rel lw6, lw5.trans lw6, lw5'.trans lw6, ?_⟩
        rcases el6 with ⟨z, rfl, hz, el6⟩ | ⟨rfl, el6⟩
        · rw [hy.2]; exact el6
        · have hy : ds' = dsb := hy
          rw [hy]; exact el6
      · intro z ez
        rcases el6 with ⟨z', _, hz, _⟩ | ⟨e, _⟩
        · exact hz
        · rw [e] at ez; cases ez
    · refine .inl ⟨wk5.2 (Nat.le_of_not_lt hd5), ?_⟩
      rw [List.drop_eq_nil_of_le (Nat.le_of_not_lt hd5)] at el5
      obtain ⟨q1, q2⟩ : dsb = ds1 ∧ h5 = h3 := by
        have q : Res.ok dsb h5 = Res.ok ds1 h3 := el5
        injection q with q1 q2
        exact ⟨q1, q2⟩
      rw [q1, q2] at s5
      exact ⟨by omega, μ5, M5, h3, ds1, acc5, s5, en5', lw5, el⟩
  · refine .inl ⟨wk2.2 (Nat.le_of_not_lt hd), ?_⟩
    rw [List.drop_eq_nil_of_le (Nat.le_of_not_lt hd)] at el
    cases (show Res.ok ds h2 = Res.ok ys hF from el)
    cases m0 with
    | false =>
      obtain ⟨f1, f2, f3⟩ := s.fin e0
      exact p1 (.ref L) μ2 _ H2 f1 f2 f3
    | true =>
      obtain ⟨f1, f2, f3⟩ := s.live e0
      exact p1 (.ref L) _ M2 H2 f1 f2 f3
end
end PyI

set_option Elab.async false
set_option linter.all false
set_option maxRecDepth 100000
/-! PyM: every checked expression runs as the evaluator says. -/
namespace PyI
open PySem L2

section
variable {P : Program} {w : World} {base : Heap} {G : Glb} {cf : Nat → List D → Hea → Res D} {n : Nat} {N : List Str}
theorem both {X : Cx} {W : WX} {sc : Scope} {fo : Str → Bool} {a : Expr} {f : Loc → Hea → Res D} (g : Good P w base G n N sc fo X) (pl : plainB a = true) (p : PE X a (tE G W f)) :
    PE X a (tE G W (Ev.of f).val) ∧ PT X a (tT G W (Ev.of f).tst) := ⟨p, st_plain g pl p⟩
theorem pw_of {X : Cx} {op : PySem.BoolOp} {xs : List Expr} {pos : Pos} {t : TT} (p : PT X (.BoolOp op xs pos) t) : PW X (.BoolOp op xs pos) t := ⟨fun _ pins s σ H Q I h => p.run pins s σ H Q I h⟩
theorem Good.blk {X : Cx} {sc : Scope} {fo : Str → Bool} (g : Good P w base G n N sc fo X) (s : Shared) (H : Hp) (C : Addr) (scope : Scope) (cl : List (Str × Addr)) (fp : List Addr) :
    Good P w base G n N (relS scope sc) (fun x => scope.names.lookup x == some .cell) (X.blk s H scope (compEnvC scope cl C X.env) fp) where
  prog := g.prog
  w := g.w
  K := g.K
  mg := g.mg
  base := g.base
  N := g.N
  nd := g.nd
  calm := g.calm
  room := g.room
  gd := g.gd
  sc := by rw [← g.sc]; rfl
  fn := rfl
theorem ckEs_star {T : Tab} {sc : Scope} {fo : Str → Bool} (env : Env) : ∀ {es : Es} {as : List Expr}, ckEs T N sc fo es as = true → (starEach as env).any (·.1) = false
  | .nil, as, h => by cases as <;> first | rfl | exact Bool.noConfusion h
  | .cons e es, as, h => by
    cases as with
    | nil => exact Bool.noConfusion h
    | cons a as =>
      have h' : (ckE T N sc fo e a && ckEs T N sc fo es as) = true := h
      rw [Bool.and_eq_true] at h'
      rw [ck_star h'.1, List.any_cons, ckEs_star env h'.2]; rfl
theorem star_back {ts : List (Bool × Sem Value)} {pos : Pos} (h : ts.any (·.1) = false) : (backTo pos ts).any (·.1) = false := by rw [plain_to h]; exact h
theorem sp_nil {X : Cx} {W : WX} : PTs X [] (tT G W fun _ h => .ok true h) := ⟨fun pins s σ H Q I q => pts_nil.run pins s σ H Q I (by
  obtain ⟨μ, M, ρ, h, e, r, p⟩ := q.out
  exact p.here r rfl)⟩
theorem own_ix (own : List Nat) : (ownOf N own).map (·.2) = own := by
  unfold ownOf
  rw [List.map_map]
  exact List.map_id _
theorem ckI_folded {T : Tab} {sc : Scope} {fo : Str → Bool} {it : It} {t i : Expr} (h : ckI T N sc fo it t i = true) (env : Env) (x : Value) : foldedSetIterable i env x = pure x := by
  cases i <;> first | rfl | skip
  cases it with
  | seq e => exact (ck_set e h).elim
  | _ => exact Bool.noConfusion h
theorem ckO_cons {T : Tab} {sc : Scope} {fo : Str → Bool} {e : E} {es : Es} {a : Expr} (h : ckO T N sc fo (.cons e es) (some a) = true) : ckE T N sc fo e a = true ∧ es = .nil := by
  cases es with
  | nil =>
    have h' : (ckE T N sc fo e a && true) = true := h
    rw [Bool.and_true] at h'
    exact ⟨h', rfl⟩
  | cons _ _ =>
    have h' : (ckE T N sc fo e a && false) = true := h
    rw [Bool.and_false] at h'; cases h'
theorem ckC_cons {T : Tab} {sc : Scope} {fo : Str → Bool} {e : E} {es : Es} {a : Expr} (h : ckC T N sc fo (.cons e es) [a] = true) : ckE T N sc fo e a = true := by
  cases es with
  | nil =>
    have h' : (ckE T N sc fo e a && true) = true := h
    rw [Bool.and_true] at h'
    exact h'
  | cons _ _ =>
    have h' : (ckE T N sc fo e a && false) = true := h
    rw [Bool.and_false] at h'; cases h'
/-- each of them -/
def AllP (G : Glb) (cf : Nat → List D → Hea → Res D) (X : Cx) (W : WX) : Es → List Expr → Prop
  | .nil, [] => True
  | .cons e es, a :: as => PE X a (tE G W (ev G.T cf e).val) ∧ AllP G cf X W es as
  | _, _ => False
variable (F : Facts P w base G cf n)
include F
mutual
theorem sndE : ∀ (e : E) (a : Expr) (X : Cx) (W : WX) (sc : Scope) (fo : Str → Bool), ckE G.T N sc fo e a = true → Good P w base G n N sc fo X → Takes X W →
    PE X a (tE G W (ev G.T cf e).val) ∧ PT X a (tT G W (ev G.T cf e).tst)
  | .non, a, X, W, sc, fo, h, g, tk => by
    cases a <;> first | exact Bool.noConfusion h | skip
    rename_i c j pos
    cases c <;> first | exact Bool.noConfusion h | skip
    exact both g rfl (sv_const pe_non fun μ M H => by rw [rep_non])
  | .bl b, a, X, W, sc, fo, h, g, tk => by
    cases a <;> first | exact Bool.noConfusion h | skip
    rename_i c j pos
    cases c <;> first | exact Bool.noConfusion h | skip
    rename_i b'
    have e : b = b' := by simpa using (show (b == b') = true from h)
    subst e
    exact both g rfl (sv_const pe_bl fun μ M H => by rw [rep_bl])
  | .int i, a, X, W, sc, fo, h, g, tk => by
    cases a <;> first | exact Bool.noConfusion h | skip
    rename_i c j pos
    cases c <;> first | exact Bool.noConfusion h | skip
    rename_i b'
    have e : i = b' := of_decide_eq_true (show decide (i = b') = true from h)
    subst e
    exact both g rfl (sv_const pe_int fun μ M H => by rw [rep_int])
  | .str i, a, X, W, sc, fo, h, g, tk => by
    cases a <;> first | exact Bool.noConfusion h | skip
    rename_i c j pos
    cases c <;> first | exact Bool.noConfusion h | skip
    rename_i b'
    have e : i = b' := of_decide_eq_true (show decide (i = b') = true from h)
    subst e
    exact both g rfl (sv_const pe_str fun μ M H => by rw [rep_str])
  | .v i, a, X, W, sc, fo, h, g, tk => by
    cases a <;> first | exact Bool.noConfusion h | skip
    exact both g rfl (sv_v g h)
  | .gc i, a, X, W, sc, fo, h, g, tk => by
    cases a <;> first | exact Bool.noConfusion h | skip
    rename_i x pos
    have h' : (glB sc x && (match G.T.cns[i]? with | some p => decide (p.1 = x) | none => false)) = true := h
    rw [Bool.and_eq_true] at h'
    obtain ⟨h1, h2⟩ := h'
    split at h2
    · rename_i p e
      exact both g rfl (sv_gc F g e (of_decide_eq_true h2) h1)
    · cases h2
  | .gf i, a, X, W, sc, fo, h, g, tk => by
    cases a <;> first | exact Bool.noConfusion h | skip
    rename_i x pos
    have h' : (glB sc x && (match G.T.fns[i]? with | some p => decide (p.name = x) | none => false)) = true := h
    rw [Bool.and_eq_true] at h'
    obtain ⟨h1, h2⟩ := h'
    split at h2
    · rename_i p e
      exact both g rfl (sv_gf F g e (of_decide_eq_true h2) h1)
    · cases h2
  | .bin o a1 b1, a, X, W, sc, fo, h, g, tk => by
    cases a <;> first | exact Bool.noConfusion h | skip
    rename_i l op r pos
    have h' : (decide (op = o.op) && ckE G.T N sc fo a1 l && ckE G.T N sc fo b1 r) = true := h
    simp only [Bool.and_eq_true, decide_eq_true_eq] at h'
    obtain ⟨⟨rfl, h1⟩, h2⟩ := h'
    exact both g rfl (sv_bin g (sndE a1 l X W sc fo h1 g tk).1 (sndE b1 r X W sc fo h2 g tk).1)
  | .neg a1, a, X, W, sc, fo, h, g, tk => by
    cases a <;> first | exact Bool.noConfusion h | skip
    rename_i op l pos
    cases op <;> first | exact Bool.noConfusion h | skip
    exact both g rfl (sv_neg (sndE a1 l X W sc fo h g tk).1)
  | .nt a1, a, X, W, sc, fo, h, g, tk => by
    cases a <;> first | exact Bool.noConfusion h | skip
    rename_i op l pos
    cases op <;> first | exact Bool.noConfusion h | skip
    have ih := sndE a1 l X W sc fo h g tk
    exact ⟨sv_nt g ih.1, st_nt ih.2⟩
  | .cmp o a1 b1, a, X, W, sc, fo, h, g, tk => by
    cases a <;> first | exact Bool.noConfusion h | skip
    rename_i l ops rs pos
    match ops, rs, h with
    | [op], [r], h =>
      have h' : (decide (op = o.op) && ckE G.T N sc fo a1 l && ckE G.T N sc fo b1 r) = true := h
      simp only [Bool.and_eq_true, decide_eq_true_eq] at h'
      obtain ⟨⟨rfl, h1⟩, h2⟩ := h'
      have i1 := (sndE a1 l X W sc fo h1 g tk).1
      have i2 := (sndE b1 r X W sc fo h2 g tk).1
      exact ⟨sv_cmp g i1 i2 (ck_mark h2 _), st_cmp g i1 i2 (ck_mark h2 _)⟩
    | [], _, h => exact Bool.noConfusion h
    | [_], [], h => exact Bool.noConfusion h
    | [_], _ :: _ :: _, h => exact Bool.noConfusion h
    | _ :: _ :: _, _, h => exact Bool.noConfusion h
  | .chn o p a1 b1 c1, a, X, W, sc, fo, h, g, tk => by
    cases a <;> first | exact Bool.noConfusion h | skip
    rename_i l ops rs pos
    match ops, rs, h with
    | [op, op'], [m, r], h =>
      have h' : (decide (op = o.op) && decide (op' = p.op) && ckE G.T N sc fo a1 l && ckE G.T N sc fo b1 m && ckE G.T N sc fo c1 r) = true := h
      simp only [Bool.and_eq_true, decide_eq_true_eq] at h'
      obtain ⟨⟨⟨⟨rfl, rfl⟩, h1⟩, h2⟩, h3⟩ := h'
      have i1 := (sndE a1 l X W sc fo h1 g tk).1
      have i2 := (sndE b1 m X W sc fo h2 g tk).1
      have i3 := (sndE c1 r X W sc fo h3 g tk).1
      exact ⟨sv_chn g i1 i2 i3 (ck_mark h3 _), st_chn g i1 i2 i3 (ck_mark h3 _)⟩
    | [], _, h => exact Bool.noConfusion h
    | [_], _, h => exact Bool.noConfusion h
    | [_, _], [], h => exact Bool.noConfusion h
    | [_, _], [_], h => exact Bool.noConfusion h
    | [_, _], _ :: _ :: _ :: _, h => exact Bool.noConfusion h
    | _ :: _ :: _ :: _, _, h => exact Bool.noConfusion h
  | .and a1 b1, a, X, W, sc, fo, h, g, tk => by
    cases a <;> first | exact Bool.noConfusion h | skip
    rename_i op xs pos
    cases op <;> first | exact Bool.noConfusion h | skip
    match xs, h with
    | [], h => exact Bool.noConfusion h
    | [_], h => exact Bool.noConfusion h
    | [x, y], h =>
      have h' : (ckE G.T N sc fo a1 x && ckE G.T N sc fo b1 y) = true := h
      rw [Bool.and_eq_true] at h'
      have i1 := sndE a1 x X W sc fo h'.1 g tk
      have i2 := sndE b1 y X W sc fo h'.2 g tk
      exact ⟨sv_and g i1.1 (pe_one i2.1), (st_and i1.2 (pw_and1 i2.2)).pt⟩
    | x :: y :: z :: r, h =>
      have h' : (ckE G.T N sc fo a1 x && ckE G.T N sc fo b1 (.BoolOp .And (y :: z :: r) pos)) = true := h
      rw [Bool.and_eq_true] at h'
      have i1 := sndE a1 x X W sc fo h'.1 g tk
      have i2 := sndE b1 _ X W sc fo h'.2 g tk
      exact ⟨sv_and g i1.1 i2.1, (st_and i1.2 (pw_of i2.2)).pt⟩
  | .or a1 b1, a, X, W, sc, fo, h, g, tk => by
    cases a <;> first | exact Bool.noConfusion h | skip
    rename_i op xs pos
    cases op <;> first | exact Bool.noConfusion h | skip
    match xs, h with
    | [], h => exact Bool.noConfusion h
    | [_], h => exact Bool.noConfusion h
    | [x, y], h =>
      have h' : (ckE G.T N sc fo a1 x && ckE G.T N sc fo b1 y) = true := h
      rw [Bool.and_eq_true] at h'
      have i1 := sndE a1 x X W sc fo h'.1 g tk
      have i2 := sndE b1 y X W sc fo h'.2 g tk
      exact ⟨sv_or g i1.1 (pe_one i2.1), (st_or i1.2 (pw_or1 i2.2)).pt⟩
    | x :: y :: z :: r, h =>
      have h' : (ckE G.T N sc fo a1 x && ckE G.T N sc fo b1 (.BoolOp .Or (y :: z :: r) pos)) = true := h
      rw [Bool.and_eq_true] at h'
      have i1 := sndE a1 x X W sc fo h'.1 g tk
      have i2 := sndE b1 _ X W sc fo h'.2 g tk
      exact ⟨sv_or g i1.1 i2.1, (st_or i1.2 (pw_of i2.2)).pt⟩
  | .ite c1 a1 b1, a, X, W, sc, fo, h, g, tk => by
    cases a <;> first | exact Bool.noConfusion h | skip
    rename_i t x y pos
    have h' : (ckE G.T N sc fo c1 t && ckE G.T N sc fo a1 x && ckE G.T N sc fo b1 y) = true := h
    simp only [Bool.and_eq_true] at h'
    obtain ⟨⟨h1, h2⟩, h3⟩ := h'
    have i1 := sndE c1 t X W sc fo h1 g tk
    have i2 := sndE a1 x X W sc fo h2 g tk
    have i3 := sndE b1 y X W sc fo h3 g tk
    exact ⟨sv_ite i1.2 i2.1 i3.1, st_ite i1.2 i2.2 i3.2⟩
  | .tup es, a, X, W, sc, fo, h, g, tk => by
    cases a <;> first | exact Bool.noConfusion h | skip
    rename_i xs k pos
    exact both g rfl (sv_tup (sndEs es xs X W sc fo h g tk).1)
  | .tupK es, a, X, W, sc, fo, h, g, tk => by
    cases a <;> first | exact Bool.noConfusion h | skip
    rename_i xs k pos
    exact both g rfl (sv_tupK (sndEs es xs X W sc fo h g tk).1)
  | .lst es, a, X, W, sc, fo, h, g, tk => by
    cases a <;> first | exact Bool.noConfusion h | skip
    rename_i xs pos
    exact both g rfl (sv_lst (sndEs es xs X W sc fo h g tk).1)
  | .lstM es, a, X, W, sc, fo, h, g, tk => by
    cases a <;> first | exact Bool.noConfusion h | skip
    rename_i xs pos
    exact both g rfl (sv_lstM (sndEs es xs X W sc fo h g tk).1)
  | .dnewK, a, X, W, sc, fo, h, g, tk => by
    cases a <;> first | exact Bool.noConfusion h | skip
    rename_i ks vs pos
    match ks, vs, h with
    | [], [], h => exact both g rfl sv_dnewK
    | [], _ :: _, h => exact Bool.noConfusion h
    | _ :: _, _, h => exact Bool.noConfusion h
  | .dnewT, a, X, W, sc, fo, h, g, tk => by
    cases a <;> first | exact Bool.noConfusion h | skip
    rename_i ks vs pos
    match ks, vs, h with
    | [], [], h => exact both g rfl sv_dnewT
    | [], _ :: _, h => exact Bool.noConfusion h
    | _ :: _, _, h => exact Bool.noConfusion h
  | .sub a1 i1, a, X, W, sc, fo, h, g, tk => by
    cases a <;> first | exact Bool.noConfusion h | skip
    rename_i l r pos
    have h' : (ckE G.T N sc fo a1 l && ckE G.T N sc fo i1 r) = true := h
    rw [Bool.and_eq_true] at h'
    exact both g rfl (sv_sub g (sndE a1 l X W sc fo h'.1 g tk).1 (sndE i1 r X W sc fo h'.2 g tk).1 (ck_ix h'.2))
  | .slc a1 lo hi, a, X, W, sc, fo, h, g, tk => by
    cases a <;> first | exact Bool.noConfusion h | skip
    rename_i l r pos
    cases r <;> first | exact Bool.noConfusion h | skip
    rename_i x y z p2
    cases z with
    | some _ => exact Bool.noConfusion h
    | none =>
      have h' : (ckE G.T N sc fo a1 l && ckO G.T N sc fo lo x && ckO G.T N sc fo hi y) = true := h
      simp only [Bool.and_eq_true] at h'
      obtain ⟨⟨h1, h2⟩, h3⟩ := h'
      exact both g rfl (sv_slc g (sndE a1 l X W sc fo h1 g tk).1 (sndO lo x X W sc fo h2 g tk) (sndO hi y X W sc fo h3 g tk))
  | .call f es, a, X, W, sc, fo, h, g, tk => by
    cases a <;> first | exact Bool.noConfusion h | skip
    rename_i fn xs kws pos
    cases fn <;> first | exact Bool.noConfusion h | skip
    rename_i x p
    match xs, kws, h with
    | y :: ys, [], h =>
      have h' : (glB sc x && (match G.T.fns[f]? with | some p => decide (p.name = x) | none => false) && ckEs G.T N sc fo es (y :: ys)) = true := h
      simp only [Bool.and_eq_true] at h'
      obtain ⟨⟨h1, h2⟩, h3⟩ := h'
      have st := ckEs_star X.env h3
      split at h2
      · rename_i fd e
        refine both g rfl (snd_call F g tk e (of_decide_eq_true h2) h1 (sndEs es (y :: ys) X W sc fo h3 g tk).1 ?_ (star_back ?_))
        · cases es with
          | nil => exact Bool.noConfusion h3
          | cons e es =>
            have h4 : (ckE G.T N sc fo e y && ckEs G.T N sc fo es ys) = true := h3
            rw [Bool.and_eq_true] at h4
            exact ck_star h4.1 ys X.env
        · cases es with
          | nil => exact Bool.noConfusion h3
          | cons e es =>
            have h4 : (ckE G.T N sc fo e y && ckEs G.T N sc fo es ys) = true := h3
            rw [Bool.and_eq_true] at h4
            exact ckEs_star X.env h4.2
      · cases h2
    | [], _, h => exact Bool.noConfusion h
    | _ :: _, _ :: _, h => exact Bool.noConfusion h
  | .callP f es, a, X, W, sc, fo, h, g, tk => by
    cases a <;> first | exact Bool.noConfusion h | skip
    rename_i fn xs kws pos
    cases fn <;> first | exact Bool.noConfusion h | skip
    rename_i x p
    match xs, kws, h with
    | y :: ys, [], h =>
      have h' : (glB sc x && (match G.T.fns[f]? with | some p => decide (p.name = x) | none => false) && ckEs G.T N sc fo es (y :: ys)) = true := h
      simp only [Bool.and_eq_true] at h'
      obtain ⟨⟨h1, h2⟩, h3⟩ := h'
      split at h2
      · rename_i fd e
        refine both g rfl (snd_callP F g tk e (of_decide_eq_true h2) h1 (sndEs es (y :: ys) X W sc fo h3 g tk).1 ?_ (star_back ?_))
        · cases es with
          | nil => exact Bool.noConfusion h3
          | cons e es =>
            have h4 : (ckE G.T N sc fo e y && ckEs G.T N sc fo es ys) = true := h3
            rw [Bool.and_eq_true] at h4
            exact ck_star h4.1 ys X.env
        · cases es with
          | nil => exact Bool.noConfusion h3
          | cons e es =>
            have h4 : (ckE G.T N sc fo e y && ckEs G.T N sc fo es ys) = true := h3
            rw [Bool.and_eq_true] at h4
            exact ckEs_star X.env h4.2
      · cases h2
    | [], _, h => exact Bool.noConfusion h
    | _ :: _, _ :: _, h => exact Bool.noConfusion h
  | .bi b1 a1, a, X, W, sc, fo, h, g, tk => by
    cases a <;> first | exact Bool.noConfusion h | skip
    rename_i fn xs kws pos
    cases fn <;> first | exact Bool.noConfusion h | skip
    rename_i x p
    match xs, kws, h with
    | [y], [], h =>
      have h' : (glB sc x && decide (x = b1.nm) && ckE G.T N sc fo a1 y) = true := h
      simp only [Bool.and_eq_true, decide_eq_true_eq] at h'
      obtain ⟨⟨h1, h2⟩, h3⟩ := h'
      exact both g rfl (sv_bi F g h2 h1 (sndE a1 y X W sc fo h3 g tk).1 (ck_star h3 [] X.env))
    | [], _, h => exact Bool.noConfusion h
    | [_], _ :: _, h => exact Bool.noConfusion h
    | _ :: _ :: _, _, h => exact Bool.noConfusion h
  | .isi a1 t, a, X, W, sc, fo, h, g, tk => by
    cases a <;> first | exact Bool.noConfusion h | skip
    rename_i fn xs kws pos
    cases fn <;> first | exact Bool.noConfusion h | skip
    rename_i x p
    match xs, kws, h with
    | [y, z], [], h =>
      cases z <;> first | exact Bool.noConfusion h | skip
      rename_i z p2
      have h' : (glB sc x && decide (x = "isinstance") && glB sc z && decide (z = t.nmS) && ckE G.T N sc fo a1 y) = true := h
      simp only [Bool.and_eq_true, decide_eq_true_eq] at h'
      obtain ⟨⟨⟨⟨h1, h2⟩, h3⟩, h4⟩, h5⟩ := h'
      exact both g rfl (sv_isi F g h2 h1 h4 h3 (sndE a1 y X W sc fo h5 g tk).1 (ck_star h5 _ X.env))
    | [], _, h => exact Bool.noConfusion h
    | [_], _, h => exact Bool.noConfusion h
    | [_, z], _ :: _, h => cases z <;> exact Bool.noConfusion h
    | _ :: z :: _ :: _, _, h => cases z <;> exact Bool.noConfusion h
  | .mt m o es, a, X, W, sc, fo, h, g, tk => by
    cases a <;> first | exact Bool.noConfusion h | skip
    rename_i fn xs kws pos
    cases fn <;> first | exact Bool.noConfusion h | skip
    rename_i l at_ apos
    cases kws with
    | cons _ _ => exact Bool.noConfusion h
    | nil =>
      have h' : (decide (at_ = m.nm) && (apos.endLine == pos.line) && ckE G.T N sc fo o l && ckEs G.T N sc fo es xs && mtA m es) = true := h
      simp only [Bool.and_eq_true, decide_eq_true_eq] at h'
      obtain ⟨⟨⟨⟨h1, h2⟩, h3⟩, h4⟩, h5⟩ := h'
      have io := (sndE o l X W sc fo h3 g tk).1
      have hb := ck_base h3 at_ X.env (eval l X.env)
      have ie := sndEs es xs X W sc fo h4 g tk
      clear h
      match m, es, h1, h4, h5, ie with
      | .append, .cons e .nil, h1, h4, h5, ie =>
        match xs, h4, ie with
        | [], h4, _ => exact Bool.noConfusion h4
        | [x], h4, ie =>
          have h6 : (ckE G.T N sc fo e x && true) = true := h4
          rw [Bool.and_true] at h6
          exact both g rfl (sv_append g h1 io ie.1 hb h2 (ck_star h6 [] X.env))
        | x :: y :: r, h4, _ =>
          have h6 : (ckE G.T N sc fo e x && false) = true := h4
          rw [Bool.and_false] at h6; cases h6
      | .pop, .nil, h1, h4, h5, ie =>
        match xs, h4 with
        | [], h4 => exact both g rfl (sv_pop g h1 io hb h2)
        | _ :: _, h4 => exact Bool.noConfusion h4
      | .get2, .cons e1 (.cons e2 .nil), h1, h4, h5, ie =>
        match xs, h4, ie with
        | [], h4, _ => exact Bool.noConfusion h4
        | [x], h4, _ =>
          have h6 : (ckE G.T N sc fo e1 x && false) = true := h4
          rw [Bool.and_false] at h6; cases h6
        | [x, y], h4, ie =>
          have h6 : (ckE G.T N sc fo e1 x && (ckE G.T N sc fo e2 y && true)) = true := h4
          rw [Bool.and_true, Bool.and_eq_true] at h6
          refine both g rfl (sv_get2 g h1 io ie.2.1 ie.2.2.1 hb h2 ?_)
          rw [ck_star h6.1, ck_star h6.2]; rfl
        | x :: y :: z :: r, h4, _ =>
          have h6 : (ckE G.T N sc fo e1 x && (ckE G.T N sc fo e2 y && false)) = true := h4
          rw [Bool.and_false, Bool.and_false] at h6; cases h6
  | .lc m own tg it c e, a, X, W, sc, fo, h, g, tk => by
    cases a <;> first | exact Bool.noConfusion h | skip
    rename_i el gens scope pos
    match gens, h with
    | [], h => exact Bool.noConfusion h
    | ⟨_, _, _, _⟩ :: _ :: _, h => exact Bool.noConfusion h
    | [⟨t, i, ifs, k⟩], h =>
      have h' : (decide (k = 0) && blkC N sc scope (ownOf N own) && ckI G.T N sc fo it t i && ckG N (relS scope sc) (fun x => scope.names.lookup x == some .cell) own tg t &&
        ckC G.T N (relS scope sc) (fun x => scope.names.lookup x == some .cell) c ifs && ckE G.T N (relS scope sc) (fun x => scope.names.lookup x == some .cell) e el) = true := h
      simp only [Bool.and_eq_true, decide_eq_true_eq] at h'
      obtain ⟨⟨⟨⟨⟨rfl, h1⟩, h2⟩, h3⟩, h4⟩, h5⟩ := h'
      refine both g rfl (imE (pe_lc g.calm g.nd (sndI it t i X W sc fo h2 g tk) (blkOk_by (by rw [g.N, g.sc]; exact h1))
        (fun s H C cl fp => snd_G (g.blk s H C scope cl fp) tg t h3) (fun s H C cl fp => sndC c ifs _ W0 _ _ h4 (g.blk s H C scope cl fp) takes0)
        (fun s H C cl fp => (sndE e el _ W0 _ _ h5 (g.blk s H C scope cl fp) takes0).1) (fun x => ckI_folded h2 X.env x)) fun σ H Q q => ?_)
      rw [own_ix]
      exact lc_read q
  | .lc2 m own own2 tg it tg2 it2 c e, a, X, W, sc, fo, h, g, tk => by
    cases a <;> first | exact Bool.noConfusion h | skip
    rename_i el gens scope pos
    match gens, h with
    | [], h => exact Bool.noConfusion h
    | [⟨_, _, [], _⟩], h => exact Bool.noConfusion h
    | [⟨_, _, _ :: _, _⟩], h => exact Bool.noConfusion h
    | ⟨_, _, [], _⟩ :: ⟨_, _, _, _⟩ :: _ :: _, h => exact Bool.noConfusion h
    | ⟨_, _, _ :: _, _⟩ :: _ :: _, h => exact Bool.noConfusion h
    | [⟨t, i, [], k⟩, ⟨t2, i2, ifs, k2⟩], h =>
      have h' : (decide (k = 0) && decide (k2 = 0) && blkC N sc scope (ownOf N own) && ckI G.T N sc fo it t i && ckG N (relS scope sc) (fun x => scope.names.lookup x == some .cell) own tg t &&
        ckI G.T N (relS scope sc) (fun x => scope.names.lookup x == some .cell) it2 t2 i2 && own2.all (fun i => own.contains i) && ckG N (relS scope sc) (fun x => scope.names.lookup x == some .cell) own2 tg2 t2 &&
        ckC G.T N (relS scope sc) (fun x => scope.names.lookup x == some .cell) c ifs && ckE G.T N (relS scope sc) (fun x => scope.names.lookup x == some .cell) e el) = true := h
      simp only [Bool.and_eq_true, decide_eq_true_eq] at h'
      obtain ⟨⟨⟨⟨⟨⟨⟨⟨⟨rfl, rfl⟩, h1⟩, h2⟩, h3⟩, h4⟩, h5⟩, h6⟩, h7⟩, h8⟩ := h'
      refine both g rfl (imE (pe_lc2 (vs1 := own2) g.calm g.nd (sndI it t i X W sc fo h2 g tk) (blkOk_by (by rw [g.N, g.sc]; exact h1)) (by
          rw [own_ix]; intro j hj; have := List.all_eq_true.mp h5 j hj; simpa using this)
        (fun s H C cl fp => snd_G (g.blk s H C scope cl fp) tg t h3) (fun s H C cl fp => pts_nil)
        (fun s H C cl fp => sndI it2 t2 i2 _ W0 _ _ h4 (g.blk s H C scope cl fp) takes0)
        (fun s H C cl fp => snd_G (g.blk s H C scope cl fp) tg2 t2 h6) (fun s H C cl fp => sndC c ifs _ W0 _ _ h7 (g.blk s H C scope cl fp) takes0)
        (fun s H C cl fp => (sndE e el _ W0 _ _ h8 (g.blk s H C scope cl fp) takes0).1) (fun x => ckI_folded h2 X.env x) (fun env x => ckI_folded h4 env x)) fun σ H Q q => ?_)
      rw [own_ix]
      exact lc2_read q
  | .frz a1, a, X, W, sc, fo, h, g, tk => by
    have h' : (plainB a && ckE G.T N sc fo a1 a) = true := h
    rw [Bool.and_eq_true] at h'
    exact both g h'.1 (sv_frz (sndE a1 a X W sc fo h'.2 g tk).1)
theorem sndEs : ∀ (es : Es) (as : List Expr) (X : Cx) (W : WX) (sc : Scope) (fo : Str → Bool), ckEs G.T N sc fo es as = true → Good P w base G n N sc fo X → Takes X W → PA X as (tAr G W (evs G.T cf es)) ∧ AllP G cf X W es as
  | .nil, as, X, W, sc, fo, h, g, tk => by
    cases as <;> first | exact Bool.noConfusion h | skip
    exact ⟨sv_nil, trivial⟩
  | .cons e es, as, X, W, sc, fo, h, g, tk => by
    cases as with
    | nil => exact Bool.noConfusion h
    | cons a as =>
      have h' : (ckE G.T N sc fo e a && ckEs G.T N sc fo es as) = true := h
      rw [Bool.and_eq_true] at h'
      have i1 := (sndE e a X W sc fo h'.1 g tk).1
      have i2 := sndEs es as X W sc fo h'.2 g tk
      exact ⟨sv_cons i1 i2.1 (ck_star h'.1 as X.env), i1, i2.2⟩
theorem sndO : ∀ (es : Es) (x : Option Expr) (X : Cx) (W : WX) (sc : Scope) (fo : Str → Bool), ckO G.T N sc fo es x = true → Good P w base G n N sc fo X → Takes X W → PO X x (tPa G W (evs G.T cf es))
  | .nil, x, X, W, sc, fo, h, g, tk => by
    cases x with
    | none => exact sv_ono
    | some _ => exact Bool.noConfusion h
  | .cons e es, x, X, W, sc, fo, h, g, tk => by
    cases x with
    | none => exact Bool.noConfusion h
    | some a =>
      have ie := (sndE e a X W sc fo (ckO_cons h).1 g tk).1
      rw [(ckO_cons h).2]
      exact sv_osome ie
theorem sndC : ∀ (es : Es) (as : List Expr) (X : Cx) (W : WX) (sc : Scope) (fo : Str → Bool), ckC G.T N sc fo es as = true → Good P w base G n N sc fo X → Takes X W → PTs X as (tT G W (evC G.T cf es))
  | .nil, as, X, W, sc, fo, h, g, tk => by
    cases as <;> first | exact Bool.noConfusion h | skip
    exact sp_nil
  | .cons e es, as, X, W, sc, fo, h, g, tk => by
    match as, h with
    | [], h => exact Bool.noConfusion h
    | _ :: _ :: _, h => exact Bool.noConfusion h
    | [a], h =>
      exact pts_one (sndE e a X W sc fo (ckC_cons h) g tk).2
theorem sndI : ∀ (it : It) (t a : Expr) (X : Cx) (W : WX) (sc : Scope) (fo : Str → Bool), ckI G.T N sc fo it t a = true → Good P w base G n N sc fo X → Takes X W → PI X t a (tIr G W (evI G.T cf it))
  | .seq e, t, a, X, W, sc, fo, h, g, tk => si_seq g (sndE e a X W sc fo h g tk).1
  | .rng1 e, t, a, X, W, sc, fo, h, g, tk => by
    cases a <;> first | exact Bool.noConfusion h | skip
    rename_i fn xs kws pos
    cases fn <;> first | exact Bool.noConfusion h | skip
    rename_i x p
    match xs, kws, h with
    | [y], [], h =>
      have h' : (glB sc x && decide (x = "range") && ckE G.T N sc fo e y) = true := h
      simp only [Bool.and_eq_true, decide_eq_true_eq] at h'
      obtain ⟨⟨h1, h2⟩, h3⟩ := h'
      exact si_rng1 F g h2 h1 (sndE e y X W sc fo h3 g tk).1 (ck_star h3 [] X.env)
    | [], _, h => exact Bool.noConfusion h
    | [_], _ :: _, h => exact Bool.noConfusion h
    | _ :: _ :: _, _, h => exact Bool.noConfusion h
  | .rng2 e e2, t, a, X, W, sc, fo, h, g, tk => by
    cases a <;> first | exact Bool.noConfusion h | skip
    rename_i fn xs kws pos
    cases fn <;> first | exact Bool.noConfusion h | skip
    rename_i x p
    match xs, kws, h with
    | [y, z], [], h =>
      have h' : (glB sc x && decide (x = "range") && ckE G.T N sc fo e y && ckE G.T N sc fo e2 z) = true := h
      simp only [Bool.and_eq_true, decide_eq_true_eq] at h'
      obtain ⟨⟨⟨h1, h2⟩, h3⟩, h4⟩ := h'
      exact si_rng2 F g h2 h1 (sndE e y X W sc fo h3 g tk).1 (sndE e2 z X W sc fo h4 g tk).1 (ck_star h3 _ X.env) (ck_star h4 [] X.env)
    | [], _, h => exact Bool.noConfusion h
    | [_], _, h => exact Bool.noConfusion h
    | [_, _], _ :: _, h => exact Bool.noConfusion h
    | _ :: _ :: _ :: _, _, h => exact Bool.noConfusion h
  | .keys e, t, a, X, W, sc, fo, h, g, tk => Bool.noConfusion h
  | .enum e, t, a, X, W, sc, fo, h, g, tk => by
    cases a <;> first | exact Bool.noConfusion h | skip
    rename_i fn xs kws pos
    cases fn <;> first | exact Bool.noConfusion h | skip
    rename_i x p
    match xs, kws, h with
    | [y], [], h =>
      cases t <;> first | exact Bool.noConfusion h | skip
      have h' : (glB sc x && decide (x = "enumerate") && ckE G.T N sc fo e y) = true := h
      simp only [Bool.and_eq_true, decide_eq_true_eq] at h'
      obtain ⟨⟨h1, h2⟩, h3⟩ := h'
      exact si_enum F g h2 h1 (sndE e y X W sc fo h3 g tk).1 (ck_star h3 [] X.env)
    | [], _, h => exact Bool.noConfusion h
    | [_], _ :: _, h => exact Bool.noConfusion h
    | _ :: _ :: _, _, h => exact Bool.noConfusion h
  | .zip e e2, t, a, X, W, sc, fo, h, g, tk => by
    cases a <;> first | exact Bool.noConfusion h | skip
    rename_i fn xs kws pos
    cases fn <;> first | exact Bool.noConfusion h | skip
    rename_i x p
    match xs, kws, h with
    | [y, z], [], h =>
      cases t <;> first | exact Bool.noConfusion h | skip
      have h' : (glB sc x && decide (x = "zip") && ckE G.T N sc fo e y && ckE G.T N sc fo e2 z) = true := h
      simp only [Bool.and_eq_true, decide_eq_true_eq] at h'
      obtain ⟨⟨⟨h1, h2⟩, h3⟩, h4⟩ := h'
      exact si_zip F g h2 h1 (sndE e y X W sc fo h3 g tk).1 (sndE e2 z X W sc fo h4 g tk).1 (ck_star h3 _ X.env) (ck_star h4 [] X.env)
    | [], _, h => exact Bool.noConfusion h
    | [_], _, h => exact Bool.noConfusion h
    | [_, _], _ :: _, h => exact Bool.noConfusion h
    | _ :: _ :: _ :: _, _, h => exact Bool.noConfusion h
end
end
end PyI

set_option Elab.async false
set_option linter.all false
set_option maxRecDepth 100000
/-! PyN: statements. -/
namespace PyI
open PySem L2

/-- the flow's own promise -/
def FlQ (G : Glb) (D : Ends) (μ : Mu) (M : Mk) (H : Hp) (σ : St) : Fl → Prop
  | .nx => D.nx σ H
  | .brk => D.bk σ H
  | .cont => D.ct σ H
  | .ret d => ∀ v, Rep G μ M H d v → D.rt v H
def PostS (G : Glb) (W : WX) (D : Ends) (μ : Mu) (M : Mk) (H : Hp) (r : SR) : Prop :=
  match r with
  | .ok fl ρ' h' => ∀ σ' μ' M' H', Le μ M H μ' M' H' → Hrel G μ' M' H' h' → Envi G μ' M' H' ρ' σ' → FlQ G D μ' M' H' σ' fl
  | .err c ρ' h' => ∀ C σ' μ' M' H', exN G c C → Le μ M H μ' M' H' → Hrel G μ' M' H' h' → Envi G μ' M' H' ρ' σ' → W (.ref C) none σ' H'
  | .no => False
/-- a statement by the evaluator -/
def tS (G : Glb) (W : WX) (f : Loc → Hea → SR) : TS := fun D σ H => ∃ μ M ρ h, Envi G μ M H ρ σ ∧ Hrel G μ M H h ∧ PostS G W D μ M H (f ρ h)
section
variable {α β : Type} {G : Glb} {μ μ' : Mu} {M M' : Mk} {H H' : Hp} {h : Hea} {W : WX} {σ : St} {D D' : Ends} {R : Mu → Mk → Hp → α → β → Prop} {ρ : Loc}
theorem PostS.le {r : SR} (p : PostS G W D μ M H r) (l : Le μ M H μ' M' H') : PostS G W D μ' M' H' r := by
  cases r with
  | ok fl ρ' h' => exact fun σ' μ2 M2 H2 k => p σ' μ2 M2 H2 (l.trans k)
  | err c ρ' h' => exact fun C σ' μ2 M2 H2 e k => p C σ' μ2 M2 H2 e (l.trans k)
  | no => exact p
theorem tS.out {f : Loc → Hea → SR} (q : tS G W f D σ H) : ∃ μ M ρ h, Envi G μ M H ρ σ ∧ Hrel G μ M H h ∧ PostS G W D μ M H (f ρ h) := q
theorem tS.of {f : Loc → Hea → SR} (e : Envi G μ M H ρ σ) (r : Hrel G μ M H h) (p : PostS G W D μ M H (f ρ h)) : tS G W f D σ H := ⟨μ, M, ρ, h, e, r, p⟩
theorem PostS.here {fl : Fl} (p : PostS G W D μ M H (.ok fl ρ h)) (r : Hrel G μ M H h) (e : Envi G μ M H ρ σ) : FlQ G D μ M H σ fl := p σ μ M H Le.refl r e
/-- an expression, and the rest -/
theorem PostS.thn {f : Loc → Hea → Res α} {g : α → Hea → SR} (e : Envi G μ M H ρ σ) (r : Hrel G μ M H h) (p : PostS G W D μ M H ((f ρ h).st ρ g)) :
    tG G W R f σ H (fun b H1 => ∃ a μ1 M1 h1, Le μ M H μ1 M1 H1 ∧ Envi G μ1 M1 H1 ρ σ ∧ Hrel G μ1 M1 H1 h1 ∧ R μ1 M1 H1 a b ∧ PostS G W D μ1 M1 H1 (g a h1)) := by
  refine ⟨μ, M, ρ, h, e, r, ?_⟩
  cases q : f ρ h with
  | no => rw [q] at p; exact p
  | err c k => rw [q] at p; exact fun C μ1 M1 H1 ex l r1 => p C σ μ1 M1 H1 ex l r1 (e.le r l)
  | ok a h1 =>
    rw [q, Res.st_ok] at p
    exact fun b μ1 M1 H1 l r1 q1 => ⟨a, μ1, M1, h1, l, e.le r l, r1, q1, PostS.le p l⟩
theorem tS.st {f : Loc → Hea → Res α} {g : Loc → α → Hea → SR} (q : tS G W (fun ρ h => (f ρ h).st ρ (g ρ)) D σ H) :
    tG G W R f σ H (fun b H1 => ∃ a μ M ρ h, Envi G μ M H1 ρ σ ∧ Hrel G μ M H1 h ∧ R μ M H1 a b ∧ PostS G W D μ M H1 (g ρ a h)) := by
  obtain ⟨μ, M, ρ, h, e, r, p⟩ := q.out
  exact (PostS.thn (R := R) e r p).mono fun b H1 ⟨a, μ1, M1, h1, _, e1, r1, q1, p1⟩ => ⟨a, μ1, M1, ρ, h1, e1, r1, q1, p1⟩
theorem imS {X : Cx} {st : Stmt} {t t' : TS} (p : PS X st t) (i : ∀ D σ H, t' D σ H → t D σ H) : PS X st t' := ⟨fun pins s σ H D I q => p.run pins s σ H D I (i D σ H q)⟩
theorem imSs {X : Cx} {st : List Stmt} {t t' : TS} (p : PSs X st t) (i : ∀ D σ H, t' D σ H → t D σ H) : PSs X st t' := ⟨fun pins s σ H D I q => p.run pins s σ H D I (i D σ H q)⟩
end

section
variable {P : Program} {w : World} {base : Heap} {G : Glb} {cf : Nat → List D → Hea → Res D} {n : Nat} {N : List Str} {sc : Scope} {fo : Str → Bool} {X : Cx} {W : WX}
variable {a b c : Expr} {fa fb fc : Loc → Hea → Res D} {pos p : Pos}
/-- name = value -/
theorem set_read {i : Nat} {t : TE} (im : ∀ σ H Q, tE G W fa σ H Q → t σ H Q) {D : Ends} {σ : St} {H : Hp} (q : tS G W (fun ρ h => (fa ρ h).st ρ fun d h1 => .ok .nx (ρ.set i (some d)) h1) D σ H) : tAsg t (gName i) D σ H := by
  refine im σ H _ (tG.mono (tS.st (R := Rep G) q) ?_)
  rintro v H1 ⟨d, μ, M, ρ, h, e, r, pa, p⟩
  exact p.here r (e.set i pa)
theorem ss_set (g : Good P w base G n N sc fo X) {i : Nat} {x : Str} (hi : N[i]? = some x) (hx : locB sc fo x = true) (ha : PE X a (tE G W fa)) (hs : swapsWith a (some (.Name x p)) pos.line X.env = pure false) :
    PS X (.Assign [.Name x p] a pos) (tS G W fun ρ h => (fa ρ h).st ρ fun d h1 => .ok .nx (ρ.set i (some d)) h1) := by
  obtain ⟨l1, l2⟩ := locB_loc hx
  exact imS (ps_set g.nd (by rw [g.N]; exact hi) (by rw [g.sc]; exact l1) ha hs (by rw [g.fn, g.sc]; exact l2)) fun D σ H q => set_read (fun _ _ _ q => q) q
theorem ss_asg (g : Good P w base G n N sc fo X) {own : List Nat} {t : Tg} {tg : Expr} (ht : ckG N sc fo own t tg = true) (ha : PE X a (tE G W fa)) (hs : swapsWithSole [tg] a pos.line X.env = pure false) (hw : swappedStores [tg] a X.env = pure none) :
    PS X (.Assign [tg] a pos) (tS G W fun ρ h => (fa ρ h).st ρ fun d h1 => match evG t ρ d with | some ρ1 => .ok .nx ρ1 h1 | none => .no) := by
  refine imS (ps_asg ha (snd_G g t tg ht) hs hw (by rw [ckG_assign ht]; rfl)) fun D σ H q => ?_
  refine tG.mono (tS.st (R := Rep G) q) ?_
  rintro v H1 ⟨d, μ, M, ρ, h, e, r, pa, p⟩
  split at p
  · rename_i ρ1 ev
    exact ⟨μ, M, ρ, d, ρ1, e, pa, ev, fun σ' e' _ => p.here r e'⟩
  · exact p.elim
theorem setR_post {μ : Mu} {M : Mk} {H : Hp} {h h4 : Hea} {x y d : D} {o i v : V} (r : Hrel G μ M H h) (po : Rep G μ M H x o) (pi : Rep G μ M H y i) (pv : Rep G μ M H d v) (e : setR h x y d = some h4) {Q : Hp → Prop}
    (q : ∀ H', Le μ M H μ M H' → Hrel G μ M H' h4 → Q H') : rSetL o i v H Q ∨ rSetD o i v H Q := by
  unfold setR at e
  split at e
  · rename_i m
    split at e
    · rename_i xs ex
      obtain ⟨k, ek, e⟩ := Option.bind_eq_some_iff.mp e
      obtain ⟨j, ej, rfl⟩ := Option.map_eq_some_iff.mp e
      obtain ⟨a, rfl, hn, ys, s, t⟩ := r.at_ po ex (by intro z; cases z)
      have ei := int_rep pi ek
      subst ei
      refine .inl ⟨a, ys, k, j, rfl, rfl, s, by rw [t.length]; exact ej, ?_⟩
      exact q _ (Le.write hn) (r.write hn ⟨ys.set j v, upd_same, Reps.set (Rep.le r (Le.write hn) _ _ pv) j (Reps.le r (Le.write hn) _ _ t)⟩)
    · rename_i ks vs ex
      obtain ⟨k, ek, e⟩ := Option.bind_eq_some_iff.mp e
      split at e
      · rename_i hl
        cases e
        obtain ⟨a, rfl, hn, kvs, s, ekk, t⟩ := r.at_ po ex (by intro z; cases z)
        have ei := keyV_kV pi ek
        subst ei
        have hlen : kvs.length < sizeLine := by rw [← ekk, List.length_map] at hl; exact hl
        refine .inr ⟨a, _, rfl, .inl ⟨kvs, k, s, rfl, hlen, rfl⟩, ?_⟩
        have wr : Le μ M H μ M (upd H a (.dK (putK kvs k v))) := Le.write hn
        obtain ⟨p1, p2⟩ := put_rep (x := k) (Rep.le r wr _ _ pv) ekk (Reps.le r wr _ _ t)
        exact q _ wr (r.write hn ⟨_, upd_same, p1, p2⟩)
      · cases e
    · rename_i ks vs ex
      obtain ⟨k, ek, e⟩ := Option.bind_eq_some_iff.mp e
      split at e
      · rename_i hl
        cases e
        obtain ⟨a, rfl, hn, kvs, s, ekk, t⟩ := r.at_ po ex (by intro z; cases z)
        obtain ⟨b, rfl, hb⟩ := tkeyV_kV pi ek
        have hlen : kvs.length < sizeLine := by rw [← ekk, List.length_map] at hl; exact hl
        refine .inr ⟨a, _, rfl, .inr ⟨kvs, k, b, s, rfl, hb, hlen, rfl⟩, ?_⟩
        have wr : Le μ M H μ M (upd H a (.dT (putK kvs k v))) := Le.write hn
        obtain ⟨p1, p2⟩ := put_rep (x := k) (Rep.le r wr _ _ pv) ekk (Reps.le r wr _ _ t)
        exact q _ wr (r.write hn ⟨_, upd_same, p1, p2⟩)
      · cases e
    · cases e
  · cases e
theorem set_ld (hu : X.A.units + 1 < cLine) : PSet X (fun o i v H Q => rSetL o i v H Q ∨ rSetD o i v H Q) := by
  intro pins s σ H o i v ov iv u Q I ro ri rv q
  rcases q with q | q
  · exact set_list pins s σ H o i v ov iv u Q I ro ri rv q
  · exact set_dict hu pins s σ H o i v ov iv u Q I ro ri rv q
theorem ss_put (g : Good P w base G n N sc fo X) (ha : PE X a (tE G W fa)) (hb : PE X b (tE G W fb)) (hc : PE X c (tE G W fc)) (hs : swapsWithSole [.Subscript a b p] c pos.line X.env = pure false)
    (hb2 : ∀ v, assign (.Subscript a b p) X.env v = (do
      let ov ← holding [v] (eval a X.env)
      let iv ← holding [v, ov] (eval b X.env)
      standAt p
      holding [v, ov, iv] (setItem ov iv v)
      release [v, ov, iv] [])) :
    PS X (.Assign [.Subscript a b p] c pos) (tS G W fun ρ h => (fc ρ h).st ρ fun d h1 => (fa ρ h1).st ρ fun x h2 => (fb ρ h2).st ρ fun y h3 => match setR h3 x y d with | some h4 => .ok .nx ρ h4 | none => .no) := by
  refine imS (ps_asg hc (pg_sub ha hb (set_ld g.hu1) hb2) hs rfl) fun D σ H q => ?_
  obtain ⟨μ, M, ρ, h, e, r, p⟩ := q.out
  refine tG.mono (PostS.thn (R := Rep G) e r p) ?_
  rintro v H1 ⟨d, μ1, M1, h1, l1, e1, r1, pv, p1⟩
  refine tG.mono (PostS.thn (R := Rep G) (f := fa) e1 r1 p1) ?_
  rintro o H2 ⟨x, μ2, M2, h2, l2, e2, r2, po, p2⟩
  refine tG.mono (PostS.thn (R := Rep G) (f := fb) e2 r2 p2) ?_
  rintro i H3 ⟨y, μ3, M3, h3, l3, e3, r3, pi, p3⟩
  split at p3
  · rename_i h4 es
    exact setR_post r3 (Rep.le r2 l3 _ _ po) pi (Rep.le r1 (l2.trans l3) _ _ pv) es fun H' l r' => p3 σ μ3 M3 H' l r' (e3.le r3 l)
  · exact p3.elim
theorem ss_ex (ha : PE X a (tE G W fa)) (hs : swapsWith a none pos.line X.env = pure false) : PS X (.Expr a pos) (tS G W fun ρ h => (fa ρ h).st ρ fun _ h1 => .ok .nx ρ h1) := by
  refine imS (ps_expr ha hs) fun D σ H q => ?_
  refine tG.mono (tS.st (R := Rep G) q) ?_
  rintro v H1 ⟨d, μ, M, ρ, h, e, r, pa, p⟩
  exact p.here r e
theorem ss_ret (ha : PE X a (tE G W fa)) : PS X (.Return (some a) pos) (tS G W fun ρ h => (fa ρ h).st ρ fun d h1 => .ok (.ret d) ρ h1) := by
  refine imS (ps_ret ha) fun D σ H q => ?_
  refine tG.mono (tS.st (R := Rep G) q) ?_
  rintro v H1 ⟨d, μ, M, ρ, h, e, r, pa, p⟩
  exact p.here r e v pa
theorem ss_retN : PS X (.Return none pos) (tS G W fun ρ h => .ok (.ret .non) ρ h) := by
  refine imS ps_retN fun D σ H q => ?_
  obtain ⟨μ, M, ρ, h, e, r, p⟩ := q.out
  exact p.here r e .non (by rw [rep_non])
theorem ss_nx {st : Stmt} (ha : PS X st tNext) : PS X st (tS G W fun ρ h => .ok .nx ρ h) := by
  refine imS ha fun D σ H q => ?_
  obtain ⟨μ, M, ρ, h, e, r, p⟩ := q.out
  exact p.here r e
theorem ss_brk : PS X (.Break pos) (tS G W fun ρ h => .ok .brk ρ h) := by
  refine imS ps_break fun D σ H q => ?_
  obtain ⟨μ, M, ρ, h, e, r, p⟩ := q.out
  exact p.here r e
theorem ss_cont : PS X (.Continue pos) (tS G W fun ρ h => .ok .cont ρ h) := by
  refine imS ps_continue fun D σ H q => ?_
  obtain ⟨μ, M, ρ, h, e, r, p⟩ := q.out
  exact p.here r e
theorem ss_if {tc : Loc → Hea → Res Bool} {fx fy : Loc → Hea → SR} {xs ys : List Stmt} (hc : PT X c (tT G W tc)) (hx : PSs X xs (tS G W fx)) (hy : PSs X ys (tS G W fy)) :
    PS X (.If c xs ys pos) (tS G W fun ρ h => (tc ρ h).st ρ fun k h1 => if k then fx ρ h1 else fy ρ h1) := by
  refine imS (ps_if hc hx hy) fun D σ H q => ?_
  refine tG.mono (tS.st (R := fun _ _ _ a b => a = b) q) ?_
  rintro _ H1 ⟨k, μ, M, ρ, h, e, r, rfl, p⟩
  cases k with
  | true => exact tS.of e r p
  | false => exact tS.of e r p
theorem ss_nil : PSs X [] (tS G W fun ρ h => .ok .nx ρ h) := by
  refine imSs pss_nil fun D σ H q => ?_
  obtain ⟨μ, M, ρ, h, e, r, p⟩ := q.out
  exact p.here r e
theorem ss_cons {st : Stmt} {sts : List Stmt} {f g : Loc → Hea → SR} (h1 : PS X st (tS G W f)) (h2 : PSs X sts (tS G W g)) : PSs X (st :: sts) (tS G W fun ρ h => (f ρ h).thn g) := by
  refine imSs (pss_cons h1 h2) fun D σ H q => ?_
  obtain ⟨μ, M, ρ, h, e, r, p⟩ := q.out
  refine tS.of e r ?_
  cases ef : f ρ h with
  | no => rw [ef] at p; exact p
  | err c ρ1 h1 => rw [ef] at p; exact p
  | ok fl ρ1 h1 =>
    rw [ef] at p
    cases fl with
    | nx => exact fun σ' μ' M' H' l r' e' => tS.of e' r' (PostS.le (show PostS G W D μ M H (g ρ1 h1) from p) l)
    | brk => exact p
    | cont => exact p
    | ret d => exact p
theorem ss_while {tc : Loc → Hea → Res Bool} {f : Loc → Hea → SR} {body : List Stmt} (hp : PassesOwn (model X.prog X.w) X.A X.env X.xe) (hc : PT X c (tT G W tc)) (hb : PSs X body (tS G W f)) :
    PS X (.While c body [] pos) (tS G W fun ρ h => whR tc f ρ h) := by
  refine imS (ps_while hp hc hb) fun D σ H q => ?_
  refine ⟨fun m σ H => tS G W (fun ρ h => whLoop tc f m ρ h) D σ H, ?_, ?_⟩
  · obtain ⟨μ, M, ρ, h, e, r, p⟩ := q.out
    unfold whR at p
    split at p
    · rename_i ex
      exact ⟨Classical.choose ex, μ, M, ρ, h, e, r, p⟩
    · exact p.elim
  intro m σ H q
  cases m with
  | zero => obtain ⟨μ, M, ρ, h, e, r, p⟩ := q.out; exact p.elim
  | succ m =>
    refine tG.mono (tS.st (R := fun _ _ _ a b => a = b) (f := tc) (g := fun ρ k h1 => if k then
      (match f ρ h1 with
       | .ok .nx ρ1 h2 => whLoop tc f m ρ1 h2
       | .ok .cont ρ1 h2 => whLoop tc f m ρ1 h2
       | .ok .brk ρ1 h2 => .ok .nx ρ1 h2
       | r => r)
      else .ok .nx ρ h1) q) ?_
    rintro _ H1 ⟨k, μ, M, ρ, h, e, r, rfl, p⟩
    cases k with
    | false => exact p.here r e
    | true =>
      rw [if_pos rfl] at p
      rw [if_pos rfl]
      refine ⟨fun σ' H' => tS G W (fun ρ h => whLoop tc f m ρ h) D σ' H', fun σ' H' z => ⟨m, Nat.lt_succ_self m, z⟩, tS.of e r ?_⟩
      cases ef : f ρ h with
      | no => rw [ef] at p; exact p
      | err c ρ1 h1 => rw [ef] at p; exact p
      | ok fl ρ1 h1 =>
        rw [ef] at p
        cases fl with
        | nx => exact fun σ' μ' M' H' l r' e' => tS.of e' r' (PostS.le p l)
        | cont => exact fun σ' μ' M' H' l r' e' => tS.of e' r' (PostS.le p l)
        | brk => exact p
        | ret d => exact p
theorem ss_for {fi : Loc → Hea → Res (List D)} {f : Loc → Hea → SR} {body : List Stmt} {own : List Nat} {t : Tg} {tg : Expr} (g : Good P w base G n N sc fo X) (hp : PassesOwn (model X.prog X.w) X.A X.env X.xe) (ht : ckG N sc fo own t tg = true)
    (hi : PI X tg a (tIr G W fi)) (hb : PSs X body (tS G W f)) (hs : ∀ x, foldedSetIterable a X.env x = pure x) :
    PS X (.For tg a body [] pos) (tS G W fun ρ h => (fi ρ h).st ρ fun xs h1 => frLoop (fun x ρ h => match evG t ρ x with | some ρ1 => f ρ1 h | none => .no) xs ρ h1) := by
  refine imS (ps_for hp g.calm hi (snd_G g t tg ht) hb hs) fun D σ H q => ?_
  refine tG.mono (tS.st (R := RW G) q) ?_
  rintro J H1 ⟨xs, μ1, M1, ρ0, h1, e1, r1, wk, p1⟩
  refine ⟨fun i m σ H => i + m = xs.length ∧ ∃ μ M ρ h, Envi G μ M H ρ σ ∧ Hrel G μ M H h ∧ Lw μ1 M1 H1 μ M H ∧ PostS G W D μ M H (frLoop (fun x ρ h => match evG t ρ x with | some ρ1 => f ρ1 h | none => .no) (xs.drop i) ρ h),
    ⟨xs.length, by omega, μ1, M1, ρ0, h1, e1, r1, Lw.refl, by rw [List.drop_zero]; exact p1⟩, ?_⟩
  rintro i m σ H2 ⟨hi, μ2, M2, ρ2, h2, e2, r2, lw, p2⟩
  have wk2 := wk μ2 M2 H2 h2 lw r2 i
  by_cases hd : i < xs.length
  · refine .inr ?_
    have ex : xs[i]? = some xs[i] := List.getElem?_eq_getElem hd
    rw [List.drop_eq_getElem_cons hd] at p2
    obtain ⟨go, yl⟩ := wk2.1 _ ex
    refine ⟨go, fun σ H => (i + 1) + (m - 1) = xs.length ∧ ∃ μ M ρ h, Envi G μ M H ρ σ ∧ Hrel G μ M H h ∧ Lw μ1 M1 H1 μ M H ∧ PostS G W D μ M H (frLoop (fun x ρ h => match evG t ρ x with | some ρ1 => f ρ1 h | none => .no) (xs.drop (i + 1)) ρ h), fun σ' H' z => ⟨m - 1, by omega, z⟩, ?_⟩
    intro v H3 yd
    obtain ⟨l3, r3, rv⟩ := yl v H3 yd
    have e3 := e2.le r2 l3
    have p3 := PostS.le p2 l3
    unfold frLoop at p3
    cases ev : evG t ρ2 xs[i] with
    | none => rw [ev] at p3; exact p3.elim
    | some ρ3 =>
      simp only [ev] at p3
      refine ⟨μ2, M2, ρ2, xs[i], ρ3, e3, rv, ev, fun σ3 e4 _ => tS.of e4 r3 ?_⟩
      have next : ∀ {ρ4 h4}, PostS G W D μ2 M2 H3 (frLoop (fun x ρ h => match evG t ρ x with | some ρ1 => f ρ1 h | none => .no) (xs.drop (i + 1)) ρ4 h4) → ∀ σ' μ' M' H', Le μ2 M2 H3 μ' M' H' → Hrel G μ' M' H' h4 → Envi G μ' M' H' ρ4 σ' →
          (i + 1) + (m - 1) = xs.length ∧ ∃ μ M ρ h, Envi G μ M H' ρ σ' ∧ Hrel G μ M H' h ∧ Lw μ1 M1 H1 μ M H' ∧ PostS G W D μ M H' (frLoop (fun x ρ h => match evG t ρ x with | some ρ1 => f ρ1 h | none => .no) (xs.drop (i + 1)) ρ h) :=
        fun {ρ4 h4} pp σ' μ' M' H' l r' e' => ⟨by omega, μ', M', ρ4, h4, e', r', (lw.trans (l3.lw r2)).trans (l.lw r3), PostS.le pp l⟩
      cases ef : f ρ3 h2 with
      | no => rw [ef] at p3; exact p3
      | err c ρ4 h4 => rw [ef] at p3; exact p3
      | ok fl ρ4 h4 =>
        rw [ef] at p3
        cases fl with
        | nx => exact next p3
        | cont => exact next p3
        | brk => exact p3
        | ret d => exact p3
  · refine .inl ⟨wk2.2 (Nat.le_of_not_lt hd), ?_⟩
    rw [List.drop_eq_nil_of_le (Nat.le_of_not_lt hd)] at p2
    exact p2.here r2 e2
end
end PyI

set_option Elab.async false
set_option linter.all false
set_option maxRecDepth 100000
/-! PyO: every checked suite runs as the evaluator says. -/
namespace PyI
open PySem L2

/-! ### stores that the compiler swaps -/
theorem sw_eq {el : Expr} {gs : List Comprehension} {scope : Scope} {lp p : Pos} {x : Str} {l : Nat} {env : Env} (hk : env.scope.kind = .function) :
    swapsWith (.ListComp el gs scope lp) (some (.Name x p)) l env = pure ((env.scope.names.lookup x == some .local) && (p.line == lp.line) && !(scope.names.any fun (n, k) => n == x && (k == .local || k == .cell))) := by
  have hb : env.blockKind = .function := by unfold Env.blockKind; rw [hk]; rfl
  unfold swapsWith
  simp only [hb, Expr.pos]
  rfl
/-- does name = value swap its stores -/
def swL (sc : Scope) (x : Str) (p : Pos) : Expr → Bool
  | .ListComp _ _ scope lp => (sc.names.lookup x == some .local) && (p.line == lp.line) && !(scope.names.any fun (n, k) => n == x && (k == .local || k == .cell))
  | _ => false
theorem sw_name {T : Tab} {N : List Str} {sc : Scope} {fo : Str → Bool} {e : E} {a : Expr} (h : ckE T N sc fo e a = true) {p : Pos} {x : Str} {l : Nat} {env : Env} (hk : env.scope.kind = .function) (hsc : env.scope = sc) :
    swapsWith a (some (.Name x p)) l env = pure (swL sc x p a) := by
  subst hsc
  by_cases n : lcB a = true
  · cases a <;> first | exact Bool.noConfusion n | skip
    exact sw_eq hk
  · rw [ck_swap h (by simpa using n)]
    cases a <;> first | rfl | exact absurd rfl n
theorem sw_other {T : Tab} {N : List Str} {sc : Scope} {fo : Str → Bool} {e : E} {a : Expr} (h : ckE T N sc fo e a = true) {t : Expr} (ht : ∀ x p, t ≠ .Name x p) {l : Nat} {env : Env} : swapsWithSole [t] a l env = pure false := by
  show swapsWith a (some t) l env = pure false
  by_cases n : lcB a = true
  · cases a <;> first | exact Bool.noConfusion n | skip
    cases t <;> first | rfl | exact absurd rfl (ht _ _)
  · exact ck_swap h (by simpa using n) _ _ _
def starB : Expr → Bool
  | .Starred .. => true
  | _ => false
def nameAt (sc : Scope) (line : Nat) : Expr → Option Str
  | .Name id pos => if sc.names.lookup id == some .local && pos.line == line then some id else none
  | _ => none
/-- the swapped stores of (ts) = (vs); none: not told -/
def swC (sc : Scope) (ts vs : List Expr) : Option (Option (List Str)) :=
  if (!(ts.length == 2 || ts.length == 3) || vs.length != ts.length) = true then some none else
  if (vs.any starB) = true then some none else
  let names := ts.filterMap (nameAt sc ((ts.head?.map (·.pos.line)).getD 0))
  if (names.length != ts.length || names.eraseDups.length != names.length) = true then some none else
  if (vs.all (foldedForSure 8)) = true then some none else
  if (vs.all (constantsAlone 8)) = true then none else some (some names)
theorem any_star (f : Expr → Bool) (vs : List Expr) (h : ∀ e, f e = starB e) : vs.any f = vs.any starB := by rw [funext h]
theorem fm_name (f : Expr → Option Str) (sc : Scope) (line : Nat) (ts : List Expr) (h : ∀ e, f e = nameAt sc line e) : ts.filterMap f = ts.filterMap (nameAt sc line) := by rw [funext h]
theorem swC_eq {ts vs : List Expr} {k k2 p p2} {env : Env} (hk : env.scope.kind = .function) {r : Option (List Str)} (h : swC env.scope ts vs = some r) : swappedStores [.Tuple ts k p] (.Tuple vs k2 p2) env = pure r := by
  have hb : env.blockKind = .function := by unfold Env.blockKind; rw [hk]; rfl
  unfold swC at h
  unfold swappedStores
  simp only [hb]
  rw [any_star _ vs (by intro e; cases e <;> rfl), fm_name _ env.scope ((ts.head?.map (·.pos.line)).getD 0) ts (by intro e; cases e <;> rfl)]
  by_cases c1 : (!(ts.length == 2 || ts.length == 3) || vs.length != ts.length) = true
  · rw [if_pos c1] at h; cases h
    rw [if_pos (by rw [c1]; rfl)]
  · rw [if_neg c1] at h
    rw [if_neg (by rw [Bool.not_eq_true] at c1; rw [c1]; decide)]
    by_cases c2 : (vs.any starB) = true
    · rw [if_pos c2] at h; cases h
      rw [if_pos c2]
    · rw [if_neg c2] at h
      rw [if_neg c2]
      simp only at h
      by_cases c3 : ((ts.filterMap (nameAt env.scope ((ts.head?.map (·.pos.line)).getD 0))).length != ts.length || (ts.filterMap (nameAt env.scope ((ts.head?.map (·.pos.line)).getD 0))).eraseDups.length != (ts.filterMap (nameAt env.scope ((ts.head?.map (·.pos.line)).getD 0))).length) = true
      · rw [if_pos c3] at h; cases h
        rw [if_pos c3]
      · rw [if_neg c3] at h
        rw [if_neg c3]
        by_cases c4 : (vs.all (foldedForSure 8)) = true
        · rw [if_pos c4] at h; cases h
          rw [if_pos c4]
        · rw [if_neg c4] at h
          rw [if_neg c4]
          by_cases c5 : (vs.all (constantsAlone 8)) = true
          · rw [if_pos c5] at h; cases h
          · rw [if_neg c5] at h
            rw [if_neg c5]; cases h; rfl
theorem sw_notup {T : Tab} {N : List Str} {sc : Scope} {fo : Str → Bool} {e : E} {a : Expr} (h : ckE T N sc fo e a = true) {t : Expr} {env : Env} (n : ∀ vs k p, a ≠ .Tuple vs k p) : swappedStores [t] a env = pure none := by
  cases a <;> first | exact absurd rfl (n _ _ _) | (cases t <;> rfl)

/-! ### statements held against the program -/
def lcE : E → Bool
  | .lc _ _ _ _ _ _ => true
  | .lc2 _ _ _ _ _ _ _ _ _ => true
  | _ => false
def tupB : Expr → Bool
  | .Tuple _ _ _ => true
  | _ => false
section
variable (T : Tab) (N : List Str)
def ckP2 (sc : Scope) (fo : Str → Bool) (i j : Nat) (es : Es) (t1 t2 : Expr) (vs : List Expr) : Bool := match t1 with
  | .Name x px => (match t2 with
    | .Name y py => decide (vs.length = 2) && decide (swC sc [.Name x px, .Name y py] vs = some (some [x, y])) && decide (N[i]? = some x) && decide (N[j]? = some y) && decide (i ≠ j) && decide (sc.names.lookup x = some .local) && decide (sc.names.lookup y = some .local) && ckEs T N sc fo es vs
    | _ => false)
  | _ => false
def ckP3 (sc : Scope) (fo : Str → Bool) (i j l : Nat) (es : Es) (t1 t2 t3 : Expr) (vs : List Expr) : Bool := match t1 with
  | .Name x px => (match t2 with
    | .Name y py => (match t3 with
      | .Name z pz => decide (vs.length = 3) && decide (swC sc [.Name x px, .Name y py, .Name z pz] vs = some (some [x, y, z])) && decide (N[i]? = some x) && decide (N[j]? = some y) && decide (N[l]? = some z) && decide (i ≠ j) && decide (i ≠ l) && decide (j ≠ l) &&
          decide (sc.names.lookup x = some .local) && decide (sc.names.lookup y = some .local) && decide (sc.names.lookup z = some .local) && ckEs T N sc fo es vs
      | _ => false)
    | _ => false)
  | _ => false
def ckPar (sc : Scope) (fo : Str → Bool) (es : Es) (vs : List Expr) : List Nat → List Expr → Bool
  | [i, j], [t1, t2] => ckP2 T N sc fo i j es t1 t2 vs
  | [i, j, l], [t1, t2, t3] => ckP3 T N sc fo i j l es t1 t2 t3 vs
  | _, _ => false
def ckRais (sc : Scope) (c : Nat) : Expr → Bool
  | .Call f xs ks _ => (match f with
    | .Name x _ => (match xs, ks with
      | [.Constant (.str _) _ _], [] => glB sc x && decide (T.exs[c]? = some x)
      | _, _ => false)
    | _ => false)
  | _ => false
/-- one target -/
def oneT : List Expr → Option Expr
  | [t] => some t
  | _ => none
theorem oneT_some {ts : List Expr} {t : Expr} (h : oneT ts = some t) : ts = [t] := by
  cases ts with
  | nil => cases h
  | cons a r =>
    cases r with
    | nil => cases h; rfl
    | cons _ _ => cases h
def ckSetT (sc : Scope) (fo : Str → Bool) (i : Nat) (e : E) (v : Expr) : Option Expr → Bool
  | some (.Name x p) => decide (N[i]? = some x) && locB sc fo x && ckE T N sc fo e v && (!swL sc x p v || (decide (sc.names.lookup x = some .local) && lcE e))
  | _ => false
def asgV (sc : Scope) (ts : List Expr) : Expr → Bool
  | .Tuple vs _ _ => decide (swC sc ts vs = some none)
  | _ => true
def ckAsgT (sc : Scope) (fo : Str → Bool) (t : Tg) (e : E) (v : Expr) : Option Expr → Bool
  | some (.Tuple ts k p) => ckG N sc fo (List.range N.length) t (.Tuple ts k p) && ckE T N sc fo e v && asgV sc ts v
  | _ => false
def ckPutT (sc : Scope) (fo : Str → Bool) (o i e : E) (v : Expr) : Option Expr → Bool
  | some (.Subscript a b _) => ckE T N sc fo o a && ckE T N sc fo i b && ckE T N sc fo e v
  | _ => false
def parV (sc : Scope) (fo : Str → Bool) (is : List Nat) (es : Es) (ts : List Expr) : Expr → Bool
  | .Tuple vs _ _ => ckPar T N sc fo es vs is ts
  | _ => false
def ckParT (sc : Scope) (fo : Str → Bool) (is : List Nat) (es : Es) (v : Expr) : Option Expr → Bool
  | some (.Tuple ts _ _) => parV T N sc fo is es ts v
  | _ => false
mutual
def ckS (sc : Scope) (fo : Str → Bool) : S → Stmt → Bool
  | .set i e, st => match st with | .Assign ts v _ => ckSetT T N sc fo i e v (oneT ts) | _ => false
  | .asg t e, st => match st with | .Assign ts v _ => ckAsgT T N sc fo t e v (oneT ts) | _ => false
  | .put o i e, st => match st with | .Assign ts v _ => ckPutT T N sc fo o i e v (oneT ts) | _ => false
  | .par is es, st => match st with | .Assign ts v _ => ckParT T N sc fo is es v (oneT ts) | _ => false
  | .ex e, st => match st with | .Expr v _ => ckE T N sc fo e v && !lcB v | _ => false
  | .ret e, st => match st with | .Return (some v) _ => ckE T N sc fo e v | _ => false
  | .retN, st => match st with | .Return none _ => true | _ => false
  | .iff c a b, st => match st with | .If v xs ys _ => ckE T N sc fo c v && ckB sc fo a xs && ckB sc fo b ys | _ => false
  | .whl c b, st => match st with | .While v xs [] _ => ckE T N sc fo c v && ckB sc fo b xs | _ => false
  | .fr t it b, st => match st with | .For tg i xs [] _ => ckG N sc fo (List.range N.length) t tg && ckI T N sc fo it tg i && ckB sc fo b xs | _ => false
  | .pass, st => match st with | .Pass _ => true | _ => false
  | .brk, st => match st with | .Break _ => true | _ => false
  | .cont, st => match st with | .Continue _ => true | _ => false
  | .rais c, st => match st with
    | .Raise e none _ => (match e with | some e => ckRais T sc c e | none => false)
    | _ => false
  | .tr _ _, _ => false
def ckB (sc : Scope) (fo : Str → Bool) : Ss → List Stmt → Bool
  | .nil, sts => match sts with | [] => true | _ => false
  | .cons s ss, sts => match sts with | st :: r => ckS sc fo s st && ckB sc fo ss r | _ => false
end
end

section
variable {P : Program} {w : World} {base : Heap} {G : Glb} {cf : Nat → List D → Hea → Res D} {n : Nat} {N : List Str}
theorem ss_raise {X : Cx} {W : WX} {sc : Scope} {fo : Str → Bool} (F : Facts P w base G cf n) (g : Good P w base G n N sc fo X) (tk : Takes X W) {c : Nat} {x m : Str} {j : Nat} {p p2 pos pos2 : Pos} (ex : G.T.exs[c]? = some x) (k : glB sc x = true) :
    PS X (.Raise (some (.Call (.Name x p) [.Constant (.str m) j p2] [] pos)) none pos2) (tS G W fun ρ h => .err c ρ h) := by
  obtain ⟨C, B, newId, initId, bmB, h1, h2, h3, h4, h5, h6⟩ := F.exs c x ex
  refine imS (ps_raise g.calm tk (pmk_own h1 (by rw [g.K]; exact h2) (by rw [g.mg]; exact h3) (by rw [g.K]; exact h4) (raises_own (by rw [g.K]; exact h5) (by rw [g.K]; exact h6)) (g.gl k) (glB_gl k).2.1)) fun D σ H q => ?_
  obtain ⟨μ, M, ρ, h, e, r, q⟩ := q.out
  exact q C σ μ M H ⟨x, ex, h3⟩ Le.refl r e
theorem ss_par {X : Cx} {W : WX} {sc : Scope} {fo : Str → Bool} (g : Good P w base G n N sc fo X) (hk : X.env.scope.kind = .function) {i j : Nat} {x y : Str} {a b : Expr} {fs : Loc → Hea → Res (List D)} {px py pt pos : Pos} {kt k2 pt2} (hi : N[i]? = some x) (hj : N[j]? = some y) (hij : i ≠ j)
    (hx : sc.names.lookup x = some .local) (hy : sc.names.lookup y = some .local) (ha : PA X [a, b] (tAr G W fs)) (hsw : swC sc [.Name x px, .Name y py] [a, b] = some (some [x, y])) :
    PS X (.Assign [.Tuple [.Name x px, .Name y py] kt pt] (.Tuple [a, b] k2 pt2) pos) (tS G W fun ρ h => (fs ρ h).st ρ fun ds h1 => match setAll ρ [i, j] ds with | some ρ1 => .ok .nx ρ1 h1 | none => .no) := by
  refine imS (ps_par g.calm g.nd (by rw [g.N]; exact hi) (by rw [g.N]; exact hj) hij (by rw [g.sc]; exact hx) (by rw [g.sc]; exact hy) ha (swC_eq hk (by rw [g.sc]; exact hsw)) rfl) fun D σ H q => ?_
  refine tG.mono (tS.st (R := Reps G) q) ?_
  rintro vs H1 ⟨ds, μ, M, ρ, h, e, r, pa, p⟩
  match ds, pa, p with
  | [d1, d2], pa, p =>
    unfold Reps at pa
    obtain ⟨v1, t1, rfl, q1, pa⟩ := pa
    unfold Reps at pa
    obtain ⟨v2, t2, rfl, q2, pa⟩ := pa
    unfold Reps at pa
    subst pa
    exact ⟨v1, v2, rfl, p.here r ((e.set i q1).set j q2)⟩
  | [], _, p => exact p.elim
  | [_], _, p => exact p.elim
  | _ :: _ :: _ :: _, _, p => exact p.elim
theorem ss_par3 {X : Cx} {W : WX} {sc : Scope} {fo : Str → Bool} (g : Good P w base G n N sc fo X) (hk : X.env.scope.kind = .function) {i j l : Nat} {x y z : Str} {a b c : Expr} {fs : Loc → Hea → Res (List D)} {px py pz pt pos : Pos} {kt k2 pt2} (hi : N[i]? = some x) (hj : N[j]? = some y) (hl : N[l]? = some z) (hij : i ≠ j) (hil : i ≠ l) (hjl : j ≠ l)
    (hx : sc.names.lookup x = some .local) (hy : sc.names.lookup y = some .local) (hz : sc.names.lookup z = some .local) (ha : PA X [a, b, c] (tAr G W fs)) (hsw : swC sc [.Name x px, .Name y py, .Name z pz] [a, b, c] = some (some [x, y, z])) :
    PS X (.Assign [.Tuple [.Name x px, .Name y py, .Name z pz] kt pt] (.Tuple [a, b, c] k2 pt2) pos) (tS G W fun ρ h => (fs ρ h).st ρ fun ds h1 => match setAll ρ [i, j, l] ds with | some ρ1 => .ok .nx ρ1 h1 | none => .no) := by
  refine imS (ps_par3 g.calm g.nd (by rw [g.N]; exact hi) (by rw [g.N]; exact hj) (by rw [g.N]; exact hl) hij hil hjl (by rw [g.sc]; exact hx) (by rw [g.sc]; exact hy) (by rw [g.sc]; exact hz) ha (swC_eq hk (by rw [g.sc]; exact hsw)) rfl) fun D σ H q => ?_
  refine tG.mono (tS.st (R := Reps G) q) ?_
  rintro vs H1 ⟨ds, μ, M, ρ, h, e, r, pa, p⟩
  match ds, pa, p with
  | [d1, d2, d3], pa, p =>
    unfold Reps at pa
    obtain ⟨v1, t1, rfl, q1, pa⟩ := pa
    unfold Reps at pa
    obtain ⟨v2, t2, rfl, q2, pa⟩ := pa
    unfold Reps at pa
    obtain ⟨v3, t3, rfl, q3, pa⟩ := pa
    unfold Reps at pa
    subst pa
    exact ⟨v1, v2, v3, rfl, p.here r (((e.set i q1).set j q2).set l q3)⟩
  | [], _, p => exact p.elim
  | [_], _, p => exact p.elim
  | [_, _], _, p => exact p.elim
  | _ :: _ :: _ :: _ :: _, _, p => exact p.elim

theorem lc_set {X : Cx} {W : WX} {sc : Scope} {fo : Str → Bool} (F : Facts P w base G cf n) (g : Good P w base G n N sc fo X) (tk : Takes X W) (hk : X.env.scope.kind = .function) {i : Nat} {x : Str} {p pos : Pos} (hi : N[i]? = some x) (hx : sc.names.lookup x = some .local) :
    ∀ (e : E) (a : Expr), ckE G.T N sc fo e a = true → swL sc x p a = true → lcE e = true → PS X (.Assign [.Name x p] a pos) (tS G W fun ρ h => ((ev G.T cf e).val ρ h).st ρ fun d h1 => .ok .nx (ρ.set i (some d)) h1)
  | .lc m own tg it c e, a, h, hsw, hl => by
    have hsw' := sw_name (T := G.T) (N := N) (fo := fo) h (p := p) (x := x) (l := pos.line) hk g.sc
    rw [hsw] at hsw'
    cases a <;> first | exact Bool.noConfusion h | skip
    rename_i el gens scope pos'
    match gens, h, hsw' with
    | [], h, _ => exact Bool.noConfusion h
    | ⟨_, _, _, _⟩ :: _ :: _, h, _ => exact Bool.noConfusion h
    | [⟨t, it', ifs, k⟩], h, hsw' =>
      have h' : (decide (k = 0) && blkC N sc scope (ownOf N own) && ckI G.T N sc fo it t it' && ckG N (relS scope sc) (fun x => scope.names.lookup x == some .cell) own tg t &&
        ckC G.T N (relS scope sc) (fun x => scope.names.lookup x == some .cell) c ifs && ckE G.T N (relS scope sc) (fun x => scope.names.lookup x == some .cell) e el) = true := h
      simp only [Bool.and_eq_true, decide_eq_true_eq] at h'
      obtain ⟨⟨⟨⟨⟨rfl, h1⟩, h2⟩, h3⟩, h4⟩, h5⟩ := h'
      refine imS (ps_setLc g.calm g.nd (by rw [g.N]; exact hi) (by rw [g.sc]; exact hx) hsw' (sndI F it t it' X W sc fo h2 g tk) (blkOk_by (by rw [g.N, g.sc]; exact h1))
        (fun s H C cl fp => snd_G (g.blk s H C scope cl fp) tg t h3) (fun s H C cl fp => sndC F c ifs _ W0 _ _ h4 (g.blk s H C scope cl fp) takes0)
        (fun s H C cl fp => (sndE F e el _ W0 _ _ h5 (g.blk s H C scope cl fp) takes0).1) (fun x => ckI_folded h2 X.env x)) fun D σ H q => ?_
      refine set_read (fun σ H Q q => ?_) q
      rw [own_ix]
      exact lc_read q
  | .lc2 m own own2 tg it tg2 it2 c e, a, h, hsw, hl => by
    have hsw' := sw_name (T := G.T) (N := N) (fo := fo) h (p := p) (x := x) (l := pos.line) hk g.sc
    rw [hsw] at hsw'
    cases a <;> first | exact Bool.noConfusion h | skip
    rename_i el gens scope pos'
    match gens, h, hsw' with
    | [], h, _ => exact Bool.noConfusion h
    | [⟨_, _, [], _⟩], h, _ => exact Bool.noConfusion h
    | [⟨_, _, _ :: _, _⟩], h, _ => exact Bool.noConfusion h
    | ⟨_, _, [], _⟩ :: ⟨_, _, _, _⟩ :: _ :: _, h, _ => exact Bool.noConfusion h
    | ⟨_, _, _ :: _, _⟩ :: _ :: _, h, _ => exact Bool.noConfusion h
    | [⟨t, it', [], k⟩, ⟨t2, i2, ifs, k2⟩], h, hsw' =>
      have h' : (decide (k = 0) && decide (k2 = 0) && blkC N sc scope (ownOf N own) && ckI G.T N sc fo it t it' && ckG N (relS scope sc) (fun x => scope.names.lookup x == some .cell) own tg t &&
        ckI G.T N (relS scope sc) (fun x => scope.names.lookup x == some .cell) it2 t2 i2 && own2.all (fun i => own.contains i) && ckG N (relS scope sc) (fun x => scope.names.lookup x == some .cell) own2 tg2 t2 &&
        ckC G.T N (relS scope sc) (fun x => scope.names.lookup x == some .cell) c ifs && ckE G.T N (relS scope sc) (fun x => scope.names.lookup x == some .cell) e el) = true := h
      simp only [Bool.and_eq_true, decide_eq_true_eq] at h'
      obtain ⟨⟨⟨⟨⟨⟨⟨⟨⟨rfl, rfl⟩, h1⟩, h2⟩, h3⟩, h4⟩, h5⟩, h6⟩, h7⟩, h8⟩ := h'
      refine imS (ps_setLc2 (vs1 := own2) g.calm g.nd (by rw [g.N]; exact hi) (by rw [g.sc]; exact hx) hsw' (sndI F it t it' X W sc fo h2 g tk) (blkOk_by (by rw [g.N, g.sc]; exact h1)) (by
          rw [own_ix]; intro j hj; have := List.all_eq_true.mp h5 j hj; simpa using this)
        (fun s H C cl fp => snd_G (g.blk s H C scope cl fp) tg t h3) (fun s H C cl fp => pts_nil)
        (fun s H C cl fp => sndI F it2 t2 i2 _ W0 _ _ h4 (g.blk s H C scope cl fp) takes0)
        (fun s H C cl fp => snd_G (g.blk s H C scope cl fp) tg2 t2 h6) (fun s H C cl fp => sndC F c ifs _ W0 _ _ h7 (g.blk s H C scope cl fp) takes0)
        (fun s H C cl fp => (sndE F e el _ W0 _ _ h8 (g.blk s H C scope cl fp) takes0).1) (fun x => ckI_folded h2 X.env x) (fun env x => ckI_folded h4 env x)) fun D σ H q => ?_
      refine set_read (fun σ H Q q => ?_) q
      rw [own_ix]
      exact lc2_read q
  | .frz e, a, h, hsw, hl => by exact Bool.noConfusion hl
  | .non, a, h, hsw, hl | .bl _, a, h, hsw, hl | .int _, a, h, hsw, hl | .str _, a, h, hsw, hl | .v _, a, h, hsw, hl | .gc _, a, h, hsw, hl | .gf _, a, h, hsw, hl | .bin _ _ _, a, h, hsw, hl | .neg _, a, h, hsw, hl | .nt _, a, h, hsw, hl | .cmp _ _ _, a, h, hsw, hl | .chn _ _ _ _ _, a, h, hsw, hl
  | .and _ _, a, h, hsw, hl | .or _ _, a, h, hsw, hl | .ite _ _ _, a, h, hsw, hl | .tup _, a, h, hsw, hl | .tupK _, a, h, hsw, hl | .lst _, a, h, hsw, hl | .lstM _, a, h, hsw, hl | .dnewK, a, h, hsw, hl | .dnewT, a, h, hsw, hl | .sub _ _, a, h, hsw, hl | .slc _ _ _, a, h, hsw, hl
  | .call _ _, a, h, hsw, hl | .callP _ _, a, h, hsw, hl | .bi _ _, a, h, hsw, hl | .isi _ _, a, h, hsw, hl | .mt _ _ _, a, h, hsw, hl => by
    cases a <;> first | exact Bool.noConfusion hsw | exact Bool.noConfusion h
end
end PyI

set_option Elab.async false
set_option linter.all false
set_option maxRecDepth 100000
/-! PyP: every checked suite runs as the evaluator says. -/
namespace PyI
open PySem L2

section
variable {P : Program} {w : World} {base : Heap} {G : Glb} {cf : Nat → List D → Hea → Res D} {n : Nat} {N : List Str}
variable (F : Facts P w base G cf n)
theorem put_eq {a b v : Expr} {p : Pos} {env : Env} {T : Tab} {sc : Scope} {fo : Str → Bool} {e : E} (h : ckE T N sc fo e b = true) : ∀ v, assign (.Subscript a b p) env v = (do
      let ov ← holding [v] (eval a env)
      let iv ← holding [v, ov] (eval b env)
      standAt p
      holding [v, ov, iv] (setItem ov iv v)
      release [v, ov, iv] []) := by
  intro v
  cases b <;> first | rfl | exact (ck_slice e h).elim
include F
mutual
theorem sndS : ∀ (st : S) (a : Stmt) (X : Cx) (W : WX) (sc : Scope) (fo : Str → Bool), ckS G.T N sc fo st a = true → Good P w base G n N sc fo X → Takes X W → PassesOwn (model X.prog X.w) X.A X.env X.xe → sc.kind = .function →
    PS X a (tS G W (exS G.T cf st))
  | .set i e, a, X, W, sc, fo, h, g, tk, hp, hk => by
    cases a <;> first | exact Bool.noConfusion h | skip
    rename_i ts v pos
    have h0 : ckSetT G.T N sc fo i e v (oneT ts) = true := h
    cases ot : oneT ts with
    | none => rw [ot] at h0; exact Bool.noConfusion h0
    | some t0 =>
      rw [ot] at h0
      cases oneT_some ot
      cases t0 <;> first | exact Bool.noConfusion h0 | skip
      rename_i x p
      have h' : (decide (N[i]? = some x) && locB sc fo x && ckE G.T N sc fo e v && (!swL sc x p v || (decide (sc.names.lookup x = some .local) && lcE e))) = true := h0
      simp only [Bool.and_eq_true, Bool.or_eq_true, decide_eq_true_eq, Bool.not_eq_true'] at h'
      obtain ⟨⟨⟨h1, h2⟩, h3⟩, h4⟩ := h'
      cases hsw : swL sc x p v with
      | false => exact ss_set g h1 h2 (sndE F e v X W sc fo h3 g tk).1 ((sw_name h3 (by rw [g.sc]; exact hk) g.sc).trans (by rw [hsw]))
      | true =>
        rcases h4 with z | ⟨z1, z2⟩
        · rw [hsw] at z; cases z
        · exact lc_set F g tk (by rw [g.sc]; exact hk) h1 z1 e v h3 hsw z2
  | .asg t e, a, X, W, sc, fo, h, g, tk, hp, hk => by
    cases a <;> first | exact Bool.noConfusion h | skip
    rename_i ts v pos
    have h0 : ckAsgT G.T N sc fo t e v (oneT ts) = true := h
    cases ot : oneT ts with
    | none => rw [ot] at h0; exact Bool.noConfusion h0
    | some t0 =>
      rw [ot] at h0
      cases oneT_some ot
      cases t0 <;> first | exact Bool.noConfusion h0 | skip
      rename_i ts k p
      have h' : (ckG N sc fo (List.range N.length) t (.Tuple ts k p) && ckE G.T N sc fo e v && asgV sc ts v) = true := h0
      simp only [Bool.and_eq_true] at h'
      obtain ⟨⟨h1, h2⟩, h3⟩ := h'
      refine ss_asg g h1 (sndE F e v X W sc fo h2 g tk).1 (sw_other h2 (fun x p z => by cases z)) ?_
      by_cases tb : tupB v = true
      · cases v <;> first | exact Bool.noConfusion tb | skip
        exact swC_eq (by rw [g.sc]; exact hk) (by rw [g.sc]; exact of_decide_eq_true h3)
      · exact sw_notup h2 fun vs k p z => tb (by rw [z]; rfl)
  | .put o i e, a, X, W, sc, fo, h, g, tk, hp, hk => by
    cases a <;> first | exact Bool.noConfusion h | skip
    rename_i ts v pos
    have h0 : ckPutT G.T N sc fo o i e v (oneT ts) = true := h
    cases ot : oneT ts with
    | none => rw [ot] at h0; exact Bool.noConfusion h0
    | some t0 =>
      rw [ot] at h0
      cases oneT_some ot
      cases t0 <;> first | exact Bool.noConfusion h0 | skip
      rename_i a b p
      have h' : (ckE G.T N sc fo o a && ckE G.T N sc fo i b && ckE G.T N sc fo e v) = true := h0
      simp only [Bool.and_eq_true] at h'
      obtain ⟨⟨h1, h2⟩, h3⟩ := h'
      exact ss_put g (sndE F o a X W sc fo h1 g tk).1 (sndE F i b X W sc fo h2 g tk).1 (sndE F e v X W sc fo h3 g tk).1 (sw_other h3 (fun x p z => by cases z)) (put_eq (v := v) h2)
  | .par is es, a, X, W, sc, fo, h, g, tk, hp, hk => by
    cases a <;> first | exact Bool.noConfusion h | skip
    rename_i ts v pos
    have h0 : ckParT G.T N sc fo is es v (oneT ts) = true := h
    cases ot : oneT ts with
    | none => rw [ot] at h0; exact Bool.noConfusion h0
    | some t0 =>
      rw [ot] at h0
      cases oneT_some ot
      cases t0 <;> first | exact Bool.noConfusion h0 | skip
      rename_i ts k p
      have hk' : X.env.scope.kind = .function := by rw [g.sc]; exact hk
      cases v <;> first | exact Bool.noConfusion h0 | skip
      rename_i vs k2 p2
      have h1 : ckPar G.T N sc fo es vs is ts = true := h0
      clear h0 h
      unfold ckPar at h1
      split at h1
      · rename_i i j t1 t2
        cases t1 <;> first | exact Bool.noConfusion h1 | skip
        rename_i x px
        cases t2 <;> first | exact Bool.noConfusion h1 | skip
        rename_i y py
        have h : (decide (vs.length = 2) && decide (swC sc [.Name x px, .Name y py] vs = some (some [x, y])) && decide (N[i]? = some x) && decide (N[j]? = some y) && decide (i ≠ j) && decide (sc.names.lookup x = some .local) && decide (sc.names.lookup y = some .local) && ckEs G.T N sc fo es vs) = true := h1
        simp only [Bool.and_eq_true, decide_eq_true_eq] at h
        obtain ⟨⟨⟨⟨⟨⟨⟨hl, h1⟩, h2⟩, h3⟩, h4⟩, h5⟩, h6⟩, h7⟩ := h
        match vs, hl, h1, h7 with
        | [a, b], _, h1, h7 => exact ss_par g hk' h2 h3 h4 h5 h6 (sndEs F es [a, b] X W sc fo h7 g tk).1 h1
      · rename_i i j l t1 t2 t3
        cases t1 <;> first | exact Bool.noConfusion h1 | skip
        rename_i x px
        cases t2 <;> first | exact Bool.noConfusion h1 | skip
        rename_i y py
        cases t3 <;> first | exact Bool.noConfusion h1 | skip
        rename_i z pz
        have h : (decide (vs.length = 3) && decide (swC sc [.Name x px, .Name y py, .Name z pz] vs = some (some [x, y, z])) && decide (N[i]? = some x) && decide (N[j]? = some y) && decide (N[l]? = some z) && decide (i ≠ j) && decide (i ≠ l) && decide (j ≠ l) &&
          decide (sc.names.lookup x = some .local) && decide (sc.names.lookup y = some .local) && decide (sc.names.lookup z = some .local) && ckEs G.T N sc fo es vs) = true := h1
        simp only [Bool.and_eq_true, decide_eq_true_eq] at h
        obtain ⟨⟨⟨⟨⟨⟨⟨⟨⟨⟨⟨hl, h1⟩, h2⟩, h3⟩, h4⟩, h5⟩, h6⟩, h7⟩, h8⟩, h9⟩, h10⟩, h11⟩ := h
        match vs, hl, h1, h11 with
        | [a, b, c], _, h1, h11 => exact ss_par3 g hk' h2 h3 h4 h5 h6 h7 h8 h9 h10 (sndEs F es [a, b, c] X W sc fo h11 g tk).1 h1
      · cases h1
  | .ex e, a, X, W, sc, fo, h, g, tk, hp, hk => by
    cases a <;> first | exact Bool.noConfusion h | skip
    rename_i v pos
    have h' : (ckE G.T N sc fo e v && !lcB v) = true := h
    simp only [Bool.and_eq_true, Bool.not_eq_true'] at h'
    exact ss_ex (sndE F e v X W sc fo h'.1 g tk).1 (ck_swap h'.1 h'.2 _ _ _)
  | .ret e, a, X, W, sc, fo, h, g, tk, hp, hk => by
    cases a <;> first | exact Bool.noConfusion h | skip
    rename_i v pos
    cases v with
    | none => exact Bool.noConfusion h
    | some v => exact ss_ret (sndE F e v X W sc fo h g tk).1
  | .retN, a, X, W, sc, fo, h, g, tk, hp, hk => by
    cases a <;> first | exact Bool.noConfusion h | skip
    rename_i v pos
    cases v with
    | none => exact ss_retN
    | some v => exact Bool.noConfusion h
  | .iff c a1 b1, a, X, W, sc, fo, h, g, tk, hp, hk => by
    cases a <;> first | exact Bool.noConfusion h | skip
    rename_i v xs ys pos
    have h' : (ckE G.T N sc fo c v && ckB G.T N sc fo a1 xs && ckB G.T N sc fo b1 ys) = true := h
    simp only [Bool.and_eq_true] at h'
    obtain ⟨⟨h1, h2⟩, h3⟩ := h'
    exact ss_if (sndE F c v X W sc fo h1 g tk).2 (sndB a1 xs X W sc fo h2 g tk hp hk) (sndB b1 ys X W sc fo h3 g tk hp hk)
  | .whl c b1, a, X, W, sc, fo, h, g, tk, hp, hk => by
    cases a <;> first | exact Bool.noConfusion h | skip
    rename_i v xs ys pos
    cases ys with
    | cons _ _ => exact Bool.noConfusion h
    | nil =>
      have h' : (ckE G.T N sc fo c v && ckB G.T N sc fo b1 xs) = true := h
      rw [Bool.and_eq_true] at h'
      exact ss_while hp (sndE F c v X W sc fo h'.1 g tk).2 (sndB b1 xs X W sc fo h'.2 g tk hp hk)
  | .fr t it b1, a, X, W, sc, fo, h, g, tk, hp, hk => by
    cases a <;> first | exact Bool.noConfusion h | skip
    rename_i tg i xs ys pos
    cases ys with
    | cons _ _ => exact Bool.noConfusion h
    | nil =>
      have h' : (ckG N sc fo (List.range N.length) t tg && ckI G.T N sc fo it tg i && ckB G.T N sc fo b1 xs) = true := h
      simp only [Bool.and_eq_true] at h'
      obtain ⟨⟨h1, h2⟩, h3⟩ := h'
      exact ss_for g hp h1 (sndI F it tg i X W sc fo h2 g tk) (sndB b1 xs X W sc fo h3 g tk hp hk) fun x => ckI_folded h2 X.env x
  | .pass, a, X, W, sc, fo, h, g, tk, hp, hk => by
    cases a <;> first | exact Bool.noConfusion h | skip
    exact ss_nx ps_pass
  | .brk, a, X, W, sc, fo, h, g, tk, hp, hk => by
    cases a <;> first | exact Bool.noConfusion h | skip
    exact ss_brk
  | .cont, a, X, W, sc, fo, h, g, tk, hp, hk => by
    cases a <;> first | exact Bool.noConfusion h | skip
    exact ss_cont
  | .rais c, a, X, W, sc, fo, h, g, tk, hp, hk => by
    cases a <;> first | exact Bool.noConfusion h | skip
    rename_i e c2 pos
    cases c2 with
    | some _ => exact Bool.noConfusion h
    | none =>
      cases e with
      | none => exact Bool.noConfusion h
      | some e =>
        have h : ckRais G.T sc c e = true := h
        unfold ckRais at h
        split at h
        · split at h
          · split at h
            · simp only [Bool.and_eq_true, decide_eq_true_eq] at h
              exact ss_raise F g tk h.2 h.1
            · cases h
          · cases h
        · cases h
  | .tr _ _, a, X, W, sc, fo, h, g, tk, hp, hk => Bool.noConfusion h
theorem sndB : ∀ (ss : Ss) (as : List Stmt) (X : Cx) (W : WX) (sc : Scope) (fo : Str → Bool), ckB G.T N sc fo ss as = true → Good P w base G n N sc fo X → Takes X W → PassesOwn (model X.prog X.w) X.A X.env X.xe → sc.kind = .function →
    PSs X as (tS G W (exB G.T cf ss))
  | .nil, as, X, W, sc, fo, h, g, tk, hp, hk => by
    cases as <;> first | exact Bool.noConfusion h | skip
    exact ss_nil
  | .cons s ss, as, X, W, sc, fo, h, g, tk, hp, hk => by
    cases as with
    | nil => exact Bool.noConfusion h
    | cons a as =>
      have h' : (ckS G.T N sc fo s a && ckB G.T N sc fo ss as) = true := h
      rw [Bool.and_eq_true] at h'
      exact ss_cons (sndS s a X W sc fo h'.1 g tk hp hk) (sndB ss as X W sc fo h'.2 g tk hp hk)
end
end
end PyI

set_option Elab.async false
set_option linter.all false
set_option maxRecDepth 100000
/-! PyQ: the defs of a module, by levels of calls; a law's end. -/
namespace PyI
open PySem L2

/-- a def of the module, as the text has it; N: its names by slots, the parameters first -/
structure Row where
  x : Str
  params : Arguments
  body : List Stmt
  scope : Scope
  N : List Str
def fnsB (N : List Str) (np : Nat) (sc : Scope) : Bool := decide (sc.kind = .function) && (!sc.isCoroutine && (!sc.isGenerator && (decide N.Nodup &&
  ((N.take np).all (fun x => decide (sc.names.lookup x = some .local) || decide (sc.names.lookup x = some .cell)) && sc.names.all (fun y => decide (y.2 ≠ .free))))))
theorem fnsB_ok {N : List Str} {np : Nat} {sc : Scope} (h : fnsB N np sc = true) (hl : np ≤ N.length) : FnScope N (N.take np) sc := by
  unfold fnsB at h
  simp only [Bool.and_eq_true, decide_eq_true_eq, Bool.not_eq_true', List.all_eq_true, Bool.or_eq_true] at h
  obtain ⟨h1, h2, h3, h4, h5, h6⟩ := h
  exact ⟨h1, h2, h3, h4, by rw [List.length_take, Nat.min_eq_left hl], h5, h6⟩
def rowB (T : Tab) (r : Row) (f : Fn) : Bool := decide (f.name = r.x) && (decide (f.np ≤ r.N.length) && (decide (f.nv = r.N.length) && (fnsB r.N f.np r.scope && ckB T r.N r.scope (fun _ => true) f.body r.body)))
def rowsB (T : Tab) : List Row → List Fn → Bool
  | [], [] => true
  | r :: rs, f :: fs => rowB T r f && rowsB T rs fs
  | _, _ => false
theorem rowsB_at {T : Tab} : ∀ {rs : List Row} {fs : List Fn}, rowsB T rs fs = true → ∀ {i : Nat} {f : Fn}, fs[i]? = some f → ∃ r, rs[i]? = some r ∧ rowB T r f = true
  | [], [], _, i, f, e => by simp at e
  | r :: rs, f :: fs, h, i, f', e => by
    have h' : (rowB T r f && rowsB T rs fs) = true := h
    rw [Bool.and_eq_true] at h'
    cases i with
    | zero => simp at e; subst e; exact ⟨r, rfl, h'.1⟩
    | succ i => simpa using rowsB_at h'.2 (i := i) (by simpa using e)
  | [], _ :: _, h, _, _, _ => Bool.noConfusion h
  | _ :: _, [], h, _, _, _ => Bool.noConfusion h

/-- what the heap behind the module's top says -/
structure Base (P : Program) (w : World) (G : Glb) (rs : List Row) : Prop where
  blt : ∀ x ∈ bltNames, G.mg x = none
  cns : ∀ (i : Nat) (p : Str × D), G.T.cns[i]? = some p → ∃ u v, G.mg p.1 = some u ∧ RelV v u ∧ ∀ μ M H, Rep G μ M H p.2 v
  defs : ∀ (i : Nat) (r : Row) (f : Fn), rs[i]? = some r → G.T.fns[i]? = some f → ∃ fa fd, G.mg r.x = some (.ref fa) ∧ FunD G.K r.x r.x r.params r.body r.scope [] [] fa fd ∧ Binds G.K fd (r.N.take f.np) []
  exs : ∀ (c : Nat) (x : Str), G.T.exs[c]? = some x → ∃ C B newId initId bmB, ExcBaseFacts B newId initId bmB ∧ PySem.W.excIn G.K C bmB newId = true ∧ G.mg x = some (.ref C) ∧ PySem.W.keepIn G.K (.ref C) = true ∧
    PySem.W.subIn G.K (.ref C) (.type "BaseException") = some true ∧ PySem.W.typeIn G.K (.ref C) = some (.type "type")
section
variable {P : Program} {w : World} {base : Heap} {G : Glb} {rs : List Row}
theorem envi_start {μ : Mu} {M : Mk} {H : Hp} {ds : List D} {vs : List V} {N : List Str} {nv np : Nat} (q : Reps G μ M H ds vs) (hv : nv = N.length) (hp : np = ds.length) (hl : np ≤ nv) : Envi G μ M H (ds.map some ++ List.replicate (nv - np) none) (L2.start N vs) := by
  have hlen := q.length
  refine ⟨by unfold L2.start; simp [hlen]; omega, fun i d e => ?_⟩
  by_cases hi : i < ds.length
  · rw [List.getElem?_append_left (by simpa using hi), List.getElem?_map] at e
    cases ed : ds[i]? with
    | none => rw [ed] at e; cases e
    | some d' =>
      rw [ed] at e
      have e : some d' = some d := by simpa using e
      cases e
      obtain ⟨v, ev, rv⟩ := q.get ed
      refine ⟨v, ?_, rv⟩
      unfold L2.start
      rw [List.getElem?_append_left (by rw [List.length_map]; omega), List.getElem?_map, ev]; rfl
  · rw [List.getElem?_append_right (by simpa using hi), List.getElem?_replicate] at e
    split at e <;> cases e
/-- a def at one level more -/
theorem fn_step {k i : Nat} {r : Row} {f : Fn} {fa : Addr} {fd : FuncData} (F : Facts P w base G (callF G.T k) k) (e : G.T.fns[i]? = some f) (FD : FunD G.K r.x r.x r.params r.body r.scope [] [] fa fd)
    (h2 : f.np ≤ r.N.length) (h3 : f.nv = r.N.length) (h4 : fnsB r.N f.np r.scope = true) (h5 : ckB G.T r.N r.scope (fun _ => true) f.body r.body = true) :
    FnG P w G.K G.mg base (L2.CX P w) (k + 1) fa fd (r.N.take f.np) (spF G f.np (callF G.T (k + 1) i)) := by
  have sc := fnsB_ok h4 h2
  refine fnG_of FD sc (fun vs H Q E h => by rw [h.1, List.length_take, Nat.min_eq_left h2]) (fun cdv A outer s H vs Q E hroom hgd h => ?_)
  have g : Good P w base G k r.N r.scope (fun _ => true) (cxOf (L2.CX P w) P w G.K G.mg base r.N r.x r.scope fa cdv A outer s H E) :=
    ⟨rfl, rfl, rfl, rfl, rfl, rfl, sc.nd, rfl, hroom, hgd, rfl, rfl⟩
  refine ⟨_, sndB F f.body r.body _ (fun cls d _ H => E cls d H) r.scope (fun _ => true) h5 g (takes_of rfl rfl rfl rfl) (passes_of rfl) sc.kind, ?_⟩
  obtain ⟨hl, μ, M, ds, h0, rel, q, p⟩ := h
  have hd : ds.length = f.np := by rw [← q.length]; exact hl
  have en : Envi G μ M H (ds.map some ++ List.replicate (f.nv - f.np) none) (L2.start r.N vs) := envi_start q h3 hd.symm (by rw [h3]; exact h2)
  refine ⟨μ, M, _, h0, en, rel, ?_⟩
  have p2 : Post G (Rep G) (fun c H' => E c none H') μ M H (match exB G.T (callF G.T k) f.body (ds.map some ++ List.replicate (f.nv - f.np) none) h0 with
    | .ok .nx _ h => .ok .non h
    | .ok (.ret d) _ h => .ok d h
    | .err c _ h => .err c h
    | _ => .no) Q := by
    have p3 : Post G (Rep G) (fun c H' => E c none H') μ M H (match G.T.fns[i]? with | some f => runFn G.T (callF G.T k) f ds h0 | none => Res.no) Q := p
    rw [e] at p3
    have p4 : Post G (Rep G) (fun c H' => E c none H') μ M H (if ds.length = f.np then _ else Res.no) Q := p3
    rw [if_pos hd] at p4
    exact p4
  revert p2
  generalize exB G.T (callF G.T k) f.body (ds.map some ++ List.replicate (f.nv - f.np) none) h0 = z
  intro p2
  cases z with
  | no => exact p2.elim
  | err c ρ1 h1 => exact fun C σ' μ' M' H' ex l r' _ => p2 C μ' M' H' ex l r'
  | ok fl ρ1 h1 =>
    cases fl with
    | nx => exact fun σ' μ' M' H' l r' _ => p2 .non μ' M' H' l r' (by rw [rep_non])
    | ret d => exact fun σ' μ' M' H' l r' _ => fun v rv => p2 v μ' M' H' l r' rv
    | brk => exact p2.elim
    | cont => exact p2.elim
theorem facts_of (B : Base P w G rs) (hr : rowsB G.T rs G.T.fns = true) : ∀ k, Facts P w base G (callF G.T k) k
  | 0 => {
      blt := B.blt
      cns := B.cns
      exs := B.exs
      ar := fun _ _ _ _ _ _ => rfl
      fns := fun i f e => by
        obtain ⟨r, er, hb⟩ := rowsB_at hr e
        obtain ⟨fa, fd, hm, FD, bd⟩ := B.defs i r f er e
        unfold rowB at hb
        simp only [Bool.and_eq_true, decide_eq_true_eq] at hb
        obtain ⟨h1, h2, h3, h4, h5⟩ := hb
        refine ⟨fa, fd, r.N.take f.np, by rw [h1]; exact hm, ⟨fun vs H Q E h => by rw [h.1, List.length_take, Nat.min_eq_left h2], fun A outer s H args us vs Q E _ _ _ _ _ h => ?_⟩, FD.kp, bd⟩
        obtain ⟨_, _, _, _, _, _, _, p⟩ := h
        exact p.elim }
  | k + 1 => {
      blt := B.blt
      cns := B.cns
      exs := B.exs
      ar := fun i f ds h e hl => by
        show (match G.T.fns[i]? with | some f => runFn G.T (callF G.T k) f ds h | none => Res.no) = Res.no
        rw [e]
        show (if ds.length = f.np then _ else Res.no) = Res.no
        rw [if_neg hl]
      fns := fun i f e => by
        have F := facts_of B hr k
        obtain ⟨r, er, hb⟩ := rowsB_at hr e
        obtain ⟨fa, fd, hm, FD, bd⟩ := B.defs i r f er e
        unfold rowB at hb
        simp only [Bool.and_eq_true, decide_eq_true_eq] at hb
        obtain ⟨h1, h2, h3, h4, h5⟩ := hb
        exact ⟨fa, fd, r.N.take f.np, by rw [h1]; exact hm, fn_step F e FD h2 h3 h4 h5, FD.kp, bd⟩ }
end

/-! ### the law -/
theorem hrel_nil {G : Glb} {H : Hp} : Hrel G [] (fun _ => False) H [] := ⟨rfl, fun n o e => by simp at e, fun n m a e => by simp at e, fun n a e => by simp at e, fun _ z => z.elim⟩
theorem reps_ints {G : Glb} {μ : Mu} {M : Mk} {H : Hp} : ∀ ns : List Int, Reps G μ M H (ns.map D.int) (ns.map V.int)
  | [] => Reps.nil
  | i :: r => Reps.cons (by rw [rep_int]) (reps_ints r)
/-- what the law's def promises, where it ends True -/
theorem law_sp {G : Glb} {k i n : Nat} (law : ∀ ns : List Int, ns.length ≤ n → ∃ h, callF G.T k i [.scr (ns.map D.int)] [] = .ok (.bl true) h) (H : Hp) (a : Addr) (ns : List Int) (hl : ns.length ≤ n) (hO : Only H) (hS : SqL G.K H a (ns.map V.int)) :
    spF G 1 (callF G.T k i) [.ref a] H (fun v _ => v = .bl true) fun _ _ _ => False := by
  obtain ⟨h, e⟩ := law ns hl
  refine ⟨rfl, [], fun _ => False, [.scr (ns.map D.int)], [], hrel_nil, Reps.cons ?_ Reps.nil, ?_⟩
  · rw [rep_scr]
    refine ⟨a, ns.map V.int, rfl, ?_, reps_ints ns⟩
    rcases hS with (s | ⟨o, s⟩) | s
    · rcases hO a with z | ⟨o, xs, z⟩
      · rw [s] at z; cases z
      · rw [s] at z; cases z
    · exact .inl ⟨o, s⟩
    · exact .inr fun _ => .inr s
  · rw [e]
    intro v μ' M' H' _ _ r
    rw [rep_bl] at r
    exact r

/-- a law's end: F gives the written part, the function object, the promise over every base -/
theorem walk_G {l : PySem.W.OpenLaw} {n k : Nat} {q : Program} {loose : List Str} {XP : (Str → Option Value) → Heap → Prop} {YP : World → Heap → Prop} {d : DefRec} {x : Str}
    (hn : l.most = some n) (hn2 : n ≤ sizeLine) (hdf : d.params.defaults = []) (hr : Room k callerA)
    (F : ∀ (w : World) (mg : Str → Option Value) (fa : Addr) (h : Heap), YP w h → h.Ns mainGlobals mg → mg d.name = some (.ref fa) →
      ∃ (K : PySem.W.Frag) (fd : FuncData) (sp : Sp), K.In h ∧ (∀ (s : Shared) (u : Value), BindsTo s fd ⟨[u], []⟩ [(x, u)]) ∧
        (∀ (H : Hp) (a : Addr) (ns : List Int), ns.length ≤ n → Only H → SqL K H a (ns.map V.int) → sp [.ref a] H (fun v _ => v = .bl true) fun _ _ _ => False) ∧
        ∀ base : Heap, K.In base → base.Ns mainGlobals mg → FnG l.prog w K mg base (L2.CX l.prog w) k fa fd [x] sp) :
    PySem.W.WalkO q loose XP YP l.row.toRowW d [] (fun f vs => PySem.call f vs) := by
  refine Att.attach_call hn hdf fun w s₀ s₁ mg mb fa o pm cd doc a vs ns G Y ho hd hcd hmg hobj hints hlen hg => ?_
  obtain ⟨K, fd, sp, KX, hb, hsp, hF⟩ := F w mg fa _ Y G.T.g hmg
  refine law_callG KX G.T.g G.T.b G.T.builtins G.T.nolimit hg hobj hints (Nat.le_trans hlen hn2) hr hF hb (fun H hO hS => hsp H a ns hlen hO hS) fun H e s' z => ?_
  obtain ⟨_, _, _, _, _, _, _, _, _, _, _, _, z⟩ := z
  exact z.elim
end PyI

set_option Elab.async false
set_option linter.all false
set_option maxRecDepth 100000
/-! PyR: the head: what the heap behind the module's top says. -/
namespace PyI
open PySem PySem.Spec PyProof.Rows L2

/-- a constant's items, as the head has them -/
def dvsOf : List D → Option (List He.Dv)
  | [] => some []
  | .int i :: r => (dvsOf r).map (.int i :: ·)
  | .str x :: r => (dvsOf r).map (.str x :: ·)
  | .bl b :: r => (dvsOf r).map (.bl b :: ·)
  | .non :: r => (dvsOf r).map (.non :: ·)
  | _ => none
def itB (o : Option (List He.Dv)) (f : List He.Dv → Bool) : Bool := match o with | some vs => f vs | none => false
/-- the module's name x is this constant -/
def cnB (K : PySem.W.Frag) (x : Str) : D → Bool
  | .int i => (He.Fa.int x i).ok K
  | .str z => (He.Fa.str x z).ok K
  | .tup ds => (He.Fa.glo x).ok K && itB (dvsOf ds) (He.tupB K x)
  | .scr ds => (He.Fa.glo x).ok K && itB (dvsOf ds) (He.lstB K x)
  | _ => false
theorem dvs_reps {G : Glb} : ∀ {ds : List D} {vs : List He.Dv}, dvsOf ds = some vs → ∀ μ M H, Reps G μ M H ds (vs.map (He.Dv.v G.K))
  | [], vs, e, μ, M, H => by cases e; exact Reps.nil
  | d :: r, vs, e, μ, M, H => by
    cases d with
    | int i => obtain ⟨ws, e2, rfl⟩ := Option.map_eq_some_iff.mp (show (dvsOf r).map (He.Dv.int i :: ·) = some vs from e); exact Reps.cons (by rw [rep_int]; rfl) (dvs_reps e2 μ M H)
    | str i => obtain ⟨ws, e2, rfl⟩ := Option.map_eq_some_iff.mp (show (dvsOf r).map (He.Dv.str i :: ·) = some vs from e); exact Reps.cons (by rw [rep_str]; rfl) (dvs_reps e2 μ M H)
    | bl i => obtain ⟨ws, e2, rfl⟩ := Option.map_eq_some_iff.mp (show (dvsOf r).map (He.Dv.bl i :: ·) = some vs from e); exact Reps.cons (by rw [rep_bl]; rfl) (dvs_reps e2 μ M H)
    | non => obtain ⟨ws, e2, rfl⟩ := Option.map_eq_some_iff.mp (show (dvsOf r).map (He.Dv.non :: ·) = some vs from e); exact Reps.cons (by rw [rep_non]; rfl) (dvs_reps e2 μ M H)
    | _ => cases e
theorem itB_ok {o : Option (List He.Dv)} {f : List He.Dv → Bool} (h : itB o f = true) : ∃ vs, o = some vs ∧ f vs = true := by
  cases o with
  | none => cases h
  | some vs => exact ⟨vs, rfl, h⟩
theorem cnB_ok {K : PySem.W.Frag} {mg : Str → Option Value} {T : Tab} {h : Heap} (X : K.In h) (N : h.Ns mainGlobals mg) {x : Str} {d : D} (c : cnB K x d = true) : ∃ u v, mg x = some u ∧ RelV v u ∧ ∀ μ M H, Rep ⟨K, mg, T⟩ μ M H d v := by
  cases d with
  | int i =>
    obtain ⟨t, e⟩ := He.int_ok X N c
    exact ⟨_, .int i, e, ⟨t, rfl⟩, fun μ M H => by rw [rep_int]⟩
  | str i =>
    obtain ⟨t, e⟩ := He.str_ok X N c
    exact ⟨_, .str i, e, ⟨t, rfl⟩, fun μ M H => by rw [rep_str]⟩
  | tup ds =>
    obtain ⟨c1, c2⟩ := He.ba c
    obtain ⟨vs, e, c3⟩ := itB_ok c2
    exact ⟨_, .ref (He.ga K x), He.glo_ok X N c1, rfl, fun μ M H => by rw [rep_tup]; exact ⟨_, _, rfl, He.tupB_ok c3 H, dvs_reps (G := ⟨K, mg, T⟩) e μ M H⟩⟩
  | scr ds =>
    obtain ⟨c1, c2⟩ := He.ba c
    obtain ⟨vs, e, c3⟩ := itB_ok c2
    exact ⟨_, .ref (He.ga K x), He.glo_ok X N c1, rfl, fun μ M H => by rw [rep_scr]; exact ⟨_, _, rfl, .inr fun H' => He.lstB_ok c3 H', dvs_reps (G := ⟨K, mg, T⟩) e μ M H⟩⟩
  | _ => cases c
/-- the facts that are asked of the head -/
def faOf (T : Tab) : List He.Fa := T.fns.map (fun f => He.Fa.glo f.name) ++ (bltNames.map He.Fa.free ++ (T.exs.map He.Fa.glo ++ T.exs.map He.Fa.exc))
def exOf (T : Tab) (K : PySem.W.Frag) : Bool := T.cns.all fun p => cnB K p.1 p.2
def defD (r : Row) : He.DefD := ⟨(r.x, none), r.x, r.x, r.params, r.body, r.scope, [], []⟩
/-- how the def's parameters are bound -/
def Bd (r : Row) (np : Nat) : Prop := ∀ (kV doc pm : Value) (an : Option Addr) (cdv ct : Value) (us : List Value), us.length = (r.N.take np).length → bindArgs (PySem.W.fnOf r.x r.x r.params r.body r.scope .none kV doc pm an cdv ct) ⟨us, []⟩ = pure ((r.N.take np).zip us)
def BdAll : List Row → List Fn → Prop
  | [], [] => True
  | r :: rs, f :: fs => Bd r f.np ∧ BdAll rs fs
  | _, _ => False
theorem BdAll.at_ : ∀ {rs : List Row} {fs : List Fn}, BdAll rs fs → ∀ {i : Nat} {r : Row} {f : Fn}, rs[i]? = some r → fs[i]? = some f → Bd r f.np
  | [], [], _, i, r, f, e, _ => by simp at e
  | r :: rs, f :: fs, h, i, r', f', e, e2 => by
    cases i with
    | zero => simp at e e2; subst e; subst e2; exact h.1
    | succ i => exact BdAll.at_ h.2 (i := i) (by simpa using e) (by simpa using e2)
  | [], _ :: _, h, _, _, _, _, _ => h.elim
  | _ :: _, [], h, _, _, _, _, _ => h.elim
theorem base_of {P : Program} {w : World} {K : PySem.W.Frag} {mg : Str → Option Value} {T : Tab} {rs : List Row} {h : Heap} (X : K.In h) (N : h.Ns mainGlobals mg) (hr : rowsB T rs T.fns = true) (hb : BdAll rs T.fns) (c : He.SaysD (faOf T) (rs.map defD) K) (ex : exOf T K = true) : Base P w ⟨K, mg, T⟩ rs := by
  have fact : ∀ {f : He.Fa}, f ∈ faOf T → f.ok K = true := fun {f} hf => by
    obtain ⟨i, hi⟩ := List.getElem?_of_mem hf
    exact c.fact i hi
  refine ⟨fun x hx => ?_, fun i p e => ?_, fun i r f er ef => ?_, fun i x e => ?_⟩
  · exact He.free_ok X N (fact (List.mem_append_right _ (List.mem_append_left _ (List.mem_map_of_mem hx))))
  · exact cnB_ok X N (List.all_eq_true.mp ex p (List.mem_of_getElem? e))
  · obtain ⟨r', er', hb'⟩ := rowsB_at hr ef
    rw [er] at er'
    cases er'
    unfold rowB at hb'
    simp only [Bool.and_eq_true, decide_eq_true_eq] at hb'
    have gl : mg f.name = some (.ref (He.ga K f.name)) := He.glo_ok X N (fact (List.mem_append_left _ (List.mem_map_of_mem (List.mem_of_getElem? ef))))
    obtain ⟨fd, FD⟩ := c.def_ i (d := defD r) (by rw [List.getElem?_map, er]; rfl)
    rw [hb'.1] at gl
    exact ⟨He.ga K r.x, fd, gl, FD, FD.bindsN (hb.at_ er ef)⟩
  · have m := List.mem_of_getElem? e
    have gl := He.glo_ok X N (fact (f := .glo x) (List.mem_append_right _ (List.mem_append_right _ (List.mem_append_left _ (List.mem_map_of_mem m)))))
    obtain ⟨h1, h2, h3, h4⟩ := He.exc_ok (fact (f := .exc x) (List.mem_append_right _ (List.mem_append_right _ (List.mem_append_right _ (List.mem_map_of_mem m)))))
    exact ⟨He.ga K x, _, _, _, _, PySem.F.excBase_ValueError, h1, gl, h2, h3, h4⟩

/-! ### the Hook -/
def obsP (n : Nat) (T : Tab) (rs : List Row) (g : Addr → Option Obj) : He.AlD × Bool := (He.obsD (faOf T) (rs.map defD) (He.frG g (He.asD g n)), exOf T (He.frG g (He.asD g n)))
def hookP (n : Nat) (T : Tab) (rs : List Row) : PySem.W.Hook where
  α := He.AlD × Bool
  obs := fun s => obsP n T rs s.heap.get?
  val := fun _ => (He.valD (rs.map defD), true)
  says := fun _ h => ∃ K : PySem.W.Frag, K.In h ∧ He.SaysD (faOf T) (rs.map defD) K ∧ exOf T K = true
  of := fun _ _ e => ⟨_, He.frG_in, congrArg Prod.fst e, congrArg Prod.snd e⟩
  keeps := fun _ _ _ ⟨K, hK, c⟩ k => ⟨K, PySem.W.Frag.In.keeps hK k, c⟩
def obT (n : Nat) (T : Tab) (rs : List Row) (s : PySem.W.SharedT) : He.AlD × Bool := obsP n T rs (HandSHeadRun.getT s)
theorem obT_eq {n : Nat} {T : Tab} {rs : List Row} (s : PySem.W.SharedT) : obT n T rs s = (hookP n T rs).obs s.abs := by
  show obsP n T rs (HandSHeadRun.getT s) = obsP n T rs s.abs.heap.get?
  rw [show HandSHeadRun.getT s = s.abs.heap.get? from funext (HandSHeadRun.getT_eq s)]
/-- a law's walk, from what the evaluator gives of its def -/
theorem walk_P {l : PySem.W.OpenLaw} {n m k i : Nat} {q : Program} {loose : List Str} {XP : (Str → Option Value) → Heap → Prop} {T : Tab} {rs : List Row} {d : DefRec} {r : Row} {f : Fn} {x : Str}
    (hn : l.most = some n) (hn2 : n ≤ sizeLine) (hdf : d.params.defaults = []) (hr : Room (k + 1) callerA) (ok : rowsB T rs T.fns = true) (hb : BdAll rs T.fns) (er : rs[i]? = some r) (ef : T.fns[i]? = some f) (dn : d.name = r.x) (one : f.np = 1) (px : r.N.take 1 = [x])
    (law : ∀ ns : List Int, ns.length ≤ n → ∃ h, callF T (k + 1) i [.scr (ns.map D.int)] [] = .ok (.bl true) h) :
    PySem.W.WalkO q loose XP (hookP m T rs).says l.row.toRowW d [] (fun f vs => PySem.call f vs) := by
  refine walk_G (x := x) hn hn2 hdf hr ?_
  rintro w mg fa h ⟨K, KX, c, ex⟩ N hm
  have B : Base l.prog w ⟨K, mg, T⟩ rs := base_of KX N ok hb c ex
  obtain ⟨fd, FD⟩ := c.def_ i (d := defD r) (by rw [List.getElem?_map, er]; rfl)
  have bd := hb.at_ er ef
  have hl : (r.N.take f.np) = [x] := by rw [one]; exact px
  refine ⟨K, fd, spF ⟨K, mg, T⟩ 1 (callF T (k + 1) i), KX, fun s u => ?_, fun H a ns hl hO hS => law_sp (G := ⟨K, mg, T⟩) law H a ns hl hO hS, fun base hK hN => ?_⟩
  · have := FD.bindsA (ps := [x]) (fun kV doc pm an cdv ct us hu => by have z := bd kV doc pm an cdv ct us (by rw [hl]; exact hu); rw [hl] at z; exact z) s [u] rfl
    exact this
  · obtain ⟨r', er', hb'⟩ := rowsB_at ok ef
    rw [er] at er'
    cases er'
    unfold rowB at hb'
    simp only [Bool.and_eq_true, decide_eq_true_eq] at hb'
    obtain ⟨h1, h2, h3, h4, h5⟩ := hb'
    have gl : mg f.name = some (.ref (He.ga K f.name)) := He.glo_ok KX N (by
      obtain ⟨j, hj⟩ := List.getElem?_of_mem (show He.Fa.glo f.name ∈ faOf T from List.mem_append_left _ (List.mem_map_of_mem (List.mem_of_getElem? ef)))
      exact c.fact j hj)
    rw [h1, ← dn, hm] at gl
    have ea : fa = He.ga K r.x := by
      have := Option.some.inj gl
      injection this with z
      rw [z, dn]
    rw [ea]
    have st := fn_step (G := ⟨K, mg, T⟩) (facts_of (base := base) B ok k) ef FD h2 h3 h4 h5
    rw [hl, one] at st
    exact st
end PyI

set_option Elab.async false
set_option linter.all false
set_option maxRecDepth 100000
/-! PyS: tools for plain laws over the evaluator. -/
namespace PyI
open PySem

theorem eqR_int (h : Hea) (a b : Int) : eqR h (.int a) (.int b) = some (decide (a = b)) := by
  have s : ∀ i : Int, SeqAt.shaped (.int i) = true := fun i => rfl
  unfold eqR
  rw [show pdH h (.int a) = .int a from rfl, show pdH h (.int b) = .int b from rfl, s, s]
  show some (a == b) = _
  congr 1
theorem cmp_ne (h : Hea) (a b : Int) : cmpR .ne h (.int a) (.int b) = some (!decide (a = b)) := by
  show (eqR h (.int a) (.int b)).map not = _
  rw [eqR_int]; rfl
theorem cmp_eq (h : Hea) (a b : Int) : cmpR .eq h (.int a) (.int b) = some (decide (a = b)) := eqR_int h a b
theorem cmp_lt (h : Hea) (a b : Int) : cmpR .lt h (.int a) (.int b) = some (decide (a < b)) := rfl
theorem cmp_le (h : Hea) (a b : Int) : cmpR .le h (.int a) (.int b) = some (decide (a ≤ b)) := rfl
theorem cmp_gt (h : Hea) (a b : Int) : cmpR .gt h (.int a) (.int b) = some (decide (b < a)) := rfl
theorem cmp_ge (h : Hea) (a b : Int) : cmpR .ge h (.int a) (.int b) = some (decide (b ≤ a)) := rfl
theorem bin_add (h : Hea) (a b : Int) : binR .add h (.int a) (.int b) = .ok (.int (a + b)) h := rfl
theorem bin_sub (h : Hea) (a b : Int) : binR .sub h (.int a) (.int b) = .ok (.int (a - b)) h := rfl
theorem bin_mul {h : Hea} {a b : Int} (o : mulOk a b = true) : binR .mul h (.int a) (.int b) = .ok (.int (a * b)) h := by
  show (if mulOk a b = true then _ else _) = _
  rw [if_pos o]
theorem bin_mod {h : Hea} {a b : Int} (o : 0 < b) : binR .mod h (.int a) (.int b) = .ok (.int (a % b)) h := by
  show (if 0 < b then _ else _) = _
  rw [if_pos o]
theorem bin_fdiv {h : Hea} {a b : Int} (o : 0 < b) (o2 : b.natAbs.log2 < 9000) : binR .fdiv h (.int a) (.int b) = .ok (.int (a / b)) h := by
  show (if 0 < b ∧ b.natAbs.log2 < 9000 then _ else _) = _
  rw [if_pos ⟨o, o2⟩]
theorem bin_pow {h : Hea} {a b : Int} (o : 0 ≤ b ∧ b ≤ 1000000 ∧ a.natAbs < 2 ^ 64) : binR .pow h (.int a) (.int b) = .ok (.int (a ^ b.toNat)) h := by
  show (if 0 ≤ b ∧ b ≤ 1000000 ∧ a.natAbs < 2 ^ 64 then _ else _) = _
  rw [if_pos o]
theorem log2_lt {n k : Nat} (h : n < 2 ^ k) (hk : 0 < k) : n.log2 < k := by
  by_cases z : n = 0
  · rw [z]; simpa using hk
  · exact (Nat.log2_lt z).mpr h
theorem mul_ok {a b : Int} (ha : a.natAbs < 2 ^ 400000) (hb : b.natAbs < 2 ^ 400000) : mulOk a b = true := by
  unfold mulOk
  have h1 := log2_lt ha (by decide)
  have h2 := log2_lt hb (by decide)
  exact decide_eq_true (by omega)
/-- a comprehension without deeds -/
theorem lcLoop_map {turn : D → Hea → Res (Option D)} {g : D → Option D} {h : Hea} : ∀ (xs acc : List D), (∀ x ∈ xs, turn x h = .ok (g x) h) → acc.length + xs.length ≤ sizeLine → lcLoop turn xs acc h = .ok (acc ++ xs.filterMap g) h
  | [], acc, _, _ => by simp [lcLoop]
  | x :: r, acc, ht, hl => by
    unfold lcLoop
    rw [ht x List.mem_cons_self, Res.bind_ok]
    simp only [List.length_cons] at hl
    cases e : g x with
    | none =>
      rw [List.filterMap_cons, e]
      exact lcLoop_map r acc (fun y hy => ht y (List.mem_cons_of_mem _ hy)) (by omega)
    | some y =>
      rw [List.filterMap_cons, e]
      simp only
      rw [if_pos (by omega), lcLoop_map r (acc ++ [y]) (fun y hy => ht y (List.mem_cons_of_mem _ hy)) (by simp; omega)]
      simp
theorem lc2Loop_map {inner : D → List D → Hea → Res (List D)} {g : D → List D} {h : Hea} : ∀ (xs acc : List D), (∀ x ∈ xs, ∀ acc, inner x acc h = .ok (acc ++ g x) h) → lc2Loop inner xs acc h = .ok (acc ++ xs.flatMap g) h
  | [], acc, _ => by simp [lc2Loop]
  | x :: r, acc, ht => by
    unfold lc2Loop
    rw [ht x List.mem_cons_self, Res.bind_ok, lc2Loop_map r _ fun y hy => ht y (List.mem_cons_of_mem _ hy)]
    simp

/-! ### the greatest common divisor by the loop -/
theorem gcd_step (a b : Int) (ha : 0 ≤ a) (hb : 0 ≤ b) : Int.gcd a b = Int.gcd b (a % b) := by
  obtain ⟨m, rfl⟩ := Int.eq_ofNat_of_zero_le ha
  obtain ⟨n, rfl⟩ := Int.eq_ofNat_of_zero_le hb
  show Nat.gcd m n = Nat.gcd n (m % n)
  rw [Nat.gcd_comm m n, Nat.gcd_rec n m, Nat.gcd_comm]
/-- the loop that divides: slots i, j; the turn leaves the other slots -/
theorem gcd_loop {t : Loc → Hea → Res Bool} {turn : Loc → Hea → SR} {mk : Int → Int → Loc} {h : Hea}
    (ht : ∀ a b, t (mk a b) h = .ok (!decide (b = 0)) h) (hs : ∀ a b, 0 < b → turn (mk a b) h = .ok .nx (mk b (a % b)) h) :
    ∀ (n : Nat) (a b : Int), 0 ≤ a → 0 ≤ b → b.toNat ≤ n → whR t turn (mk a b) h = .ok .nx (mk (Int.gcd a b) 0) h
  | n, a, b, ha, hb, hn => by
    rw [whR_eq, ht, Res.st_ok]
    by_cases z : b = 0
    · subst z
      have e : ((Int.gcd a 0 : Nat) : Int) = a := by rw [Int.gcd_zero_right]; omega
      rw [if_neg (by simp), e]
    · have hp : 0 < b := by omega
      rw [if_pos (by simp [z]), hs a b hp]
      cases n with
      | zero => omega
      | succ n =>
        have h1 := Int.emod_nonneg a z
        have h2 := Int.emod_lt_of_pos a hp
        have ih := gcd_loop ht hs n b (a % b) hb h1 (by omega)
        rw [show Int.gcd a b = Int.gcd b (a % b) from gcd_step a b ha hb]
        exact ih

/-! ### the evaluator's own steps -/
section
variable {T : Tab} {cf : Nat → List D → Hea → Res D} {ρ : Loc} {h : Hea}
@[simp] theorem s_nil : exB T cf .nil ρ h = .ok .nx ρ h := rfl
@[simp] theorem s_cons {s : S} {ss : Ss} : exB T cf (.cons s ss) ρ h = (exS T cf s ρ h).thn (exB T cf ss) := rfl
@[simp] theorem s_set {i : Nat} {e : E} : exS T cf (.set i e) ρ h = ((ev T cf e).val ρ h).st ρ fun d h1 => .ok .nx (ρ.set i (some d)) h1 := rfl
@[simp] theorem s_asg {t : Tg} {e : E} : exS T cf (.asg t e) ρ h = ((ev T cf e).val ρ h).st ρ fun d h1 => match evG t ρ d with | some ρ1 => .ok .nx ρ1 h1 | none => .no := rfl
@[simp] theorem s_put {o i e : E} : exS T cf (.put o i e) ρ h = ((ev T cf e).val ρ h).st ρ fun d h1 => ((ev T cf o).val ρ h1).st ρ fun x h2 => ((ev T cf i).val ρ h2).st ρ fun y h3 => match setR h3 x y d with | some h4 => .ok .nx ρ h4 | none => .no := rfl
@[simp] theorem s_par {is : List Nat} {es : Es} : exS T cf (.par is es) ρ h = (evs T cf es ρ h).st ρ fun ds h1 => match setAll ρ is ds with | some ρ1 => .ok .nx ρ1 h1 | none => .no := rfl
@[simp] theorem s_ex {e : E} : exS T cf (.ex e) ρ h = ((ev T cf e).val ρ h).st ρ fun _ h1 => .ok .nx ρ h1 := rfl
@[simp] theorem s_ret {e : E} : exS T cf (.ret e) ρ h = ((ev T cf e).val ρ h).st ρ fun d h1 => .ok (.ret d) ρ h1 := rfl
@[simp] theorem s_retN : exS T cf .retN ρ h = .ok (.ret .non) ρ h := rfl
@[simp] theorem s_if {c : E} {a b : Ss} : exS T cf (.iff c a b) ρ h = ((ev T cf c).tst ρ h).st ρ fun k h1 => if k then exB T cf a ρ h1 else exB T cf b ρ h1 := rfl
theorem s_whl {c : E} {b : Ss} : exS T cf (.whl c b) ρ h = whR (ev T cf c).tst (exB T cf b) ρ h := rfl
theorem s_fr {t : Tg} {it : It} {b : Ss} : exS T cf (.fr t it b) ρ h = (evI T cf it ρ h).st ρ fun xs h1 => frLoop (fun x ρ h => match evG t ρ x with | some ρ1 => exB T cf b ρ1 h | none => .no) xs ρ h1 := rfl
@[simp] theorem s_pass : exS T cf .pass ρ h = .ok .nx ρ h := rfl
@[simp] theorem s_brk : exS T cf .brk ρ h = .ok .brk ρ h := rfl
@[simp] theorem s_cont : exS T cf .cont ρ h = .ok .cont ρ h := rfl
@[simp] theorem s_rais {c : Nat} : exS T cf (.rais c) ρ h = .err c ρ h := rfl
@[simp] theorem v_non : (ev T cf .non).val ρ h = .ok .non h := rfl
@[simp] theorem v_bl {b : Bool} : (ev T cf (.bl b)).val ρ h = .ok (.bl b) h := rfl
@[simp] theorem v_int {i : Int} : (ev T cf (.int i)).val ρ h = .ok (.int i) h := rfl
@[simp] theorem v_str {x : Str} : (ev T cf (.str x)).val ρ h = .ok (.str x) h := rfl
@[simp] theorem v_v {i : Nat} : (ev T cf (.v i)).val ρ h = match ρ[i]? with | some (some d) => .ok d h | _ => .no := rfl
@[simp] theorem v_gc {i : Nat} : (ev T cf (.gc i)).val ρ h = match T.cns[i]? with | some p => .ok p.2 h | none => .no := rfl
@[simp] theorem v_gf {i : Nat} : (ev T cf (.gf i)).val ρ h = match T.fns[i]? with | some _ => .ok (.fn i) h | none => .no := rfl
@[simp] theorem v_bin {o : BOp} {a b : E} : (ev T cf (.bin o a b)).val ρ h = ((ev T cf a).val ρ h).bind fun x h1 => ((ev T cf b).val ρ h1).bind fun y h2 => binR o h2 x y := rfl
@[simp] theorem v_neg {a : E} : (ev T cf (.neg a)).val ρ h = ((ev T cf a).val ρ h).bind fun x h1 => match x with | .int i => .ok (.int (-i)) h1 | _ => .no := rfl
@[simp] theorem v_nt {a : E} : (ev T cf (.nt a)).val ρ h = ((ev T cf a).val ρ h).bind fun x h1 => need (trueR h1 x) fun k => .ok (.bl !k) h1 := rfl
@[simp] theorem t_nt {a : E} : (ev T cf (.nt a)).tst ρ h = ((ev T cf a).tst ρ h).bind fun k h1 => .ok (!k) h1 := rfl
@[simp] theorem t_cmp {o : COp} {a b : E} : (ev T cf (.cmp o a b)).tst ρ h = ((ev T cf a).val ρ h).bind fun x h1 => ((ev T cf b).val ρ h1).bind fun y h2 => need (cmpR o h2 x y) fun k => .ok k h2 := rfl
@[simp] theorem v_cmp {o : COp} {a b : E} : (ev T cf (.cmp o a b)).val ρ h = ((ev T cf (.cmp o a b)).tst ρ h).bind fun k h1 => .ok (.bl k) h1 := rfl
@[simp] theorem t_chn {o p : COp} {a b c : E} : (ev T cf (.chn o p a b c)).tst ρ h = ((ev T cf a).val ρ h).bind fun x h1 => ((ev T cf b).val ρ h1).bind fun y h2 => need (cmpR o h2 x y) fun k =>
      if k then ((ev T cf c).val ρ h2).bind fun z h3 => need (cmpR p h3 y z) fun k2 => .ok k2 h3 else .ok false h2 := rfl
@[simp] theorem v_chn {o p : COp} {a b c : E} : (ev T cf (.chn o p a b c)).val ρ h = ((ev T cf (.chn o p a b c)).tst ρ h).bind fun k h1 => .ok (.bl k) h1 := rfl
@[simp] theorem v_and {a b : E} : (ev T cf (.and a b)).val ρ h = ((ev T cf a).val ρ h).bind fun x h1 => need (trueR h1 x) fun k => if k then (ev T cf b).val ρ h1 else .ok x h1 := rfl
@[simp] theorem t_and {a b : E} : (ev T cf (.and a b)).tst ρ h = ((ev T cf a).tst ρ h).bind fun k h1 => if k then (ev T cf b).tst ρ h1 else .ok false h1 := rfl
@[simp] theorem v_or {a b : E} : (ev T cf (.or a b)).val ρ h = ((ev T cf a).val ρ h).bind fun x h1 => need (trueR h1 x) fun k => if k then .ok x h1 else (ev T cf b).val ρ h1 := rfl
@[simp] theorem t_or {a b : E} : (ev T cf (.or a b)).tst ρ h = ((ev T cf a).tst ρ h).bind fun k h1 => if k then .ok true h1 else (ev T cf b).tst ρ h1 := rfl
@[simp] theorem v_ite {c a b : E} : (ev T cf (.ite c a b)).val ρ h = ((ev T cf c).tst ρ h).bind fun k h1 => if k then (ev T cf a).val ρ h1 else (ev T cf b).val ρ h1 := rfl
@[simp] theorem t_ite {c a b : E} : (ev T cf (.ite c a b)).tst ρ h = ((ev T cf c).tst ρ h).bind fun k h1 => if k then (ev T cf a).tst ρ h1 else (ev T cf b).tst ρ h1 := rfl
@[simp] theorem v_tup {es : Es} : (ev T cf (.tup es)).val ρ h = (evs T cf es ρ h).bind fun xs h1 => if xs.length ≤ sizeLine then .ok (.tup xs) h1 else .no := rfl
@[simp] theorem v_tupK {es : Es} : (ev T cf (.tupK es)).val ρ h = (evs T cf es ρ h).bind fun xs h1 => if xs.length ≤ sizeLine then .ok (.plc xs) h1 else .no := rfl
@[simp] theorem v_lst {es : Es} : (ev T cf (.lst es)).val ρ h = (evs T cf es ρ h).bind fun xs h1 => if xs.length ≤ sizeLine then .ok (.lst xs) h1 else .no := rfl
@[simp] theorem v_lstM {es : Es} : (ev T cf (.lstM es)).val ρ h = (evs T cf es ρ h).bind fun xs h1 => if xs.length ≤ sizeLine then allocR (.lst xs) h1 else .no := rfl
@[simp] theorem v_dnewK : (ev T cf .dnewK).val ρ h = allocR (.dK [] []) h := rfl
@[simp] theorem v_dnewT : (ev T cf .dnewT).val ρ h = allocR (.dT [] []) h := rfl
@[simp] theorem v_sub {a i : E} : (ev T cf (.sub a i)).val ρ h = ((ev T cf a).val ρ h).bind fun x h1 => ((ev T cf i).val ρ h1).bind fun y h2 => need (subR h2 x y) fun d => .ok d h2 := rfl
@[simp] theorem v_slc {a : E} {lo hi : Es} : (ev T cf (.slc a lo hi)).val ρ h = ((ev T cf a).val ρ h).bind fun x h1 => ((evs T cf lo ρ h1).bind fun l h2 => need (partV l) fun l => .ok l h2).bind fun l h2 => ((evs T cf hi ρ h2).bind fun u h3 => need (partV u) fun u => .ok u h3).bind fun u h3 =>
      match tupV x with
      | some xs => .ok (.tup (cutD xs l u)) h3
      | none => need (lstV h3 x) fun xs => .ok (.lst (cutD xs l u)) h3 := rfl
@[simp] theorem v_call {f : Nat} {es : Es} : (ev T cf (.call f es)).val ρ h = (evs T cf es ρ h).bind fun xs h1 => cf f xs h1 := rfl
@[simp] theorem v_bi {b : Bi} {a : E} : (ev T cf (.bi b a)).val ρ h = ((ev T cf a).val ρ h).bind fun x h1 => biR b h1 x := rfl
@[simp] theorem v_isi {a : E} {t : Ty} : (ev T cf (.isi a t)).val ρ h = ((ev T cf a).val ρ h).bind fun x h1 => need (isiR h1 x t) fun k => .ok (.bl k) h1 := rfl
@[simp] theorem v_mt {m : Mt} {o : E} {es : Es} : (ev T cf (.mt m o es)).val ρ h = ((ev T cf o).val ρ h).bind fun x h1 => if mtOk m h1 x then (evs T cf es ρ h1).bind fun xs h2 => mtR m h2 x xs else .no := rfl
@[simp] theorem v_lc {m : Bool} {own : List Nat} {tg : Tg} {it : It} {c : Es} {e : E} : (ev T cf (.lc m own tg it c e)).val ρ h = (evI T cf it ρ h).bind fun xs h1 => (lcLoop (lcTurn own tg (evC T cf c) (ev T cf e).val ρ) xs [] h1).bind fun ys h6 => mkL m ys h6 := rfl
@[simp] theorem v_lc2 {m : Bool} {own own2 : List Nat} {tg tg2 : Tg} {it it2 : It} {c : Es} {e : E} : (ev T cf (.lc2 m own own2 tg it tg2 it2 c e)).val ρ h = (evI T cf it ρ h).bind fun xs h1 => (lc2Loop (lc2In own own2 tg tg2 (evI T cf it2) (evC T cf c) (ev T cf e).val ρ) xs [] h1).bind fun ys h6 => mkL m ys h6 := rfl
@[simp] theorem v_frz {a : E} : (ev T cf (.frz a)).val ρ h = ((ev T cf a).val ρ h).bind fun x h1 => frzR h1 x := rfl
@[simp] theorem t_v {i : Nat} : (ev T cf (.v i)).tst ρ h = ((ev T cf (.v i)).val ρ h).bind fun x h1 => need (trueR h1 x) fun k => .ok k h1 := rfl
@[simp] theorem t_call {f : Nat} {es : Es} : (ev T cf (.call f es)).tst ρ h = ((ev T cf (.call f es)).val ρ h).bind fun x h1 => need (trueR h1 x) fun k => .ok k h1 := rfl
@[simp] theorem t_bi {b : Bi} {a : E} : (ev T cf (.bi b a)).tst ρ h = ((ev T cf (.bi b a)).val ρ h).bind fun x h1 => need (trueR h1 x) fun k => .ok k h1 := rfl
@[simp] theorem t_isi {a : E} {t : Ty} : (ev T cf (.isi a t)).tst ρ h = ((ev T cf (.isi a t)).val ρ h).bind fun x h1 => need (trueR h1 x) fun k => .ok k h1 := rfl
@[simp] theorem t_sub {a i : E} : (ev T cf (.sub a i)).tst ρ h = ((ev T cf (.sub a i)).val ρ h).bind fun x h1 => need (trueR h1 x) fun k => .ok k h1 := rfl
@[simp] theorem es_nil : evs T cf .nil ρ h = .ok [] h := rfl
@[simp] theorem es_cons {e : E} {es : Es} : evs T cf (.cons e es) ρ h = ((ev T cf e).val ρ h).bind fun x h1 => (evs T cf es ρ h1).bind fun xs h2 => .ok (x :: xs) h2 := rfl
@[simp] theorem c_nil : evC T cf .nil ρ h = .ok true h := rfl
@[simp] theorem c_cons {e : E} {es : Es} : evC T cf (.cons e es) ρ h = (ev T cf e).tst ρ h := rfl
@[simp] theorem i_seq {e : E} : evI T cf (.seq e) ρ h = ((ev T cf e).val ρ h).bind fun x h1 => need (itV x) fun xs => .ok xs h1 := rfl
@[simp] theorem i_rng1 {e : E} : evI T cf (.rng1 e) ρ h = ((ev T cf e).val ρ h).bind fun x h1 => need (intV x) fun j => if ok62 j then .ok (rngL 0 j.toNat) h1 else .no := rfl
@[simp] theorem i_rng2 {a b : E} : evI T cf (.rng2 a b) ρ h = ((ev T cf a).val ρ h).bind fun x h1 => ((ev T cf b).val ρ h1).bind fun y h2 => need (intV x) fun i => need (intV y) fun j =>
      if ok62 i && ok62 j then .ok (rngL i (j - i).toNat) h2 else .no := rfl
@[simp] theorem i_enum {e : E} : evI T cf (.enum e) ρ h = ((ev T cf e).val ρ h).bind fun x h1 => need (lsV x) fun xs => .ok (enumD 0 xs) h1 := rfl
@[simp] theorem g_n {i : Nat} {d : D} : evG (.n i) ρ d = some (ρ.set i (some d)) := rfl
@[simp] theorem g_t {ts : Tgs} {d : D} : evG (.t ts) ρ d = (tupV d).bind fun xs => evGs ts ρ xs := rfl
@[simp] theorem gs_nil : evGs .nil ρ [] = some ρ := rfl
@[simp] theorem gs_cons {t : Tg} {ts : Tgs} {x : D} {r : List D} : evGs (.cons t ts) ρ (x :: r) = (evG t ρ x).bind fun ρ1 => evGs ts ρ1 r := rfl
@[simp] theorem setAll_nil : setAll ρ [] [] = some ρ := rfl
@[simp] theorem setAll_cons {i : Nat} {is : List Nat} {d : D} {ds : List D} : setAll ρ (i :: is) (d :: ds) = setAll (ρ.set i (some d)) is ds := rfl
@[simp] theorem intV_int {i : Int} : intV (.int i) = some i := rfl
@[simp] theorem true_bl {b : Bool} : trueR h (.bl b) = some b := rfl
@[simp] theorem tupV_tup {xs : List D} : tupV (.tup xs) = some xs := rfl
@[simp] theorem tupV_plc {xs : List D} : tupV (.plc xs) = some xs := rfl
@[simp] theorem seqV_tup {xs : List D} : seqV h (.tup xs) = some xs := rfl
@[simp] theorem seqV_plc {xs : List D} : seqV h (.plc xs) = some xs := rfl
@[simp] theorem seqV_lst {xs : List D} : seqV h (.lst xs) = some xs := rfl
@[simp] theorem itV_tup {xs : List D} : itV (.tup xs) = some xs := rfl
@[simp] theorem itV_lst {xs : List D} : itV (.lst xs) = some xs := rfl
@[simp] theorem bi_int {i : Int} : biR .int h (.int i) = .ok (.int i) h := rfl
@[simp] theorem bi_abs {i : Int} : biR .abs h (.int i) = .ok (.int (if i < 0 then -i else i)) h := rfl
theorem sub_seq {x : D} {xs : List D} {i : Int} {d : D} (e : seqV h x = some xs) (a : L2.atI xs i = some d) : subR h x (.int i) = some d := by
  unfold subR
  rw [e]; exact a
theorem atI_nat {xs : List D} {i : Int} {d : D} (h0 : 0 ≤ i) (e : xs[i.toNat]? = some d) : L2.atI xs i = some d := by
  have hn : (i.toNat : Int) = i := by omega
  rw [← hn]
  exact L2.atI_nat e
theorem callF_at {k i : Nat} {f : Fn} {ds : List D} (e : T.fns[i]? = some f) (hl : ds.length = f.np) : callF T (k + 1) i ds h = match exB T (callF T k) f.body (ds.map some ++ List.replicate (f.nv - f.np) none) h with
    | .ok .nx _ h => .ok .non h
    | .ok (.ret d) _ h => .ok d h
    | .err c _ h => .err c h
    | _ => .no := by
  show (match T.fns[i]? with | some f => runFn T (callF T k) f ds h | none => Res.no) = _
  rw [e]
  exact if_pos hl
end

/-- a loop over items, by an invariant -/
theorem frLoop_inv {turn : D → Loc → Hea → SR} (I : Nat → Loc → Hea → Prop) : ∀ (xs : List D) (n : Nat) (ρ : Loc) (h : Hea), (∀ i x ρ h, xs[i]? = some x → I (n + i) ρ h → ∃ ρ' h', turn x ρ h = .ok .nx ρ' h' ∧ I (n + i + 1) ρ' h') → I n ρ h →
    ∃ ρ' h', frLoop turn xs ρ h = .ok .nx ρ' h' ∧ I (n + xs.length) ρ' h'
  | [], n, ρ, h, _, hi => ⟨ρ, h, rfl, hi⟩
  | x :: r, n, ρ, h, ht, hi => by
    obtain ⟨ρ1, h1, e1, i1⟩ := ht 0 x ρ h rfl hi
    obtain ⟨ρ2, h2, e2, i2⟩ := frLoop_inv I r (n + 1) ρ1 h1 (fun i y ρ h e hy => by
      have := ht (i + 1) y ρ h (by simpa using e) (by rw [show n + (i + 1) = n + 1 + i by omega]; exact hy)
      rw [show n + (i + 1) + 1 = n + 1 + i + 1 by omega] at this
      exact this) i1
    refine ⟨ρ2, h2, ?_, by rw [List.length_cons, show n + (r.length + 1) = n + 1 + r.length by omega]; exact i2⟩
    unfold frLoop
    rw [e1]; exact e2
theorem seq_of_tup {h : Hea} {x : D} {xs : List D} (e : tupV x = some xs) : seqV h x = some xs := by
  unfold tupV at e
  split at e
  · cases e; rfl
  · cases e; rfl
  · cases e

/-- a comprehension over a told list -/
theorem lcLoop_on {α : Type} {turn : D → Hea → Res (Option D)} {f g : α → D} {p : α → Bool} {h : Hea} : ∀ (l : List α) (acc : List D), (∀ a ∈ l, turn (f a) h = .ok (if p a = true then some (g a) else none) h) → acc.length + l.length ≤ sizeLine →
    lcLoop turn (l.map f) acc h = .ok (acc ++ (l.filter p).map g) h
  | [], acc, _, _ => by simp [lcLoop]
  | a :: r, acc, ht, hl => by
    rw [List.map_cons]
    unfold lcLoop
    rw [ht a List.mem_cons_self, Res.bind_ok]
    simp only [List.length_cons] at hl
    by_cases c : p a = true
    · rw [if_pos c, List.filter_cons_of_pos c]
      simp only
      rw [if_pos (by omega), lcLoop_on r (acc ++ [g a]) (fun y hy => ht y (List.mem_cons_of_mem _ hy)) (by simp; omega)]
      simp
    · rw [if_neg c, List.filter_cons_of_neg c]
      exact lcLoop_on r acc (fun y hy => ht y (List.mem_cons_of_mem _ hy)) (by omega)
theorem lcLoop_all {α : Type} {turn : D → Hea → Res (Option D)} {f g : α → D} {h : Hea} (l : List α) (ht : ∀ a ∈ l, turn (f a) h = .ok (some (g a)) h) (hl : l.length ≤ sizeLine) : lcLoop turn (l.map f) [] h = .ok (l.map g) h := by
  have := lcLoop_on (turn := turn) (f := f) (g := g) (p := fun _ => true) (h := h) l [] (fun a ha => by rw [if_pos rfl]; exact ht a ha) (by simpa using hl)
  rw [this, List.nil_append, List.filter_eq_self.mpr (fun _ _ => rfl)]
theorem rngL_eq : ∀ (n : Nat) (lo : Int), rngL lo n = (List.range n).map fun i : Nat => D.int (lo + (i : Int))
  | 0, lo => rfl
  | n + 1, lo => by
    unfold rngL
    rw [rngL_eq n (lo + 1), List.range_succ_eq_map, List.map_cons, List.map_map]
    congr 1
    · simp
    · apply List.map_congr_left
      intro i _
      show D.int _ = D.int _
      congr 1
      simp
      omega
theorem rngL_0 (n : Nat) : rngL 0 n = (List.range n).map fun i : Nat => D.int (i : Int) := by
  rw [rngL_eq]; simp
@[simp] theorem mkL_f {ys : List D} {h : Hea} : mkL false ys h = .ok (.lst ys) h := rfl
@[simp] theorem mkL_t {ys : List D} {h : Hea} : mkL true ys h = .ok (.ref h.length) (h ++ [.lst ys]) := rfl
@[simp] theorem bi_len {x : D} {xs : List D} {h : Hea} (e : seqV h x = some xs) : biR .len h x = .ok (.int xs.length) h := by
  show (match seqV h x with | some xs => Res.ok (D.int xs.length) h | none => _) = _
  rw [e]
@[simp] theorem bi_tuple {xs : List D} {h : Hea} : biR .tuple h (.lst xs) = .ok (.tup xs) h := rfl
@[simp] theorem bi_list {x : D} {xs : List D} {h : Hea} (e : seqV h x = some xs) : biR .list h x = .ok (.lst xs) h := by
  show need (seqV h x) _ = _
  rw [e]; rfl
theorem blsV_map : ∀ bs : List Bool, blsV (bs.map D.bl) = some bs
  | [] => rfl
  | b :: r => by
    show (blsV (r.map D.bl)).map (b :: ·) = _
    rw [blsV_map r]; rfl
theorem bi_all {bs : List Bool} {h : Hea} : biR .all h (.lst (bs.map D.bl)) = .ok (.bl (bs.all id)) h := by
  show need (some (bs.map D.bl)) (fun xs => need (blsV xs) fun bs => Res.ok (D.bl (bs.all id)) h) = _
  rw [need_some, blsV_map]; rfl
theorem callF_ret {T : Tab} {h h' : Hea} {k i : Nat} {f : Fn} {ds : List D} {d : D} {ρ : Loc} (e : T.fns[i]? = some f) (hl : ds.length = f.np) (g : exB T (callF T k) f.body (ds.map some ++ List.replicate (f.nv - f.np) none) h = .ok (.ret d) ρ h') : callF T (k + 1) i ds h = .ok d h' := by
  rw [callF_at e hl, g]
theorem callF_nx {T : Tab} {h h' : Hea} {k i : Nat} {f : Fn} {ds : List D} {ρ : Loc} (e : T.fns[i]? = some f) (hl : ds.length = f.np) (g : exB T (callF T k) f.body (ds.map some ++ List.replicate (f.nv - f.np) none) h = .ok .nx ρ h') : callF T (k + 1) i ds h = .ok .non h' := by
  rw [callF_at e hl, g]
theorem ok62_nat {n : Nat} (h : n ≤ 1000) : ok62 (n : Int) = true := by
  unfold ok62
  have : n < 2 ^ 62 := by omega
  exact decide_eq_true (by rw [Int.natAbs_natCast]; exact log2_lt this (by decide))
theorem i_rng1_of {T : Tab} {cf : Nat → List D → Hea → Res D} {ρ : Loc} {h h1 : Hea} {e : E} {n : Nat} (v : (ev T cf e).val ρ h = .ok (.int (n : Int)) h1) (hn : n ≤ 1000) : evI T cf (.rng1 e) ρ h = .ok ((List.range n).map fun i : Nat => D.int (i : Int)) h1 := by
  rw [i_rng1, v, Res.bind_ok, intV_int, need_some, if_pos (ok62_nat hn), rngL_0, Int.toNat_natCast]
/-- two clauses over told lists -/
theorem lc2Loop_on {α : Type} {inner : D → List D → Hea → Res (List D)} {f : α → D} {g : α → List D} {h : Hea} {b : Nat} : ∀ (l : List α) (acc : List D), (∀ a ∈ l, ∀ acc, acc.length + b ≤ sizeLine → inner (f a) acc h = .ok (acc ++ g a) h) → (∀ a ∈ l, (g a).length ≤ b) →
    acc.length + l.length * b ≤ sizeLine → lc2Loop inner (l.map f) acc h = .ok (acc ++ l.flatMap g) h
  | [], acc, _, _, _ => by simp [lc2Loop]
  | a :: r, acc, ht, hg, hl => by
    have h1 := hg a List.mem_cons_self
    rw [List.length_cons, Nat.succ_mul] at hl
    rw [List.map_cons]
    unfold lc2Loop
    rw [ht a List.mem_cons_self acc (by omega), Res.bind_ok, lc2Loop_on r _ (fun y hy => ht y (List.mem_cons_of_mem _ hy)) (fun y hy => hg y (List.mem_cons_of_mem _ hy)) (by rw [List.length_append]; omega)]
    simp
end PyI

set_option Elab.async false
set_option linter.all false
set_option maxRecDepth 100000
set_option maxHeartbeats 0
namespace K33
open PySem PyI L2
/-! ### the defs, as trees -/
def b_is_integer : Ss := (.cons (.ret (.and (.isi (.v 0) .int) (.nt (.isi (.v 0) .bool))))
    .nil)
def b_divisor_of : Ss := (.cons (.whl (.cmp .ne (.v 1) (.int 0))
   (.cons (.par [0, 1] (.cons (.v 1) (.cons (.bin .mod (.v 0) (.v 1)) .nil)))
    .nil))
    (.cons (.ret (.v 0))
    .nil))
def b_raw_number : Ss := (.cons (.set 2 (.call 1 (.cons (.bi .abs (.v 0)) (.cons (.v 1) .nil))))
    (.cons (.ret (.tupK (.cons (.bin .fdiv (.v 0) (.v 2)) (.cons (.bin .fdiv (.v 1) (.v 2)) .nil))))
    .nil))
def b_is_number : Ss := (.cons (.iff (.or (.nt (.isi (.v 0) .tuple)) (.or (.cmp .ne (.bi .len (.v 0)) (.int 2)) (.or (.nt (.call 0 (.cons (.sub (.v 0) (.int 0)) .nil))) (.nt (.call 0 (.cons (.sub (.v 0) (.int 1)) .nil))))))
   (.cons (.ret (.bl false))
    .nil)
   .nil)
    (.cons (.ret (.and (.cmp .ge (.sub (.v 0) (.int 1)) (.int 1)) (.cmp .eq (.call 1 (.cons (.bi .abs (.sub (.v 0) (.int 0))) (.cons (.sub (.v 0) (.int 1)) .nil))) (.int 1))))
    .nil))
def b_raw_plus : Ss := (.cons (.ret (.call 2 (.cons (.bin .add (.bin .mul (.sub (.v 0) (.int 0)) (.sub (.v 1) (.int 1))) (.bin .mul (.sub (.v 1) (.int 0)) (.sub (.v 0) (.int 1)))) (.cons (.bin .mul (.sub (.v 0) (.int 1)) (.sub (.v 1) (.int 1))) .nil))))
    .nil)
def b_sum_of : Ss := (.cons (.set 1 (.gc 0))
    (.cons (.fr (.n 2) (.seq (.v 0))
   (.cons (.set 1 (.call 4 (.cons (.v 1) (.cons (.v 2) .nil))))
    .nil))
    (.cons (.ret (.v 1))
    .nil)))
def b_is_row : Ss := (.cons (.iff (.or (.nt (.isi (.v 0) .tuple)) (.nt (.chn .le .le (.int 1) (.bi .len (.v 0)) (.gc 1))))
   (.cons (.ret (.bl false))
    .nil)
   .nil)
    (.cons (.ret (.bi .all (.lc false [1] (.n 1) (.seq (.v 0)) .nil (.and (.call 3 (.cons (.v 1) .nil)) (.cmp .ge (.sub (.v 1) (.int 0)) (.int 0))))))
    .nil))
def b_columns_of : Ss := (.cons (.ret (.lc false [1] (.n 1) (.rng1 (.bi .len (.sub (.v 0) (.int 0)))) .nil (.bi .tuple (.lc false [2] (.n 2) (.seq (.v 0)) .nil (.sub (.v 2) (.v 1))))))
    .nil)
def b_is_table : Ss := (.cons (.iff (.or (.nt (.isi (.v 0) .tuple)) (.or (.nt (.chn .le .le (.int 1) (.bi .len (.v 0)) (.gc 1))) (.nt (.bi .all (.lc false [2] (.n 2) (.seq (.v 0)) .nil (.call 6 (.cons (.v 2) .nil)))))))
   (.cons (.ret (.bl false))
    .nil)
   .nil)
    (.cons (.iff (.nt (.bi .all (.lc false [2] (.n 2) (.seq (.v 0)) .nil (.cmp .eq (.bi .len (.v 2)) (.bi .len (.sub (.v 0) (.int 0)))))))
   (.cons (.ret (.bl false))
    .nil)
   .nil)
    (.cons (.ret (.bi .all (.lc false [1] (.n 1) (.seq (.bin .add (.bi .list (.v 0)) (.call 7 (.cons (.v 0) .nil)))) .nil (.cmp .ne (.call 5 (.cons (.v 1) .nil)) (.gc 0)))))
    .nil)))
def b_need_table : Ss := (.cons (.iff (.nt (.call 8 (.cons (.v 0) .nil)))
   (.cons (.rais 0)
    .nil)
   .nil)
    .nil)
def b_raw_row_sums : Ss := (.cons (.ret (.bi .tuple (.lc false [1] (.n 1) (.seq (.v 0)) .nil (.call 5 (.cons (.v 1) .nil)))))
    .nil)
def b_raw_column_sums : Ss := (.cons (.ret (.bi .tuple (.lc false [1] (.n 1) (.seq (.call 7 (.cons (.v 0) .nil))) .nil (.call 5 (.cons (.v 1) .nil)))))
    .nil)
def b_raw_places : Ss := (.cons (.set 1 (.bi .len (.sub (.v 0) (.int 0))))
    (.cons (.ret (.lc2 true [2, 3] [3] (.n 2) (.rng1 (.bi .len (.v 0))) (.n 3) (.rng1 (.v 1)) (.cons (.cmp .ne (.sub (.sub (.v 0) (.v 2)) (.v 3)) (.gc 0)) .nil) (.tupK (.cons (.v 2) (.cons (.v 3) .nil)))))
    .nil))
def b_row_sums : Ss := (.cons (.ex (.call 9 (.cons (.v 0) .nil)))
    (.cons (.ret (.call 10 (.cons (.v 0) .nil)))
    .nil))
def b_column_sums : Ss := (.cons (.ex (.call 9 (.cons (.v 0) .nil)))
    (.cons (.ret (.call 11 (.cons (.v 0) .nil)))
    .nil))
def b_places : Ss := (.cons (.ex (.call 9 (.cons (.v 0) .nil)))
    (.cons (.ret (.call 12 (.cons (.v 0) .nil)))
    .nil))
def b_law_open : Ss := (.cons (.set 1 (.bi .listM (.slc (.v 0) .nil (.cons (.int 12) .nil))))
    (.cons (.fr (.t (.cons (.n 2) (.cons (.n 3) .nil))) (.enum (.slc (.v 0) (.cons (.int 12) .nil) (.cons (.int 63) .nil)))
   (.cons (.put (.v 1) (.bin .mod (.bi .int (.v 2)) (.int 12)) (.bin .add (.sub (.v 1) (.bin .mod (.bi .int (.v 2)) (.int 12))) (.v 3)))
    .nil))
    (.cons (.ret (.lstM (.cons (.frz (.v 1)) (.cons (.int 0) (.cons (.int 0) .nil)))))
    .nil)))
def b_law_spread : Ss := (.cons (.iff (.cmp .ge (.v 0) (.bin .pow (.int 10) (.int 18)))
   (.cons (.ret (.v 0))
    .nil)
   .nil)
    (.cons (.set 2 (.lst (.cons (.int 2147483629) (.cons (.int 2147483587) (.cons (.int 2147483579) (.cons (.int 2147483563) (.cons (.int 2147483549) (.cons (.int 2147483543) (.cons (.int 2147483497) (.cons (.int 2147483489) .nil))))))))))
    (.cons (.set 2 (.bin .add (.v 2) (.lst (.cons (.int 2147483477) (.cons (.int 2147483423) (.cons (.int 2147483399) (.cons (.int 2147483353) (.cons (.int 2147483323) .nil))))))))
    (.cons (.set 3 (.bin .mul (.bin .mod (.bi .int (.v 0)) (.int 1000000007)) (.bin .add (.bin .mul (.int 2) (.v 1)) (.int 69069))))
    (.cons (.set 3 (.bin .mod (.bi .int (.bin .pow (.bin .add (.bin .add (.v 3) (.bin .mul (.v 1) (.int 40503))) (.int 977)) (.int 3))) (.sub (.v 2) (.bin .mod (.bi .int (.v 1)) (.int 13)))))
    (.cons (.set 4 (.bin .mod (.bi .int (.bin .pow (.bin .add (.bin .add (.bin .mul (.v 3) (.bin .add (.v 1) (.int 3))) (.bin .mod (.bi .int (.v 0)) (.int 65537))) (.int 5)) (.int 5))) (.sub (.v 2) (.bin .mod (.bi .int (.bin .add (.v 1) (.int 5))) (.int 13)))))
    (.cons (.set 5 (.bin .mod (.bi .int (.bin .pow (.bin .add (.bin .add (.v 4) (.bin .mod (.bi .int (.v 3)) (.int 1009))) (.v 1)) (.int 3))) (.sub (.v 2) (.bin .mod (.bi .int (.bin .add (.v 1) (.int 7))) (.int 13)))))
    (.cons (.ret (.bin .add (.bin .mul (.bin .add (.bin .mul (.v 3) (.int 2147483647)) (.v 4)) (.int 2147483647)) (.v 5)))
    .nil))))))))
def b_law_take : Ss := (.cons (.iff (.cmp .lt (.sub (.v 0) (.int 2)) (.v 1))
   (.cons (.set 3 (.sub (.v 0) (.int 1)))
    (.cons (.set 4 (.int 0))
    (.cons (.iff (.cmp .lt (.v 3) (.bi .len (.sub (.v 0) (.int 0))))
   (.cons (.set 4 (.sub (.sub (.v 0) (.int 0)) (.v 3)))
    .nil)
   (.cons (.iff (.cmp .gt (.bi .len (.sub (.v 0) (.int 0))) (.int 0))
   (.cons (.set 4 (.bin .mod (.bi .int (.sub (.sub (.v 0) (.int 0)) (.bin .mod (.bi .int (.bin .add (.bin .mul (.v 3) (.int 5)) (.int 3))) (.bi .len (.sub (.v 0) (.int 0)))))) (.bin .add (.bin .pow (.int 10) (.int 17)) (.v 3))))
    .nil)
   .nil)
    .nil))
    (.cons (.put (.v 0) (.int 1) (.bin .add (.v 3) (.int 1)))
    (.cons (.put (.v 0) (.int 2) (.call 17 (.cons (.v 4) (.cons (.v 3) .nil))))
    .nil)))))
   .nil)
    (.cons (.set 2 (.bin .mod (.bi .int (.sub (.v 0) (.int 2))) (.v 1)))
    (.cons (.put (.v 0) (.int 2) (.bin .fdiv (.sub (.v 0) (.int 2)) (.v 1)))
    (.cons (.ret (.v 2))
    .nil))))
def b_law_one_of : Ss := (.cons (.ret (.sub (.v 1) (.call 18 (.cons (.v 0) (.cons (.bi .len (.v 1)) .nil)))))
    .nil)
def b_law_number : Ss := (.cons (.par [2, 3] (.cons (.bi .abs (.v 0)) (.cons (.v 1) .nil)))
    (.cons (.whl (.cmp .ne (.v 3) (.int 0))
   (.cons (.par [2, 3] (.cons (.v 3) (.cons (.bin .mod (.bi .int (.v 2)) (.v 3)) .nil)))
    .nil))
    (.cons (.ret (.tupK (.cons (.bin .fdiv (.v 0) (.v 2)) (.cons (.bin .fdiv (.v 1) (.v 2)) .nil))))
    .nil)))
def b_law_add : Ss := (.cons (.ret (.call 20 (.cons (.bin .add (.bin .mul (.sub (.v 0) (.int 0)) (.sub (.v 1) (.int 1))) (.bin .mul (.sub (.v 1) (.int 0)) (.sub (.v 0) (.int 1)))) (.cons (.bin .mul (.sub (.v 0) (.int 1)) (.sub (.v 1) (.int 1))) .nil))))
    .nil)
def b_law_total : Ss := (.cons (.set 1 (.tupK (.cons (.int 0) (.cons (.int 1) .nil))))
    (.cons (.fr (.n 2) (.seq (.v 0))
   (.cons (.set 1 (.call 21 (.cons (.v 1) (.cons (.v 2) .nil))))
    .nil))
    (.cons (.ret (.v 1))
    .nil)))
def b_law_any_number : Ss := (.cons (.ret (.call 20 (.cons (.bin .add (.int 1) (.call 18 (.cons (.v 0) (.cons (.int 9) .nil)))) (.cons (.call 19 (.cons (.v 0) (.cons (.lst (.cons (.int 1) (.cons (.int 1) (.cons (.int 1) (.cons (.int 2) (.cons (.int 3) (.cons (.int 4) (.cons (.int 5) (.cons (.int 7) .nil))))))))) .nil))) .nil))))
    .nil)
def b_law_sides : Ss := (.cons (.ret (.tupK (.cons (.bi .len (.v 0)) (.cons (.bi .len (.sub (.v 0) (.int 0))) .nil))))
    .nil)
def b_law_flipped : Ss := (.cons (.ret (.bi .tuple (.lc false [1] (.n 1) (.rng1 (.bi .len (.sub (.v 0) (.int 0)))) .nil (.bi .tuple (.lc false [2] (.n 2) (.seq (.v 0)) .nil (.sub (.v 2) (.v 1)))))))
    .nil)
def b_law_sums : Ss := (.cons (.set 1 (.lc false [2] (.n 2) (.seq (.lst (.cons (.v 0) (.cons (.call 25 (.cons (.v 0) .nil)) .nil)))) .nil (.bi .tuple (.lc false [3] (.n 3) (.seq (.v 2)) .nil (.call 22 (.cons (.v 3) .nil))))))
    (.cons (.ret (.tupK (.cons (.sub (.v 1) (.int 0)) (.cons (.sub (.v 1) (.int 1)) .nil))))
    .nil))
def b_law_spots : Ss := (.cons (.asg (.t (.cons (.n 1) (.cons (.n 2) .nil))) (.call 24 (.cons (.v 0) .nil)))
    (.cons (.ret (.lc false [3, 4] (.t (.cons (.n 3) (.cons (.n 4) .nil))) (.seq (.call 28 (.cons (.v 1) (.cons (.v 2) .nil)))) (.cons (.cmp .ne (.sub (.sub (.v 0) (.v 3)) (.v 4)) (.tupK (.cons (.int 0) (.cons (.int 1) .nil)))) .nil) (.tupK (.cons (.v 3) (.cons (.v 4) .nil)))))
    .nil))
def b_law_pairs : Ss := (.cons (.set 2 (.lst .nil))
    (.cons (.fr (.n 3) (.rng1 (.v 0))
   (.cons (.set 2 (.bin .add (.v 2) (.lc false [4] (.n 4) (.rng1 (.v 1)) .nil (.tupK (.cons (.v 3) (.cons (.v 4) .nil))))))
    .nil))
    (.cons (.ret (.v 2))
    .nil)))
def b_law_by_spots : Ss := (.cons (.ret (.bi .tuple (.lc false [3] (.n 3) (.rng1 (.v 0)) .nil (.bi .tuple (.lc false [4] (.n 4) (.rng1 (.v 1)) .nil (.mt .get2 (.v 2) (.cons (.tupK (.cons (.v 3) (.cons (.v 4) .nil))) (.cons (.tupK (.cons (.int 0) (.cons (.int 1) .nil))) .nil))))))))
    .nil)
def b_law_any_table : Ss := (.cons (.par [5, 6, 7] (.cons (.call 19 (.cons (.v 0) (.cons (.lst (.cons (.int 0) (.cons (.int 1) (.cons (.int 2) (.cons (.int 3) .nil))))) .nil))) (.cons .dnewT (.cons (.call 18 (.cons (.v 0) (.cons (.v 2) .nil))) .nil))))
    (.cons (.fr (.n 3) (.seq (.call 28 (.cons (.v 1) (.cons (.v 2) .nil))))
   (.cons (.iff (.cmp .ge (.call 18 (.cons (.v 0) (.cons (.int 5) .nil))) (.v 5))
   (.cons (.put (.v 6) (.v 3) (.call 23 (.cons (.v 0) .nil)))
    .nil)
   .nil)
    .nil))
    (.cons (.fr (.n 4) (.rng1 (.bi .max (.lst (.cons (.v 1) (.cons (.v 2) .nil)))))
   (.cons (.set 3 (.tupK (.cons (.bin .mod (.bi .int (.v 4)) (.v 1)) (.cons (.bin .mod (.bi .int (.bin .add (.v 4) (.v 7))) (.v 2)) .nil))))
    (.cons (.iff (.cmp .nmem (.v 3) (.v 6))
   (.cons (.put (.v 6) (.v 3) (.call 23 (.cons (.v 0) .nil)))
    .nil)
   .nil)
    .nil)))
    (.cons (.ret (.call 29 (.cons (.v 1) (.cons (.v 2) (.cons (.v 6) .nil)))))
    .nil))))
def b_law_any_size : Ss := (.cons (.ret (.tupK (.cons (.bin .add (.int 1) (.call 18 (.cons (.v 0) (.cons (.v 1) .nil)))) (.cons (.bin .add (.int 1) (.call 18 (.cons (.v 0) (.cons (.v 1) .nil)))) .nil))))
    .nil)
def b_law : Ss := (.cons (.set 1 (.call 16 (.cons (.v 0) .nil)))
    (.cons (.fr (.n 2) (.rng1 (.int 4))
   (.cons (.asg (.t (.cons (.n 5) (.cons (.n 6) .nil))) (.call 31 (.cons (.v 1) (.cons (.int 6) .nil))))
    (.cons (.set 3 (.call 30 (.cons (.v 1) (.cons (.v 5) (.cons (.v 6) .nil)))))
    (.cons (.par [7, 8] (.cons (.bi .repr (.v 3)) (.cons (.call 26 (.cons (.v 3) .nil)) .nil)))
    (.cons (.fr (.n 4) (.rng1 (.int 2))
   (.cons (.set 9 (.call 15 (.cons (.v 3) .nil)))
    (.cons (.iff (.or (.cmp .ne (.bi .repr (.lst (.cons (.call 13 (.cons (.v 3) .nil)) (.cons (.call 14 (.cons (.v 3) .nil)) .nil)))) (.bi .repr (.bi .list (.v 8)))) (.cmp .ne (.bi .repr (.v 9)) (.bi .repr (.call 27 (.cons (.v 3) .nil)))))
   (.cons (.ret (.bl false))
    .nil)
   .nil)
    (.cons (.ex (.mt .append (.v 9) (.cons .non .nil)))
    .nil))))
    (.cons (.iff (.or (.cmp .notB (.call 8 (.cons (.v 3) .nil)) (.bl true)) (.cmp .ne (.bi .repr (.v 3)) (.v 7)))
   (.cons (.ret (.bl false))
    .nil)
   .nil)
    .nil))))))
    (.cons (.ret (.bl true))
    .nil)))
def tab : Tab where
  fns := [⟨"is_integer", 1, 1, b_is_integer⟩,
    ⟨"divisor_of", 2, 2, b_divisor_of⟩,
    ⟨"raw_number", 2, 3, b_raw_number⟩,
    ⟨"is_number", 1, 1, b_is_number⟩,
    ⟨"raw_plus", 2, 2, b_raw_plus⟩,
    ⟨"sum_of", 1, 3, b_sum_of⟩,
    ⟨"is_row", 1, 2, b_is_row⟩,
    ⟨"columns_of", 1, 3, b_columns_of⟩,
    ⟨"is_table", 1, 3, b_is_table⟩,
    ⟨"need_table", 1, 1, b_need_table⟩,
    ⟨"raw_row_sums", 1, 2, b_raw_row_sums⟩,
    ⟨"raw_column_sums", 1, 2, b_raw_column_sums⟩,
    ⟨"raw_places", 1, 4, b_raw_places⟩,
    ⟨"row_sums", 1, 1, b_row_sums⟩,
    ⟨"column_sums", 1, 1, b_column_sums⟩,
    ⟨"places", 1, 1, b_places⟩,
    ⟨"_law_open", 1, 4, b_law_open⟩,
    ⟨"_law_spread", 2, 6, b_law_spread⟩,
    ⟨"_law_take", 2, 5, b_law_take⟩,
    ⟨"_law_one_of", 2, 2, b_law_one_of⟩,
    ⟨"_law_number", 2, 4, b_law_number⟩,
    ⟨"_law_add", 2, 2, b_law_add⟩,
    ⟨"_law_total", 1, 3, b_law_total⟩,
    ⟨"_law_any_number", 1, 1, b_law_any_number⟩,
    ⟨"_law_sides", 1, 1, b_law_sides⟩,
    ⟨"_law_flipped", 1, 3, b_law_flipped⟩,
    ⟨"_law_sums", 1, 4, b_law_sums⟩,
    ⟨"_law_spots", 1, 5, b_law_spots⟩,
    ⟨"_law_pairs", 2, 5, b_law_pairs⟩,
    ⟨"_law_by_spots", 3, 5, b_law_by_spots⟩,
    ⟨"_law_any_table", 3, 8, b_law_any_table⟩,
    ⟨"_law_any_size", 2, 2, b_law_any_size⟩,
    ⟨"law", 1, 10, b_law⟩]
  cns := [("NOUGHT", .tup [.int 0, .int 1]), ("MOST_SIDE", .int 6)]
  exs := ["NoTable"]
abbrev lawIx : Nat := 32
end K33

set_option Elab.async false
set_option linter.all false
set_option maxRecDepth 100000
set_option maxHeartbeats 1000000
namespace K33
open PySem PyI
@[simp] theorem cn0 : tab.cns[0]? = some (("NOUGHT" : PySem.Str), D.tup [.int 0, .int 1]) := rfl
@[simp] theorem cn1 : tab.cns[1]? = some (("MOST_SIDE" : PySem.Str), D.int 6) := rfl
theorem c_divisor (k : Nat) (a b : Int) (h : Hea) (ha : 0 ≤ a) (hb : 0 ≤ b) : callF tab (k + 1) 1 [.int a, .int b] h = .ok (.int (Int.gcd a b)) h := by
  rw [callF_at (f := ⟨"divisor_of", 2, 2, b_divisor_of⟩) rfl rfl]
  have loop := gcd_loop (mk := fun a b => [some (.int a), some (.int b)]) (t := (ev tab (callF tab k) (.cmp .ne (.v 1) (.int 0))).tst)
    (turn := exB tab (callF tab k) (.cons (.par [0, 1] (.cons (.v 1) (.cons (.bin .mod (.v 0) (.v 1)) .nil))) .nil)) (h := h) (by intro a b; simp [cmp_ne]) (by intro a b hb; simp [bin_mod hb]) b.toNat a b ha hb (Nat.le_refl _)
  simp [b_divisor_of, s_whl, loop]

/-! ### numbers -/
abbrev Nu := Int × Int
def nrm (n d : Int) : Nu := (n / (Int.gcd n d : Nat), d / (Int.gcd n d : Nat))
def numD (p : Nu) : D := .plc [.int p.1, .int p.2]
/-- x is the number p -/
def IsN (x : D) (p : Nu) : Prop := tupV x = some [.int p.1, .int p.2]
theorem isN_numD (p : Nu) : IsN (numD p) p := rfl
/-- within b -/
def Bnd (b : Int) (p : Nu) : Prop := -b ≤ p.1 ∧ p.1 ≤ b ∧ 1 ≤ p.2 ∧ p.2 ≤ b
theorem Bnd.mono {b c : Int} {p : Nu} (h : Bnd b p) (l : b ≤ c) : Bnd c p := by
  obtain ⟨h1, h2, h3, h4⟩ := h
  exact ⟨by omega, by omega, h3, by omega⟩
theorem gcd_pos {n d : Int} (hd : 0 < d) : 0 < ((Int.gcd n d : Nat) : Int) := by
  have := Int.gcd_pos_of_ne_zero_right n (show d ≠ 0 by omega)
  omega
theorem gcd_le {n d : Int} (hd : 0 < d) : ((Int.gcd n d : Nat) : Int) ≤ d := Int.le_of_dvd hd (Int.gcd_dvd_right n d)
theorem gcd_abs (n d : Int) : Int.gcd (if n < 0 then -n else n) d = Int.gcd n d := by
  split
  · exact Int.neg_gcd
  · rfl
theorem nrm_bnd {n d b : Int} (h1 : -b ≤ n) (h2 : n ≤ b) (h3 : 1 ≤ d) (h4 : d ≤ b) : Bnd b (nrm n d) := by
  have g0 := gcd_pos (n := n) (show 0 < d by omega)
  have g1 := gcd_le (n := n) (show 0 < d by omega)
  have dn := Int.gcd_dvd_left n d
  have dd := Int.gcd_dvd_right n d
  unfold nrm Bnd
  generalize ((Int.gcd n d : Nat) : Int) = g at *
  obtain ⟨x, rfl⟩ := dn
  obtain ⟨y, rfl⟩ := dd
  simp only
  rw [Int.mul_ediv_cancel_left _ (by omega), Int.mul_ediv_cancel_left _ (by omega)]
  have y1 : 1 ≤ y := by
    by_cases z : 1 ≤ y
    · exact z
    · have : g * y ≤ 0 := Int.mul_nonpos_of_nonneg_of_nonpos (by omega) (by omega)
      omega
  have yb : y ≤ g * y := by
    have := Int.mul_le_mul_of_nonneg_right (show 1 ≤ g by omega) (show 0 ≤ y by omega)
    omega
  have xb : x ≤ b ∧ -b ≤ x := by
    by_cases z : 0 ≤ x
    · have := Int.mul_le_mul_of_nonneg_right (show 1 ≤ g by omega) z
      constructor <;> omega
    · have := Int.mul_le_mul_of_nonneg_right (show 1 ≤ g by omega) (show 0 ≤ -x by omega)
      simp only [Int.mul_neg] at this
      constructor <;> omega
  exact ⟨xb.2, xb.1, y1, by omega⟩
theorem small {b : Int} {i : Int} (hb : b < 2 ^ 200) (h1 : -b ≤ i) (h2 : i ≤ b) : i.natAbs < 2 ^ 200 := by
  have : (i.natAbs : Int) < 2 ^ 200 := by omega
  exact_mod_cast this
theorem small_mul {b : Int} {i j : Int} (hb : b < 2 ^ 200) (h1 : -b ≤ i) (h2 : i ≤ b) (h3 : -b ≤ j) (h4 : j ≤ b) : mulOk i j = true := by
  refine mul_ok (Nat.lt_of_lt_of_le (small hb h1 h2) ?_) (Nat.lt_of_lt_of_le (small hb h3 h4) ?_) <;> exact Nat.pow_le_pow_right (by decide) (by decide)
theorem log_ok {g b : Int} (hb : b < 2 ^ 200) (h0 : 0 ≤ g) (h : g ≤ b) : g.natAbs.log2 < 9000 := by
  have := log2_lt (small hb (show -b ≤ g by omega) h) (by decide)
  omega
theorem c_raw_number (k : Nat) {n d b : Int} (h : Hea) (hb : b < 2 ^ 200) (h3 : 1 ≤ d) (h4 : d ≤ b) : callF tab (k + 2) 2 [.int n, .int d] h = .ok (numD (nrm n d)) h := by
  rw [callF_at (f := ⟨"raw_number", 2, 3, b_raw_number⟩) rfl rfl]
  have hd : 0 < d := by omega
  have e := c_divisor k (if n < 0 then -n else n) d h (by split <;> omega) (by omega)
  rw [gcd_abs] at e
  have g0 := gcd_pos (n := n) hd
  have g1 := gcd_le (n := n) hd
  simp [b_raw_number, e, bin_fdiv g0 (log_ok hb (by omega) (show _ ≤ b by omega)), sizeLine, numD, nrm]
def plus (a b : Nu) : Nu := nrm (a.1 * b.2 + b.1 * a.2) (a.2 * b.2)
theorem mul_bnd {a b c d : Int} (h1 : -a ≤ c) (h2 : c ≤ a) (h3 : -b ≤ d) (h4 : d ≤ b) (ha : 0 ≤ a) (hb : 0 ≤ b) : -(a * b) ≤ c * d ∧ c * d ≤ a * b := by
  have e : (c * d).natAbs ≤ (a * b).natAbs := by
    rw [Int.natAbs_mul, Int.natAbs_mul]
    exact Nat.mul_le_mul (by omega) (by omega)
  have n0 : 0 ≤ a * b := Int.mul_nonneg ha hb
  omega
theorem plus_bnd {a b : Nu} {x y : Int} (ha : Bnd x a) (hb : Bnd y b) : Bnd (2 * (x * y)) (plus a b) := by
  obtain ⟨a1, a2, a3, a4⟩ := ha
  obtain ⟨b1, b2, b3, b4⟩ := hb
  have m1 := mul_bnd a1 a2 (show -y ≤ b.2 by omega) b4 (by omega) (by omega)
  have m2 := mul_bnd b1 b2 (show -x ≤ a.2 by omega) a4 (by omega) (by omega)
  have m3 := mul_bnd (show -x ≤ a.2 by omega) a4 (show -y ≤ b.2 by omega) b4 (by omega) (by omega)
  rw [Int.mul_comm y x] at m2
  have p : 0 < a.2 * b.2 := Int.mul_pos (by omega) (by omega)
  exact nrm_bnd (by omega) (by omega) (by omega) (by omega)
theorem sub_0 {x : D} {p : Nu} {h : Hea} (e : IsN x p) : subR h x (.int 0) = some (.int p.1) := sub_seq (seq_of_tup e) (atI_nat (by decide) rfl)
theorem sub_1 {x : D} {p : Nu} {h : Hea} (e : IsN x p) : subR h x (.int 1) = some (.int p.2) := sub_seq (seq_of_tup e) (atI_nat (by decide) rfl)
theorem c_raw_plus (k : Nat) {a b : D} {p q : Nu} {x y : Int} (h : Hea) (ea : IsN a p) (eb : IsN b q) (ha : Bnd x p) (hb : Bnd y q) (hs : 2 * (x * y) < 2 ^ 200) (hx : x < 2 ^ 200) (hy : y < 2 ^ 200) : callF tab (k + 3) 4 [a, b] h = .ok (numD (plus p q)) h := by
  rw [callF_at (f := ⟨"raw_plus", 2, 2, b_raw_plus⟩) rfl rfl]
  obtain ⟨a1, a2, a3, a4⟩ := ha
  obtain ⟨b1, b2, b3, b4⟩ := hb
  have m3 := mul_bnd (show -x ≤ p.2 by omega) a4 (show -y ≤ q.2 by omega) b4 (by omega) (by omega)
  have pp : 0 < p.2 * q.2 := Int.mul_pos (by omega) (by omega)
  have mx : ∀ {i j : Int}, -x ≤ i → i ≤ x → -y ≤ j → j ≤ y → mulOk i j = true := fun {i j} i1 i2 j1 j2 => small_mul (b := max x y) (by omega) (by omega) (by omega) (by omega) (by omega)
  have my : ∀ {i j : Int}, -y ≤ i → i ≤ y → -x ≤ j → j ≤ x → mulOk i j = true := fun {i j} i1 i2 j1 j2 => small_mul (b := max x y) (by omega) (by omega) (by omega) (by omega) (by omega)
  have e := c_raw_number (n := p.1 * q.2 + q.1 * p.2) (d := p.2 * q.2) k h hs (by omega) (by omega)
  simp [b_raw_plus, sub_0 ea, sub_1 ea, sub_0 eb, sub_1 eb, bin_mul (mx a1 a2 (show -y ≤ q.2 by omega) b4), bin_mul (my b1 b2 (show -x ≤ p.2 by omega) a4), bin_mul (mx (show -x ≤ p.2 by omega) a4 (show -y ≤ q.2 by omega) b4), bin_add, e, plus]

/-! ### sums -/
def total (ps : List Nu) : Nu := ps.foldl plus (0, 1)
theorem total_snoc (ps : List Nu) (p : Nu) : total (ps ++ [p]) = plus (total ps) p := by simp [total]
theorem total_bnd : ∀ (n : Nat) (ps : List Nu), ps.length = n → (∀ p ∈ ps, Bnd 9 p) → Bnd (18 ^ n) (total ps)
  | 0, ps, e, _ => by
    cases ps with
    | nil => exact ⟨by decide, by decide, by decide, by decide⟩
    | cons _ _ => cases e
  | n + 1, ps, e, h => by
    obtain ⟨r, p, rfl⟩ : ∃ r p, ps = r ++ [p] := by
      refine ⟨ps.dropLast, ps.getLast (by intro z; rw [z] at e; cases e), ?_⟩
      exact (List.dropLast_concat_getLast _).symm
    rw [total_snoc]
    have ih := total_bnd n r (by simpa using e) (fun p hp => h p (List.mem_append_left _ hp))
    have := plus_bnd ih (h p (List.mem_append_right _ List.mem_cons_self))
    refine this.mono ?_
    rw [Int.pow_succ]; omega
theorem pow18 {n : Nat} (h : n ≤ 6) : (18 : Int) ^ n < 2 ^ 100 := by
  have : (18 : Int) ^ n ≤ 18 ^ 6 := by
    have := Nat.pow_le_pow_right (n := 18) (by decide) h
    exact_mod_cast this
  have e : (18 : Int) ^ 6 < 2 ^ 100 := by decide
  omega
/-- the items of a row -/
def IsNs (xs : List D) (ps : List Nu) : Prop := xs.length = ps.length ∧ ∀ (i : Nat) (x : D), xs[i]? = some x → ∃ p, ps[i]? = some p ∧ IsN x p
theorem take_snoc {α : Type} {l : List α} {i : Nat} {x : α} (e : l[i]? = some x) : l.take (i + 1) = l.take i ++ [x] := by
  rw [List.take_add_one, e]; rfl
/-- the sum's loop, in slots a (the sum) and b (the item), by the i-th def that adds -/
theorem sum_loop {mk : D → Option D → PyI.Loc} {xs : List D} {ps : List Nu} {turn : D → PyI.Loc → Hea → SR} {h : Hea} {d0 : D} (e : IsNs xs ps) (h6 : ps.length ≤ 6) (hb : ∀ p ∈ ps, Bnd 9 p) (d00 : IsN d0 (0, 1))
    (ht : ∀ (x d : D) (v : Option D) (p q : Nu) (i : Nat), i ≤ 5 → IsN d p → IsN x q → Bnd (18 ^ i) p → Bnd 9 q → turn x (mk d v) h = .ok .nx (mk (numD (plus p q)) (some x)) h) (v0 : Option D) :
    ∃ d v, frLoop turn xs (mk d0 v0) h = .ok .nx (mk d v) h ∧ IsN d (total ps) ∧ (ps ≠ [] → d = numD (total ps)) := by
  obtain ⟨ρ', h', e1, d, v, rfl, rfl, e2, e3⟩ := frLoop_inv (turn := turn) (fun i ρ h' => ∃ d v, ρ = mk d v ∧ h' = h ∧ IsN d (total (ps.take i)) ∧ (i ≠ 0 → d = numD (total (ps.take i)))) xs 0 (mk d0 v0) h
    (fun i x ρ h' ex hi => by
      obtain ⟨d, v, rfl, rfl, e1, _⟩ := hi
      rw [Nat.zero_add] at e1 ⊢
      obtain ⟨q, eq, iq⟩ := e.2 i x ex
      have il : i < ps.length := (List.getElem?_eq_some_iff.mp eq).1
      have tk := take_snoc eq
      have pl : plus (total (ps.take i)) q = total (ps.take (i + 1)) := by rw [tk, total_snoc]
      refine ⟨_, _, ht x d v _ q i (by omega) e1 iq (total_bnd i _ (by simp; omega) fun p hp => hb p (List.mem_of_mem_take hp)) (hb q (List.mem_of_getElem? eq)), _, _, rfl, rfl, ?_, fun _ => ?_⟩
      · rw [pl]; exact isN_numD _
      · rw [pl])
    ⟨d0, v0, rfl, rfl, d00, fun z => absurd rfl z⟩
  rw [Nat.zero_add, e.1, List.take_length] at e2 e3
  exact ⟨d, v, e1, e2, fun z => e3 (by intro y; exact z (List.length_eq_zero_iff.mp y))⟩
theorem c_sum_of (k : Nat) {t : D} {xs : List D} {ps : List Nu} (h : Hea) (et : itV t = some xs) (e : IsNs xs ps) (h6 : ps.length ≤ 6) (hb : ∀ p ∈ ps, Bnd 9 p) :
    ∃ d, callF tab (k + 4) 5 [t] h = .ok d h ∧ IsN d (total ps) ∧ (ps ≠ [] → d = numD (total ps)) := by
  rw [callF_at (f := ⟨"sum_of", 1, 3, b_sum_of⟩) rfl rfl]
  obtain ⟨d, v, e1, e2, e3⟩ := sum_loop (mk := fun d v => [some t, some d, v]) (d0 := .tup [.int 0, .int 1]) (v0 := none) (h := h)
    (turn := fun x ρ h => match evG (.n 2) ρ x with | some ρ1 => exB tab (callF tab (k + 3)) (.cons (.set 1 (.call 4 (.cons (.v 1) (.cons (.v 2) .nil)))) .nil) ρ1 h | none => .no) e h6 hb rfl
    (fun x d v p q i hi ip iq bp bq => by
      have c := c_raw_plus k h ip iq bp bq (by have := pow18 (n := i) (by omega); omega) (by have := pow18 (n := i) (by omega); omega) (by decide)
      simp [c])
  refine ⟨d, ?_, e2, e3⟩
  simp at e1
  simp [b_sum_of, s_fr, et, e1]

/-! ### the law's own sums -/
theorem l_number (k : Nat) {n d b : Int} (h : Hea) (hb : b < 2 ^ 200) (h3 : 1 ≤ d) (h4 : d ≤ b) : callF tab (k + 1) 20 [.int n, .int d] h = .ok (numD (nrm n d)) h := by
  rw [callF_at (f := ⟨"_law_number", 2, 4, b_law_number⟩) rfl rfl]
  have hd : 0 < d := by omega
  have loop := gcd_loop (mk := fun a c => [some (.int n), some (.int d), some (.int a), some (.int c)]) (t := (ev tab (callF tab k) (.cmp .ne (.v 3) (.int 0))).tst)
    (turn := exB tab (callF tab k) (.cons (.par [2, 3] (.cons (.v 3) (.cons (.bin .mod (.bi .int (.v 2)) (.v 3)) .nil))) .nil)) (h := h) (by intro a b; simp [cmp_ne]) (by intro a b hb; simp [bin_mod hb])
    d.toNat (if n < 0 then -n else n) d (by split <;> omega) (by omega) (Nat.le_refl _)
  rw [gcd_abs] at loop
  have g0 := gcd_pos (n := n) hd
  have g1 := gcd_le (n := n) hd
  simp [b_law_number, s_whl, loop, bin_fdiv g0 (log_ok hb (by omega) (show _ ≤ b by omega)), sizeLine, numD, nrm]
theorem l_add (k : Nat) {a b : D} {p q : Nu} {x y : Int} (h : Hea) (ea : IsN a p) (eb : IsN b q) (ha : Bnd x p) (hb : Bnd y q) (hs : 2 * (x * y) < 2 ^ 200) (hx : x < 2 ^ 200) (hy : y < 2 ^ 200) : callF tab (k + 2) 21 [a, b] h = .ok (numD (plus p q)) h := by
  rw [callF_at (f := ⟨"_law_add", 2, 2, b_law_add⟩) rfl rfl]
  obtain ⟨a1, a2, a3, a4⟩ := ha
  obtain ⟨b1, b2, b3, b4⟩ := hb
  have m3 := mul_bnd (show -x ≤ p.2 by omega) a4 (show -y ≤ q.2 by omega) b4 (by omega) (by omega)
  have pp : 0 < p.2 * q.2 := Int.mul_pos (by omega) (by omega)
  have mx : ∀ {i j : Int}, -x ≤ i → i ≤ x → -y ≤ j → j ≤ y → mulOk i j = true := fun {i j} i1 i2 j1 j2 => small_mul (b := max x y) (by omega) (by omega) (by omega) (by omega) (by omega)
  have my : ∀ {i j : Int}, -y ≤ i → i ≤ y → -x ≤ j → j ≤ x → mulOk i j = true := fun {i j} i1 i2 j1 j2 => small_mul (b := max x y) (by omega) (by omega) (by omega) (by omega) (by omega)
  have e := l_number (n := p.1 * q.2 + q.1 * p.2) (d := p.2 * q.2) k h hs (by omega) (by omega)
  simp [b_law_add, sub_0 ea, sub_1 ea, sub_0 eb, sub_1 eb, bin_mul (mx a1 a2 (show -y ≤ q.2 by omega) b4), bin_mul (my b1 b2 (show -x ≤ p.2 by omega) a4), bin_mul (mx (show -x ≤ p.2 by omega) a4 (show -y ≤ q.2 by omega) b4), bin_add, e, plus]
theorem l_total (k : Nat) {t : D} {xs : List D} {ps : List Nu} (h : Hea) (et : itV t = some xs) (e : IsNs xs ps) (h6 : ps.length ≤ 6) (hb : ∀ p ∈ ps, Bnd 9 p) (ne : ps ≠ []) :
    callF tab (k + 3) 22 [t] h = .ok (numD (total ps)) h := by
  rw [callF_at (f := ⟨"_law_total", 1, 3, b_law_total⟩) rfl rfl]
  obtain ⟨d, v, e1, e2, e3⟩ := sum_loop (mk := fun d v => [some t, some d, v]) (d0 := .plc [.int 0, .int 1]) (v0 := none) (h := h)
    (turn := fun x ρ h => match evG (.n 2) ρ x with | some ρ1 => exB tab (callF tab (k + 2)) (.cons (.set 1 (.call 21 (.cons (.v 1) (.cons (.v 2) .nil)))) .nil) ρ1 h | none => .no) e h6 hb rfl
    (fun x d v p q i hi ip iq bp bq => by
      have c := l_add k h ip iq bp bq (by have := pow18 (n := i) (by omega); omega) (by have := pow18 (n := i) (by omega); omega) (by decide)
      simp [c])
  rw [e3 ne] at e1
  simp at e1
  simp [b_law_total, s_fr, et, sizeLine, e1]
/-! ### tables -/
abbrev Rw := List Nu
def rowD (r : Rw) : D := .tup (r.map numD)
def tblD (t : List Rw) : D := .tup (t.map rowD)
theorem isNs_map (r : Rw) : IsNs (r.map numD) r := by
  refine ⟨by simp, fun i x e => ?_⟩
  rw [List.getElem?_map] at e
  cases er : r[i]? with
  | none => rw [er] at e; cases e
  | some p => rw [er] at e; cases e; exact ⟨p, rfl, rfl⟩
/-- the number is in lowest terms, not below nought -/
def Low (p : Nu) : Prop := Bnd 9 p ∧ 0 ≤ p.1 ∧ Int.gcd p.1 p.2 = 1
/-- a table of m rows, n columns -/
structure Tbl (m n : Nat) (t : List Rw) : Prop where
  rows : t.length = m
  m1 : 1 ≤ m
  m6 : m ≤ 6
  n1 : 1 ≤ n
  n6 : n ≤ 6
  cols : ∀ r ∈ t, r.length = n
  low : ∀ r ∈ t, ∀ p ∈ r, Low p
theorem Tbl.ne {m n : Nat} {t : List Rw} (T : Tbl m n t) {r : Rw} (hr : r ∈ t) : r ≠ [] := by
  intro z
  have := T.cols r hr
  rw [z] at this
  have := T.n1
  simp at *
  omega
theorem c_sum_row (k : Nat) {m n : Nat} {t : List Rw} (T : Tbl m n t) {r : Rw} (hr : r ∈ t) (h : Hea) : callF tab (k + 4) 5 [rowD r] h = .ok (numD (total r)) h := by
  obtain ⟨d, e, _, e3⟩ := c_sum_of k (t := rowD r) h rfl (isNs_map r) (by rw [T.cols r hr]; exact T.n6) (fun p hp => (T.low r hr p hp).1)
  rw [e, e3 (T.ne hr)]
theorem l_sum_row (k : Nat) {m n : Nat} {t : List Rw} (T : Tbl m n t) {r : Rw} (hr : r ∈ t) (h : Hea) : callF tab (k + 3) 22 [rowD r] h = .ok (numD (total r)) h :=
  l_total k h rfl (isNs_map r) (by rw [T.cols r hr]; exact T.n6) (fun p hp => (T.low r hr p hp).1) (T.ne hr)
theorem c_raw_row_sums (k : Nat) {m n : Nat} {t : List Rw} (T : Tbl m n t) (h : Hea) : callF tab (k + 5) 10 [tblD t] h = .ok (rowD (t.map total)) h := by
  rw [callF_at (f := ⟨"raw_row_sums", 1, 2, b_raw_row_sums⟩) rfl rfl]
  have e : lcLoop (lcTurn [1] (.n 1) (evC tab (callF tab (k + 4)) .nil) (ev tab (callF tab (k + 4)) (.call 5 (.cons (.v 1) .nil))).val [some (tblD t), none]) (t.map rowD) [] h = .ok (t.map fun r => numD (total r)) h :=
    lcLoop_all t (fun r hr => by simp [lcTurn, wipeD, Res.noErr, c_sum_row k T hr]) (by rw [T.rows]; have := T.m6; simp [sizeLine]; omega)
  simp [b_raw_row_sums, tblD] at e ⊢
  simp [e, rowD]
end K33

set_option Elab.async false
set_option linter.all false
set_option maxRecDepth 100000
set_option maxHeartbeats 1000000
namespace K33
open PySem PyI
/-! ### what a table is -/
@[simp] theorem itV_row {r : Rw} : itV (rowD r) = some (r.map numD) := rfl
@[simp] theorem itV_tbl {t : List Rw} : itV (tblD t) = some (t.map rowD) := rfl
@[simp] theorem seqV_row {r : Rw} {h : Hea} : seqV h (rowD r) = some (r.map numD) := rfl
@[simp] theorem seqV_tbl {t : List Rw} {h : Hea} : seqV h (tblD t) = some (t.map rowD) := rfl
@[simp] theorem isi_row {r : Rw} {h : Hea} : isiR h (rowD r) .tuple = some true := rfl
@[simp] theorem isi_tbl {t : List Rw} {h : Hea} : isiR h (tblD t) .tuple = some true := rfl
theorem len_row {r : Rw} {h : Hea} : biR .len h (rowD r) = .ok (.int r.length) h := by rw [bi_len (xs := r.map numD) rfl]; simp
theorem len_tbl {t : List Rw} {h : Hea} : biR .len h (tblD t) = .ok (.int t.length) h := by rw [bi_len (xs := t.map rowD) rfl]; simp
theorem c_is_integer (k : Nat) (i : Int) (h : Hea) : callF tab (k + 1) 0 [.int i] h = .ok (.bl true) h := by
  rw [callF_at (f := ⟨"is_integer", 1, 1, b_is_integer⟩) rfl rfl]
  simp [b_is_integer, isiR]
theorem low_gcd {p : Nu} (l : Low p) : Int.gcd (if p.1 < 0 then -p.1 else p.1) p.2 = 1 := by rw [gcd_abs]; exact l.2.2
theorem isi_plc {xs : List D} {h : Hea} : isiR h (.plc xs) .tuple = some true := rfl
theorem isi_tup {xs : List D} {h : Hea} : isiR h (.tup xs) .tuple = some true := rfl
theorem c_is_number (k : Nat) {p : Nu} (l : Low p) (h : Hea) : callF tab (k + 2) 3 [numD p] h = .ok (.bl true) h := by
  rw [callF_at (f := ⟨"is_number", 1, 1, b_is_number⟩) rfl rfl]
  have e0 := c_divisor k (if p.1 < 0 then -p.1 else p.1) p.2 h (by split <;> omega) (by have := l.1.2.2.1; omega)
  rw [low_gcd l] at e0
  have n0 : ¬ p.1 < 0 := by have := l.2.1; omega
  rw [if_neg n0] at e0
  have s0 : subR h (numD p) (.int 0) = some (.int p.1) := sub_0 (isN_numD p)
  have s1 : subR h (numD p) (.int 1) = some (.int p.2) := sub_1 (isN_numD p)
  have ln : biR .len h (numD p) = .ok (.int 2) h := rfl
  have it : isiR h (numD p) .tuple = some true := rfl
  have p2 := l.1.2.2.1
  simp [b_is_number, it, ln, s0, s1, c_is_integer, cmp_ne, cmp_ge, cmp_eq, n0, e0, p2]
theorem c_is_row (k : Nat) {r : Rw} (h1 : 1 ≤ r.length) (h6 : r.length ≤ 6) (l : ∀ p ∈ r, Low p) (h : Hea) : callF tab (k + 3) 6 [rowD r] h = .ok (.bl true) h := by
  rw [callF_at (f := ⟨"is_row", 1, 2, b_is_row⟩) rfl rfl]
  have e : lcLoop (lcTurn [1] (.n 1) (evC tab (callF tab (k + 2)) .nil) (ev tab (callF tab (k + 2)) (.and (.call 3 (.cons (.v 1) .nil)) (.cmp .ge (.sub (.v 1) (.int 0)) (.int 0)))).val [some (rowD r), none]) (r.map numD) [] h = .ok (r.map fun _ => .bl true) h :=
    lcLoop_all r (fun p hp => by
      have s0 : subR h (numD p) (.int 0) = some (.int p.1) := sub_0 (isN_numD p)
      have := (l p hp).2.1
      simp [lcTurn, wipeD, Res.noErr, c_is_number k (l p hp), s0, cmp_ge, this]) (by simp [sizeLine]; omega)
  have al : biR .all h (.lst (r.map fun _ => .bl true)) = .ok (.bl true) h := by
    have := bi_all (bs := r.map fun _ => true) (h := h)
    rw [List.map_map] at this
    rw [show (r.map fun _ => D.bl true) = r.map (D.bl ∘ fun _ => true) from rfl, this]
    congr 2
    simp
  have h1' : (1 : Int) ≤ r.length := by omega
  have h6' : (r.length : Int) ≤ 6 := by omega
  simp [b_is_row, len_row, cmp_le, e, al, h1', h6']
def colsOf (n : Nat) (t : List Rw) : List Rw := (List.range n).map fun j => t.map fun r => r.getD j (0, 1)
theorem sub_row {r : Rw} {j : Nat} (hj : j < r.length) (h : Hea) : subR h (rowD r) (.int (j : Int)) = some (numD (r.getD j (0, 1))) := by
  refine sub_seq (xs := r.map numD) rfl (atI_nat (by omega) ?_)
  simp [List.getElem?_map, List.getElem?_eq_getElem hj, List.getD_eq_getElem?_getD]
theorem sub_tbl {t : List Rw} {i : Nat} {r : Rw} (e : t[i]? = some r) (h : Hea) : subR h (tblD t) (.int (i : Int)) = some (rowD r) := by
  refine sub_seq (xs := t.map rowD) rfl (atI_nat (by omega) ?_)
  simp [List.getElem?_map, e]
theorem Tbl.r0 {m n : Nat} {t : List Rw} (T : Tbl m n t) : ∃ r, t[0]? = some r ∧ r ∈ t ∧ r.length = n := by
  have h0 : 0 < t.length := by rw [T.rows]; exact T.m1
  exact ⟨t[0], List.getElem?_eq_getElem h0, List.getElem_mem h0, T.cols _ (List.getElem_mem h0)⟩
theorem le_size {n : Nat} (h : n ≤ 1000) : n ≤ sizeLine := Nat.le_trans h (by decide)
theorem col_in {cf : Nat → List D → Hea → Res D} {m n : Nat} {t : List Rw} (T : Tbl m n t) {j : Nat} (hj : j < n) (h : Hea) :
    lcLoop (lcTurn [2] (.n 2) (evC tab cf .nil) (ev tab cf (.sub (.v 2) (.v 1))).val [some (tblD t), some (.int (j : Int)), none]) (t.map rowD) [] h = .ok (t.map fun r => numD (r.getD j (0, 1))) h :=
  lcLoop_all t (fun r hr => by simp [lcTurn, wipeD, Res.noErr, sub_row (show j < r.length by rw [T.cols r hr]; exact hj)]) (le_size (by rw [T.rows]; have := T.m6; omega))
theorem col_out {cf : Nat → List D → Hea → Res D} {m n : Nat} {t : List Rw} (T : Tbl m n t) (h : Hea) :
    lcLoop (lcTurn [1] (.n 1) (evC tab cf .nil) (ev tab cf (.bi .tuple (.lc false [2] (.n 2) (.seq (.v 0)) .nil (.sub (.v 2) (.v 1))))).val [some (tblD t), none, none]) ((List.range n).map fun i : Nat => D.int (i : Int)) [] h
      = .ok ((List.range n).map fun j => rowD (t.map fun r => r.getD j (0, 1))) h :=
  lcLoop_all (List.range n) (fun j hj => by
      have i1 := col_in (cf := cf) T (List.mem_range.mp hj) h
      show (need (evG (.n 1) [some (tblD t), none, none] (.int (j : Int))) _).noErr = _
      simp [i1, Res.noErr, rowD]) (le_size (by rw [List.length_range]; have := T.n6; omega))
theorem c_columns_of0 (k : Nat) {m n : Nat} {t : List Rw} (T : Tbl m n t) (h : Hea) : evI tab (callF tab k) (.rng1 (.bi .len (.sub (.v 0) (.int 0)))) [some (tblD t), none, none] h = .ok ((List.range n).map fun i : Nat => D.int (i : Int)) h := by
  obtain ⟨r, e0, hr, hl⟩ := T.r0
  have s0 : subR h (tblD t) (.int 0) = some (rowD r) := sub_tbl e0 h
  refine i_rng1_of ?_ (by have := T.n6; omega)
  simp [s0, len_row, hl]
theorem c_columns_of1 (k : Nat) {m n : Nat} {t : List Rw} (T : Tbl m n t) (h : Hea) : exB tab (callF tab k) b_columns_of [some (tblD t), none, none] h = .ok (.ret (.lst ((colsOf n t).map rowD))) [some (tblD t), none, none] h := by
  have e := col_out (cf := callF tab k) T h
  unfold b_columns_of
  rw [s_cons, s_ret, v_lc, c_columns_of0 k T h, Res.bind_ok, e, Res.bind_ok, mkL_f, Res.st_ok, SR.thn_ret]
  simp only [colsOf, List.map_map]
  rfl
theorem c_columns_of (k : Nat) {m n : Nat} {t : List Rw} (T : Tbl m n t) (h : Hea) : callF tab (k + 1) 7 [tblD t] h = .ok (.lst ((colsOf n t).map rowD)) h := 
  callF_ret (f := ⟨"columns_of", 1, 3, b_columns_of⟩) rfl rfl (c_columns_of1 k T h)
end K33
namespace K33
open PySem PyI
theorem colsOf_tbl {m n : Nat} {t : List Rw} (T : Tbl m n t) : Tbl n m (colsOf n t) where
  rows := by simp [colsOf]
  m1 := T.n1
  m6 := T.n6
  n1 := T.m1
  n6 := T.m6
  cols := fun r hr => by
    obtain ⟨j, _, rfl⟩ := List.mem_map.mp hr
    rw [List.length_map]; exact T.rows
  low := fun r hr p hp => by
    obtain ⟨j, hj, rfl⟩ := List.mem_map.mp hr
    obtain ⟨r', hr', rfl⟩ := List.mem_map.mp hp
    have hl : j < r'.length := by rw [T.cols r' hr']; exact List.mem_range.mp hj
    rw [List.getD_eq_getElem?_getD, List.getElem?_eq_getElem hl]
    exact T.low r' hr' _ (List.getElem_mem hl)
/-- each row's, each column's sum is above nought -/
structure Full (n : Nat) (t : List Rw) : Prop where
  r : ∀ r ∈ t, 0 < (total r).1
  c : ∀ r ∈ colsOf n t, 0 < (total r).1
theorem eqR_num (h : Hea) (p : Nu) (x : D) (a b : Int) (hx : pdH h x = .tuple [.int a, .int b]) : eqR h (numD p) x = some (decide (p.1 = a) && decide (p.2 = b)) := by
  have s : ∀ i j : Int, SeqAt.shaped (.tuple [.int i, .int j]) = true := fun i j => rfl
  unfold eqR
  rw [show pdH h (numD p) = .tuple [.int p.1, .int p.2] from rfl, hx, s, s]
  show some (PyData.eqv (.tuple [.int p.1, .int p.2]) (.tuple [.int a, .int b])) = _
  congr 1
  simp [PyData.eqv, PyData.eqvAll]
  rfl
theorem ne_nought (h : Hea) {p : Nu} (hp : 0 < p.1) : cmpR .ne h (numD p) (.tup [.int 0, .int 1]) = some true := by
  show (eqR h (numD p) (.tup [.int 0, .int 1])).map not = _
  rw [eqR_num h p _ 0 1 rfl]
  have : p.1 ≠ 0 := by omega
  simp [this]
theorem all_true {α : Type} (l : List α) (h : Hea) : biR .all h (.lst (l.map fun _ => .bl true)) = .ok (.bl true) h := by
  have := bi_all (bs := l.map fun _ => true) (h := h)
  rw [List.map_map] at this
  rw [show (l.map fun _ => D.bl true) = l.map (D.bl ∘ fun _ => true) from rfl, this]
  congr 2
  simp
theorem bin_cat (h : Hea) (xs ys : List D) (hl : xs.length + ys.length ≤ sizeLine) : binR .add h (.lst xs) (.lst ys) = .ok (.lst (xs ++ ys)) h := by
  show (if xs.length + ys.length ≤ sizeLine then _ else _) = _
  rw [if_pos hl]
theorem c_is_table (k : Nat) {m n : Nat} {t : List Rw} (T : Tbl m n t) (F : Full n t) (h : Hea) : callF tab (k + 5) 8 [tblD t] h = .ok (.bl true) h := by
  obtain ⟨r, e0, hr, hl⟩ := T.r0
  have s0 : subR h (tblD t) (.int 0) = some (rowD r) := sub_tbl e0 h
  have T2 := colsOf_tbl T
  have e1 : lcLoop (lcTurn [2] (.n 2) (evC tab (callF tab (k + 4)) .nil) (ev tab (callF tab (k + 4)) (.call 6 (.cons (.v 2) .nil))).val [some (tblD t), none, none]) (t.map rowD) [] h = .ok (t.map fun _ => .bl true) h :=
    lcLoop_all t (fun r hr => by
      have := c_is_row (k + 1) (r := r) (by rw [T.cols r hr]; exact T.n1) (by rw [T.cols r hr]; exact T.n6) (T.low r hr) h
      simp [lcTurn, wipeD, Res.noErr, this]) (le_size (by rw [T.rows]; have := T.m6; omega))
  have e2 : lcLoop (lcTurn [2] (.n 2) (evC tab (callF tab (k + 4)) .nil) (ev tab (callF tab (k + 4)) (.cmp .eq (.bi .len (.v 2)) (.bi .len (.sub (.v 0) (.int 0))))).val [some (tblD t), none, none]) (t.map rowD) [] h = .ok (t.map fun _ => .bl true) h :=
    lcLoop_all t (fun r' hr' => by simp [lcTurn, wipeD, Res.noErr, s0, len_row, cmp_eq, T.cols r' hr', hl]) (le_size (by rw [T.rows]; have := T.m6; omega))
  have e3 : lcLoop (lcTurn [1] (.n 1) (evC tab (callF tab (k + 4)) .nil) (ev tab (callF tab (k + 4)) (.cmp .ne (.call 5 (.cons (.v 1) .nil)) (.gc 0))).val [some (tblD t), none, none]) ((t ++ colsOf n t).map rowD) [] h = .ok ((t ++ colsOf n t).map fun _ => .bl true) h :=
    lcLoop_all (t ++ colsOf n t) (fun r' hr' => by
      rcases List.mem_append.mp hr' with z | z
      · simp [lcTurn, wipeD, Res.noErr, c_sum_row k T z, ne_nought h (F.r r' z)]
      · simp [lcTurn, wipeD, Res.noErr, c_sum_row k T2 z, ne_nought h (F.c r' z)]) (le_size (by rw [List.length_append, T.rows, T2.rows]; have := T.m6; have := T.n6; omega))
  have l1 : (1 : Int) ≤ t.length := by rw [T.rows]; have := T.m1; omega
  have l6 : (t.length : Int) ≤ 6 := by rw [T.rows]; have := T.m6; omega
  have li : biR .list h (tblD t) = .ok (.lst (t.map rowD)) h := bi_list rfl
  have cat := bin_cat h (t.map rowD) ((colsOf n t).map rowD) (le_size (by rw [List.length_map, List.length_map, T.rows, T2.rows]; have := T.m6; have := T.n6; omega))
  rw [← List.map_append] at cat
  have g : exB tab (callF tab (k + 4)) b_is_table [some (tblD t), none, none] h = .ok (.ret (.bl true)) [some (tblD t), none, none] h := by
    have i1 : (ev tab (callF tab (k + 4)) (.lc false [2] (.n 2) (.seq (.v 0)) .nil (.call 6 (.cons (.v 2) .nil)))).val [some (tblD t), none, none] h = .ok (.lst (t.map fun _ => .bl true)) h := by
      rw [v_lc]; simp only [i_seq, v_v, List.getElem?_cons_zero, Res.bind_ok, itV_tbl, need_some, e1, mkL_f]
    have i2 : (ev tab (callF tab (k + 4)) (.lc false [2] (.n 2) (.seq (.v 0)) .nil (.cmp .eq (.bi .len (.v 2)) (.bi .len (.sub (.v 0) (.int 0)))))).val [some (tblD t), none, none] h = .ok (.lst (t.map fun _ => .bl true)) h := by
      rw [v_lc]; simp only [i_seq, v_v, List.getElem?_cons_zero, Res.bind_ok, itV_tbl, need_some, e2, mkL_f]
    have i3 : (ev tab (callF tab (k + 4)) (.lc false [1] (.n 1) (.seq (.bin .add (.bi .list (.v 0)) (.call 7 (.cons (.v 0) .nil)))) .nil (.cmp .ne (.call 5 (.cons (.v 1) .nil)) (.gc 0)))).val [some (tblD t), none, none] h = .ok (.lst ((t ++ colsOf n t).map fun _ => .bl true)) h := by
      rw [v_lc]
      have : evI tab (callF tab (k + 4)) (.seq (.bin .add (.bi .list (.v 0)) (.call 7 (.cons (.v 0) .nil)))) [some (tblD t), none, none] h = .ok ((t ++ colsOf n t).map rowD) h := by
        simp [li, c_columns_of (k + 3) T h, cat]
      rw [this, Res.bind_ok, e3, Res.bind_ok, mkL_f]
    unfold b_is_table
    rw [s_cons, s_if]
    simp only [t_or, t_nt, t_isi, t_bi, v_isi, v_bi, i1, t_chn, v_v, v_int, v_gc, cn1, List.getElem?_cons_zero, Res.bind_ok, isi_tbl, need_some, true_bl, len_tbl, cmp_le, all_true, l1, l6, decide_true, if_true, Bool.not_true, Bool.false_eq_true, if_false, s_nil, Res.st_ok, SR.thn_nx, s_cons, s_if, i2, s_ret, i3, SR.thn_ret]
  exact callF_ret (f := ⟨"is_table", 1, 3, b_is_table⟩) rfl rfl g
end K33

set_option Elab.async false
set_option linter.all false
set_option maxRecDepth 100000
set_option maxHeartbeats 1000000
namespace K33
open PySem PyI
theorem c_need_table (k : Nat) {m n : Nat} {t : List Rw} (T : Tbl m n t) (F : Full n t) (h : Hea) : callF tab (k + 6) 9 [tblD t] h = .ok .non h := by
  refine callF_nx (f := ⟨"need_table", 1, 1, b_need_table⟩) (ρ := [some (tblD t)]) rfl rfl ?_
  show exB tab (callF tab (k + 5)) b_need_table [some (tblD t)] h = _
  unfold b_need_table
  simp [c_is_table k T F]
theorem c_raw_column_sums (k : Nat) {m n : Nat} {t : List Rw} (T : Tbl m n t) (h : Hea) : callF tab (k + 5) 11 [tblD t] h = .ok (rowD ((colsOf n t).map total)) h := by
  have T2 := colsOf_tbl T
  have e : lcLoop (lcTurn [1] (.n 1) (evC tab (callF tab (k + 4)) .nil) (ev tab (callF tab (k + 4)) (.call 5 (.cons (.v 1) .nil))).val [some (tblD t), none]) ((colsOf n t).map rowD) [] h = .ok ((colsOf n t).map fun r => numD (total r)) h :=
    lcLoop_all (colsOf n t) (fun r hr => by simp [lcTurn, wipeD, Res.noErr, c_sum_row k T2 hr]) (le_size (by rw [T2.rows]; have := T.n6; omega))
  refine callF_ret (f := ⟨"raw_column_sums", 1, 2, b_raw_column_sums⟩) (ρ := [some (tblD t), none]) rfl rfl ?_
  show exB tab (callF tab (k + 4)) b_raw_column_sums [some (tblD t), none] h = _
  unfold b_raw_column_sums
  have it : evI tab (callF tab (k + 4)) (.seq (.call 7 (.cons (.v 0) .nil))) [some (tblD t), none] h = .ok ((colsOf n t).map rowD) h := by
    simp [c_columns_of (k + 3) T h]
  rw [s_cons, s_ret, v_bi, v_lc, it, Res.bind_ok, e, Res.bind_ok, mkL_f, Res.bind_ok, bi_tuple, Res.st_ok, SR.thn_ret]
  simp [rowD]
theorem c_row_sums (k : Nat) {m n : Nat} {t : List Rw} (T : Tbl m n t) (F : Full n t) (h : Hea) : callF tab (k + 7) 13 [tblD t] h = .ok (rowD (t.map total)) h := by
  refine callF_ret (f := ⟨"row_sums", 1, 1, b_row_sums⟩) (ρ := [some (tblD t)]) rfl rfl ?_
  show exB tab (callF tab (k + 6)) b_row_sums [some (tblD t)] h = _
  unfold b_row_sums
  simp [c_need_table k T F, c_raw_row_sums (k + 1) T]
theorem c_column_sums (k : Nat) {m n : Nat} {t : List Rw} (T : Tbl m n t) (F : Full n t) (h : Hea) : callF tab (k + 7) 14 [tblD t] h = .ok (rowD ((colsOf n t).map total)) h := by
  refine callF_ret (f := ⟨"column_sums", 1, 1, b_column_sums⟩) (ρ := [some (tblD t)]) rfl rfl ?_
  show exB tab (callF tab (k + 6)) b_column_sums [some (tblD t)] h = _
  unfold b_column_sums
  simp [c_need_table k T F, c_raw_column_sums (k + 1) T]
/-! ### places -/
def at_ (t : List Rw) (i j : Nat) : Nu := (t.getD i []).getD j (0, 1)
def spotsOf (m n : Nat) (t : List Rw) : List (Nat × Nat) := (List.range m).flatMap fun i => ((List.range n).filter fun j => decide (at_ t i j ≠ (0, 1))).map fun j => (i, j)
def placeD (p : Nat × Nat) : D := .plc [.int (p.1 : Int), .int (p.2 : Int)]
theorem ne_num (h : Hea) (p : Nu) (x : D) (hx : pdH h x = .tuple [.int 0, .int 1]) : cmpR .ne h (numD p) x = some (decide (p ≠ (0, 1))) := by
  show (eqR h (numD p) x).map not = _
  rw [eqR_num h p x 0 1 hx]
  obtain ⟨a, b⟩ := p
  simp only [Option.map_some, Prod.mk.injEq]
  congr 1
  by_cases h1 : a = 0 <;> by_cases h2 : b = 1 <;> simp [h1, h2]
theorem sub_at {m n : Nat} {t : List Rw} (T : Tbl m n t) {i j : Nat} (hi : i < m) (hj : j < n) (h : Hea) : ∃ r, subR h (tblD t) (.int (i : Int)) = some (rowD r) ∧ subR h (rowD r) (.int (j : Int)) = some (numD (at_ t i j)) := by
  have il : i < t.length := by rw [T.rows]; exact hi
  have e : t[i]? = some t[i] := List.getElem?_eq_getElem il
  refine ⟨t[i], sub_tbl e h, ?_⟩
  have := sub_row (r := t[i]) (j := j) (by rw [T.cols _ (List.getElem_mem il)]; exact hj) h
  rw [this]
  simp [at_, List.getD_eq_getElem?_getD, e]
theorem c_raw_places (k : Nat) {m n : Nat} {t : List Rw} (T : Tbl m n t) (h : Hea) : callF tab (k + 1) 12 [tblD t] h = .ok (.ref h.length) (h ++ [.lst ((spotsOf m n t).map placeD)]) := by
  obtain ⟨r, e0, hr, hl⟩ := T.r0
  have s0 : subR h (tblD t) (.int 0) = some (rowD r) := sub_tbl e0 h
  have hm := T.m6
  have hn := T.n6
  have i1 : evI tab (callF tab k) (.rng1 (.bi .len (.v 0))) [some (tblD t), some (.int (n : Int)), none, none] h = .ok ((List.range m).map fun i : Nat => D.int (i : Int)) h := i_rng1_of (by simp [len_tbl, T.rows]) (by omega)
  have i2 : ∀ i : Nat, evI tab (callF tab k) (.rng1 (.v 1)) [some (tblD t), some (.int (n : Int)), some (.int (i : Int)), none] h = .ok ((List.range n).map fun i : Nat => D.int (i : Int)) h := fun i => i_rng1_of (by simp) (by omega)
  have inner : ∀ i ∈ List.range m, ∀ acc : List D, acc.length + 6 ≤ sizeLine → lc2In [2, 3] [3] (.n 2) (.n 3) (evI tab (callF tab k) (.rng1 (.v 1))) (evC tab (callF tab k) (.cons (.cmp .ne (.sub (.sub (.v 0) (.v 2)) (.v 3)) (.gc 0)) .nil)) (ev tab (callF tab k) (.tupK (.cons (.v 2) (.cons (.v 3) .nil)))).val [some (tblD t), some (.int (n : Int)), none, none] (.int (i : Int)) acc h
      = .ok (acc ++ ((List.range n).filter fun j => decide (at_ t i j ≠ (0, 1))).map fun j => placeD (i, j)) h := fun i hi acc hacc => by
    have hi' := List.mem_range.mp hi
    have lp := lcLoop_on (turn := lcTurn [3] (.n 3) (evC tab (callF tab k) (.cons (.cmp .ne (.sub (.sub (.v 0) (.v 2)) (.v 3)) (.gc 0)) .nil)) (ev tab (callF tab k) (.tupK (.cons (.v 2) (.cons (.v 3) .nil)))).val [some (tblD t), some (.int (n : Int)), some (.int (i : Int)), none])
      (f := fun j : Nat => D.int (j : Int)) (g := fun j => placeD (i, j)) (p := fun j => decide (at_ t i j ≠ (0, 1))) (h := h) (List.range n) acc (fun j hj => by
        obtain ⟨r', q1, q2⟩ := sub_at T hi' (List.mem_range.mp hj) h
        have q3 := ne_num h (at_ t i j) (.tup [.int 0, .int 1]) rfl
        by_cases c : at_ t i j = (0, 1)
        · rw [c] at q2 q3
          simp [lcTurn, wipeD, Res.noErr, q1, q2, q3, c]
        · simp [lcTurn, wipeD, Res.noErr, q1, q2, q3, c, sizeLine, placeD]) (by rw [List.length_range]; omega)
    show (need (evG (.n 2) [some (tblD t), some (.int (n : Int)), none, none] (.int (i : Int))) _).noErr = _
    simp only [g_n, need_some, List.set_cons_succ, List.set_cons_zero]
    rw [i2 i, Res.bind_ok, lp]; rfl
  have outer := lc2Loop_on (h := h) (b := 6) (f := fun i : Nat => D.int (i : Int)) (List.range m) [] inner (fun i _ => by
    rw [List.length_map]
    exact Nat.le_trans (List.length_filter_le _ _) (by rw [List.length_range]; exact hn)) (by rw [List.length_range]; simp [sizeLine]; omega)
  refine callF_ret (f := ⟨"raw_places", 1, 4, b_raw_places⟩) (ρ := [some (tblD t), some (.int (n : Int)), none, none]) rfl rfl ?_
  show exB tab (callF tab k) b_raw_places [some (tblD t), none, none, none] h = _
  unfold b_raw_places
  have st1 : exS tab (callF tab k) (.set 1 (.bi .len (.sub (.v 0) (.int 0)))) [some (tblD t), none, none, none] h = .ok .nx [some (tblD t), some (.int (n : Int)), none, none] h := by
    simp [s0, len_row, hl]
  rw [s_cons, st1, SR.thn_nx, s_cons, s_ret, v_lc2, i1, Res.bind_ok, outer, Res.bind_ok, mkL_t, Res.st_ok, SR.thn_ret]
  simp [spotsOf, List.map_flatMap, Function.comp_def]
theorem c_places (k : Nat) {m n : Nat} {t : List Rw} (T : Tbl m n t) (F : Full n t) (h : Hea) : callF tab (k + 7) 15 [tblD t] h = .ok (.ref h.length) (h ++ [.lst ((spotsOf m n t).map placeD)]) := by
  refine callF_ret (f := ⟨"places", 1, 1, b_places⟩) (ρ := [some (tblD t)]) rfl rfl ?_
  show exB tab (callF tab (k + 6)) b_places [some (tblD t)] h = _
  unfold b_places
  simp [c_need_table k T F, c_raw_places (k + 5) T]
end K33

set_option Elab.async false
set_option linter.all false
set_option maxRecDepth 100000
set_option maxHeartbeats 1000000
namespace K33
open PySem PyI
theorem l_sides (k : Nat) {m n : Nat} {t : List Rw} (T : Tbl m n t) (h : Hea) : callF tab (k + 1) 24 [tblD t] h = .ok (.plc [.int (m : Int), .int (n : Int)]) h := by
  obtain ⟨r, e0, hr, hl⟩ := T.r0
  have s0 : subR h (tblD t) (.int 0) = some (rowD r) := sub_tbl e0 h
  refine callF_ret (f := ⟨"_law_sides", 1, 1, b_law_sides⟩) (ρ := [some (tblD t)]) rfl rfl ?_
  show exB tab (callF tab k) b_law_sides [some (tblD t)] h = _
  unfold b_law_sides
  simp [s0, len_row, len_tbl, hl, T.rows, sizeLine]
theorem l_flipped (k : Nat) {m n : Nat} {t : List Rw} (T : Tbl m n t) (h : Hea) : callF tab (k + 1) 25 [tblD t] h = .ok (tblD (colsOf n t)) h := by
  have e := col_out (cf := callF tab k) T h
  refine callF_ret (f := ⟨"_law_flipped", 1, 3, b_law_flipped⟩) (ρ := [some (tblD t), none, none]) rfl rfl ?_
  show exB tab (callF tab k) b_law_flipped [some (tblD t), none, none] h = _
  unfold b_law_flipped
  rw [s_cons, s_ret, v_bi, v_lc, c_columns_of0 k T h, Res.bind_ok, e, Res.bind_ok, mkL_f, Res.bind_ok, bi_tuple, Res.st_ok, SR.thn_ret]
  simp only [colsOf, tblD, List.map_map]
  rfl
theorem l_sums (k : Nat) {m n : Nat} {t : List Rw} (T : Tbl m n t) (h : Hea) : callF tab (k + 5) 26 [tblD t] h = .ok (.plc [rowD (t.map total), rowD ((colsOf n t).map total)]) h := by
  have T2 := colsOf_tbl T
  have inner : ∀ {m n : Nat} {s : List Rw}, Tbl m n s → lcLoop (lcTurn [3] (.n 3) (evC tab (callF tab (k + 4)) .nil) (ev tab (callF tab (k + 4)) (.call 22 (.cons (.v 3) .nil))).val [some (tblD t), none, some (tblD s), none]) (s.map rowD) [] h = .ok (s.map fun r => numD (total r)) h := fun {m n s} S =>
    lcLoop_all s (fun r hr => by simp [lcTurn, wipeD, Res.noErr, l_sum_row (k + 1) S hr]) (le_size (by rw [S.rows]; have := S.m6; omega))
  have two : ∀ {m n : Nat} {s : List Rw}, Tbl m n s → lcTurn [2] (.n 2) (evC tab (callF tab (k + 4)) .nil) (ev tab (callF tab (k + 4)) (.bi .tuple (.lc false [3] (.n 3) (.seq (.v 2)) .nil (.call 22 (.cons (.v 3) .nil))))).val [some (tblD t), none, none, none] (tblD s) h = .ok (some (rowD (s.map total))) h := fun {m n s} S => by
    show (need (evG (.n 2) [some (tblD t), none, none, none] (tblD s)) _).noErr = _
    simp [inner S, Res.noErr, rowD]
  have e : lcLoop (lcTurn [2] (.n 2) (evC tab (callF tab (k + 4)) .nil) (ev tab (callF tab (k + 4)) (.bi .tuple (.lc false [3] (.n 3) (.seq (.v 2)) .nil (.call 22 (.cons (.v 3) .nil))))).val [some (tblD t), none, none, none]) ([t, colsOf n t].map tblD) [] h = .ok ([t, colsOf n t].map fun s => rowD (s.map total)) h :=
    lcLoop_all [t, colsOf n t] (fun s hs => by
      rcases List.mem_cons.mp hs with z | z
      · subst z; exact two T
      · rcases List.mem_cons.mp z with z | z
        · subst z; exact two T2
        · cases z) (le_size (by simp))
  refine callF_ret (f := ⟨"_law_sums", 1, 4, b_law_sums⟩) (ρ := [some (tblD t), some (.lst [rowD (t.map total), rowD ((colsOf n t).map total)]), none, none]) rfl rfl ?_
  show exB tab (callF tab (k + 4)) b_law_sums [some (tblD t), none, none, none] h = _
  unfold b_law_sums
  have it : evI tab (callF tab (k + 4)) (.seq (.lst (.cons (.v 0) (.cons (.call 25 (.cons (.v 0) .nil)) .nil)))) [some (tblD t), none, none, none] h = .ok ([t, colsOf n t].map tblD) h := by
    simp [l_flipped (k + 3) T h, sizeLine]
  rw [s_cons, s_set, v_lc, it, Res.bind_ok, e, Res.bind_ok, mkL_f, Res.st_ok, SR.thn_nx]
  have q0 : ∀ (a b : D), subR h (.lst [a, b]) (.int 0) = some a := fun a b => sub_seq rfl (atI_nat (by decide) rfl)
  have q1 : ∀ (a b : D), subR h (.lst [a, b]) (.int 1) = some b := fun a b => sub_seq rfl (atI_nat (by decide) rfl)
  simp [q0, q1, sizeLine]
def pairsOf (m n : Nat) : List (Nat × Nat) := (List.range m).flatMap fun i => (List.range n).map fun j => (i, j)
theorem pairsOf_succ (m n : Nat) : pairsOf (m + 1) n = pairsOf m n ++ (List.range n).map fun j => (m, j) := by simp [pairsOf, List.range_succ]
theorem pairsOf_len (m n : Nat) : (pairsOf m n).length = m * n := by
  induction m with
  | zero => simp [pairsOf]
  | succ m ih => rw [pairsOf_succ, List.length_append, ih, List.length_map, List.length_range, Nat.succ_mul]
theorem l_pairs (k : Nat) {m n : Nat} (hm : m ≤ 6) (hn : n ≤ 6) (h : Hea) : callF tab (k + 1) 28 [.int (m : Int), .int (n : Int)] h = .ok (.lst ((pairsOf m n).map placeD)) h := by
  have it : ∀ d v, evI tab (callF tab k) (.rng1 (.v 0)) [some (.int (m : Int)), some (.int (n : Int)), d, v, none] h = .ok ((List.range m).map fun i : Nat => D.int (i : Int)) h := fun d v => i_rng1_of (by simp) (by omega)
  have i2 : ∀ d (i : Nat), evI tab (callF tab k) (.rng1 (.v 1)) [some (.int (m : Int)), some (.int (n : Int)), d, some (.int (i : Int)), none] h = .ok ((List.range n).map fun i : Nat => D.int (i : Int)) h := fun d i => i_rng1_of (by simp) (by omega)
  have inner : ∀ d (i : Nat), lcLoop (lcTurn [4] (.n 4) (evC tab (callF tab k) .nil) (ev tab (callF tab k) (.tupK (.cons (.v 3) (.cons (.v 4) .nil)))).val [some (.int (m : Int)), some (.int (n : Int)), d, some (.int (i : Int)), none]) ((List.range n).map fun i : Nat => D.int (i : Int)) [] h = .ok ((List.range n).map fun j => placeD (i, j)) h := fun d i =>
    lcLoop_all (List.range n) (fun j hj => by simp [lcTurn, wipeD, Res.noErr, sizeLine, placeD]) (le_size (by rw [List.length_range]; omega))
  obtain ⟨ρ', h', e1, v, rfl, rfl⟩ := frLoop_inv (turn := fun x ρ h => match evG (.n 3) ρ x with | some ρ1 => exB tab (callF tab k) (.cons (.set 2 (.bin .add (.v 2) (.lc false [4] (.n 4) (.rng1 (.v 1)) .nil (.tupK (.cons (.v 3) (.cons (.v 4) .nil)))))) .nil) ρ1 h | none => .no)
    (fun i ρ h' => ∃ v, ρ = [some (.int (m : Int)), some (.int (n : Int)), some (.lst ((pairsOf i n).map placeD)), v, none] ∧ h' = h) ((List.range m).map fun i : Nat => D.int (i : Int)) 0 [some (.int (m : Int)), some (.int (n : Int)), some (.lst []), none, none] h
    (fun i x ρ h' ex hi => by
      obtain ⟨v, rfl, rfl⟩ := hi
      rw [Nat.zero_add]
      rw [List.getElem?_map] at ex
      obtain ⟨i', ei, rfl⟩ := Option.map_eq_some_iff.mp ex
      have hi : i < m := by
        have := (List.getElem?_eq_some_iff.mp ei).1
        simpa using this
      have : i' = i := by
        rw [List.getElem?_range hi] at ei
        exact (Option.some.inj ei).symm
      subst this
      refine ⟨_, h', ?_, some (.int (i' : Int)), rfl, rfl⟩
      have lc : (ev tab (callF tab k) (.lc false [4] (.n 4) (.rng1 (.v 1)) .nil (.tupK (.cons (.v 3) (.cons (.v 4) .nil))))).val [some (.int (m : Int)), some (.int (n : Int)), some (.lst ((pairsOf i' n).map placeD)), some (.int (i' : Int)), none] h' = .ok (.lst ((List.range n).map fun j => placeD (i', j))) h' := by
        rw [v_lc, i2, Res.bind_ok, inner, Res.bind_ok, mkL_f]
      have cat := bin_cat h' ((pairsOf i' n).map placeD) ((List.range n).map fun j => placeD (i', j)) (le_size (by
        rw [List.length_map, List.length_map, pairsOf_len, List.length_range]
        have : i' * n ≤ 6 * 6 := Nat.mul_le_mul (by omega) hn
        omega))
      simp only [g_n, List.set_cons_succ, List.set_cons_zero, s_cons, s_nil, s_set, v_bin, v_v, List.getElem?_cons_succ, List.getElem?_cons_zero, Res.bind_ok, lc, cat, Res.st_ok, SR.thn_nx, pairsOf_succ, List.map_append, List.map_map]
      rfl)
    ⟨none, rfl, rfl⟩
  rw [Nat.zero_add, List.length_map, List.length_range] at e1
  refine callF_ret (f := ⟨"_law_pairs", 2, 5, b_law_pairs⟩) (ρ := [some (.int (m : Int)), some (.int (n : Int)), some (.lst ((pairsOf m n).map placeD)), v, none]) rfl rfl ?_
  show exB tab (callF tab k) b_law_pairs [some (.int (m : Int)), some (.int (n : Int)), none, none, none] h' = _
  unfold b_law_pairs
  rw [s_cons, s_set, v_lst, es_nil, Res.bind_ok, if_pos (show ([] : List D).length ≤ sizeLine from Nat.zero_le _), Res.st_ok, SR.thn_nx, s_cons, s_fr]
  simp only [List.set_cons_succ, List.set_cons_zero]
  rw [it, Res.st_ok]
  show (frLoop _ _ [some (.int (m : Int)), some (.int (n : Int)), some (.lst []), none, none] h').thn _ = _
  erw [e1]
  simp

theorem l_spots (k : Nat) {m n : Nat} {t : List Rw} (T : Tbl m n t) (h : Hea) : callF tab (k + 2) 27 [tblD t] h = .ok (.lst ((spotsOf m n t).map placeD)) h := by
  have hm := T.m6
  have hn := T.n6
  have lp := lcLoop_on (turn := lcTurn [3, 4] (.t (.cons (.n 3) (.cons (.n 4) .nil))) (evC tab (callF tab (k + 1)) (.cons (.cmp .ne (.sub (.sub (.v 0) (.v 3)) (.v 4)) (.tupK (.cons (.int 0) (.cons (.int 1) .nil)))) .nil)) (ev tab (callF tab (k + 1)) (.tupK (.cons (.v 3) (.cons (.v 4) .nil)))).val
      [some (tblD t), some (.int (m : Int)), some (.int (n : Int)), none, none]) (f := placeD) (g := placeD) (p := fun q => decide (at_ t q.1 q.2 ≠ (0, 1))) (h := h) (pairsOf m n) [] (fun q hq => by
    obtain ⟨i, j⟩ := q
    have hij : i < m ∧ j < n := by
      obtain ⟨i', hi, hj⟩ := List.mem_flatMap.mp hq
      obtain ⟨j', hj', e⟩ := List.mem_map.mp hj
      cases e
      exact ⟨List.mem_range.mp hi, List.mem_range.mp hj'⟩
    obtain ⟨r', q1, q2⟩ := sub_at T hij.1 hij.2 h
    have q3 := ne_num h (at_ t i j) (.plc [.int 0, .int 1]) rfl
    by_cases c : at_ t i j = (0, 1)
    · rw [c] at q2 q3
      simp [lcTurn, wipeD, Res.noErr, q1, q2, q3, c, placeD, sizeLine]
    · simp [lcTurn, wipeD, Res.noErr, q1, q2, q3, c, sizeLine, placeD]) (le_size (by
      rw [pairsOf_len]
      have : m * n ≤ 6 * 6 := Nat.mul_le_mul hm hn
      simp; omega))
  refine callF_ret (f := ⟨"_law_spots", 1, 5, b_law_spots⟩) (ρ := [some (tblD t), some (.int (m : Int)), some (.int (n : Int)), none, none]) rfl rfl ?_
  show exB tab (callF tab (k + 1)) b_law_spots [some (tblD t), none, none, none, none] h = _
  unfold b_law_spots
  have st1 : exS tab (callF tab (k + 1)) (.asg (.t (.cons (.n 1) (.cons (.n 2) .nil))) (.call 24 (.cons (.v 0) .nil))) [some (tblD t), none, none, none, none] h = .ok .nx [some (tblD t), some (.int (m : Int)), some (.int (n : Int)), none, none] h := by
    simp [l_sides k T]
  have it : evI tab (callF tab (k + 1)) (.seq (.call 28 (.cons (.v 1) (.cons (.v 2) .nil)))) [some (tblD t), some (.int (m : Int)), some (.int (n : Int)), none, none] h = .ok ((pairsOf m n).map placeD) h := by
    simp [l_pairs k hm hn]
  rw [s_cons, st1, SR.thn_nx, s_cons, s_ret, v_lc, it, Res.bind_ok, lp, Res.bind_ok, mkL_f, Res.st_ok, SR.thn_ret, List.nil_append]
  congr 4
  simp [spotsOf, pairsOf, List.filter_flatMap, List.filter_map, Function.comp_def]
end K33

set_option Elab.async false
set_option linter.all false
set_option maxRecDepth 100000
set_option maxHeartbeats 1000000
namespace K33
open PySem PyI
/-! ### the pen -/
def primes : List Int := [2147483629, 2147483587, 2147483579, 2147483563, 2147483549, 2147483543, 2147483497, 2147483489, 2147483477, 2147483423, 2147483399, 2147483353, 2147483323]
theorem primes_ok : ∀ p ∈ primes, 0 < p ∧ p < 2147483648 := by decide
theorem prime_at (h : Hea) {i : Int} (h0 : 0 ≤ i) (h13 : i < 13) : ∃ p, subR h (.lst (primes.map D.int)) (.int i) = some (.int p) ∧ 0 < p ∧ p < 2147483648 := by
  have hl : i.toNat < primes.length := by show i.toNat < 13; omega
  refine ⟨primes[i.toNat], sub_seq rfl (atI_nat h0 ?_), primes_ok _ (List.getElem_mem hl)⟩
  rw [List.getElem?_map, List.getElem?_eq_getElem hl]; rfl
theorem mod_bnd (a : Int) {p : Int} (hp : 0 < p) : 0 ≤ a % p ∧ a % p < p := ⟨Int.emod_nonneg _ (by omega), Int.emod_lt_of_pos _ hp⟩
theorem l_spread (k : Nat) (cell : Int) {c : Int} (c0 : 0 ≤ c) (c1 : c ≤ 100000) (h : Hea) : ∃ v, 0 ≤ v ∧ callF tab (k + 1) 17 [.int cell, .int c] h = .ok (.int v) h := by
  have p10 : binR .pow h (.int 10) (.int 18) = .ok (.int (10 ^ 18)) h := bin_pow (by decide)
  by_cases big : (10 : Int) ^ 18 ≤ cell
  · refine ⟨cell, by omega, callF_ret (f := ⟨"_law_spread", 2, 6, b_law_spread⟩) (ρ := [some (.int cell), some (.int c), none, none, none, none]) rfl rfl ?_⟩
    show exB tab (callF tab k) b_law_spread [some (.int cell), some (.int c), none, none, none, none] h = _
    unfold b_law_spread
    simp only [s_cons, s_if, t_cmp, v_v, v_bin, v_int, List.getElem?_cons_zero, Res.bind_ok, p10, cmp_ge, need_some, big, decide_true, Res.st_ok, if_true, s_cons, s_ret, v_v, SR.thn_ret]
  · obtain ⟨a0, a1⟩ := mod_bnd cell (show (0 : Int) < 1000000007 by decide)
    obtain ⟨b0, b1⟩ := mod_bnd cell (show (0 : Int) < 65537 by decide)
    obtain ⟨i0, i1⟩ := mod_bnd c (show (0 : Int) < 13 by decide)
    obtain ⟨j0, j1⟩ := mod_bnd (c + 5) (show (0 : Int) < 13 by decide)
    obtain ⟨l0, l1⟩ := mod_bnd (c + 7) (show (0 : Int) < 13 by decide)
    obtain ⟨p, ep, p0, p1⟩ := prime_at h i0 i1
    obtain ⟨q, eq, q0, q1⟩ := prime_at h j0 j1
    obtain ⟨r, er, r0, r1⟩ := prime_at h l0 l1
    have m1 := mul_bnd (a := 1000000007) (b := 300000) (show -(1000000007 : Int) ≤ cell % 1000000007 by omega) (by omega) (show -(300000 : Int) ≤ 2 * c + 69069 by omega) (by omega) (by omega) (by omega)
    have m1' : 0 ≤ cell % 1000000007 * (2 * c + 69069) := Int.mul_nonneg a0 (by omega)
    have o1 : mulOk (cell % 1000000007) (2 * c + 69069) = true := small_mul (b := 1000000007) (by decide) (by omega) (by omega) (by omega) (by omega)
    have o2 : mulOk 2 c = true := small_mul (b := 1000000007) (by decide) (by omega) (by omega) (by omega) (by omega)
    have o3 : mulOk c 40503 = true := small_mul (b := 1000000007) (by decide) (by omega) (by omega) (by omega) (by omega)
    generalize hx : cell % 1000000007 * (2 * c + 69069) = x at *
    have w1 : binR .pow h (.int (x + c * 40503 + 977)) (.int 3) = .ok (.int ((x + c * 40503 + 977) ^ 3)) h := bin_pow ⟨by decide, by decide, by omega⟩
    obtain ⟨y0, y1⟩ := mod_bnd ((x + c * 40503 + 977) ^ 3) p0
    generalize hy : (x + c * 40503 + 977) ^ 3 % p = y at *
    have m2 := mul_bnd (a := 2147483648) (b := 300000) (show -(2147483648 : Int) ≤ y by omega) (by omega) (show -(300000 : Int) ≤ c + 3 by omega) (by omega) (by omega) (by omega)
    have m2' : 0 ≤ y * (c + 3) := Int.mul_nonneg y0 (by omega)
    have o4 : mulOk y (c + 3) = true := small_mul (b := 2147483648) (by decide) (by omega) (by omega) (by omega) (by omega)
    generalize hz : y * (c + 3) = z at *
    have w2 : binR .pow h (.int (z + cell % 65537 + 5)) (.int 5) = .ok (.int ((z + cell % 65537 + 5) ^ 5)) h := bin_pow ⟨by decide, by decide, by omega⟩
    obtain ⟨u0, u1⟩ := mod_bnd ((z + cell % 65537 + 5) ^ 5) q0
    generalize hu : (z + cell % 65537 + 5) ^ 5 % q = u at *
    obtain ⟨n0, n1⟩ := mod_bnd y (show (0 : Int) < 1009 by decide)
    have w3 : binR .pow h (.int (u + y % 1009 + c)) (.int 3) = .ok (.int ((u + y % 1009 + c) ^ 3)) h := bin_pow ⟨by decide, by decide, by omega⟩
    obtain ⟨v0, v1⟩ := mod_bnd ((u + y % 1009 + c) ^ 3) r0
    generalize hv : (u + y % 1009 + c) ^ 3 % r = v at *
    have m3 := mul_bnd (a := 2147483648) (b := 2147483648) (show -(2147483648 : Int) ≤ y by omega) (by omega) (show -(2147483648 : Int) ≤ 2147483647 by omega) (by omega) (by omega) (by omega)
    have m3' : 0 ≤ y * 2147483647 := Int.mul_nonneg y0 (by omega)
    have o5 : mulOk y 2147483647 = true := small_mul (b := 2147483648) (by decide) (by omega) (by omega) (by omega) (by omega)
    have o6 : mulOk (y * 2147483647 + u) 2147483647 = true := small_mul (b := 2 ^ 70) (by decide) (by omega) (by omega) (by omega) (by omega)
    have res0 : 0 ≤ (y * 2147483647 + u) * 2147483647 + v := by
      have := Int.mul_nonneg (show 0 ≤ y * 2147483647 + u by omega) (show (0 : Int) ≤ 2147483647 by omega)
      omega
    refine ⟨(y * 2147483647 + u) * 2147483647 + v, res0, ?_⟩
    refine callF_ret (f := ⟨"_law_spread", 2, 6, b_law_spread⟩) (ρ := [some (.int cell), some (.int c), some (.lst (primes.map D.int)), some (.int y), some (.int u), some (.int v)]) rfl rfl ?_
    show exB tab (callF tab k) b_law_spread [some (.int cell), some (.int c), none, none, none, none] h = _
    unfold b_law_spread
    have nb : decide ((10 : Int) ^ 18 ≤ cell) = false := decide_eq_false big
    have st1 : exS tab (callF tab k) (.iff (.cmp .ge (.v 0) (.bin .pow (.int 10) (.int 18))) (.cons (.ret (.v 0)) .nil) .nil) [some (.int cell), some (.int c), none, none, none, none] h = .ok .nx [some (.int cell), some (.int c), none, none, none, none] h := by
      simp only [s_cons, s_if, t_cmp, v_v, v_bin, v_int, List.getElem?_cons_zero, Res.bind_ok, p10, cmp_ge, need_some, nb, Res.st_ok, Bool.false_eq_true, if_false, s_nil]
    rw [s_cons, st1, SR.thn_nx, s_cons, s_set]
    simp only [v_lst, es_cons, es_nil, v_int, Res.bind_ok]
    rw [if_pos (show List.length _ ≤ sizeLine from le_size (by decide)), Res.st_ok, SR.thn_nx, s_cons, s_set]
    simp only [List.set_cons_succ, List.set_cons_zero, v_bin, v_v, List.getElem?_cons_zero, List.getElem?_cons_succ, v_lst, es_cons, es_nil, v_int, Res.bind_ok]
    rw [if_pos (show List.length _ ≤ sizeLine from le_size (by decide)), Res.bind_ok, bin_cat h _ _ (le_size (by decide)), Res.st_ok, SR.thn_nx]
    have ep' : subR h (.lst ([D.int 2147483629, D.int 2147483587, D.int 2147483579, D.int 2147483563, D.int 2147483549, D.int 2147483543, D.int 2147483497, D.int 2147483489] ++ [D.int 2147483477, D.int 2147483423, D.int 2147483399, D.int 2147483353, D.int 2147483323])) (.int (c % 13)) = some (.int p) := ep
    have eq' : subR h (.lst ([D.int 2147483629, D.int 2147483587, D.int 2147483579, D.int 2147483563, D.int 2147483549, D.int 2147483543, D.int 2147483497, D.int 2147483489] ++ [D.int 2147483477, D.int 2147483423, D.int 2147483399, D.int 2147483353, D.int 2147483323])) (.int ((c + 5) % 13)) = some (.int q) := eq
    have er' : subR h (.lst ([D.int 2147483629, D.int 2147483587, D.int 2147483579, D.int 2147483563, D.int 2147483549, D.int 2147483543, D.int 2147483497, D.int 2147483489] ++ [D.int 2147483477, D.int 2147483423, D.int 2147483399, D.int 2147483353, D.int 2147483323])) (.int ((c + 7) % 13)) = some (.int r) := er
    have d1 : (0 : Int) < 1000000007 := by decide
    have d2 : (0 : Int) < 65537 := by decide
    have d3 : (0 : Int) < 13 := by decide
    have d4 : (0 : Int) < 1009 := by decide
    simp only [s_cons, s_set, v_bin, v_v, v_int, v_bi, v_sub, bi_int, List.set_cons_succ, List.set_cons_zero, List.getElem?_cons_zero, List.getElem?_cons_succ, Res.bind_ok, Res.st_ok, SR.thn_nx, bin_mod d1, bin_mod d2, bin_mod d3, bin_mod d4, bin_mul o1, bin_mul o2, bin_mul o3, bin_mul o4, bin_mul o5, bin_mul o6, bin_add,
      hx, w1, ep', need_some, bin_mod p0, hy, hz, w2, eq', bin_mod q0, hu, w3, er', bin_mod r0, hv, s_ret, SR.thn_ret]
    rfl
end K33

set_option Elab.async false
set_option linter.all false
set_option maxRecDepth 100000
set_option maxHeartbeats 1000000
namespace K33
open PySem PyI
def penO (cells : List Int) (c s : Int) : MO := .lst [.lst (cells.map D.int), .int c, .int s]
section
variable {h : Hea} {p : Nat} {cells : List Int} {c s : Int}
theorem pen_seq (e : h[p]? = some (penO cells c s)) : seqV h (.ref p) = some [.lst (cells.map D.int), .int c, .int s] := by
  show (match h[p]? with | some (.lst xs) => some xs | _ => none) = _
  rw [e]; rfl
theorem pen_0 (e : h[p]? = some (penO cells c s)) : subR h (.ref p) (.int 0) = some (.lst (cells.map D.int)) := sub_seq (pen_seq e) (atI_nat (by decide) rfl)
theorem pen_1 (e : h[p]? = some (penO cells c s)) : subR h (.ref p) (.int 1) = some (.int c) := sub_seq (pen_seq e) (atI_nat (by decide) rfl)
theorem pen_2 (e : h[p]? = some (penO cells c s)) : subR h (.ref p) (.int 2) = some (.int s) := sub_seq (pen_seq e) (atI_nat (by decide) rfl)
theorem pen_set1 (e : h[p]? = some (penO cells c s)) (x : Int) : setR h (.ref p) (.int 1) (.int x) = some (h.set p (penO cells x s)) := by
  show (match h[p]? with | some (.lst xs) => (intV (.int 1)).bind fun k => (L2.ixN xs.length k).map fun j => h.set p (.lst (xs.set j (.int x))) | some (.dK ks vs) => _ | some (.dT ks vs) => _ | _ => none) = _
  rw [e]; rfl
theorem pen_set2 (e : h[p]? = some (penO cells c s)) (x : Int) : setR h (.ref p) (.int 2) (.int x) = some (h.set p (penO cells c x)) := by
  show (match h[p]? with | some (.lst xs) => (intV (.int 2)).bind fun k => (L2.ixN xs.length k).map fun j => h.set p (.lst (xs.set j (.int x))) | some (.dK ks vs) => _ | some (.dT ks vs) => _ | _ => none) = _
  rw [e]; rfl
theorem pen_at (e : h[p]? = some (penO cells c s)) (u : MO) : (h.set p u)[p]? = some u := List.getElem?_set_self (List.getElem?_eq_some_iff.mp e).1
end
/-- the pen at p, drawn from at most k times -/
def Pen (h : Hea) (p : Nat) (k : Int) : Prop := ∃ cells c s, h[p]? = some (penO cells c s) ∧ 0 ≤ c ∧ c ≤ k ∧ 0 ≤ s
/-- nothing but the pen is changed -/
def Oth (h : Hea) (p : Nat) (h' : Hea) : Prop := h'.length = h.length ∧ ∀ q, q ≠ p → h'[q]? = h[q]?
theorem Oth.set {h : Hea} {p : Nat} {u : MO} : Oth h p (h.set p u) := ⟨by simp, fun q hq => List.getElem?_set_ne (Ne.symm hq)⟩
theorem Oth.refl {h : Hea} {p : Nat} : Oth h p h := ⟨rfl, fun _ _ => rfl⟩
theorem Oth.trans {h h' h'' : Hea} {p : Nat} (a : Oth h p h') (b : Oth h' p h'') : Oth h p h'' := ⟨b.1.trans a.1, fun q hq => (b.2 q hq).trans (a.2 q hq)⟩
theorem take_end {cf : Nat → List D → Hea → Res D} {h : Hea} {p : Nat} {cells : List Int} {c s many : Int} {x y : Option D} (e : h[p]? = some (penO cells c s)) (s0 : 0 ≤ s) (m0 : 0 < many) (m1 : many ≤ 1000) :
    ∃ ρ', exB tab cf (.cons (.set 2 (.bin .mod (.bi .int (.sub (.v 0) (.int 2))) (.v 1))) (.cons (.put (.v 0) (.int 2) (.bin .fdiv (.sub (.v 0) (.int 2)) (.v 1))) (.cons (.ret (.v 2)) .nil))) [some (.ref p), some (.int many), none, x, y] h
      = .ok (.ret (.int (s % many))) ρ' (h.set p (penO cells c (s / many))) := by
  have q2 := pen_2 e
  have st := pen_set2 e (s / many)
  have lg : many.natAbs.log2 < 9000 := log_ok (b := 1000) (by decide) (by omega) m1
  refine ⟨[some (.ref p), some (.int many), some (.int (s % many)), x, y], ?_⟩
  simp only [s_cons, s_set, s_put, s_ret, s_nil, v_bin, v_bi, v_sub, v_v, v_int, List.getElem?_cons_zero, List.getElem?_cons_succ, List.set_cons_succ, List.set_cons_zero, Res.bind_ok, Res.st_ok, SR.thn_nx, SR.thn_ret, need_some, q2, bi_int, bin_mod m0, bin_fdiv m0 lg, st]
/-- the cell that is looked at -/
theorem cell_ok {cf : Nat → List D → Hea → Res D} {h : Hea} {p : Nat} {cells : List Int} {c s many : Int} (e : h[p]? = some (penO cells c s)) (c0 : 0 ≤ c) (c1 : c ≤ 100000) :
    ∃ cell : Int, exS tab cf (.iff (.cmp .lt (.v 3) (.bi .len (.sub (.v 0) (.int 0)))) (.cons (.set 4 (.sub (.sub (.v 0) (.int 0)) (.v 3))) .nil)
      (.cons (.iff (.cmp .gt (.bi .len (.sub (.v 0) (.int 0))) (.int 0)) (.cons (.set 4 (.bin .mod (.bi .int (.sub (.sub (.v 0) (.int 0)) (.bin .mod (.bi .int (.bin .add (.bin .mul (.v 3) (.int 5)) (.int 3))) (.bi .len (.sub (.v 0) (.int 0)))))) (.bin .add (.bin .pow (.int 10) (.int 17)) (.v 3)))) .nil) .nil) .nil))
      [some (.ref p), some (.int many), none, some (.int c), some (.int 0)] h = .ok .nx [some (.ref p), some (.int many), none, some (.int c), some (.int cell)] h := by
  have q0 := pen_0 e
  have ln : biR .len h (.lst (cells.map D.int)) = .ok (.int cells.length) h := by rw [bi_len (xs := cells.map D.int) rfl]; simp
  have at_c : ∀ i : Int, 0 ≤ i → i < cells.length → ∃ x, subR h (.lst (cells.map D.int)) (.int i) = some (.int x) := fun i i0 i1 => by
    have hl : i.toNat < cells.length := by omega
    refine ⟨cells[i.toNat], sub_seq rfl (atI_nat i0 ?_)⟩
    rw [List.getElem?_map, List.getElem?_eq_getElem hl]; rfl
  by_cases a : c < cells.length
  · obtain ⟨x, ex⟩ := at_c c c0 a
    refine ⟨x, ?_⟩
    simp only [s_if, s_cons, s_nil, s_set, t_cmp, v_bi, v_sub, v_v, v_int, List.getElem?_cons_zero, List.getElem?_cons_succ, List.set_cons_succ, List.set_cons_zero, Res.bind_ok, Res.st_ok, SR.thn_nx, need_some, q0, ln, cmp_lt, a, decide_true, if_true, ex]
  · by_cases b : (0 : Int) < cells.length
    · obtain ⟨i0, i1⟩ := mod_bnd (c * 5 + 3) b
      obtain ⟨x, ex⟩ := at_c _ i0 i1
      have o1 : mulOk c 5 = true := small_mul (b := 100000) (by decide) (by omega) (by omega) (by omega) (by omega)
      have w : binR .pow h (.int 10) (.int 17) = .ok (.int (10 ^ 17)) h := bin_pow (by decide)
      have pos : (0 : Int) < 10 ^ 17 + c := by omega
      refine ⟨x % (10 ^ 17 + c), ?_⟩
      simp only [s_if, s_cons, s_nil, s_set, t_cmp, v_bi, v_bin, v_sub, v_v, v_int, List.getElem?_cons_zero, List.getElem?_cons_succ, List.set_cons_succ, List.set_cons_zero, Res.bind_ok, Res.st_ok, SR.thn_nx, need_some, q0, ln, cmp_lt, cmp_gt, a, b, decide_true, decide_false, Bool.false_eq_true, if_false, if_true,
        bin_mul o1, bin_add, bi_int, bin_mod b, ex, w, bin_mod pos]
    · refine ⟨0, ?_⟩
      simp only [s_if, s_cons, s_nil, s_set, t_cmp, v_bi, v_bin, v_sub, v_v, v_int, List.getElem?_cons_zero, List.getElem?_cons_succ, List.set_cons_succ, List.set_cons_zero, Res.bind_ok, Res.st_ok, SR.thn_nx, need_some, q0, ln, cmp_lt, cmp_gt, a, b, decide_true, decide_false, Bool.false_eq_true, if_false, if_true]
theorem l_take (k : Nat) {h : Hea} {p : Nat} {K many : Int} (P : Pen h p K) (hK : K ≤ 90000) (m0 : 0 < many) (m1 : many ≤ 1000) :
    ∃ v h', callF tab (k + 2) 18 [.ref p, .int many] h = .ok (.int v) h' ∧ 0 ≤ v ∧ v < many ∧ Pen h' p (K + 1) ∧ Oth h p h' := by
  obtain ⟨cells, c, s, e, c0, c1, s0⟩ := P
  have q1 := pen_1 e
  have q2 := pen_2 e
  by_cases a : s < many
  · obtain ⟨cell, ec⟩ := cell_ok (cf := callF tab (k + 1)) (many := many) e c0 (by omega)
    obtain ⟨v, v0, ev⟩ := l_spread k cell c0 (by omega) (h.set p (penO cells (c + 1) s))
    have e1 := pen_at e (penO cells (c + 1) s)
    have e2 := pen_at e1 (penO cells (c + 1) v)
    obtain ⟨ρ', et⟩ := take_end (cf := callF tab (k + 1)) (many := many) (x := some (.int c)) (y := some (.int cell)) e2 v0 m0 m1
    refine ⟨v % many, _, callF_ret (f := ⟨"_law_take", 2, 5, b_law_take⟩) (ρ := ρ') rfl rfl ?_, (mod_bnd v m0).1, (mod_bnd v m0).2, ⟨cells, c + 1, v / many, pen_at e2 _, by omega, by omega, Int.ediv_nonneg v0 (by omega)⟩, Oth.set.trans (Oth.set.trans Oth.set)⟩
    show exB tab (callF tab (k + 1)) b_law_take [some (.ref p), some (.int many), none, none, none] h = _
    unfold b_law_take
    rw [s_cons, s_if]
    simp only [t_cmp, v_sub, v_v, v_int, List.getElem?_cons_zero, List.getElem?_cons_succ, Res.bind_ok, q2, need_some, cmp_lt, a, decide_true, Res.st_ok, if_true]
    rw [s_cons, s_set]
    simp only [v_sub, v_v, v_int, List.getElem?_cons_zero, Res.bind_ok, q1, need_some, Res.st_ok, SR.thn_nx, List.set_cons_succ, List.set_cons_zero]
    rw [s_cons, s_set]
    simp only [v_int, Res.st_ok, SR.thn_nx, List.set_cons_succ, List.set_cons_zero]
    rw [s_cons, ec, SR.thn_nx]
    simp only [s_cons, s_nil, s_put, v_bin, v_call, es_cons, es_nil, v_v, v_int, List.getElem?_cons_zero, List.getElem?_cons_succ, Res.bind_ok, Res.st_ok, bin_add, pen_set1 e, SR.thn_nx, ev, pen_set2 e1]
    exact et
  · obtain ⟨ρ', et⟩ := take_end (cf := callF tab (k + 1)) (many := many) (x := none) (y := none) e s0 m0 m1
    refine ⟨s % many, _, callF_ret (f := ⟨"_law_take", 2, 5, b_law_take⟩) (ρ := ρ') rfl rfl ?_, (mod_bnd s m0).1, (mod_bnd s m0).2, ⟨cells, c, s / many, pen_at e _, c0, by omega, Int.ediv_nonneg s0 (by omega)⟩, Oth.set⟩
    show exB tab (callF tab (k + 1)) b_law_take [some (.ref p), some (.int many), none, none, none] h = _
    unfold b_law_take
    rw [s_cons, s_if]
    simp only [t_cmp, v_sub, v_v, v_int, List.getElem?_cons_zero, List.getElem?_cons_succ, Res.bind_ok, q2, need_some, cmp_lt, a, decide_false, Res.st_ok, Bool.false_eq_true, if_false, s_nil, SR.thn_nx]
    exact et
end K33

set_option Elab.async false
set_option linter.all false
set_option maxRecDepth 100000
set_option maxHeartbeats 1000000
namespace K33
open PySem PyI
theorem l_one_of (k : Nat) {h : Hea} {p : Nat} {K : Int} {xs : List D} (P : Pen h p K) (hK : K ≤ 90000) (l0 : 0 < xs.length) (l1 : xs.length ≤ 1000) :
    ∃ x h', callF tab (k + 3) 19 [.ref p, .lst xs] h = .ok x h' ∧ x ∈ xs ∧ Pen h' p (K + 1) ∧ Oth h p h' := by
  obtain ⟨v, h', e, v0, v1, P', O⟩ := l_take k (many := (xs.length : Int)) P hK (by omega) (by omega)
  have hl : v.toNat < xs.length := by omega
  have sb : subR h' (.lst xs) (.int v) = some xs[v.toNat] := sub_seq rfl (atI_nat v0 (List.getElem?_eq_getElem hl))
  refine ⟨xs[v.toNat], h', callF_ret (f := ⟨"_law_one_of", 2, 2, b_law_one_of⟩) (ρ := [some (.ref p), some (.lst xs)]) rfl rfl ?_, List.getElem_mem hl, P', O⟩
  show exB tab (callF tab (k + 2)) b_law_one_of [some (.ref p), some (.lst xs)] h = _
  unfold b_law_one_of
  have ln : biR .len h (.lst xs) = .ok (.int xs.length) h := bi_len rfl
  simp only [s_cons, s_ret, v_sub, v_v, v_call, es_cons, es_nil, v_bi, List.getElem?_cons_zero, List.getElem?_cons_succ, Res.bind_ok, ln, e, need_some, sb, Res.st_ok, SR.thn_ret]
def lowB (p : Nu) : Bool := decide (-9 ≤ p.1) && decide (p.1 ≤ 9) && decide (1 ≤ p.2) && decide (p.2 ≤ 9) && decide (0 < p.1) && decide (Int.gcd p.1 p.2 = 1)
theorem lowB_ok {p : Nu} (h : lowB p = true) : Low p ∧ 0 < p.1 := by
  unfold lowB at h
  simp only [Bool.and_eq_true, decide_eq_true_eq] at h
  obtain ⟨⟨⟨⟨⟨h1, h2⟩, h3⟩, h4⟩, h5⟩, h6⟩ := h
  exact ⟨⟨⟨h1, h2, h3, h4⟩, by omega, h6⟩, h5⟩
theorem low_all : ∀ a : Fin 9, ∀ b : Fin 7, lowB (nrm ((a.val : Int) + 1) ((b.val : Int) + 1)) = true := by decide +kernel
theorem low_nrm {n d : Int} (h1 : 1 ≤ n) (h2 : n ≤ 9) (h3 : 1 ≤ d) (h4 : d ≤ 7) : Low (nrm n d) ∧ 0 < (nrm n d).1 := by
  have := low_all ⟨(n - 1).toNat, by omega⟩ ⟨(d - 1).toNat, by omega⟩
  simp only at this
  rw [show (((n - 1).toNat : Nat) : Int) + 1 = n by omega, show (((d - 1).toNat : Nat) : Int) + 1 = d by omega] at this
  exact lowB_ok this
theorem l_any_number (k : Nat) {h : Hea} {p : Nat} {K : Int} (P : Pen h p K) (hK : K ≤ 80000) :
    ∃ q h', callF tab (k + 4) 23 [.ref p] h = .ok (numD q) h' ∧ Low q ∧ 0 < q.1 ∧ Pen h' p (K + 2) ∧ Oth h p h' := by
  obtain ⟨v, h1, e1, v0, v1, P1, O1⟩ := l_take (k + 1) (many := 9) P (by omega) (by decide) (by decide)
  obtain ⟨x, h2, e2, hx, P2, O2⟩ := l_one_of k (xs := [.int 1, .int 1, .int 1, .int 2, .int 3, .int 4, .int 5, .int 7]) P1 (by omega) (by decide) (by decide)
  obtain ⟨d, rfl, d1, d7⟩ : ∃ d : Int, x = .int d ∧ 1 ≤ d ∧ d ≤ 7 := by
    simp only [List.mem_cons, List.not_mem_nil, or_false] at hx
    rcases hx with z | z | z | z | z | z | z | z <;> exact ⟨_, z, by decide, by decide⟩
  have nu := l_number (k + 2) (n := 1 + v) (d := d) (b := 100) h2 (by decide) d1 (by omega)
  obtain ⟨low, pos⟩ := low_nrm (n := 1 + v) (d := d) (by omega) (by omega) d1 d7
  refine ⟨nrm (1 + v) d, h2, callF_ret (f := ⟨"_law_any_number", 1, 1, b_law_any_number⟩) (ρ := [some (.ref p)]) rfl rfl ?_, low, pos, ?_, O1.trans O2⟩
  · show exB tab (callF tab (k + 3)) b_law_any_number [some (.ref p)] h = _
    unfold b_law_any_number
    have len8 : ([D.int 1, .int 1, .int 1, .int 2, .int 3, .int 4, .int 5, .int 7] : List D).length ≤ sizeLine := le_size (by decide)
    simp only [s_cons, s_ret, v_call, es_cons, es_nil, v_bin, v_v, v_int, v_lst, List.getElem?_cons_zero, Res.bind_ok, e1, bin_add, if_pos len8, e2, nu, Res.st_ok, SR.thn_ret]
  · rw [show K + 2 = K + 1 + 1 by omega]; exact P2
theorem l_any_size (k : Nat) {h : Hea} {p : Nat} {K : Int} (P : Pen h p K) (hK : K ≤ 80000) :
    ∃ (m n : Nat) (h' : Hea), callF tab (k + 3) 31 [.ref p, .int 6] h = .ok (.plc [.int (m : Int), .int (n : Int)]) h' ∧ 1 ≤ m ∧ m ≤ 6 ∧ 1 ≤ n ∧ n ≤ 6 ∧ Pen h' p (K + 2) ∧ Oth h p h' := by
  obtain ⟨v, h1, e1, v0, v1, P1, O1⟩ := l_take k (many := 6) P (by omega) (by decide) (by decide)
  obtain ⟨u, h2, e2, u0, u1, P2, O2⟩ := l_take k (many := 6) P1 (by omega) (by decide) (by decide)
  refine ⟨(1 + v).toNat, (1 + u).toNat, h2, callF_ret (f := ⟨"_law_any_size", 2, 2, b_law_any_size⟩) (ρ := [some (.ref p), some (.int 6)]) rfl rfl ?_, by omega, by omega, by omega, by omega, by rw [show K + 2 = K + 1 + 1 by omega]; exact P2, O1.trans O2⟩
  show exB tab (callF tab (k + 2)) b_law_any_size [some (.ref p), some (.int 6)] h = _
  unfold b_law_any_size
  have l2 : ([D.int (1 + v), .int (1 + u)] : List D).length ≤ sizeLine := le_size (by simp)
  simp only [s_cons, s_ret, v_tupK, v_call, es_cons, es_nil, v_bin, v_v, v_int, List.getElem?_cons_zero, List.getElem?_cons_succ, Res.bind_ok, e1, e2, bin_add, if_pos l2, Res.st_ok, SR.thn_ret]
  rw [show (((1 + v).toNat : Nat) : Int) = 1 + v by omega, show (((1 + u).toNat : Nat) : Int) = 1 + u by omega]
end K33
namespace K33
open PySem PyI
theorem cut_sub {xs : List D} {lo hi : Option Int} {d : D} (h : d ∈ cutD xs lo hi) : d ∈ xs := by
  unfold cutD at h
  exact List.mem_of_mem_drop (List.mem_of_mem_take h)
theorem ints_cut (ns : List Int) (lo hi : Option Int) : ∃ ms : List Int, cutD (ns.map D.int) lo hi = ms.map D.int ∧ ms.length ≤ ns.length := by
  refine ⟨(ns.drop (HT.sIx ns.length 0 lo)).take (HT.sIx ns.length ns.length hi - HT.sIx ns.length 0 lo), ?_, ?_⟩
  · unfold cutD
    rw [List.length_map, ← List.map_drop, ← List.map_take]
  · rw [List.length_take, List.length_drop]; omega
end K33

set_option Elab.async false
set_option linter.all false
set_option maxRecDepth 100000
set_option maxHeartbeats 1000000
namespace K33
open PySem PyI
theorem enum_at {xs : List D} {i : Nat} {x : D} (e : (enumD 0 xs)[i]? = some x) : ∃ y, xs[i]? = some y ∧ x = .plc [.int (i : Int), y] := by
  obtain ⟨y, h1, h2⟩ := enumD_get xs 0 i x e
  exact ⟨y, h1, by rw [h2]; simp⟩
theorem lst_sub {A : List Int} {h : Hea} {j : Int} (e : h[0]? = some (.lst (A.map D.int))) (j0 : 0 ≤ j) (j1 : j < A.length) : ∃ x, subR h (.ref 0) (.int j) = some (.int x) := by
  have hl : j.toNat < A.length := by omega
  refine ⟨A[j.toNat], sub_seq (xs := A.map D.int) ?_ (atI_nat j0 ?_)⟩
  · show (match h[0]? with | some (.lst xs) => some xs | _ => none) = _
    rw [e]
  · rw [List.getElem?_map, List.getElem?_eq_getElem hl]; rfl
theorem lst_set {A : List Int} {h : Hea} {j x : Int} (e : h[0]? = some (.lst (A.map D.int))) (j0 : 0 ≤ j) (j1 : j < A.length) : setR h (.ref 0) (.int j) (.int x) = some (h.set 0 (.lst ((A.set j.toNat x).map D.int))) := by
  show (match h[0]? with | some (.lst xs) => (intV (.int j)).bind fun k => (L2.ixN xs.length k).map fun i => h.set 0 (.lst (xs.set i (.int x))) | some (.dK ks vs) => _ | some (.dT ks vs) => _ | _ => none) = _
  rw [e]
  show (L2.ixN (A.map D.int).length j).map (fun i => h.set 0 (.lst ((A.map D.int).set i (.int x)))) = _
  have ix : L2.ixN (A.map D.int).length j = some j.toNat := by
    unfold L2.ixN
    rw [List.length_map, if_pos j0, if_pos j1]
  rw [ix, Option.map_some, ← List.map_set]
theorem l_open (k : Nat) (ns : List Int) : ∃ h', callF tab (k + 1) 16 [.scr (ns.map D.int)] [] = .ok (.ref 1) h' ∧ Pen h' 1 0 := by
  obtain ⟨A, eA, _⟩ := ints_cut ns none (some 12)
  obtain ⟨B, eB, _⟩ := ints_cut ns (some 12) (some 63)
  have lenA : B ≠ [] → A.length = 12 := fun hB => by
    have h1 := congrArg List.length eA
    have h2 := congrArg List.length eB
    have h3 : 0 < B.length := List.length_pos_iff.mpr hB
    simp only [List.length_map] at h1 h2
    unfold cutD at h1 h2
    rw [List.length_map, show HT.sIx ns.length 0 none = 0 from rfl, show HT.sIx ns.length ns.length (some 12) = min 12 ns.length from HT.sIx_nat _ _ 12, List.length_take, List.length_drop, List.length_map] at h1
    rw [List.length_map, show HT.sIx ns.length 0 (some 12) = min 12 ns.length from HT.sIx_nat _ _ 12, show HT.sIx ns.length ns.length (some 63) = min 63 ns.length from HT.sIx_nat _ _ 63, List.length_take, List.length_drop, List.length_map] at h2
    omega
  obtain ⟨ρ', h', e1, ⟨u, v, rfl⟩, A', rfl, _⟩ := frLoop_inv (turn := fun x ρ h => match evG (.t (.cons (.n 2) (.cons (.n 3) .nil))) ρ x with
      | some ρ1 => exB tab (callF tab k) (.cons (.put (.v 1) (.bin .mod (.bi .int (.v 2)) (.int 12)) (.bin .add (.sub (.v 1) (.bin .mod (.bi .int (.v 2)) (.int 12))) (.v 3))) .nil) ρ1 h | none => .no)
    (fun i ρ h => (∃ u v, ρ = [some (.scr (ns.map D.int)), some (.ref 0), u, v]) ∧ ∃ A' : List Int, h = [.lst (A'.map D.int)] ∧ A'.length = A.length) (enumD 0 (B.map D.int)) 0 [some (.scr (ns.map D.int)), some (.ref 0), none, none] [.lst (A.map D.int)]
    (fun i x ρ h ex hi => by
      obtain ⟨⟨u, v, rfl⟩, A', rfl, lA⟩ := hi
      obtain ⟨y, ey, rfl⟩ := enum_at ex
      rw [List.getElem?_map] at ey
      obtain ⟨b, eb, rfl⟩ := Option.map_eq_some_iff.mp ey
      have l12 : A'.length = 12 := by
        rw [lA]; exact lenA (by intro z; rw [z] at eb; cases eb)
      obtain ⟨i0, i1⟩ := mod_bnd (i : Int) (show (0 : Int) < 12 by decide)
      obtain ⟨x, ex⟩ := lst_sub (A := A') (h := [.lst (A'.map D.int)]) (j := (i : Int) % 12) rfl i0 (by omega)
      have st := lst_set (A := A') (h := [.lst (A'.map D.int)]) (j := (i : Int) % 12) (x := x + b) rfl i0 (by omega)
      refine ⟨[some (.scr (ns.map D.int)), some (.ref 0), some (.int (i : Int)), some (.int b)], [.lst ((A'.set ((i : Int) % 12).toNat (x + b)).map D.int)], ?_, ⟨_, _, rfl⟩, _, rfl, by rw [List.length_set]; exact lA⟩
      have d12 : (0 : Int) < 12 := by decide
      simp only [g_t, g_n, gs_cons, gs_nil, tupV_plc, Option.bind_some, List.set_cons_succ, List.set_cons_zero, s_cons, s_nil, s_put, v_bin, v_sub, v_bi, v_v, v_int, List.getElem?_cons_zero, List.getElem?_cons_succ, Res.bind_ok, bi_int, bin_mod d12, ex, need_some, bin_add, Res.st_ok, st, SR.thn_nx])
    ⟨⟨none, none, rfl⟩, A, rfl, rfl⟩
  refine ⟨[.dead, penO A' 0 0], callF_ret (f := ⟨"_law_open", 1, 4, b_law_open⟩) (ρ := [some (.scr (ns.map D.int)), some (.ref 0), u, v]) rfl rfl ?_, A', 0, 0, rfl, by decide, by decide, by decide⟩
  show exB tab (callF tab k) b_law_open [some (.scr (ns.map D.int)), none, none, none] [] = _
  unfold b_law_open
  have st1 : exS tab (callF tab k) (.set 1 (.bi .listM (.slc (.v 0) .nil (.cons (.int 12) .nil)))) [some (.scr (ns.map D.int)), none, none, none] [] = .ok .nx [some (.scr (ns.map D.int)), some (.ref 0), none, none] [.lst (A.map D.int)] := by
    have sl : (ev tab (callF tab k) (.slc (.v 0) .nil (.cons (.int 12) .nil))).val [some (.scr (ns.map D.int)), none, none, none] [] = .ok (.lst (A.map D.int)) [] := by
      show Res.ok (D.lst (cutD (ns.map D.int) none (some 12))) [] = _
      rw [eA]
    rw [s_set, v_bi, sl, Res.bind_ok]; rfl
  have it : evI tab (callF tab k) (.enum (.slc (.v 0) (.cons (.int 12) .nil) (.cons (.int 63) .nil))) [some (.scr (ns.map D.int)), some (.ref 0), none, none] [.lst (A.map D.int)] = .ok (enumD 0 (B.map D.int)) [.lst (A.map D.int)] := by
    show need (lsV (.lst (cutD (ns.map D.int) (some 12) (some 63)))) (fun xs => Res.ok (enumD 0 xs) _) = _
    rw [eB]; rfl
  rw [s_cons, st1, SR.thn_nx, s_cons, s_fr, it, Res.st_ok]
  erw [e1]
  rw [SR.thn_nx]
  rfl
end K33

set_option Elab.async false
set_option linter.all false
set_option maxRecDepth 100000
set_option maxHeartbeats 1000000
namespace K33
open PySem PyI
theorem div_pos {n g : Int} (hg : 0 < g) (hd : g ∣ n) (hn : 0 < n) : 0 < n / g := by
  obtain ⟨x, rfl⟩ := hd
  rw [Int.mul_ediv_cancel_left _ (by omega)]
  by_cases z : 0 < x
  · exact z
  · have : g * x ≤ 0 := Int.mul_nonpos_of_nonneg_of_nonpos (by omega) (by omega)
    omega
theorem nrm_pos {n d : Int} (hn : 0 ≤ n) (hd : 0 < d) : 0 ≤ (nrm n d).1 ∧ 0 < (nrm n d).2 ∧ (0 < n → 0 < (nrm n d).1) := by
  have g0 := gcd_pos (n := n) hd
  exact ⟨Int.ediv_nonneg hn (by omega), div_pos g0 (Int.gcd_dvd_right n d) hd, fun h => div_pos g0 (Int.gcd_dvd_left n d) h⟩
theorem plus_pos {a b : Nu} (ha : 0 ≤ a.1) (hb : 0 ≤ b.1) (a2 : 0 < a.2) (b2 : 0 < b.2) : 0 ≤ (plus a b).1 ∧ 0 < (plus a b).2 ∧ ((0 < a.1 ∨ 0 < b.1) → 0 < (plus a b).1) := by
  have m1 := Int.mul_nonneg ha (show 0 ≤ b.2 by omega)
  have m2 := Int.mul_nonneg hb (show 0 ≤ a.2 by omega)
  have m3 := Int.mul_pos a2 b2
  obtain ⟨p1, p2, p3⟩ := nrm_pos (n := a.1 * b.2 + b.1 * a.2) (d := a.2 * b.2) (by omega) m3
  refine ⟨p1, p2, fun h => p3 ?_⟩
  rcases h with h | h
  · have := Int.mul_pos h b2; omega
  · have := Int.mul_pos h a2; omega
theorem fold_pos : ∀ (ps : List Nu) (a : Nu), 0 ≤ a.1 → 0 < a.2 → (∀ p ∈ ps, 0 ≤ p.1 ∧ 0 < p.2) → 0 ≤ (ps.foldl plus a).1 ∧ ((0 < a.1 ∨ ∃ p ∈ ps, 0 < p.1) → 0 < (ps.foldl plus a).1)
  | [], a, h1, h2, _ => ⟨h1, fun h => by
    rcases h with h | ⟨p, hp, _⟩
    · exact h
    · cases hp⟩
  | p :: r, a, h1, h2, hp => by
    obtain ⟨q1, q2⟩ := hp p List.mem_cons_self
    obtain ⟨s1, s2, s3⟩ := plus_pos h1 q1 h2 q2
    obtain ⟨t1, t2⟩ := fold_pos r (plus a p) s1 s2 fun x hx => hp x (List.mem_cons_of_mem _ hx)
    refine ⟨t1, fun h => t2 ?_⟩
    rcases h with h | ⟨x, hx, px⟩
    · exact .inl (s3 (.inl h))
    · rcases List.mem_cons.mp hx with z | z
      · subst z; exact .inl (s3 (.inr px))
      · exact .inr ⟨x, z, px⟩
theorem total_pos {ps : List Nu} (h : ∀ p ∈ ps, Low p) (e : ∃ p ∈ ps, 0 < p.1) : 0 < (total ps).1 :=
  (fold_pos ps (0, 1) (by decide) (by decide) fun p hp => ⟨(h p hp).2.1, by have := (h p hp).1.2.2.1; omega⟩).2 (.inr e)
theorem full_of {m n : Nat} {t : List Rw} (T : Tbl m n t) (hr : ∀ i, i < m → ∃ j, j < n ∧ 0 < (at_ t i j).1) (hc : ∀ j, j < n → ∃ i, i < m ∧ 0 < (at_ t i j).1) : Full n t := by
  refine ⟨fun r hr' => ?_, fun r hr' => ?_⟩
  · obtain ⟨i, hi, rfl⟩ := List.mem_iff_getElem.mp hr'
    obtain ⟨j, hj, p⟩ := hr i (by rw [← T.rows]; exact hi)
    have hl : j < t[i].length := by rw [T.cols _ (List.getElem_mem hi)]; exact hj
    refine total_pos (T.low _ (List.getElem_mem hi)) ⟨t[i][j], List.getElem_mem hl, ?_⟩
    have : at_ t i j = t[i][j] := by
      simp [at_, List.getD_eq_getElem?_getD, List.getElem?_eq_getElem hi, List.getElem?_eq_getElem hl]
    rw [← this]; exact p
  · have T2 := colsOf_tbl T
    have low := T2.low r hr'
    obtain ⟨j, hj, rfl⟩ := List.mem_map.mp hr'
    obtain ⟨i, hi, p⟩ := hc j (List.mem_range.mp hj)
    have hi' : i < t.length := by rw [T.rows]; exact hi
    refine total_pos low ⟨t[i].getD j (0, 1), List.mem_map.mpr ⟨t[i], List.getElem_mem hi', rfl⟩, ?_⟩
    have : at_ t i j = t[i].getD j (0, 1) := by
      simp [at_, List.getD_eq_getElem?_getD, List.getElem?_eq_getElem hi']
    rw [← this]; exact p
end K33

set_option Elab.async false
set_option linter.all false
set_option maxRecDepth 100000
set_option maxHeartbeats 1000000
namespace K33
open PySem PyI
abbrev tk (i j : Nat) : List L2.Key := [.inl (i : Int), .inl (j : Int)]
def numOf : D → Nu
  | .plc [.int a, .int b] => (a, b)
  | _ => (0, 1)
theorem numOf_numD (p : Nu) : numOf (numD p) = p := rfl
/-- what is known at q: numbers in lowest terms above nought, at places -/
structure Kn (h : Hea) (q : Nat) (ks : List (List L2.Key)) (vs : List D) : Prop where
  at_ : h[q]? = some (.dT ks vs)
  ok : ∀ i j d, look ks vs (tk i j) = some d → ∃ p, d = numD p ∧ Low p ∧ 0 < p.1
def entry (ks : List (List L2.Key)) (vs : List D) (i j : Nat) : Nu := ((look ks vs (tk i j)).map numOf).getD (0, 1)
def tabOf (m n : Nat) (ks : List (List L2.Key)) (vs : List D) : List Rw := (List.range m).map fun i => (List.range n).map fun j => entry ks vs i j
theorem dct_at {h : Hea} {q : Nat} {ks : List (List L2.Key)} {vs : List D} (e : h[q]? = some (.dT ks vs)) (i j : Nat) : dctGet h (.ref q) (placeD (i, j)) = some (look ks vs (tk i j)) := by
  show (match h[q]? with | some (.dK ks vs) => (keyV (placeD (i, j))).map (look ks vs) | some (.lckK ks vs) => (keyV (placeD (i, j))).map (look ks vs) | some (.dT ks vs) => (tkeyV (placeD (i, j))).map (look ks vs) | some (.lckT ks vs) => (tkeyV (placeD (i, j))).map (look ks vs) | _ => none) = _
  rw [e]; rfl
theorem l_by_spots (k : Nat) {h : Hea} {q m n : Nat} {ks : List (List L2.Key)} {vs : List D} (K : Kn h q ks vs) (hm : m ≤ 6) (hn : n ≤ 6) : callF tab (k + 1) 29 [.int (m : Int), .int (n : Int), .ref q] h = .ok (tblD (tabOf m n ks vs)) h := by
  have ok : mtOk .get2 h (.ref q) = true := by
    show (match h[q]? with | some (.dK _ _) => true | some (.dT _ _) => true | some (.lckK _ _) => true | some (.lckT _ _) => true | _ => false) = true
    rw [K.at_]
  have g : ∀ i j : Nat, mtR .get2 h (.ref q) [.plc [.int (i : Int), .int (j : Int)], .plc [.int 0, .int 1]] = .ok (numD (entry ks vs i j)) h := fun i j => by
    show need (dctGet h (.ref q) (placeD (i, j))) (fun r => Res.ok (r.getD (.plc [.int 0, .int 1])) h) = _
    rw [dct_at K.at_, need_some]
    unfold entry
    cases e : look ks vs (tk i j) with
    | none => rfl
    | some d =>
      obtain ⟨p, rfl, _⟩ := K.ok i j d e
      rfl
  have l2 : ∀ a b : Int, ([D.int a, .int b] : List D).length ≤ sizeLine := fun a b => le_size (by simp)
  have inner : ∀ i : Nat, lcLoop (lcTurn [4] (.n 4) (evC tab (callF tab k) .nil) (ev tab (callF tab k) (.mt .get2 (.v 2) (.cons (.tupK (.cons (.v 3) (.cons (.v 4) .nil))) (.cons (.tupK (.cons (.int 0) (.cons (.int 1) .nil))) .nil)))).val [some (.int (m : Int)), some (.int (n : Int)), some (.ref q), some (.int (i : Int)), none])
      ((List.range n).map fun i : Nat => D.int (i : Int)) [] h = .ok ((List.range n).map fun j => numD (entry ks vs i j)) h := fun i =>
    lcLoop_all (List.range n) (fun j hj => by
      show (need (evG (.n 4) [some (.int (m : Int)), some (.int (n : Int)), some (.ref q), some (.int (i : Int)), none] (.int (j : Int))) _).noErr = _
      simp only [g_n, List.set_cons_succ, List.set_cons_zero, need_some, c_nil, Res.bind_ok, if_true, v_mt, v_v, List.getElem?_cons_zero, List.getElem?_cons_succ, ok, es_cons, es_nil, v_tupK, v_int, if_pos (l2 _ _), g, Res.noErr]) (le_size (by rw [List.length_range]; omega))
  have i2 : ∀ i : Nat, evI tab (callF tab k) (.rng1 (.v 1)) [some (.int (m : Int)), some (.int (n : Int)), some (.ref q), some (.int (i : Int)), none] h = .ok ((List.range n).map fun i : Nat => D.int (i : Int)) h := fun i => i_rng1_of (by simp) (by omega)
  have i1 : evI tab (callF tab k) (.rng1 (.v 0)) [some (.int (m : Int)), some (.int (n : Int)), some (.ref q), none, none] h = .ok ((List.range m).map fun i : Nat => D.int (i : Int)) h := i_rng1_of (by simp) (by omega)
  have outer : lcLoop (lcTurn [3] (.n 3) (evC tab (callF tab k) .nil) (ev tab (callF tab k) (.bi .tuple (.lc false [4] (.n 4) (.rng1 (.v 1)) .nil (.mt .get2 (.v 2) (.cons (.tupK (.cons (.v 3) (.cons (.v 4) .nil))) (.cons (.tupK (.cons (.int 0) (.cons (.int 1) .nil))) .nil)))))).val [some (.int (m : Int)), some (.int (n : Int)), some (.ref q), none, none])
      ((List.range m).map fun i : Nat => D.int (i : Int)) [] h = .ok ((List.range m).map fun i => rowD ((List.range n).map fun j => entry ks vs i j)) h :=
    lcLoop_all (List.range m) (fun i hi => by
      show (need (evG (.n 3) [some (.int (m : Int)), some (.int (n : Int)), some (.ref q), none, none] (.int (i : Int))) _).noErr = _
      simp only [g_n, List.set_cons_succ, List.set_cons_zero, need_some, c_nil, Res.bind_ok, if_true, v_bi, v_lc, i2, inner, mkL_f, bi_tuple, Res.noErr, rowD, List.map_map]
      rfl) (le_size (by rw [List.length_range]; omega))
  refine callF_ret (f := ⟨"_law_by_spots", 3, 5, b_law_by_spots⟩) (ρ := [some (.int (m : Int)), some (.int (n : Int)), some (.ref q), none, none]) rfl rfl ?_
  show exB tab (callF tab k) b_law_by_spots [some (.int (m : Int)), some (.int (n : Int)), some (.ref q), none, none] h = _
  unfold b_law_by_spots
  rw [s_cons, s_ret, v_bi, v_lc, i1, Res.bind_ok, outer, Res.bind_ok, mkL_f, Res.bind_ok, bi_tuple, Res.st_ok, SR.thn_ret]
  simp only [tblD, tabOf, List.map_map]
  rfl
end K33

set_option Elab.async false
set_option linter.all false
set_option maxRecDepth 100000
set_option maxHeartbeats 1000000
namespace K33
open PySem PyI
section
variable {κ : Type} [DecidableEq κ]
theorem look_putAt (x z : κ) (y : D) : ∀ (ks : List κ) (vs : List D), ks.length = vs.length → look ks (PyI.putAt ks vs x y) z = if x = z ∧ x ∈ ks then some y else look ks vs z
  | [], vs, _ => by simp [look, PyI.putAt]
  | k :: ks, [], e => by simp at e
  | k :: ks, v :: vs, e => by
    have ih := look_putAt x z y ks vs (by simpa using e)
    show (if k = z then some (if k = x then y else v) else look ks (PyI.putAt ks vs x y) z) = _
    by_cases h1 : k = z
    · subst h1
      by_cases h2 : k = x
      · subst h2; simp
      · have h3 : ¬ x = k := fun q => h2 q.symm
        simp [look, h2, h3]
    · rw [if_neg h1, ih]
      by_cases h2 : x = z
      · subst h2
        simp [look, h1, Ne.symm (show k ≠ x from h1)]
      · simp [look, h1, h2]
theorem putAt_len (x : κ) (y : D) : ∀ (ks : List κ) (vs : List D), (PyI.putAt ks vs x y).length = vs.length
  | [], vs => by cases vs <;> rfl
  | k :: ks, [] => rfl
  | k :: ks, v :: vs => by
    show (PyI.putAt ks vs x y).length + 1 = vs.length + 1
    rw [putAt_len x y ks vs]
theorem look_snoc (x z : κ) (y : D) : ∀ (ks : List κ) (vs : List D), ks.length = vs.length → look (ks ++ [x]) (vs ++ [y]) z = (look ks vs z).or (if x = z then some y else none)
  | [], [], _ => by simp [look]
  | [], _ :: _, e => by simp at e
  | k :: ks, [], e => by simp at e
  | k :: ks, v :: vs, e => by
    have ih := look_snoc x z y ks vs (by simpa using e)
    show (if k = z then some v else look (ks ++ [x]) (vs ++ [y]) z) = (if k = z then some v else look ks vs z).or _
    by_cases h1 : k = z
    · simp [h1]
    · rw [if_neg h1, if_neg h1, ih]
theorem look_put {ks : List κ} {vs : List D} (e : ks.length = vs.length) (x z : κ) (y : D) : look (put ks vs x y).1 (put ks vs x y).2 z = if x = z then some y else look ks vs z := by
  unfold put
  by_cases h : x ∈ ks
  · rw [if_pos h]
    rw [look_putAt x z y ks vs e]
    simp [h]
  · rw [if_neg h]
    rw [look_snoc x z y ks vs e]
    by_cases q : x = z
    · subst q
      have : look ks vs x = none := by
        have := look_none x (ks := ks) (ds := vs) e
        rw [decide_eq_false h] at this
        cases hl : look ks vs x with
        | none => rfl
        | some d => rw [hl] at this; cases this
      simp [this]
    · simp [q]
theorem put_len {ks : List κ} {vs : List D} (e : ks.length = vs.length) (x : κ) (y : D) : (put ks vs x y).1.length = (put ks vs x y).2.length ∧ (put ks vs x y).1.length ≤ ks.length + 1 := by
  unfold put
  by_cases h : x ∈ ks
  · rw [if_pos h]; exact ⟨by rw [putAt_len]; exact e, Nat.le_succ _⟩
  · rw [if_neg h]; simp [e]
end
end K33

set_option Elab.async false
set_option linter.all false
set_option maxRecDepth 100000
set_option maxHeartbeats 1000000
namespace K33
open PySem PyI
/-- the dict at q, of at most c keys -/
structure Ds (h : Hea) (q c : Nat) (ks : List (List L2.Key)) (vs : List D) : Prop where
  kn : Kn h q ks vs
  len : ks.length = vs.length
  few : ks.length ≤ c
theorem Pen.oth {h h' : Hea} {p q : Nat} {K : Int} (P : Pen h p K) (e : h'[p]? = h[p]?) : Pen h' p K := by
  obtain ⟨cells, c, s, e1, r⟩ := P
  exact ⟨cells, c, s, e.trans e1, r⟩
theorem set_dT {h : Hea} {q : Nat} {ks : List (List L2.Key)} {vs : List D} (e : h[q]? = some (.dT ks vs)) (hl : ks.length < sizeLine) (i j : Nat) (d : D) :
    setR h (.ref q) (placeD (i, j)) d = some (h.set q (.dT (put ks vs (tk i j) d).1 (put ks vs (tk i j) d).2)) := by
  unfold setR
  simp only [e]
  show (some (tk i j)).bind (fun k => if ks.length < sizeLine then _ else none) = _
  rw [Option.bind_some, if_pos hl]
theorem put_spot (k : Nat) {ρ : PyI.Loc} {h : Hea} {p q c i j : Nat} {K : Int} {ks : List (List L2.Key)} {vs : List D} (r0 : ρ[0]? = some (some (.ref p))) (r3 : ρ[3]? = some (some (placeD (i, j)))) (r6 : ρ[6]? = some (some (.ref q)))
    (P : Pen h p K) (hK : K ≤ 80000) (pq : p ≠ q) (S : Ds h q c ks vs) (hc : c ≤ 200) :
    ∃ h' ks' vs', exS tab (callF tab (k + 4)) (.put (.v 6) (.v 3) (.call 23 (.cons (.v 0) .nil))) ρ h = .ok .nx ρ h' ∧ Pen h' p (K + 2) ∧ Ds h' q (c + 1) ks' vs' ∧
      (∀ a b, (look ks vs (tk a b)).isSome = true → (look ks' vs' (tk a b)).isSome = true) ∧ (look ks' vs' (tk i j)).isSome = true := by
  obtain ⟨x, h1, e1, low, pos, P1, O1⟩ := l_any_number k P hK
  have eq : h1[q]? = some (.dT ks vs) := (O1.2 q (Ne.symm pq)).trans S.kn.at_
  have st := set_dT eq (Nat.lt_of_le_of_lt S.few (Nat.lt_of_le_of_lt hc (by decide))) i j (numD x)
  have hq : q < h1.length := (List.getElem?_eq_some_iff.mp eq).1
  obtain ⟨l1, l2⟩ := put_len S.len (tk i j) (numD x)
  refine ⟨_, (put ks vs (tk i j) (numD x)).1, (put ks vs (tk i j) (numD x)).2, ?_, P1.oth (q := q) (List.getElem?_set_ne (Ne.symm pq)), ⟨⟨List.getElem?_set_self hq, fun a b d hd => ?_⟩, l1, by have := S.few; omega⟩, fun a b hab => ?_, ?_⟩
  · rw [s_put]
    simp only [v_call, es_cons, es_nil, v_v, r0, r3, r6, Res.bind_ok, e1, Res.st_ok, st]
  · rw [look_put S.len] at hd
    by_cases z : tk i j = tk a b
    · rw [if_pos z] at hd; cases hd; exact ⟨x, rfl, low, pos⟩
    · rw [if_neg z] at hd; exact S.kn.ok a b d hd
  · rw [look_put S.len]
    by_cases z : tk i j = tk a b
    · rw [if_pos z]; rfl
    · rw [if_neg z]; exact hab
  · rw [look_put S.len, if_pos rfl]; rfl
end K33

set_option Elab.async false
set_option linter.all false
set_option maxRecDepth 100000
set_option maxHeartbeats 1000000
namespace K33
open PySem PyI
theorem placeD_at {m n i : Nat} {x : D} (e : ((pairsOf m n).map placeD)[i]? = some x) : ∃ a b, x = placeD (a, b) := by
  rw [List.getElem?_map] at e
  obtain ⟨⟨a, b⟩, _, rfl⟩ := Option.map_eq_some_iff.mp e
  exact ⟨a, b, rfl⟩
/-- the first loop: some places get a number -/
theorem loop1 (k : Nat) {p q m n : Nat} {share : Int} {sh : D} {K0 : Int} (pq : p ≠ q) (hm : m ≤ 6) (hn : n ≤ 6) (hK : 0 ≤ K0 ∧ K0 ≤ 1000) {h : Hea} (P : Pen h p K0) (S : Ds h q 0 [] []) {w : Option D} {u : Option D} :
    ∃ h' ks vs w', frLoop (fun x ρ h => match evG (.n 3) ρ x with
      | some ρ1 => exB tab (callF tab (k + 4)) (.cons (.iff (.cmp .ge (.call 18 (.cons (.v 0) (.cons (.int 5) .nil))) (.v 5)) (.cons (.put (.v 6) (.v 3) (.call 23 (.cons (.v 0) .nil))) .nil) .nil) .nil) ρ1 h
      | none => .no) ((pairsOf m n).map placeD) [some (.ref p), some (.int (m : Int)), some (.int (n : Int)), w, u, some (.int share), some (.ref q), some sh] h
      = .ok .nx [some (.ref p), some (.int (m : Int)), some (.int (n : Int)), w', u, some (.int share), some (.ref q), some sh] h' ∧ Pen h' p (K0 + 3 * (pairsOf m n).length) ∧ Ds h' q (pairsOf m n).length ks vs := by
  have l36 : (pairsOf m n).length ≤ 36 := by
    rw [pairsOf_len]
    exact Nat.mul_le_mul hm hn
  obtain ⟨ρ', h', e1, ⟨w', rfl⟩, ks, vs, P', S'⟩ := frLoop_inv (turn := fun x ρ h => match evG (.n 3) ρ x with
      | some ρ1 => exB tab (callF tab (k + 4)) (.cons (.iff (.cmp .ge (.call 18 (.cons (.v 0) (.cons (.int 5) .nil))) (.v 5)) (.cons (.put (.v 6) (.v 3) (.call 23 (.cons (.v 0) .nil))) .nil) .nil) .nil) ρ1 h
      | none => .no)
    (fun i ρ h => (∃ w, ρ = [some (.ref p), some (.int (m : Int)), some (.int (n : Int)), w, u, some (.int share), some (.ref q), some sh]) ∧ ∃ ks vs, (i ≤ 36 → Pen h p (K0 + 3 * i)) ∧ Ds h q i ks vs)
    ((pairsOf m n).map placeD) 0 _ h (fun i x ρ h ex hi => by
      obtain ⟨⟨w, rfl⟩, ks, vs, P, S⟩ := hi
      rw [Nat.zero_add] at P S ⊢
      have il : i < 36 := by
        have := (List.getElem?_eq_some_iff.mp ex).1
        rw [List.length_map] at this; omega
      obtain ⟨a, b, rfl⟩ := placeD_at ex
      obtain ⟨v, h1, et, v0, v1, P1, O1⟩ := l_take (k + 2) (many := 5) (P (by omega)) (by omega) (by decide) (by decide)
      have S1 : Ds h1 q i ks vs := ⟨⟨(O1.2 q (Ne.symm pq)).trans S.kn.at_, S.kn.ok⟩, S.len, S.few⟩
      by_cases c : share ≤ v
      · obtain ⟨h2, ks2, vs2, e2, P2, S2, _, _⟩ := put_spot k (ρ := [some (.ref p), some (.int (m : Int)), some (.int (n : Int)), some (placeD (a, b)), u, some (.int share), some (.ref q), some sh]) (i := a) (j := b) rfl rfl rfl P1 (by omega) pq S1 (by omega)
        refine ⟨_, h2, ?_, ⟨some (placeD (a, b)), rfl⟩, ks2, vs2, fun _ => ?_, S2⟩
        · simp only [g_n, List.set_cons_succ, List.set_cons_zero, s_cons, s_nil, s_if, t_cmp, v_call, es_cons, es_nil, v_v, v_int, List.getElem?_cons_zero, List.getElem?_cons_succ, Res.bind_ok, et, cmp_ge, need_some, c, decide_true, Res.st_ok, if_true, e2, SR.thn_nx]
        · rw [show K0 + 3 * ((i + 1 : Nat) : Int) = K0 + 3 * (i : Int) + 1 + 2 by omega]; exact P2
      · refine ⟨_, h1, ?_, ⟨some (placeD (a, b)), rfl⟩, ks, vs, fun _ => ?_, ⟨S1.kn, S1.len, by have := S1.few; omega⟩⟩
        · simp only [g_n, List.set_cons_succ, List.set_cons_zero, s_cons, s_nil, s_if, t_cmp, v_call, es_cons, es_nil, v_v, v_int, List.getElem?_cons_zero, List.getElem?_cons_succ, Res.bind_ok, et, cmp_ge, need_some, c, decide_false, Res.st_ok, Bool.false_eq_true, if_false, SR.thn_nx]
        · obtain ⟨cells, c', s', q1, q2, q3, q4⟩ := P1
          exact ⟨cells, c', s', q1, q2, by omega, q4⟩)
    ⟨⟨w, rfl⟩, [], [], fun _ => by simpa using P, S⟩
  rw [Nat.zero_add, List.length_map] at P' S'
  exact ⟨h', ks, vs, w', e1, P' l36, S'⟩
end K33

set_option Elab.async false
set_option linter.all false
set_option maxRecDepth 100000
set_option maxHeartbeats 1000000
namespace K33
open PySem PyI
theorem mem_at {h : Hea} {q : Nat} {ks : List (List L2.Key)} {vs : List D} (e : h[q]? = some (.dT ks vs)) (i j : Nat) : cmpR .nmem h (placeD (i, j)) (.ref q) = some (!(look ks vs (tk i j)).isSome) := by
  show (memR h (placeD (i, j)) (.ref q)).map not = _
  have l : lstV h (.ref q) = none := by
    show (match h[q]? with | some (.lst xs) => some xs | _ => none) = none
    rw [e]
  unfold memR
  rw [l]
  show ((dctGet h (.ref q) (placeD (i, j))).map (·.isSome)).map not = _
  rw [dct_at e]; rfl
theorem loop2 (k : Nat) {p q m n c s N : Nat} {share : D} {K0 : Int} (pq : p ≠ q) (hm : 1 ≤ m) (hn : 1 ≤ n) (hN : N ≤ 6) (hc : c ≤ 100) (hK : 0 ≤ K0 ∧ K0 ≤ 2000) {h : Hea} {ks : List (List L2.Key)} {vs : List D} (P : Pen h p K0) (S : Ds h q c ks vs) {w : Option D} {u : Option D} :
    ∃ h' ks' vs' ρ', frLoop (fun x ρ h => match evG (.n 4) ρ x with
      | some ρ1 => exB tab (callF tab (k + 4)) (.cons (.set 3 (.tupK (.cons (.bin .mod (.bi .int (.v 4)) (.v 1)) (.cons (.bin .mod (.bi .int (.bin .add (.v 4) (.v 7))) (.v 2)) .nil)))) (.cons (.iff (.cmp .nmem (.v 3) (.v 6)) (.cons (.put (.v 6) (.v 3) (.call 23 (.cons (.v 0) .nil))) .nil) .nil) .nil)) ρ1 h
      | none => .no) ((List.range N).map fun i : Nat => D.int (i : Int)) [some (.ref p), some (.int (m : Int)), some (.int (n : Int)), w, u, some share, some (.ref q), some (.int (s : Int))] h
      = .ok .nx ρ' h' ∧ (∃ w' u', ρ' = [some (.ref p), some (.int (m : Int)), some (.int (n : Int)), w', u', some share, some (.ref q), some (.int (s : Int))]) ∧ Pen h' p (K0 + 2 * N) ∧ Ds h' q (c + N) ks' vs' ∧ ∀ i, i < N → (look ks' vs' (tk (i % m) ((i + s) % n))).isSome = true := by
  obtain ⟨ρ', h', e1, ⟨w', u', rfl⟩, ks', vs', P', S', A'⟩ := frLoop_inv (turn := fun x ρ h => match evG (.n 4) ρ x with
      | some ρ1 => exB tab (callF tab (k + 4)) (.cons (.set 3 (.tupK (.cons (.bin .mod (.bi .int (.v 4)) (.v 1)) (.cons (.bin .mod (.bi .int (.bin .add (.v 4) (.v 7))) (.v 2)) .nil)))) (.cons (.iff (.cmp .nmem (.v 3) (.v 6)) (.cons (.put (.v 6) (.v 3) (.call 23 (.cons (.v 0) .nil))) .nil) .nil) .nil)) ρ1 h
      | none => .no)
    (fun i ρ h => (∃ w u, ρ = [some (.ref p), some (.int (m : Int)), some (.int (n : Int)), w, u, some share, some (.ref q), some (.int (s : Int))]) ∧ ∃ ks vs, (i ≤ 6 → Pen h p (K0 + 2 * i)) ∧ Ds h q (c + i) ks vs ∧ ∀ j, j < i → (look ks vs (tk (j % m) ((j + s) % n))).isSome = true)
    ((List.range N).map fun i : Nat => D.int (i : Int)) 0 _ h (fun i x ρ h ex hi => by
      obtain ⟨⟨w, u, rfl⟩, ks, vs, P, S, A⟩ := hi
      rw [Nat.zero_add] at P S A ⊢
      rw [List.getElem?_map] at ex
      obtain ⟨i', ei, rfl⟩ := Option.map_eq_some_iff.mp ex
      have il : i < N := by simpa using (List.getElem?_eq_some_iff.mp ei).1
      have : i' = i := by
        rw [List.getElem?_range il] at ei
        exact (Option.some.inj ei).symm
      subst this
      have cm : (i' : Int) % (m : Int) = ((i' % m : Nat) : Int) := by simp
      have cn : ((i' : Int) + (s : Int)) % (n : Int) = (((i' + s) % n : Nat) : Int) := by simp
      have pm : (0 : Int) < m := by omega
      have pn : (0 : Int) < n := by omega
      have l2 : ([D.int ((i' : Int) % (m : Int)), .int (((i' : Int) + (s : Int)) % (n : Int))] : List D).length ≤ sizeLine := le_size (by simp)
      have pl : D.plc [.int ((i' : Int) % (m : Int)), .int (((i' : Int) + (s : Int)) % (n : Int))] = placeD (i' % m, (i' + s) % n) := by rw [cm, cn]; rfl
      have nm := mem_at S.kn.at_ (i' % m) ((i' + s) % n)
      by_cases b : (look ks vs (tk (i' % m) ((i' + s) % n))).isSome = true
      · refine ⟨_, h, ?_, ⟨some (placeD (i' % m, (i' + s) % n)), some (.int (i' : Int)), rfl⟩, ks, vs, fun _ => ?_, ⟨S.kn, S.len, by have := S.few; omega⟩, fun j hj => ?_⟩
        · rw [b] at nm
          simp only [g_n, List.set_cons_succ, List.set_cons_zero, s_cons, s_nil, s_set, s_if, t_cmp, v_tupK, v_bin, v_bi, es_cons, es_nil, v_v, v_int, List.getElem?_cons_zero, List.getElem?_cons_succ, Res.bind_ok, bi_int, bin_mod pm, bin_mod pn, bin_add, if_pos l2, pl, Res.st_ok, SR.thn_nx, nm, need_some, Bool.not_true, Bool.false_eq_true, if_false]
        · obtain ⟨cells, c', s', q1, q2, q3, q4⟩ := P (by omega)
          exact ⟨cells, c', s', q1, q2, by omega, q4⟩
        · by_cases z : j = i'
          · subst z; exact b
          · exact A j (by omega)
      · obtain ⟨h2, ks2, vs2, e2, P2, S2, mono, here⟩ := put_spot k (ρ := [some (.ref p), some (.int (m : Int)), some (.int (n : Int)), some (placeD (i' % m, (i' + s) % n)), some (.int (i' : Int)), some share, some (.ref q), some (.int (s : Int))]) (i := i' % m) (j := (i' + s) % n) rfl rfl rfl (P (by omega)) (by omega) pq S (by omega)
        refine ⟨_, h2, ?_, ⟨some (placeD (i' % m, (i' + s) % n)), some (.int (i' : Int)), rfl⟩, ks2, vs2, fun _ => ?_, S2, fun j hj => ?_⟩
        · rw [Bool.not_eq_true] at b
          rw [b] at nm
          simp only [g_n, List.set_cons_succ, List.set_cons_zero, s_cons, s_nil, s_set, s_if, t_cmp, v_tupK, v_bin, v_bi, es_cons, es_nil, v_v, v_int, List.getElem?_cons_zero, List.getElem?_cons_succ, Res.bind_ok, bi_int, bin_mod pm, bin_mod pn, bin_add, if_pos l2, pl, Res.st_ok, SR.thn_nx, nm, need_some, Bool.not_false, if_true, e2]
        · rw [show K0 + 2 * ((i' + 1 : Nat) : Int) = K0 + 2 * (i' : Int) + 2 by omega]; exact P2
        · by_cases z : j = i'
          · subst z; exact here
          · exact mono _ _ (A j (by omega)))
    ⟨⟨w, u, rfl⟩, ks, vs, fun _ => by simpa using P, S, fun j hj => by omega⟩
  rw [Nat.zero_add, List.length_map, List.length_range] at P' S' A'
  exact ⟨h', ks', vs', _, e1, ⟨w', u', rfl⟩, P' hN, S', A'⟩
end K33

set_option Elab.async false
set_option linter.all false
set_option maxRecDepth 100000
set_option maxHeartbeats 1000000
namespace K33
open PySem PyI
theorem tabOf_at {m n i j : Nat} {ks : List (List L2.Key)} {vs : List D} (hi : i < m) (hj : j < n) : at_ (tabOf m n ks vs) i j = entry ks vs i j := by
  simp [at_, tabOf, List.getD_eq_getElem?_getD, hi, hj]
theorem entry_low {h : Hea} {q : Nat} {ks : List (List L2.Key)} {vs : List D} (K : Kn h q ks vs) (i j : Nat) : Low (entry ks vs i j) ∧ ((look ks vs (tk i j)).isSome = true → 0 < (entry ks vs i j).1) := by
  unfold entry
  cases e : look ks vs (tk i j) with
  | none => exact ⟨⟨⟨by decide, by decide, by decide, by decide⟩, by decide, by decide⟩, fun z => by cases z⟩
  | some d =>
    obtain ⟨p, rfl, l, pos⟩ := K.ok i j d e
    exact ⟨l, fun _ => pos⟩
theorem tabOf_tbl {h : Hea} {q m n : Nat} {ks : List (List L2.Key)} {vs : List D} (K : Kn h q ks vs) (m1 : 1 ≤ m) (m6 : m ≤ 6) (n1 : 1 ≤ n) (n6 : n ≤ 6) : Tbl m n (tabOf m n ks vs) where
  rows := by simp [tabOf]
  m1 := m1
  m6 := m6
  n1 := n1
  n6 := n6
  cols := fun r hr => by
    obtain ⟨i, _, rfl⟩ := List.mem_map.mp hr
    simp
  low := fun r hr p hp => by
    obtain ⟨i, _, rfl⟩ := List.mem_map.mp hr
    obtain ⟨j, _, rfl⟩ := List.mem_map.mp hp
    exact (entry_low K i j).1
theorem tabOf_full {h : Hea} {q m n s : Nat} {ks : List (List L2.Key)} {vs : List D} (K : Kn h q ks vs) (m1 : 1 ≤ m) (m6 : m ≤ 6) (n1 : 1 ≤ n) (n6 : n ≤ 6) (A : ∀ i, i < max m n → (look ks vs (tk (i % m) ((i + s) % n))).isSome = true) : Full n (tabOf m n ks vs) := by
  refine full_of (tabOf_tbl K m1 m6 n1 n6) (fun i hi => ?_) (fun j hj => ?_)
  · have hn : (i + s) % n < n := Nat.mod_lt _ (by omega)
    refine ⟨(i + s) % n, hn, ?_⟩
    rw [tabOf_at hi hn]
    have := A i (by omega)
    rw [Nat.mod_eq_of_lt hi] at this
    exact (entry_low K _ _).2 this
  · have h1 : (j + (n - s % n)) % n < n := Nat.mod_lt _ (by omega)
    have sn : s % n < n := Nat.mod_lt _ (by omega)
    have e : ((j + (n - s % n)) % n + s) % n = j := by
      rw [Nat.add_mod, Nat.mod_mod, ← Nat.add_mod]
      have : j + (n - s % n) + s = j + n * (s / n + 1) := by
        have := Nat.div_add_mod s n
        rw [Nat.mul_add, Nat.mul_one]; omega
      rw [this, Nat.add_mul_mod_self_left, Nat.mod_eq_of_lt hj]
    have hm : (j + (n - s % n)) % n % m < m := Nat.mod_lt _ (by omega)
    refine ⟨(j + (n - s % n)) % n % m, hm, ?_⟩
    rw [tabOf_at hm hj]
    have := A ((j + (n - s % n)) % n) (by omega)
    rw [e] at this
    exact (entry_low K _ _).2 this
end K33

set_option Elab.async false
set_option linter.all false
set_option maxRecDepth 100000
set_option maxHeartbeats 1000000
namespace K33
open PySem PyI
theorem bi_max {h : Hea} (m n : Nat) : biR .max h (.lst [.int (m : Int), .int (n : Int)]) = .ok (.int ((max m n : Nat) : Int)) h := by
  show (if ([(m : Int), (n : Int)] : List Int) = [] then Res.no else Res.ok (D.int (maxI [(m : Int), (n : Int)])) h) = _
  rw [if_neg (by simp)]
  congr 2
  show (if (n : Int) > (m : Int) then (n : Int) else (m : Int)) = _
  split <;> omega
theorem l_any_table (k : Nat) {h : Hea} {p m n : Nat} {K0 : Int} (P : Pen h p K0) (hK : 0 ≤ K0 ∧ K0 ≤ 700) (m1 : 1 ≤ m) (m6 : m ≤ 6) (n1 : 1 ≤ n) (n6 : n ≤ 6) :
    ∃ t h', callF tab (k + 5) 30 [.ref p, .int (m : Int), .int (n : Int)] h = .ok (tblD t) h' ∧ Tbl m n t ∧ Full n t ∧ Pen h' p (K0 + 150) := by
  obtain ⟨x, h1, e1, hx, P1, O1⟩ := l_one_of (k + 1) (xs := [.int 0, .int 1, .int 2, .int 3]) P (by omega) (by decide) (by decide)
  obtain ⟨share, rfl⟩ : ∃ d : Int, x = .int d := by
    simp only [List.mem_cons, List.not_mem_nil, or_false] at hx
    rcases hx with z | z | z | z <;> exact ⟨_, z⟩
  have pl : p < h1.length := by
    obtain ⟨_, _, _, q1, _⟩ := P1
    exact (List.getElem?_eq_some_iff.mp q1).1
  have P2 : Pen (h1 ++ [.dT [] []]) p (K0 + 1) := P1.oth (q := 0) (List.getElem?_append_left pl)
  obtain ⟨sv, h3, e3, s0, s1, P3, O3⟩ := l_take (k + 2) (many := (n : Int)) P2 (by omega) (by omega) (by omega)
  have pq : p ≠ h1.length := by omega
  have S3 : Ds h3 h1.length 0 [] [] := ⟨⟨(O3.2 _ (Ne.symm pq)).trans (by rw [List.getElem?_append_right (Nat.le_refl _), Nat.sub_self]; rfl), fun i j d e => by cases e⟩, rfl, Nat.le_refl _⟩
  obtain ⟨h4, ks, vs, w, e4, P4, S4⟩ := loop1 k (m := m) (n := n) (share := share) (sh := .int sv) (w := none) (u := none) pq m6 n6 (by omega) P3 S3
  have l36 : (pairsOf m n).length ≤ 36 := by rw [pairsOf_len]; exact Nat.mul_le_mul m6 n6
  obtain ⟨s, rfl⟩ := Int.eq_ofNat_of_zero_le s0
  obtain ⟨h5, ks5, vs5, ρ5, e5, ⟨w5, u5, rfl⟩, P5, S5, A⟩ := loop2 k (m := m) (n := n) (N := max m n) (s := s) (share := .int share) (w := w) (u := none) pq m1 n1 (by omega) (by omega) (by omega) P4 S4
  have by_ := l_by_spots (k + 3) S5.kn m6 n6
  refine ⟨tabOf m n ks5 vs5, h5, callF_ret (f := ⟨"_law_any_table", 3, 8, b_law_any_table⟩) (ρ := [some (.ref p), some (.int (m : Int)), some (.int (n : Int)), w5, u5, some (.int share), some (.ref h1.length), some (.int (s : Int))]) rfl rfl ?_, tabOf_tbl S5.kn m1 m6 n1 n6, tabOf_full S5.kn m1 m6 n1 n6 A, ?_⟩
  · show exB tab (callF tab (k + 4)) b_law_any_table [some (.ref p), some (.int (m : Int)), some (.int (n : Int)), none, none, none, none, none] h = _
    unfold b_law_any_table
    have len4 : ([D.int 0, .int 1, .int 2, .int 3] : List D).length ≤ sizeLine := le_size (by decide)
    rw [s_cons, s_par]
    simp only [es_cons, es_nil, v_call, v_lst, v_v, v_int, v_dnewT, allocR, List.getElem?_cons_zero, List.getElem?_cons_succ, Res.bind_ok, if_pos len4, e1, e3, Res.st_ok, setAll_cons, setAll_nil, List.set_cons_succ, List.set_cons_zero, SR.thn_nx]
    have it1 : evI tab (callF tab (k + 4)) (.seq (.call 28 (.cons (.v 1) (.cons (.v 2) .nil)))) [some (.ref p), some (.int (m : Int)), some (.int (n : Int)), none, none, some (.int share), some (.ref h1.length), some (.int (s : Int))] h3 = .ok ((pairsOf m n).map placeD) h3 := by
      simp [l_pairs (k + 3) m6 n6]
    have it2 : evI tab (callF tab (k + 4)) (.rng1 (.bi .max (.lst (.cons (.v 1) (.cons (.v 2) .nil))))) [some (.ref p), some (.int (m : Int)), some (.int (n : Int)), w, none, some (.int share), some (.ref h1.length), some (.int (s : Int))] h4 = .ok ((List.range (max m n)).map fun i : Nat => D.int (i : Int)) h4 := by
      refine i_rng1_of ?_ (by omega)
      have l2 : ([D.int (m : Int), .int (n : Int)] : List D).length ≤ sizeLine := le_size (by simp)
      simp only [v_bi, v_lst, es_cons, es_nil, v_v, List.getElem?_cons_zero, List.getElem?_cons_succ, Res.bind_ok, if_pos l2, bi_max]
    rw [s_cons, s_fr, it1, Res.st_ok]
    erw [e4]
    rw [SR.thn_nx, s_cons, s_fr, it2, Res.st_ok]
    erw [e5]
    rw [SR.thn_nx]
    simp only [s_cons, s_ret, v_call, es_cons, es_nil, v_v, List.getElem?_cons_zero, List.getElem?_cons_succ, Res.bind_ok, by_, Res.st_ok, SR.thn_ret]
  · obtain ⟨cells, c', s', q1, q2, q3, q4⟩ := P5
    exact ⟨cells, c', s', q1, q2, by omega, q4⟩
end K33

set_option Elab.async false
set_option linter.all false
set_option maxRecDepth 100000
/-! Fine: data that are told by repr and compared: how deep, how long their texts are. -/
namespace PyI
open PySem

/-- at most dep deep, its text at most len long -/
structure Fine (dep len : Nat) (d : PyData) : Prop where
  can : d.canLay0 = true
  dp : d.depth ≤ dep
  sh : d.showable = true
  ln : d.shown.length ≤ len
theorem Fine.mono {a b c e : Nat} {d : PyData} (f : Fine a b d) (h1 : a ≤ c) (h2 : b ≤ e) : Fine c e d := ⟨f.can, Nat.le_trans f.dp h1, f.sh, Nat.le_trans f.ln h2⟩
theorem fine_non : Fine 0 4 .none := ⟨rfl, Nat.le_refl _, rfl, by decide⟩
theorem fine_bl (b : Bool) : Fine 0 5 (.bool b) := ⟨rfl, Nat.le_refl _, rfl, by cases b <;> decide⟩
theorem pow10_log {n k : Nat} (hk : k ≤ 500) (h : n < 10 ^ k) : n.log2 < 1920 := by
  by_cases z : n = 0
  · rw [z]; decide
  · rw [Nat.log2_lt z]
    have h1 : (10 : Nat) ^ k ≤ 10 ^ 500 := Nat.pow_le_pow_right (by decide) hk
    have h2 : (10 : Nat) ^ 500 ≤ 2 ^ 1920 := by
      calc (10 : Nat) ^ 500 ≤ 16 ^ 480 := by decide +kernel
        _ = 2 ^ 1920 := by rw [show (16 : Nat) = 2 ^ 4 from rfl, ← Nat.pow_mul]
    omega
theorem fine_int {i : Int} {k : Nat} (k0 : 0 < k) (hk : k ≤ 500) (h : i.natAbs < 10 ^ k) : Fine 0 (k + 1) (.int i) := by
  refine ⟨rfl, Nat.le_refl _, by simpa [PyData.showable] using pow10_log hk h, ?_⟩
  have e := int_text_length_le10 k0 h
  show (Str.ofString (toString i)).length ≤ k + 1
  rw [ofString_length]; exact e
theorem canAll : ∀ {xs : List PyData}, (∀ x ∈ xs, x.canLay0 = true) → PyData.canLayAll0 xs = true
  | [], _ => rfl
  | x :: r, h => by
    show (x.canLay0 && PyData.canLayAll0 r) = true
    rw [h x List.mem_cons_self, canAll fun y hy => h y (List.mem_cons_of_mem _ hy)]; rfl
theorem shAll : ∀ {xs : List PyData}, (∀ x ∈ xs, x.showable = true) → PyData.showableAll xs = true
  | [], _ => rfl
  | x :: r, h => by
    show (x.showable && PyData.showableAll r) = true
    rw [h x List.mem_cons_self, shAll fun y hy => h y (List.mem_cons_of_mem _ hy)]; rfl
theorem dpAll {n : Nat} : ∀ {xs : List PyData}, (∀ x ∈ xs, x.depth ≤ n) → PyData.depthAll xs ≤ n
  | [], _ => Nat.zero_le _
  | x :: r, h => by
    show max x.depth (PyData.depthAll r) ≤ n
    have := h x List.mem_cons_self
    have := dpAll fun y hy => h y (List.mem_cons_of_mem x hy)
    omega
theorem lenAll {len : Nat} : ∀ {xs : List PyData}, (∀ x ∈ xs, x.shown.length ≤ len) → ((PyData.shownAll xs).map (·.length)).sum + 2 * (PyData.shownAll xs).length ≤ xs.length * (len + 2)
  | [], _ => Nat.zero_le _
  | x :: r, h => by
    have h1 := h x List.mem_cons_self
    have h2 := lenAll fun y hy => h y (List.mem_cons_of_mem x hy)
    show ((x.shown :: PyData.shownAll r).map (·.length)).sum + 2 * (x.shown :: PyData.shownAll r).length ≤ (x :: r).length * (len + 2)
    simp only [List.map_cons, List.sum_cons, List.length_cons, Nat.add_mul, Nat.one_mul] at *
    omega
theorem fine_list {dep len n : Nat} {xs : List PyData} (h : ∀ x ∈ xs, Fine dep len x) (hn : xs.length ≤ n) : Fine (dep + 1) (n * (len + 2) + 3) (.list xs) := by
  refine ⟨?_, ?_, ?_, ?_⟩
  · have := canAll fun x hx => (h x hx).can; simpa [PyData.canLay0] using this
  · have := dpAll fun x hx => (h x hx).dp
    show PyData.depthAll xs + 1 ≤ dep + 1
    omega
  · have := shAll fun x hx => (h x hx).sh; simpa [PyData.showable] using this
  · have h1 := lenAll fun x hx => (h x hx).ln
    have h2 := listText_len_le (PyData.shownAll xs)
    have h3 : xs.length * (len + 2) ≤ n * (len + 2) := Nat.mul_le_mul_right _ hn
    show (listText (PyData.shownAll xs)).length ≤ _
    omega
theorem fine_tup {dep len n : Nat} {xs : List PyData} (h : ∀ x ∈ xs, Fine dep len x) (hn : xs.length ≤ n) : Fine (dep + 1) (n * (len + 2) + 3) (.tuple xs) := by
  refine ⟨?_, ?_, ?_, ?_⟩
  · have := canAll fun x hx => (h x hx).can; simpa [PyData.canLay0] using this
  · have := dpAll fun x hx => (h x hx).dp
    show PyData.depthAll xs + 1 ≤ dep + 1
    omega
  · have := shAll fun x hx => (h x hx).sh; simpa [PyData.showable] using this
  · have h1 := lenAll fun x hx => (h x hx).ln
    have h2 := tupleText_len_le (PyData.shownAll xs)
    have h3 : xs.length * (len + 2) ≤ n * (len + 2) := Nat.mul_le_mul_right _ hn
    show (tupleText (PyData.shownAll xs)).length ≤ _
    omega
theorem Fine.shaped {dep len : Nat} {d : PyData} (f : Fine dep len d) (h : dep ≤ 64) : SeqAt.shaped d = true := by
  unfold SeqAt.shaped
  rw [f.can, Bool.true_and]
  exact decide_eq_true (Nat.le_trans f.dp h)
theorem pds_eq : ∀ xs : List D, pds xs = xs.map pd
  | [] => rfl
  | x :: r => by
    show pd x :: pds r = _
    rw [pds_eq r]; rfl
def isSeq : PyData → Bool
  | .list _ => true
  | .tuple _ => true
  | _ => false
theorem Fine.rep {dep len : Nat} {d : PyData} (f : Fine dep len d) (h : dep ≤ 60) (h2 : len ≤ 16000000) (q : isSeq d = true) : repOk d = true := by
  have hl : d.shown.length ≤ sizeLine := Nat.le_trans f.ln (Nat.le_trans h2 (by decide))
  have hd := PyData.hasDict_of_canLay d f.can
  have hp : d.depth ≤ 60 := Nat.le_trans f.dp h
  unfold repOk
  rw [f.shaped (by omega), f.sh, hd, decide_eq_true hp, decide_eq_true hl]
  cases d <;> first | rfl | cases q
theorem bi_repr {h : Hea} {x : D} (e : repOk (pdH h x) = true) : biR .repr h x = .ok (.str (pdH h x).shown) h := by
  show (if repOk (pdH h x) = true then _ else _) = _
  rw [if_pos e]
end PyI

set_option Elab.async false
set_option linter.all false
set_option maxRecDepth 100000
set_option maxHeartbeats 1000000
namespace K33
open PySem PyI
/-! ### texts -/
theorem fine_small {i : Int} (h1 : -(10 ^ 12) < i) (h2 : i < 10 ^ 12) : Fine 0 13 (.int i) := fine_int (k := 12) (by decide) (by decide) (by omega)
theorem fine_num {p : Nu} (h : Bnd (10 ^ 12 - 1) p) : Fine 1 33 (pd (numD p)) := by
  obtain ⟨h1, h2, h3, h4⟩ := h
  refine fine_tup (dep := 0) (len := 13) (n := 2) (fun x hx => ?_) (Nat.le_refl _)
  have hx : x = .int p.1 ∨ x = .int p.2 := by simpa [pds_eq, pd] using hx
  rcases hx with rfl | rfl <;> exact fine_small (by omega) (by omega)
theorem fine_row {r : Rw} (h6 : r.length ≤ 6) (h : ∀ p ∈ r, Bnd (10 ^ 12 - 1) p) : Fine 2 213 (pd (rowD r)) := by
  refine fine_tup (dep := 1) (len := 33) (n := 6) (fun x hx => ?_) (by rw [pds_eq]; simpa using h6)
  rw [pds_eq, List.map_map] at hx
  obtain ⟨p, hp, rfl⟩ := List.mem_map.mp hx
  exact fine_num (h p hp)
theorem low_big {p : Nu} (l : Low p) : Bnd (10 ^ 12 - 1) p := l.1.mono (by decide)
theorem fine_tbl {m n : Nat} {t : List Rw} (T : Tbl m n t) : Fine 3 1293 (pd (tblD t)) := by
  refine fine_tup (dep := 2) (len := 213) (n := 6) (fun x hx => ?_) (by rw [pds_eq]; simp [T.rows, T.m6])
  rw [pds_eq, List.map_map] at hx
  obtain ⟨r, hr, rfl⟩ := List.mem_map.mp hx
  exact fine_row (by rw [T.cols r hr]; exact T.n6) fun p hp => low_big (T.low r hr p hp)
theorem total_big {m n : Nat} {t : List Rw} (T : Tbl m n t) {r : Rw} (hr : r ∈ t) : Bnd (10 ^ 12 - 1) (total r) := by
  have hn := T.n6
  have := total_bnd r.length r rfl fun p hp => (T.low r hr p hp).1
  refine this.mono ?_
  rw [T.cols r hr]
  have h := Nat.pow_le_pow_right (n := 18) (by decide) hn
  have : (18 : Int) ^ n ≤ 18 ^ 6 := by exact_mod_cast h
  have e : (18 : Int) ^ 6 ≤ 10 ^ 12 - 1 := by decide
  omega
theorem fine_totals {m n : Nat} {t : List Rw} (T : Tbl m n t) : Fine 2 213 (pd (rowD (t.map total))) := by
  refine fine_row (by rw [List.length_map, T.rows]; exact T.m6) fun p hp => ?_
  obtain ⟨r, hr, rfl⟩ := List.mem_map.mp hp
  exact total_big T hr
theorem fine_place {a b : Nat} (ha : a < 1000) (hb : b < 1000) : Fine 1 33 (pd (placeD (a, b))) := by
  refine fine_tup (dep := 0) (len := 13) (n := 2) (fun x hx => ?_) (Nat.le_refl _)
  have hx : x = .int (a : Int) ∨ x = .int (b : Int) := by simpa [pds_eq, pd] using hx
  rcases hx with rfl | rfl <;> exact fine_small (by omega) (by omega)
theorem spots_in {m n : Nat} {t : List Rw} {p : Nat × Nat} (h : p ∈ spotsOf m n t) : p.1 < m ∧ p.2 < n := by
  unfold spotsOf at h
  obtain ⟨i, hi, h⟩ := List.mem_flatMap.mp h
  obtain ⟨j, hj, rfl⟩ := List.mem_map.mp h
  exact ⟨List.mem_range.mp hi, List.mem_range.mp (List.mem_filter.mp hj).1⟩
theorem flat_len {α β : Type} (f : α → List β) (b : Nat) : ∀ l : List α, (∀ a ∈ l, (f a).length ≤ b) → (l.flatMap f).length ≤ l.length * b
  | [], _ => Nat.zero_le _
  | a :: r, h => by
    have h1 := h a List.mem_cons_self
    have h2 := flat_len f b r fun x hx => h x (List.mem_cons_of_mem _ hx)
    simp only [List.flatMap_cons, List.length_append, List.length_cons, Nat.succ_mul]
    omega
theorem spots_len {m n : Nat} {t : List Rw} (hm : m ≤ 6) (hn : n ≤ 6) : (spotsOf m n t).length ≤ 36 := by
  have := flat_len (fun i => ((List.range n).filter fun j => decide (at_ t i j ≠ (0, 1))).map fun j => (i, j)) 6 (List.range m) fun a _ => by
    rw [List.length_map]
    have := List.length_filter_le (fun j => decide (at_ t a j ≠ (0, 1))) (List.range n)
    rw [List.length_range] at this
    omega
  rw [List.length_range] at this
  unfold spotsOf
  omega
theorem fine_spots {m n : Nat} {t : List Rw} (T : Tbl m n t) : Fine 2 1263 (.list (pds ((spotsOf m n t).map placeD))) := by
  have hm := T.m6
  have hn := T.n6
  refine fine_list (dep := 1) (len := 33) (n := 36) (fun x hx => ?_) (by rw [pds_eq]; simpa using spots_len hm hn)
  rw [pds_eq, List.map_map] at hx
  obtain ⟨p, hp, rfl⟩ := List.mem_map.mp hx
  obtain ⟨h1, h2⟩ := spots_in hp
  exact fine_place (by omega) (by omega)
theorem cmp_strs (h : Hea) (x : Str) : cmpR .ne h (.str x) (.str x) = some false := by
  show some (!decide (x = x)) = _
  simp
theorem fine_two {a b : D} {len : Nat} (ha : Fine 2 len (pd a)) (hb : Fine 2 len (pd b)) : Fine 3 (2 * (len + 2) + 3) (.list (pds [a, b])) := by
  refine fine_list (dep := 2) (len := len) (n := 2) (fun x hx => ?_) (Nat.le_refl _)
  have hx : x = pd a ∨ x = pd b := by simpa [pds_eq] using hx
  rcases hx with rfl | rfl
  · exact ha
  · exact hb
/-- one look -/
theorem again (k : Nat) {m n : Nat} {t : List Rw} (T : Tbl m n t) (F : Full n t) {h : Hea} {p : Nat} {K : Int} (P : Pen h p K) {a b c d u v w : Option D} {tx : D} :
    ∃ h', exB tab (callF tab (k + 8)) (.cons (.set 9 (.call 15 (.cons (.v 3) .nil)))
    (.cons (.iff (.or (.cmp .ne (.bi .repr (.lst (.cons (.call 13 (.cons (.v 3) .nil)) (.cons (.call 14 (.cons (.v 3) .nil)) .nil)))) (.bi .repr (.bi .list (.v 8)))) (.cmp .ne (.bi .repr (.v 9)) (.bi .repr (.call 27 (.cons (.v 3) .nil)))))
   (.cons (.ret (.bl false))
    .nil)
   .nil)
    (.cons (.ex (.mt .append (.v 9) (.cons .non .nil)))
    .nil))) [a, some (.ref p), b, some (tblD t), c, d, u, some tx, some (.plc [rowD (t.map total), rowD ((colsOf n t).map total)]), v] h
    = .ok .nx [a, some (.ref p), b, some (tblD t), c, d, u, some tx, some (.plc [rowD (t.map total), rowD ((colsOf n t).map total)]), some (.ref h.length)] h' ∧ Pen h' p K := by
  have T2 := colsOf_tbl T
  have f1 := fine_two (fine_totals T) (fine_totals T2)
  have l2 : ([rowD (t.map total), rowD ((colsOf n t).map total)] : List D).length ≤ sizeLine := le_size (by simp)
  have hp : p < h.length := by
    obtain ⟨_, _, _, q1, _⟩ := P
    exact (List.getElem?_eq_some_iff.mp q1).1
  generalize hh : h ++ [MO.lst ((spotsOf m n t).map placeD)] = h1
  have e1 : h1[h.length]? = some (.lst ((spotsOf m n t).map placeD)) := by
    rw [← hh, List.getElem?_append_right (Nat.le_refl _), Nat.sub_self]; rfl
  have ep : h1[p]? = h[p]? := by rw [← hh]; exact List.getElem?_append_left hp
  have r1 := bi_repr (h := h1) (x := .lst [rowD (t.map total), rowD ((colsOf n t).map total)]) (f1.rep (by decide) (by decide) rfl)
  have pdr : pdH h1 (.ref h.length) = .list (pds ((spotsOf m n t).map placeD)) := by
    show (match h1[h.length]? with | some (.lst xs) => PyData.list (pds xs) | _ => .dict []) = _
    rw [e1]
  have r2 := bi_repr (h := h1) (x := .ref h.length) (by rw [pdr]; exact (fine_spots T).rep (by decide) (by decide) rfl)
  rw [pdr] at r2
  have r3 := bi_repr (h := h1) (x := .lst ((spotsOf m n t).map placeD)) ((fine_spots T).rep (by decide) (by decide) rfl)
  rw [show pdH h1 (.lst ((spotsOf m n t).map placeD)) = .list (pds ((spotsOf m n t).map placeD)) from rfl] at r3
  have pl := c_places (k + 1) T F h
  rw [hh] at pl
  have bl : biR .list h1 (.plc [rowD (t.map total), rowD ((colsOf n t).map total)]) = .ok (.lst [rowD (t.map total), rowD ((colsOf n t).map total)]) h1 := bi_list rfl
  have few : ((spotsOf m n t).map placeD).length < sizeLine := by
    rw [List.length_map]
    exact Nat.lt_of_le_of_lt (spots_len T.m6 T.n6) (by decide)
  have ok : mtOk .append h1 (.ref h.length) = true := by
    show (plnV h1 (.ref h.length)).isSome = true
    show (match h1[h.length]? with | some (.lst xs) => some xs | _ => none).isSome = true
    rw [e1]; rfl
  have ap : mtR .append h1 (.ref h.length) [.non] = .ok .non (h1.set h.length (.lst ((spotsOf m n t).map placeD ++ [D.non]))) := by
    show (match h1[h.length]? with | some (.lst xs) => if xs.length < sizeLine then Res.ok D.non (h1.set h.length (.lst (xs ++ [D.non]))) else .no | _ => .no) = _
    rw [e1]
    show (if _ then _ else _) = _
    rw [if_pos few]
  refine ⟨h1.set h.length (.lst ((spotsOf m n t).map placeD ++ [D.non])), ?_, P.oth (q := 0) ?_⟩
  · simp only [s_cons, s_set, s_if, s_ex, s_nil, t_or, t_cmp, v_mt, v_call, v_bi, v_lst, v_v, v_non, es_cons, es_nil, List.getElem?_cons_zero, List.getElem?_cons_succ, List.set_cons_succ, List.set_cons_zero, Res.bind_ok, Res.st_ok, SR.thn_nx, need_some, pl, c_row_sums (k + 1) T F, c_column_sums (k + 1) T F, l_spots (k + 6) T, if_pos l2, r1, r2, r3, bl, cmp_strs, Bool.false_eq_true, if_false, ok, if_true, ap]
  · rw [List.getElem?_set_ne (by omega)]; exact ep
end K33

set_option Elab.async false
set_option linter.all false
set_option maxRecDepth 100000
set_option maxHeartbeats 1000000
namespace K33
open PySem PyI
theorem Pen.mono {h : Hea} {p : Nat} {K L : Int} (P : Pen h p K) (l : K ≤ L) : Pen h p L := by
  obtain ⟨cells, c, s, e, c0, c1, s0⟩ := P
  exact ⟨cells, c, s, e, c0, by omega, s0⟩
def again_b : Ss := (.cons (.set 9 (.call 15 (.cons (.v 3) .nil)))
    (.cons (.iff (.or (.cmp .ne (.bi .repr (.lst (.cons (.call 13 (.cons (.v 3) .nil)) (.cons (.call 14 (.cons (.v 3) .nil)) .nil)))) (.bi .repr (.bi .list (.v 8)))) (.cmp .ne (.bi .repr (.v 9)) (.bi .repr (.call 27 (.cons (.v 3) .nil)))))
   (.cons (.ret (.bl false))
    .nil)
   .nil)
    (.cons (.ex (.mt .append (.v 9) (.cons .non .nil)))
    .nil)))
def turn_b : Ss := (.cons (.asg (.t (.cons (.n 5) (.cons (.n 6) .nil))) (.call 31 (.cons (.v 1) (.cons (.int 6) .nil))))
    (.cons (.set 3 (.call 30 (.cons (.v 1) (.cons (.v 5) (.cons (.v 6) .nil)))))
    (.cons (.par [7, 8] (.cons (.bi .repr (.v 3)) (.cons (.call 26 (.cons (.v 3) .nil)) .nil)))
    (.cons (.fr (.n 4) (.rng1 (.int 2)) again_b)
    (.cons (.iff (.or (.cmp .notB (.call 8 (.cons (.v 3) .nil)) (.bl true)) (.cmp .ne (.bi .repr (.v 3)) (.v 7)))
   (.cons (.ret (.bl false))
    .nil)
   .nil)
    .nil)))))
theorem b_law_eq : b_law = (.cons (.set 1 (.call 16 (.cons (.v 0) .nil)))
    (.cons (.fr (.n 2) (.rng1 (.int 4)) turn_b)
    (.cons (.ret (.bl true))
    .nil))) := rfl
theorem one_turn (k : Nat) {h : Hea} {p : Nat} {K : Int} (P : Pen h p K) (hK : 0 ≤ K ∧ K ≤ 600) (a b c d u v w x y : Option D) :
    ∃ h' c' d' u' v' w' x' y', exB tab (callF tab (k + 8)) turn_b [a, some (.ref p), b, c, d, u, v, w, x, y] h = .ok .nx [a, some (.ref p), b, c', d', u', v', w', x', y'] h' ∧ Pen h' p (K + 152) := by
  obtain ⟨m, n, h1, e1, m1, m6, n1, n6, P1, O1⟩ := l_any_size (k + 5) P (by omega)
  obtain ⟨t, h2, e2, T, F, P2⟩ := l_any_table (k + 3) P1 (by omega) m1 m6 n1 n6
  have e3 := l_sums (k + 3) T h2
  have r1 : ∀ h : Hea, biR .repr h (tblD t) = .ok (.str (pdH h (tblD t)).shown) h := fun h => bi_repr ((fine_tbl T).rep (by decide) (by decide) rfl)
  have it : ∀ ρ, evI tab (callF tab (k + 8)) (.rng1 (.int 2)) ρ h2 = .ok ((List.range 2).map fun i : Nat => D.int (i : Int)) h2 := fun ρ => i_rng1_of (n := 2) (by simp) (by decide)
  obtain ⟨ρ', h3, e4, ⟨d', y', rfl⟩, P3⟩ := frLoop_inv (turn := fun x ρ h => match evG (.n 4) ρ x with | some ρ1 => exB tab (callF tab (k + 8)) again_b ρ1 h | none => .no)
    (fun i ρ h => (∃ d y, ρ = [a, some (.ref p), b, some (tblD t), d, some (.int (m : Int)), some (.int (n : Int)), some (.str (pdH h2 (tblD t)).shown), some (.plc [rowD (t.map total), rowD ((colsOf n t).map total)]), y]) ∧ Pen h p (K + 2 + 150))
    ((List.range 2).map fun i : Nat => D.int (i : Int)) 0 [a, some (.ref p), b, some (tblD t), d, some (.int (m : Int)), some (.int (n : Int)), some (.str (pdH h2 (tblD t)).shown), some (.plc [rowD (t.map total), rowD ((colsOf n t).map total)]), y] h2
    (fun i z ρ h ez hi => by
      obtain ⟨⟨d, y, rfl⟩, P⟩ := hi
      obtain ⟨h', e, P'⟩ := again k T F P (a := a) (b := b) (c := some z) (d := some (.int (m : Int))) (u := some (.int (n : Int))) (v := y) (w := none) (tx := .str (pdH h2 (tblD t)).shown)
      exact ⟨_, h', e, ⟨_, _, rfl⟩, P'⟩)
    ⟨⟨d, y, rfl⟩, P2⟩
  have it3 := c_is_table (k + 3) T F h3
  have cb : cmpR .notB h3 (.bl true) (.bl true) = some false := by
    show some (!decide (true = true)) = _
    simp
  refine ⟨h3, some (tblD t), d', some (.int (m : Int)), some (.int (n : Int)), some (.str (pdH h2 (tblD t)).shown), some (.plc [rowD (t.map total), rowD ((colsOf n t).map total)]), y', ?_, by rw [show K + 152 = K + 2 + 150 by omega]; exact P3⟩
  unfold turn_b
  simp only [s_cons, s_nil, s_set, s_asg, s_par, s_if, v_call, v_bi, v_v, v_int, es_cons, es_nil, List.getElem?_cons_zero, List.getElem?_cons_succ, List.set_cons_succ, List.set_cons_zero, Res.bind_ok, Res.st_ok, SR.thn_nx, e1, g_t, g_n, gs_cons, gs_nil, tupV_plc, Option.bind_some, e2, r1, e3, setAll_cons, setAll_nil]
  rw [s_fr, it, Res.st_ok]
  erw [e4]
  simp only [SR.thn_nx, s_cons, s_if, s_nil, t_or, t_cmp, v_call, v_bi, v_v, v_bl, es_cons, es_nil, List.getElem?_cons_zero, List.getElem?_cons_succ, Res.bind_ok, it3, need_some, cb, Bool.false_eq_true, if_false, r1, Res.st_ok]
  rw [show (pdH h3 (tblD t)).shown = (pdH h2 (tblD t)).shown from rfl, cmp_strs]
  simp only [s_cons, s_if, s_nil, need_some, Res.bind_ok, Res.st_ok, SR.thn_nx, Bool.false_eq_true, if_false]
theorem law_true (ns : List Int) : ∃ h, callF tab 20 lawIx [.scr (ns.map .int)] [] = .ok (.bl true) h := by
  obtain ⟨h0, e0, P0⟩ := l_open 18 ns
  have it : ∀ ρ, evI tab (callF tab 19) (.rng1 (.int 4)) ρ h0 = .ok ((List.range 4).map fun i : Nat => D.int (i : Int)) h0 := fun ρ => i_rng1_of (n := 4) (by simp) (by decide)
  obtain ⟨ρ', h1, e1, ⟨b, c, d, u, v, w, x, y, rfl⟩, P1⟩ := frLoop_inv (turn := fun x ρ h => match evG (.n 2) ρ x with | some ρ1 => exB tab (callF tab 19) turn_b ρ1 h | none => .no)
    (fun i ρ h => (∃ b c d u v w x y, ρ = [some (.scr (ns.map D.int)), some (.ref 1), b, c, d, u, v, w, x, y]) ∧ Pen h 1 (152 * i))
    ((List.range 4).map fun i : Nat => D.int (i : Int)) 0 [some (.scr (ns.map D.int)), some (.ref 1), none, none, none, none, none, none, none, none] h0
    (fun i z ρ h ez hi => by
      obtain ⟨⟨b, c, d, u, v, w, x, y, rfl⟩, P⟩ := hi
      have il : i < 4 := by
        have := (List.getElem?_eq_some_iff.mp ez).1
        simpa using this
      obtain ⟨h', c', d', u', v', w', x', y', e, P'⟩ := one_turn 11 P (by omega) (some (.scr (ns.map D.int))) (some z) c d u v w x y
      exact ⟨_, h', e, ⟨_, _, _, _, _, _, _, _, rfl⟩, P'.mono (by omega)⟩)
    ⟨⟨none, none, none, none, none, none, none, none, rfl⟩, by simpa using P0⟩
  refine ⟨h1, callF_ret (f := ⟨"law", 1, 10, b_law⟩) (ρ := [some (.scr (ns.map D.int)), some (.ref 1), b, c, d, u, v, w, x, y]) rfl rfl ?_⟩
  show exB tab (callF tab 19) b_law [some (.scr (ns.map D.int)), none, none, none, none, none, none, none, none, none] [] = _
  rw [b_law_eq]
  simp only [s_cons, s_set, v_call, v_v, es_cons, es_nil, List.getElem?_cons_zero, List.set_cons_succ, List.set_cons_zero, Res.bind_ok, Res.st_ok, SR.thn_nx, e0]
  rw [s_fr, it, Res.st_ok]
  erw [e1]
  rfl
end K33

set_option Elab.async false
set_option linter.all false
set_option maxRecDepth 100000
set_option maxHeartbeats 0
namespace K33
open PySem PyI L2
abbrev top (i : Nat) : Stmt := PySem.Challenge.pw_turnscaled_k33_sums_and_places.main.body.getD i (.Pass ⟨0, 0, 0, 0⟩)
def row (x : Str) (i : Nat) (N : List Str) : Row := ⟨x, defArgs (top i), defBody (top i), defScope (top i), N⟩
def rows : List Row := [row "is_integer" 5 ["thing"],
  row "divisor_of" 6 ["a", "b"],
  row "raw_number" 7 ["n", "d", "common"],
  row "is_number" 8 ["thing"],
  row "raw_plus" 9 ["a", "b"],
  row "sum_of" 10 ["numbers", "found", "number"],
  row "is_row" 13 ["thing", "one"],
  row "columns_of" 14 ["table", "j", "row"],
  row "is_table" 15 ["thing", "some", "row"],
  row "need_table" 16 ["thing"],
  row "raw_row_sums" 17 ["table", "row"],
  row "raw_column_sums" 18 ["table", "column"],
  row "raw_places" 19 ["table", "many", "i", "j"],
  row "row_sums" 20 ["table"],
  row "column_sums" 21 ["table"],
  row "places" 22 ["table"],
  row "_law_open" 24 ["_law_script", "_law_cells", "_law_k", "_law_cell"],
  row "_law_spread" 25 ["_law_cell", "_law_k", "_law_primes", "_law_one", "_law_two", "_law_three"],
  row "_law_take" 26 ["_law_pen", "_law_many", "_law_found", "_law_k", "_law_cell"],
  row "_law_one_of" 27 ["_law_pen", "_law_some"],
  row "_law_number" 28 ["_law_n", "_law_d", "_law_one", "_law_other"],
  row "_law_add" 29 ["_law_a", "_law_b"],
  row "_law_total" 34 ["_law_numbers", "_law_found", "_law_number_here"],
  row "_law_any_number" 35 ["_law_pen"],
  row "_law_sides" 36 ["_law_table"],
  row "_law_flipped" 37 ["_law_table", "_law_j", "_law_row"],
  row "_law_sums" 38 ["_law_table", "_law_pairs_here", "_law_one", "_law_row"],
  row "_law_spots" 39 ["_law_table", "_law_m", "_law_n", "_law_i", "_law_j"],
  row "_law_pairs" 40 ["_law_m", "_law_n", "_law_found", "_law_i", "_law_j"],
  row "_law_by_spots" 41 ["_law_m", "_law_n", "_law_known", "_law_i", "_law_j"],
  row "_law_any_table" 42 ["_law_pen", "_law_m", "_law_n", "_law_spot", "_law_i", "_law_share", "_law_known", "_law_shift"],
  row "_law_any_size" 45 ["_law_pen", "_law_most"],
  row "law" 46 ["_law_script", "_law_pen", "_law_turn", "_law_table", "_law_again", "_law_m", "_law_n", "_law_text", "_law_due", "_law_found"]]
theorem rows_ok : rowsB tab rows tab.fns = true := by decide +kernel
theorem bds : BdAll rows tab.fns := ⟨(fun _ _ _ _ _ _ us hl => match us, hl with | [_], _ => rfl), (fun _ _ _ _ _ _ us hl => match us, hl with | [_, _], _ => rfl), (fun _ _ _ _ _ _ us hl => match us, hl with | [_, _], _ => rfl), (fun _ _ _ _ _ _ us hl => match us, hl with | [_], _ => rfl), (fun _ _ _ _ _ _ us hl => match us, hl with | [_, _], _ => rfl), (fun _ _ _ _ _ _ us hl => match us, hl with | [_], _ => rfl), (fun _ _ _ _ _ _ us hl => match us, hl with | [_], _ => rfl), (fun _ _ _ _ _ _ us hl => match us, hl with | [_], _ => rfl), (fun _ _ _ _ _ _ us hl => match us, hl with | [_], _ => rfl), (fun _ _ _ _ _ _ us hl => match us, hl with | [_], _ => rfl), (fun _ _ _ _ _ _ us hl => match us, hl with | [_], _ => rfl), (fun _ _ _ _ _ _ us hl => match us, hl with | [_], _ => rfl), (fun _ _ _ _ _ _ us hl => match us, hl with | [_], _ => rfl), (fun _ _ _ _ _ _ us hl => match us, hl with | [_], _ => rfl), (fun _ _ _ _ _ _ us hl => match us, hl with | [_], _ => rfl), (fun _ _ _ _ _ _ us hl => match us, hl with | [_], _ => rfl), (fun _ _ _ _ _ _ us hl => match us, hl with | [_], _ => rfl), (fun _ _ _ _ _ _ us hl => match us, hl with | [_, _], _ => rfl), (fun _ _ _ _ _ _ us hl => match us, hl with | [_, _], _ => rfl), (fun _ _ _ _ _ _ us hl => match us, hl with | [_, _], _ => rfl), (fun _ _ _ _ _ _ us hl => match us, hl with | [_, _], _ => rfl), (fun _ _ _ _ _ _ us hl => match us, hl with | [_, _], _ => rfl), (fun _ _ _ _ _ _ us hl => match us, hl with | [_], _ => rfl), (fun _ _ _ _ _ _ us hl => match us, hl with | [_], _ => rfl), (fun _ _ _ _ _ _ us hl => match us, hl with | [_], _ => rfl), (fun _ _ _ _ _ _ us hl => match us, hl with | [_], _ => rfl), (fun _ _ _ _ _ _ us hl => match us, hl with | [_], _ => rfl), (fun _ _ _ _ _ _ us hl => match us, hl with | [_], _ => rfl), (fun _ _ _ _ _ _ us hl => match us, hl with | [_, _], _ => rfl), (fun _ _ _ _ _ _ us hl => match us, hl with | [_, _, _], _ => rfl), (fun _ _ _ _ _ _ us hl => match us, hl with | [_, _, _], _ => rfl), (fun _ _ _ _ _ _ us hl => match us, hl with | [_, _], _ => rfl), (fun _ _ _ _ _ _ us hl => match us, hl with | [_], _ => rfl), trivial⟩
abbrev R : PySem.W.OpenRow := PySem.W.OpenLaw.row PySem.Challenge.rw_turnscaled_k33_sums_and_places
def loose : List PySem.Str := (["ScaleError", "NoTable", "NOUGHT", "is_integer", "divisor_of", "raw_number", "is_number", "raw_plus", "sum_of", "MOST_SIDE", "is_row", "columns_of", "is_table", "need_table", "raw_row_sums", "raw_column_sums", "raw_places", "row_sums", "column_sums", "places", "_law_open", "_law_spread", "_law_take", "_law_one_of", "_law_number", "_law_add", "_law_less", "_law_by", "_law_part", "_law_is_below", "_law_total", "_law_any_number", "_law_sides", "_law_flipped", "_law_sums", "_law_spots", "_law_pairs", "_law_by_spots", "_law_any_table", "_law_fewer", "_law_any_case", "_law_any_size"] : List String).map PySem.Str.ofString
theorem run (w : World) : HandSHeadRun.RunEq R (PySem.W.view R.prog [46]) (hookP 4 tab rows) (obT 4 tab rows) 4000 loose w := by
  intro os
  kernel_rfl
open PySem PySem.W PySem.Calls PyProof.Rows
theorem holds_of (law : ∀ ns : List Int, ns.length ≤ 63 → ∃ h, PyI.callF tab 20 lawIx [.scr (ns.map PyI.D.int)] [] = .ok (.bl true) h) : PySem.Challenge.rw_turnscaled_k33_sums_and_places.Holds := by
  w_on; o_law
  refine HandSHeadRun.head_any (r := OpenLaw.row PySem.Challenge.rw_turnscaled_k33_sums_and_places) (q := view (OpenLaw.row PySem.Challenge.rw_turnscaled_k33_sums_and_places).prog [46]) (H := PyI.hookP 4 tab rows) (ob := PyI.obT 4 tab rows) (M := 4000) (loose := loose) (d := HandSHeadRun.topDef (OpenLaw.row PySem.Challenge.rw_turnscaled_k33_sums_and_places).prog 46) (kwd := []) PyI.obT_eq
    (by kernel_rfl) (fun s => by kernel_rfl) run (by kernel_rfl) (by kernel_rfl) (by kernel_rfl) (by rfl) (by first | assumption | decide +kernel) (by decide +kernel) ⟨rfl, rfl, rfl, rfl, rfl, by decide +kernel⟩ ?hw ?hc
  case hw => w_witness2
  case hc =>
    exact PyI.walk_P (l := PySem.Challenge.rw_turnscaled_k33_sums_and_places) (n := 63) (k := 19) (i := lawIx) (x := "_law_script") rfl (by decide) (by kernel_rfl) ⟨rfl, by decide, by decide⟩ rows_ok bds rfl rfl (by kernel_rfl) rfl (by decide +kernel) law
end K33

theorem PySem.Challenge.cw_turnscaled_k33_sums_and_places_holds : PySem.Challenge.rw_turnscaled_k33_sums_and_places.Holds := by
  exact K33.holds_of fun ns _ => K33.law_true ns
