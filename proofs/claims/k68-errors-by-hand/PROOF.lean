import PyProof.Rows.All
import Wide.All
import OpenK.AllK
import Wide.FinOn
import HandS.ForMost
import HandS.Exc
import HandS.ExcOwn
import HandS.TryMany
import HandS.Lambda
import HandS.EndTab
import HandS.CallLocal
import HandS.CallRecv
import HandS.WordsExc
import HandS.Wide
import HandS.WideBits
import HandS.IsInst
import HandS.TupAny
import HandS.Conv
import HandS.Style
import HandS.Flow
import HandS.Deep
import HandS.DictComp
import HandS.Small
import HandS.Zip
import HandS.Defaults
import HandS.Head0
import HandS.Head1
import HandS.Head2
import HandS.HeadEnd
import HandS.HeadHook1
import HandS.HeadHook2
import HandS.HeadHook4
import HandS.Ends
import PyProof.ReprRoads
import KE.KExcMore
import HandS.ExcIs
import HandS.ExcValue
import HandS.SortRule
import HandS.SortInts
import HandS.More
import HandS.TupMul
import KE.SortKeyHeap
import KE.SortData
import KE.KDictPairs
import KE.KDictCopyH
import HandS.HeadHook3
import PySem.Challenge.RW_turnscaled_k68_errors_by_hand
set_option Elab.async false
set_option linter.all false
set_option maxRecDepth 100000
namespace PyI
open PySem L2
/-- a value. plc: a tuple that may be a dict's key; scr: the law's script; lst, dK, dT: a list, a dict that nobody changes any more; ref: a changeable object of the evaluator's heap; fn: a def of the module -/
inductive D where
  | non
  | bl (b : Bool)
  | int (i : Int)
  | str (x : Str)
  | tup (xs : List D)
  | plc (xs : List D)
  | lst (xs : List D)
  | scr (xs : List D)
  | dK (ks : List Key) (vs : List D)
  | dT (ks : List (List Key)) (vs : List D)
  | ref (n : Nat)
  | fn (i : Nat)
  | exn (c : Nat) (x : Option Str)
  deriving Inhabited
/-- a changeable object; lck: one that a loop walks just now -/
inductive MO where
  | dead
  | lst (xs : List D)
  | dK (ks : List Key) (vs : List D)
  | dT (ks : List (List Key)) (vs : List D)
  | ins (c : Nat) (fs : List (Str × D))
  | lckK (ks : List Key) (vs : List D)
  | lckT (ks : List (List Key)) (vs : List D)
  deriving Inhabited
abbrev Hea := List MO
abbrev Loc := List (Option D)
/-- what comes of a run: a value, an exception of the c-th own class, or nothing that we speak of -/
inductive Res (α : Type) where
  | ok (a : α) (h : Hea)
  | err (c : Nat) (h : Hea)
  | no
def Res.bind {α β : Type} (r : Res α) (f : α → Hea → Res β) : Res β :=
  match r with
  | .ok a h => f a h
  | .err c h => .err c h
  | .no => .no
@[simp] theorem Res.bind_ok {α β : Type} (a : α) (h : Hea) (f : α → Hea → Res β) : (Res.ok a h).bind f = f a h := rfl
@[simp] theorem Res.bind_err {α β : Type} (c : Nat) (h : Hea) (f : α → Hea → Res β) : (Res.err c h : Res α).bind f = .err c h := rfl
@[simp] theorem Res.bind_no {α β : Type} (f : α → Hea → Res β) : (Res.no : Res α).bind f = .no := rfl
/-- a reading that must be there -/
def need {α β : Type} (o : Option α) (f : α → Res β) : Res β := match o with | some a => f a | none => .no
@[simp] theorem need_some {α β : Type} (a : α) (f : α → Res β) : need (some a) f = f a := rfl
@[simp] theorem need_none {α β : Type} (f : α → Res β) : need none f = .no := rfl
inductive BOp where | add | sub | mul | fdiv | mod | pow | addK | addM | mulL
inductive COp where | eq | ne | lt | le | gt | ge | isN | notN | isB | notB | mem | nmem
  deriving DecidableEq
inductive Ty where | int | bool | str | tuple | list | dict
  deriving DecidableEq
/-- built-in functions and classes of one argument -/
inductive Bi where | len | abs | int | list | listM | tuple | all | any | max | min | repr | sorted | str | sortT | sortL | listK | sortM
  deriving DecidableEq
/-- methods of built-in types -/
inductive Mt where | get2 | append | pop | popAt | update
  deriving DecidableEq
/-- what an exception's class is asked for -/
inductive XT where | own (c : Nat) | val | look
  deriving DecidableEq
mutual
inductive E where
  | non | bl (b : Bool) | int (i : Int) | str (x : Str)
  | v (i : Nat)
  | gc (i : Nat)
  | gf (i : Nat)
  | bin (o : BOp) (a b : E)
  | neg (a : E)
  | nt (a : E)
  | cmp (o : COp) (a b : E)
  | chn (o p : COp) (a b c : E)
  | and (a b : E)
  | or (a b : E)
  | ite (c a b : E)
  | tup (es : Es)
  | tupK (es : Es)
  | lst (es : Es)
  | lstM (es : Es)
  | dnewK | dnewT
  | sub (a i : E)
  | slc (a : E) (lo hi : Es)
  | call (f : Nat) (es : Es)
  | callP (f : Nat) (es : Es)
  | bi (b : Bi) (a : E)
  | isi (a : E) (t : Ty)
  | mt (m : Mt) (o : E) (es : Es)
  | lc (m : Bool) (own : List Nat) (tg : Tg) (it : It) (c : Es) (e : E)
  | lc2 (m : Bool) (own own2 : List Nat) (tg : Tg) (it : It) (tg2 : Tg) (it2 : It) (c : Es) (e : E)
  | frz (a : E)
  | lam (f : Nat) (b : E)
  | callV (i : Nat) (es : Es)
  | call0 (f : Nat)
  | lckE (a : Nat) (e : E)
  | lrg (m : Bool) (a : E)
  | rev (a : E)
  | dcm (t m : Bool) (own : List Nat) (tg : Tg) (it : It) (c : Es) (k e : E)
  | dcm2 (t m : Bool) (own own2 : List Nat) (tg : Tg) (it : It) (tg2 : Tg) (it2 : It) (c : Es) (k e : E)
  | dpr (t : Bool) (a : E)
  | lcL (m : Bool) (own : List Nat) (tg : Tg) (a : Nat) (c : Es) (e : E)
  | fld (e : E) (f : Str)
  | mk (c : Nat) (es : Es)
  | meth (m : Str) (o : E) (es : Es)
  | callI (c : E) (f g : Nat) (es : Es)
  | dlit (t m : Bool) (k v : E)
  | updT (o e : E)
  | lzp (a b : E)
  | lzpS (a b : E)
  | exn (c : Nat) (a : E)
  | isx (k : XT) (a : E)
  | strx (a : E)
inductive Es where
  | nil
  | cons (e : E) (es : Es)
/-- what a loop walks -/
inductive It where
  | seq (e : E)
  | rng1 (e : E)
  | rng2 (a b : E)
  | keys (e : E)
  | enum (e : E)
  | zip (a b : E)
  | zipS (a b : E)
  | enumT (e : E)
/-- a target -/
inductive Tg where
  | n (i : Nat)
  | t (ts : Tgs)
inductive Tgs where
  | nil
  | cons (t : Tg) (ts : Tgs)
end
mutual
inductive S where
  | set (i : Nat) (e : E)
  | asg (t : Tg) (e : E)
  | put (o i e : E)
  | par (is : List Nat) (es : Es)
  | ex (e : E)
  | ret (e : E)
  | retN
  | iff (c : E) (a b : Ss)
  | whl (c : E) (b : Ss)
  | fr (t : Tg) (it : It) (b : Ss)
  | pass | brk | cont
  | rais (c : Nat)
  | tr (b : Ss) (i : Nat) (hs : List (Nat × D))
  | lck (a : Nat) (s : S)
  | frL (t : Tg) (a : Nat) (b : Ss)
  | sfld (o : E) (f : Str) (e : E)
  | lckF (a : Nat) (f : Str) (s : S)
inductive Ss where
  | nil
  | cons (s : S) (ss : Ss)
end
def seqV (h : Hea) : D → Option (List D)
  | .tup xs => some xs
  | .plc xs => some xs
  | .lst xs => some xs
  | .scr xs => some xs
  | .ref n => match h[n]? with | some (.lst xs) => some xs | _ => none
  | _ => none
def plnV (h : Hea) : D → Option (List D)
  | .lst xs => some xs
  | .ref n => match h[n]? with | some (.lst xs) => some xs | _ => none
  | _ => none
def lstV (h : Hea) : D → Option (List D)
  | .lst xs => some xs
  | .scr xs => some xs
  | .ref n => match h[n]? with | some (.lst xs) => some xs | _ => none
  | _ => none
def tupV : D → Option (List D)
  | .tup xs => some xs
  | .plc xs => some xs
  | _ => none
def intV : D → Option Int
  | .int i => some i
  | _ => none
def intsV : List D → Option (List Int)
  | [] => some []
  | .int i :: r => (intsV r).map (i :: ·)
  | _ => none
def blsV : List D → Option (List Bool)
  | [] => some []
  | .bl b :: r => (blsV r).map (b :: ·)
  | _ => none
/-- a key of ints and texts -/
def keyV : D → Option Key
  | .int i => some (.inl i)
  | .str x => some (.inr x)
  | _ => none
def keysV : List D → Option (List Key)
  | [] => some []
  | d :: r => (keyV d).bind fun k => (keysV r).map (k :: ·)
def tkeyV : D → Option (List Key)
  | .plc xs => keysV xs
  | _ => none
def kD : Key → D
  | .inl i => .int i
  | .inr x => .str x
def look {κ : Type} [DecidableEq κ] : List κ → List D → κ → Option D
  | k :: ks, v :: vs, x => if k = x then some v else look ks vs x
  | _, _, _ => none
def putAt {κ : Type} [DecidableEq κ] : List κ → List D → κ → D → List D
  | k :: ks, v :: vs, x, y => (if k = x then y else v) :: putAt ks vs x y
  | _, vs, _, _ => vs
/-- in its place, or at the end -/
def put {κ : Type} [DecidableEq κ] (ks : List κ) (vs : List D) (x : κ) (y : D) : List κ × List D :=
  if x ∈ ks then (ks, putAt ks vs x y) else (ks ++ [x], vs ++ [y])
/-- one more entry; many more -/
def putMO : MO → D → D → Option MO
  | .dK ks vs, k, v => (keyV k).bind fun k => if ks.length < sizeLine then some (.dK (put ks vs k v).1 (put ks vs k v).2) else none
  | .dT ks vs, k, v => (tkeyV k).bind fun k => if ks.length < sizeLine then some (.dT (put ks vs k v).1 (put ks vs k v).2) else none
  | _, _, _ => none
def prsMO : MO → List D → Option MO
  | o, [] => some o
  | o, .plc [k, v] :: r => (putMO o k v).bind fun o1 => prsMO o1 r
  | o, .tup [k, v] :: r => (putMO o k v).bind fun o1 => prsMO o1 r
  | _, _ :: _ => none
def putAll {κ : Type} [DecidableEq κ] : List κ → List D → List κ → List D → List κ × List D
  | ks, vs, k :: r, v :: s => putAll (put ks vs k v).1 (put ks vs k v).2 r s
  | ks, vs, _, _ => (ks, vs)
/-- sorted ints, pairs of ints -/
def insI (a : Int) : List Int → List Int
  | [] => [a]
  | b :: r => if a ≤ b then a :: b :: r else b :: insI a r
def sortI : List Int → List Int
  | [] => []
  | a :: r => insI a (sortI r)
def lePr (p q : Int × Int) : Bool := decide (p.1 < q.1) || (decide (p.1 = q.1) && decide (p.2 ≤ q.2))
def insP (a : Int × Int) : List (Int × Int) → List (Int × Int)
  | [] => [a]
  | b :: r => if lePr a b then a :: b :: r else b :: insP a r
def sortP : List (Int × Int) → List (Int × Int)
  | [] => []
  | a :: r => insP a (sortP r)
def prD (p : Int × Int) : D := .plc [.int p.1, .int p.2]
def prsV : List D → Option (List (Int × Int))
  | [] => some []
  | .plc [.int i, .int j] :: r => (prsV r).map ((i, j) :: ·)
  | _ => none
def kIs : List Key → Option (List Int)
  | [] => some []
  | .inl i :: r => (kIs r).map (i :: ·)
  | _ => none
def kIsV (h : Hea) : D → Option (List Int)
  | .dK ks _ => kIs ks
  | .ref n => match h[n]? with | some (.dK ks _) => kIs ks | _ => none
  | _ => none
/-- the keys of a dict of ints and texts -/
def kysV (h : Hea) : D → Option (List Key)
  | .dK ks _ => some ks
  | .ref n => match h[n]? with | some (.dK ks _) => some ks | _ => none
  | _ => none
/-- a pair of small ints: such keys have hashes of their own -/
def smPr : List Key → Bool
  | [.inl i, .inl j] => decide (0 ≤ i ∧ i < 8 ∧ 0 ≤ j ∧ j < 8)
  | _ => false
/-- d.get(k), where d is a dict and k suits it -/
def dctGet (h : Hea) (d k : D) : Option (Option D) :=
  match d with
  | .dK ks vs => (keyV k).map (look ks vs)
  | .dT ks vs => (tkeyV k).map (look ks vs)
  | .ref n => match h[n]? with
    | some (.dK ks vs) => (keyV k).map (look ks vs)
    | some (.lckK ks vs) => (keyV k).map (look ks vs)
    | some (.dT ks vs) => (tkeyV k).map (look ks vs)
    | some (.lckT ks vs) => (tkeyV k).map (look ks vs)
    | _ => none
  | _ => none
mutual
def pd : D → PyData
  | .non => .none
  | .bl b => .bool b
  | .int i => .int i
  | .str x => .str x
  | .tup xs => .tuple (pds xs)
  | .plc xs => .tuple (pds xs)
  | .lst xs => .list (pds xs)
  | .scr xs => .list (pds xs)
  | .dK _ _ => .dict []
  | .dT _ _ => .dict []
  | .ref _ => .dict []
  | .fn _ => .dict []
  | .exn _ _ => .dict []
def pds : List D → List PyData
  | [] => []
  | d :: r => pd d :: pds r
end
def pdH (h : Hea) : D → PyData
  | .ref n => match h[n]? with | some (.lst xs) => .list (pds xs) | _ => .dict []
  | d => pd d
/-- repr tells it: a tuple, a list -/
def repOk (d : PyData) : Bool := (match d with | .dict _ => false | _ => true) && (SeqAt.shaped d && (d.showable && (!d.hasDict && (decide (d.depth ≤ 60) && decide (d.shown.length ≤ sizeLine)))))
def eqR (h : Hea) (x y : D) : Option Bool :=
  if SeqAt.shaped (pdH h x) && SeqAt.shaped (pdH h y) then some (PyData.eqv (pdH h x) (pdH h y)) else none
mutual
def pure? : D → Bool
  | .tup xs => pures xs
  | .plc xs => pures xs
  | .lst xs => pures xs
  | .scr xs => pures xs
  | .dK _ vs => pures vs
  | .dT _ vs => pures vs
  | .ref _ => false
  | _ => true
def pures : List D → Bool
  | [] => true
  | d :: r => pure? d && pures r
end
def mulOk (i j : Int) : Bool := decide (i.natAbs.log2 + j.natAbs.log2 < 1000000)
/-- a text, k times -/
def repS (a : Str) (k : Int) : Str := if k < 1 then Str.empty else if (k == 1 || a.length == 0) = true then a else ⟨(List.replicate k.toNat a.cps).foldl (· ++ ·) #[]⟩
def binR (o : BOp) (h : Hea) (x y : D) : Res D :=
  match o with
  | .add => match x, y with
    | .int i, .int j => .ok (.int (i + j)) h
    | .str a, .str b => if a.length + b.length ≤ sizeLine then .ok (.str (a ++ b)) h else .no
    | x, y => match tupV x with
      | some xs => need (tupV y) fun ys => if xs.length + ys.length ≤ sizeLine then .ok (.tup (xs ++ ys)) h else .no
      | none => need (plnV h x) fun xs => need (plnV h y) fun ys => if xs.length + ys.length ≤ sizeLine then .ok (.lst (xs ++ ys)) h else .no
  | .sub => match x, y with
    | .int i, .int j => .ok (.int (i - j)) h
    | _, _ => .no
  | .mul => match x, y with
    | .int i, .int j => if mulOk i j then .ok (.int (i * j)) h else .no
    | .str a, .int k => if 0 ≤ k ∧ k ≤ 1000 ∧ a.length ≤ 1000 then .ok (.str (repS a k)) h else .no
    | x, .int k => need (tupV x) fun xs => if k = 1 then .ok x h else if xs ≠ [] ∧ 2 ≤ k ∧ k ≤ 1000 ∧ xs.length ≤ 1000 then .ok (.tup (List.replicate k.toNat xs).flatten) h else .no
    | _, _ => .no
  | .fdiv => match x, y with
    | .int i, .int j => if 0 < j ∧ (j.natAbs.log2 < 9000 ∨ i.natAbs.log2 ≤ j.natAbs.log2 + 3990) then .ok (.int (i / j)) h else .no
    | _, _ => .no
  | .mod => match x, y with
    | .int i, .int j => if 0 < j then .ok (.int (i % j)) h else .no
    | _, _ => .no
  | .pow => match x, y with
    | .int i, .int j => if 0 ≤ j ∧ j ≤ 1000000 ∧ i.natAbs < 2 ^ 64 then .ok (.int (i ^ j.toNat)) h else .no
    | _, _ => .no
  | .addK => need (tupV x) fun xs => need (tupV y) fun ys => if xs.length + ys.length ≤ sizeLine ∧ xs ≠ [] ∧ ys ≠ [] then .ok (.plc (xs ++ ys)) h else .no
  | .addM => need (plnV h x) fun xs => need (plnV h y) fun ys => if xs.length + ys.length ≤ sizeLine then .ok (.ref h.length) (h ++ [.lst (xs ++ ys)]) else .no
  | .mulL => match y with
    | .int k => need (plnV h x) fun xs => if 0 ≤ k ∧ k ≤ 1000 ∧ xs.length ≤ 1000 then .ok (.lst (List.replicate k.toNat xs).flatten) h else .no
    | _ => .no
/-- flat things -/
def flatD : D → Bool
  | .non => true | .bl _ => true | .int _ => true | .str _ => true
  | _ => false
def isNonD : D → Bool | .non => true | _ => false
def memR (h : Hea) (x y : D) : Option Bool :=
  match lstV h y with
  | some ys => if SeqAt.shaped (pd x) && SeqAt.shaped (.list (pds ys)) then some (ys.any fun z => PyData.eqv (pd z) (pd x)) else none
  | none => match tupV y with
    | some ys => if flatD x && ys.all flatD then some (ys.any fun z => PyData.eqv (pd z) (pd x))
      else if SeqAt.shaped (pd x) && SeqAt.shaped (.tuple (pds ys)) then some (ys.any fun z => PyData.eqv (pd z) (pd x)) else none
    | none => (dctGet h y x).map (·.isSome)
def cmpR (o : COp) (h : Hea) (x y : D) : Option Bool :=
  match o with
  | .eq => match x, y with
    | .str a, .str b => some (decide (a = b))
    | x, y => eqR h x y
  | .ne => match x, y with
    | .str a, .str b => some (!decide (a = b))
    | x, y => (eqR h x y).map not
  | .lt => match x, y with
    | .int i, .int j => some (decide (i < j))
    | x, y => (tupV x).bind fun xs => (tupV y).bind fun ys => (intsV xs).bind fun ns => (intsV ys).map fun ms => HT.lexLt ns ms
  | .le => match x, y with | .int i, .int j => some (decide (i ≤ j)) | _, _ => none
  | .gt => match x, y with | .int i, .int j => some (decide (j < i)) | _, _ => none
  | .ge => match x, y with | .int i, .int j => some (decide (j ≤ i)) | _, _ => none
  | .isN => match y with | .non => some (isNonD x) | _ => none
  | .notN => match y with | .non => some (!isNonD x) | _ => none
  | .isB => match x, y with | .bl a, .bl b => some (decide (a = b)) | _, _ => none
  | .notB => match x, y with | .bl a, .bl b => some (!decide (a = b)) | _, _ => none
  | .mem => memR h x y
  | .nmem => (memR h x y).map not
def trueR (h : Hea) : D → Option Bool
  | .non => some false
  | .bl b => some b
  | .int i => some (i != 0)
  | .str x => if x.length ≤ sizeLine then some ((x.length : Int) != 0) else none
  | .tup xs => some !xs.isEmpty
  | .plc xs => some !xs.isEmpty
  | .lst xs => some !xs.isEmpty
  | .scr xs => some !xs.isEmpty
  | .ref n => match h[n]? with | some (.lst xs) => some !xs.isEmpty | some (.dK ks _) => some !ks.isEmpty | _ => none
  | _ => none
def isiR (h : Hea) (x : D) (t : Ty) : Option Bool :=
  match x with
  | .non => some false
  | .bl _ => some (t == .bool || t == .int)
  | .int _ => some (t == .int)
  | .str _ => some (t == .str)
  | .tup _ => some (t == .tuple)
  | .plc _ => some (t == .tuple)
  | .lst _ => some (t == .list)
  | .scr _ => some (t == .list)
  | .dK _ _ => some (t == .dict)
  | .dT _ _ => none
  | .ref n => match h[n]? with
    | some (.lst _) => some (t == .list)
    | some (.dK _ _) => some (t == .dict)
    | some (.dT _ _) => some (t == .dict)
    | _ => none
  | .fn _ => none
  | .exn _ _ => none
def subR (h : Hea) (x y : D) : Option D :=
  match seqV h x with
  | some xs => (intV y).bind fun i => atI xs i
  | none => (dctGet h x y).bind id
/-- the written part of a slice -/
def partV : List D → Option (Option Int)
  | [] => some none
  | [.int i] => some (some i)
  | _ => none
def cutD (xs : List D) (lo hi : Option Int) : List D := (xs.drop (HT.sIx xs.length 0 lo)).take (HT.sIx xs.length xs.length hi - HT.sIx xs.length 0 lo)
def maxI : List Int → Int
  | [] => 0
  | a :: r => r.foldl (fun a b => if b > a then b else a) a
def minI : List Int → Int
  | [] => 0
  | a :: r => r.foldl (fun a b => if b < a then b else a) a
/-- tuples by their lengths, tuples of ints -/
def tlD : D → Option Nat
  | .tup xs => some xs.length
  | .plc xs => some xs.length
  | _ => none
def sortLD (xs : List D) : List D := xs.mergeSort fun a b => decide ((tlD a).getD 0 ≤ (tlD b).getD 0)
def tIs? : D → Option (List Int)
  | .tup xs => intsV xs
  | .plc xs => intsV xs
  | _ => none
def tIs (d : D) : List Int := (tIs? d).getD []
def tOk (d : D) : Bool := match tIs? d with
  | some (_ :: _) => true
  | _ => false
def sortTD (xs : List D) : List D := xs.mergeSort fun a b => decide (tIs a ≤ tIs b)
/-- the text of a value by repr -/
def biR (b : Bi) (h : Hea) (x : D) : Res D :=
  match b with
  | .len => match seqV h x with
    | some xs => .ok (.int xs.length) h
    | none => match x with
      | .str z => if z.length ≤ sizeLine then .ok (.int z.length) h else .no
      | _ => .no
  | .abs => match x with | .int i => .ok (.int (if i < 0 then -i else i)) h | _ => .no
  | .int => match x with | .int i => .ok (.int i) h | .bl k => .ok (.int (if k then 1 else 0)) h | _ => .no
  | .list => need (seqV h x) fun xs => .ok (.lst xs) h
  | .listM => need (seqV h x) fun xs => .ok (.ref h.length) (h ++ [.lst xs])
  | .tuple => need (seqV h x) fun xs => .ok (.tup xs) h
  | .all => need (lstV h x) fun xs => need (blsV xs) fun bs => .ok (.bl (bs.all id)) h
  | .any => need (lstV h x) fun xs => need (blsV xs) fun bs => .ok (.bl (bs.any id)) h
  | .max => need (lstV h x) fun xs => need (intsV xs) fun ns => if ns = [] then .no else .ok (.int (maxI ns)) h
  | .min => need (lstV h x) fun xs => need (intsV xs) fun ns => if ns = [] then .no else .ok (.int (minI ns)) h
  | .repr => if repOk (pdH h x) = true then .ok (.str (pdH h x).shown) h else .no
  | .sorted => match lstV h x with
    | some xs => match intsV xs with
      | some ns => .ok (.lst ((sortI ns).map .int)) h
      | none => need (prsV xs) fun ps => .ok (.lst ((sortP ps).map prD)) h
    | none => need (kIsV h x) fun ns => if ns.length < 64 then .ok (.lst ((sortI ns).map .int)) h else .no
  | .str => .no
  | .listK => match kysV h x with
    | some ks => .ok (.lst (ks.map kD)) h
    | none => .no
  | .sortM => match lstV h x with
    | some xs => need (prsV xs) fun ps => .ok (.ref h.length) (h ++ [.lst ((sortP ps).map prD)])
    | none => .no
  | .sortT => match lstV h x with
    | some xs => if xs.all tOk = true then .ok (.lst (sortTD xs)) h else .no
    | none => .no
  | .sortL => match lstV h x with
    | some xs => if (xs.all fun d => (tlD d).isSome) = true then .ok (.lst (sortLD xs)) h else .no
    | none => .no
/-- the dict that a comprehension made -/
def mkDi (m : Bool) (o : MO) (h : Hea) : Res D := if m then .ok (.ref h.length) (h ++ [o]) else
  match o with
  | .dK ks vs => .ok (.dK ks vs) h
  | .dT ks vs => .ok (.dT ks vs) h
  | _ => .no
def di0 (t : Bool) : MO := if t then .dT [] [] else .dK [] []
/-- the list that a comprehension made: to be changed, or not -/
def mkL (m : Bool) (ys : List D) (h : Hea) : Res D := if m then .ok (.ref h.length) (h ++ [.lst ys]) else .ok (.lst ys) h
def allocR (o : MO) (h : Hea) : Res D := .ok (.ref h.length) (h ++ [o])
/-- the receiver is of the method's type -/
def mtOk (m : Mt) (h : Hea) (o : D) : Bool :=
  match m with
  | .append => (plnV h o).isSome
  | .pop => (plnV h o).isSome
  | .popAt => (plnV h o).isSome
  | _ => match o with
    | .dK _ _ => true
    | .dT _ _ => true
    | .ref n => match h[n]? with
      | some (.dK _ _) => true
      | some (.dT _ _) => true
      | some (.lckK _ _) => true
      | some (.lckT _ _) => true
      | _ => false
    | _ => false
def mtR (m : Mt) (h : Hea) (o : D) (xs : List D) : Res D :=
  match m, xs with
  | .get2, [k, z] => need (dctGet h o k) fun r => .ok (r.getD z) h
  | .append, [y] => match o with
    | .ref n => match h[n]? with
      | some (.lst xs) => if xs.length < sizeLine then .ok .non (h.set n (.lst (xs ++ [y]))) else .no
      | _ => .no
    | _ => .no
  | .pop, [] => match o with
    | .ref n => match h[n]? with
      | some (.lst xs) => need (xs[xs.length - 1]?) fun y => .ok y (h.set n (.lst xs.dropLast))
      | _ => .no
    | _ => .no
  | .popAt, [.int i] => match o with
    | .ref n => match h[n]? with
      | some (.lst xs) => if 0 ≤ i ∧ i ≤ 1000000 then need (xs[i.toNat]?) fun y => .ok y (h.set n (.lst (xs.eraseIdx i.toNat))) else .no
      | _ => .no
    | _ => .no
  | .update, [.dK ks2 vs2] => match o with
    | .ref n => match h[n]? with
      | some (.dK ks vs) => if ks.length + ks2.length ≤ sizeLine then .ok .non (h.set n (.dK (putAll ks vs ks2 vs2).1 (putAll ks vs ks2 vs2).2)) else .no
      | _ => .no
    | _ => .no
  | _, _ => .no
/-- d.update(e), both with keys that are pairs of small ints -/
def updTR (h : Hea) (x y : D) : Option Hea :=
  match x with
  | .ref n => match y with
    | .ref j => match h[n]? with
      | some (.dT ks vs) => match h[j]? with
        | some (.dT ks2 vs2) => if n ≠ j ∧ ks.length + ks2.length ≤ sizeLine ∧ ks2.all smPr = true then some (h.set n (.dT (putAll ks vs ks2 vs2).1 (putAll ks vs ks2 vs2).2)) else none
        | _ => none
      | _ => none
    | _ => none
  | _ => none
def setR (h : Hea) (o i v : D) : Option Hea :=
  match o with
  | .ref n => match h[n]? with
    | some (.lst xs) => (intV i).bind fun k => (ixN xs.length k).map fun j => h.set n (.lst (xs.set j v))
    | some (.dK ks vs) => (keyV i).bind fun k => if ks.length < sizeLine then some (h.set n (.dK (put ks vs k v).1 (put ks vs k v).2)) else none
    | some (.dT ks vs) => (tkeyV i).bind fun k => if ks.length < sizeLine then some (h.set n (.dT (put ks vs k v).1 (put ks vs k v).2)) else none
    | _ => none
  | _ => none
def frzR (h : Hea) : D → Res D
  | .ref n => match h[n]? with
    | some (.lst xs) => .ok (.lst xs) (h.set n .dead)
    | some (.dK ks vs) => .ok (.dK ks vs) (h.set n .dead)
    | some (.dT ks vs) => .ok (.dT ks vs) (h.set n .dead)
    | _ => .no
  | d => .ok d h
/-- what a def or the module is made of -/
structure Fn where
  name : Str
  np : Nat
  nv : Nat
  body : Ss
/-- how a def that gets a lambda makes use of its call -/
inductive TK where | ex | ret | tup | fine | caught
  deriving DecidableEq
/-- a def that calls the lambda it gets, in a try: the clauses' classes and what they return, what is returned behind -/
structure TFn where
  name : Str
  kd : TK
  hs : List (Nat × D)
  fin : D
/-- a class of the module: its name, the number of its __init__, its fields, its methods' numbers -/
structure Cl where
  name : Str
  ini : Nat
  flds : List Str
  mts : List (Str × Nat)
/-- a method: its class, its name -/
structure Mth where
  cls : Str
  nm : Str
  np : Nat
  nv : Nat
  body : Ss
def Mth.fn (m : Mth) : Fn := ⟨m.nm, m.np, m.nv, m.body⟩
structure Tab where
  fns : List (Nat × Fn)
  cns : List (Nat × Str × D)
  exs : List (Nat × Str)
  tfs : List (Nat × TFn) := []
  mts : List (Nat × Mth) := []
  cls : List (Nat × Cl) := []
  xvs : Bool := false
def Tab.fn (T : Tab) (i : Nat) : Option Fn := T.fns.lookup i
def Tab.cn (T : Tab) (i : Nat) : Option (Str × D) := T.cns.lookup i
def Tab.ex (T : Tab) (i : Nat) : Option Str := T.exs.lookup i
def Tab.tf (T : Tab) (i : Nat) : Option TFn := T.tfs.lookup i
def Tab.mt (T : Tab) (i : Nat) : Option Mth := T.mts.lookup i
def Tab.cl (T : Tab) (i : Nat) : Option Cl := T.cls.lookup i
/-- the class 0 is the base of all others -/
def subX (c d : Nat) : Bool := c == d || d == 0
/-- the first clause that takes an exception of the class c -/
def clauseOf {α : Type} (c : Nat) : List (Nat × α) → Option α
  | [] => none
  | (d, x) :: r => if subX c d then some x else clauseOf c r
def TFn.run (t : TFn) (r : Res D) : Res D :=
  match r with
  | .ok d h => match t.kd with
    | .ex => .ok t.fin h
    | .caught => .ok t.fin h
    | .ret => .ok d h
    | .tup => .ok (.plc [.bl true, d]) h
    | .fine => .ok (.str (if isNonD d then "fine" else "told")) h
  | .err c h => match clauseOf c t.hs with | some d => .ok (if t.kd = .caught then .exn c none else d) h | none => .err c h
  | .no => .no
/-- the range's numbers -/
def rngL (lo : Int) : Nat → List D
  | 0 => []
  | n + 1 => .int lo :: rngL (lo + 1) n
def wipeD (ρ : Loc) : List Nat → Loc
  | [] => ρ
  | v :: vs => (wipeD ρ vs).set v none
def ok62 (i : Int) : Bool := decide (i.natAbs.log2 < 62)
theorem ok62_of {i : Int} (h : ok62 i = true) : -(2 ^ 62) ≤ i ∧ i < 2 ^ 62 := by
  have h1 := of_decide_eq_true h
  have h2 : i.natAbs < 2 ^ 62 := by
    by_cases z : i.natAbs = 0
    · rw [z]; decide
    · exact (Nat.log2_lt z).mp h1
  omega
/-- a dict is locked, unlocked -/
def lckR (h : Hea) (n : Nat) : Option Hea := match h[n]? with
  | some (.dK ks vs) => some (h.set n (.lckK ks vs))
  | some (.dT ks vs) => some (h.set n (.lckT ks vs))
  | _ => none
def unlR (h : Hea) (n : Nat) : Option Hea := match h[n]? with
  | some (.lckK ks vs) => some (h.set n (.dK ks vs))
  | some (.lckT ks vs) => some (h.set n (.dT ks vs))
  | _ => none
/-- the keys of a locked dict -/
def keysR (h : Hea) : D → Option (List D)
  | .ref n => match h[n]? with
    | some (.lckK ks _) => some (ks.map kD)
    | some (.lckT ks _) => some (ks.map fun k => .plc (k.map kD))
    | _ => none
  | _ => none
/-- what a loop may walk: no object that changes -/
def itV : D → Option (List D)
  | .tup xs => some xs
  | .plc xs => some xs
  | .lst xs => some xs
  | .scr xs => some xs
  | _ => none
def lsV : D → Option (List D)
  | .lst xs => some xs
  | .scr xs => some xs
  | _ => none
def enumD (i : Nat) : List D → List D
  | [] => []
  | x :: r => .plc [.int i, x] :: enumD (i + 1) r
def zipD : List D → List D → List D
  | x :: xs, y :: ys => .plc [x, y] :: zipD xs ys
  | _, _ => []
mutual
/-- a target -/
def evG : Tg → Loc → D → Option Loc
  | .n i, ρ, d => some (ρ.set i (some d))
  | .t ts, ρ, d => (tupV d).bind fun xs => evGs ts ρ xs
def evGs : Tgs → Loc → List D → Option Loc
  | .nil, ρ, xs => match xs with | [] => some ρ | _ => none
  | .cons t ts, ρ, xs => match xs with | x :: r => (evG t ρ x).bind fun ρ1 => evGs ts ρ1 r | [] => none
end
def putFD (f : Str) (d : D) : List (Str × D) → List (Str × D)
  | [] => [(f, d)]
  | (g, e) :: r => if g = f then (g, d) :: r else (g, e) :: putFD f d r
def fldR (T : Tab) (h : Hea) (x : D) (f : Str) : Option D :=
  match x with
  | .ref n => match h[n]? with
    | some (.ins c fs) => (T.cl c).bind fun cl => if cl.flds.contains f = true then fs.lookup f else none
    | _ => none
  | _ => none
def sfldR (T : Tab) (h : Hea) (x : D) (f : Str) (d : D) : Option Hea :=
  match x with
  | .ref n => match h[n]? with
    | some (.ins c fs) => (T.cl c).bind fun cl => if cl.flds.contains f = true ∧ fs.length < 1000 then some (h.set n (.ins c (putFD f d fs))) else none
    | _ => none
  | _ => none
def mthR (T : Tab) (h : Hea) (x : D) (m : Str) : Option Nat :=
  match x with
  | .ref n => match h[n]? with
    | some (.ins c fs) => (T.cl c).bind fun cl => if fs.lookup m = none then cl.mts.lookup m else none
    | _ => none
  | _ => none
/-- what __init__ returns is None -/
def iniR (n : Nat) (r : Res D) : Res D := match r with | .ok .non h => .ok (.ref n) h | .err c h => .err c h | _ => .no
def xtR (T : Tab) : XT → Nat → Option Bool
  | .own d, c => (T.ex d).map fun _ => subX c d
  | .val, _ => some true
  | .look, _ => some false
section
variable (T : Tab) (cf : Nat → List D → Hea → Res D)
/-- [..] over the items, one clause: turn gives the new element, or none where a test says no -/
def lcLoop (turn : D → Hea → Res (Option D)) : List D → List D → Hea → Res (List D)
  | [], acc, h => .ok acc h
  | x :: r, acc, h => (turn x h).bind fun y h1 => match y with
    | some y => if acc.length < sizeLine then lcLoop turn r (acc ++ [y]) h1 else .no
    | none => lcLoop turn r acc h1
/-- {..} over the items -/
def dcLoop (turn : D → Hea → Res (Option (D × D))) : List D → MO → Hea → Res MO
  | [], o, h => .ok o h
  | x :: r, o, h => (turn x h).bind fun y h1 => match y with
    | some p => need (putMO o p.1 p.2) fun o1 => dcLoop turn r o1 h1
    | none => dcLoop turn r o h1
/-- [..] over a list that may change: n the list, the first number bounds the turns -/
def lcLive (turn : D → Hea → Res (Option D)) (n : Nat) : Nat → Nat → List D → Hea → Res (List D)
  | 0, _, _, _ => .no
  | m + 1, i, acc, h => match h[n]? with
    | some (.lst xs) => match xs[i]? with
      | some x => (turn x h).bind fun y h1 => match y with
        | some y => if acc.length < sizeLine then lcLive turn n m (i + 1) (acc ++ [y]) h1 else .no
        | none => lcLive turn n m (i + 1) acc h1
      | none => .ok acc h
    | _ => .no
/-- two clauses -/
def lc2Loop (inner : D → List D → Hea → Res (List D)) : List D → List D → Hea → Res (List D)
  | [], acc, h => .ok acc h
  | x :: r, acc, h => (inner x acc h).bind fun acc1 h1 => lc2Loop inner r acc1 h1
/-- two clauses of a dict's comprehension -/
def dc2Loop (inner : D → MO → Hea → Res MO) : List D → MO → Hea → Res MO
  | [], o, h => .ok o h
  | x :: r, o, h => (inner x o h).bind fun o1 h1 => dc2Loop inner r o1 h1
/-- a call that sees no changeable object, and gives none -/
def pureRes (h : Hea) (r : Res D) : Res D := match r with | .ok d _ => if pure? d then .ok d h else .no | .err c _ => .err c h | .no => .no
/-- nothing may be raised within a comprehension -/
def Res.noErr {α : Type} (r : Res α) : Res α := match r with | .ok a h => .ok a h | _ => .no
/-- an expression's value, and what it says as a test -/
structure Ev where
  val : Loc → Hea → Res D
  tst : Loc → Hea → Res Bool
def Ev.of (f : Loc → Hea → Res D) : Ev := ⟨f, fun ρ h => (f ρ h).bind fun x h1 => need (trueR h1 x) fun k => .ok k h1⟩
def Ev.tt (t : Loc → Hea → Res Bool) : Ev := ⟨fun ρ h => (t ρ h).bind fun k h1 => .ok (.bl k) h1, t⟩
mutual
def ev : E → Ev
  | .non => .of fun _ h => .ok .non h
  | .bl b => .of fun _ h => .ok (.bl b) h
  | .int i => .of fun _ h => .ok (.int i) h
  | .str x => .of fun _ h => .ok (.str x) h
  | .v i => .of fun ρ h => match ρ[i]? with | some (some d) => .ok d h | _ => .no
  | .gc i => .of fun _ h => match T.cn i with | some p => .ok p.2 h | none => .no
  | .gf i => .of fun _ h => match T.fn i with | some _ => .ok (.fn i) h | none => .no
  | .bin o a b => .of fun ρ h => ((ev a).val ρ h).bind fun x h1 => ((ev b).val ρ h1).bind fun y h2 => binR o h2 x y
  | .neg a => .of fun ρ h => ((ev a).val ρ h).bind fun x h1 => match x with | .int i => .ok (.int (-i)) h1 | _ => .no
  | .nt a => ⟨fun ρ h => ((ev a).val ρ h).bind fun x h1 => need (trueR h1 x) fun k => .ok (.bl !k) h1, fun ρ h => ((ev a).tst ρ h).bind fun k h1 => .ok (!k) h1⟩
  | .cmp o a b => .tt fun ρ h => ((ev a).val ρ h).bind fun x h1 => ((ev b).val ρ h1).bind fun y h2 => need (cmpR o h2 x y) fun k => .ok k h2
  | .chn o p a b c => .tt fun ρ h => ((ev a).val ρ h).bind fun x h1 => ((ev b).val ρ h1).bind fun y h2 => need (cmpR o h2 x y) fun k =>
      if k then ((ev c).val ρ h2).bind fun z h3 => need (cmpR p h3 y z) fun k2 => .ok k2 h3 else .ok false h2
  | .and a b => ⟨fun ρ h => ((ev a).val ρ h).bind fun x h1 => need (trueR h1 x) fun k => if k then (ev b).val ρ h1 else .ok x h1,
      fun ρ h => ((ev a).tst ρ h).bind fun k h1 => if k then (ev b).tst ρ h1 else .ok false h1⟩
  | .or a b => ⟨fun ρ h => ((ev a).val ρ h).bind fun x h1 => need (trueR h1 x) fun k => if k then .ok x h1 else (ev b).val ρ h1,
      fun ρ h => ((ev a).tst ρ h).bind fun k h1 => if k then .ok true h1 else (ev b).tst ρ h1⟩
  | .ite c a b => ⟨fun ρ h => ((ev c).tst ρ h).bind fun k h1 => if k then (ev a).val ρ h1 else (ev b).val ρ h1,
      fun ρ h => ((ev c).tst ρ h).bind fun k h1 => if k then (ev a).tst ρ h1 else (ev b).tst ρ h1⟩
  | .tup es => .of fun ρ h => (evs es ρ h).bind fun xs h1 => if xs.length ≤ sizeLine then .ok (.tup xs) h1 else .no
  | .tupK es => .of fun ρ h => (evs es ρ h).bind fun xs h1 => if xs.length ≤ sizeLine then .ok (.plc xs) h1 else .no
  | .lst es => .of fun ρ h => (evs es ρ h).bind fun xs h1 => if xs.length ≤ sizeLine then .ok (.lst xs) h1 else .no
  | .lstM es => .of fun ρ h => (evs es ρ h).bind fun xs h1 => if xs.length ≤ sizeLine then allocR (.lst xs) h1 else .no
  | .dnewK => .of fun _ h => allocR (.dK [] []) h
  | .dnewT => .of fun _ h => allocR (.dT [] []) h
  | .sub a i => .of fun ρ h => ((ev a).val ρ h).bind fun x h1 => ((ev i).val ρ h1).bind fun y h2 => need (subR h2 x y) fun d => .ok d h2
  | .slc a lo hi => .of fun ρ h => ((ev a).val ρ h).bind fun x h1 => ((evs lo ρ h1).bind fun l h2 => need (partV l) fun l => .ok l h2).bind fun l h2 => ((evs hi ρ h2).bind fun u h3 => need (partV u) fun u => .ok u h3).bind fun u h3 =>
      match tupV x with
      | some xs => .ok (.tup (cutD xs l u)) h3
      | none => need (lstV h3 x) fun xs => .ok (.lst (cutD xs l u)) h3
  | .call f es => .of fun ρ h => (evs es ρ h).bind fun xs h1 => cf f xs h1
  | .callP f es => .of fun ρ h => (evs es ρ h).bind fun xs h1 => if pures xs then pureRes h1 (cf f xs []) else .no
  | .bi b a => .of fun ρ h => ((ev a).val ρ h).bind fun x h1 => biR b h1 x
  | .isi a t => .of fun ρ h => ((ev a).val ρ h).bind fun x h1 => need (isiR h1 x t) fun k => .ok (.bl k) h1
  | .mt m o es => .of fun ρ h => ((ev o).val ρ h).bind fun x h1 => if mtOk m h1 x then (evs es ρ h1).bind fun xs h2 => mtR m h2 x xs else .no
  | .lc m own tg it c e => .of fun ρ h => (evI it ρ h).bind fun xs h1 =>
      (lcLoop (fun x h2 => (need (evG tg (wipeD ρ own) x) fun ρ1 => (evC c ρ1 h2).bind fun k h4 =>
        if k then ((ev e).val ρ1 h4).bind fun y h5 => .ok (some y) h5 else .ok none h4).noErr) xs [] h1).bind fun ys h6 => mkL m ys h6
  | .lc2 m own own2 tg it tg2 it2 c e => .of fun ρ h => (evI it ρ h).bind fun xs h1 =>
      (lc2Loop (fun x acc h2 => (need (evG tg (wipeD ρ own) x) fun ρ1 => (evI it2 ρ1 h2).bind fun xs2 h4 =>
        lcLoop (fun x2 h5 => (need (evG tg2 (wipeD ρ1 own2) x2) fun ρ2 => (evC c ρ2 h5).bind fun k h7 =>
          if k then ((ev e).val ρ2 h7).bind fun y h8 => .ok (some y) h8 else .ok none h7).noErr) xs2 acc h4).noErr) xs [] h1).bind fun ys h6 => mkL m ys h6
  | .frz a => .of fun ρ h => ((ev a).val ρ h).bind fun x h1 => frzR h1 x
  | .lam f b => .of fun ρ h => match T.tf f with | some t => t.run ((ev b).val ρ h) | none => .no
  | .callV i es => .of fun ρ h => match ρ[i]? with | some (some (.fn f)) => (evs es ρ h).bind fun xs h1 => cf f xs h1 | _ => .no
  | .call0 f => .of fun _ h => cf f [] h
  | .rev a => .of fun ρ h => ((ev a).val ρ h).bind fun x h1 => need (lstV h1 x) fun xs => .ok (.lst xs.reverse) h1
  | .lzp a b => .of fun ρ h => ((ev a).val ρ h).bind fun x h1 => ((ev b).val ρ h1).bind fun y h2 => need (tupV x) fun xs => need (tupV y) fun ys => if xs.length = ys.length then .ok (.lst (zipD xs ys)) h2 else .no
  | .lzpS a b => .of fun ρ h => ((ev a).val ρ h).bind fun x h1 => ((ev b).val ρ h1).bind fun y h2 => need (tupV x) fun xs => need (tupV y) fun ys => if xs.length = ys.length then .ok (.lst (zipD xs ys)) h2 else .no
  | .exn c a => .of fun ρ h => ((ev a).val ρ h).bind fun x h1 => match x with | .str y => if T.xvs = true then need (T.ex c) fun _ => .ok (.exn c (some y)) h1 else .no | _ => .no
  | .isx k a => .of fun ρ h => ((ev a).val ρ h).bind fun x h1 => match x with | .exn c _ => if T.xvs = true then need (xtR T k c) fun b => .ok (.bl b) h1 else .no | _ => .no
  | .strx a => .of fun ρ h => ((ev a).val ρ h).bind fun x h1 => match x with | .exn _ (some y) => if T.xvs = true then .ok (.str y) h1 else .no | _ => .no
  | .lrg m a => .of fun ρ h => ((ev a).val ρ h).bind fun x h1 => need (intV x) fun j => if j.natAbs.log2 < 20 then mkL m (rngL 0 j.toNat) h1 else .no
  | .dcm t m own tg it c k e => .of fun ρ h => (evI it ρ h).bind fun xs h1 =>
      (dcLoop (fun x h2 => (need (evG tg (wipeD ρ own) x) fun ρ1 => (evC c ρ1 h2).bind fun b h4 =>
        if b then ((ev k).val ρ1 h4).bind fun y h5 => ((ev e).val ρ1 h5).bind fun z h6 => .ok (some (y, z)) h6 else .ok none h4).noErr) xs (di0 t) h1).bind fun o h6 => mkDi m o h6
  | .dcm2 t m own own2 tg it tg2 it2 c k e => .of fun ρ h => (evI it ρ h).bind fun xs h1 =>
      (dc2Loop (fun x o h2 => (need (evG tg (wipeD ρ own) x) fun ρ1 => (evI it2 ρ1 h2).bind fun xs2 h4 =>
        dcLoop (fun x2 h5 => (need (evG tg2 (wipeD ρ1 own2) x2) fun ρ2 => (evC c ρ2 h5).bind fun b h7 =>
          if b then ((ev k).val ρ2 h7).bind fun y h8 => ((ev e).val ρ2 h8).bind fun z h9 => .ok (some (y, z)) h9 else .ok none h7).noErr) xs2 o h4).noErr) xs (di0 t) h1).bind fun o h6 => mkDi m o h6
  | .lcL m own tg a c e => .of fun ρ h => match ρ[a]? with
    | some (some (.ref n)) => match h[n]? with
      | some (.lst xs) => (lcLive (fun x h2 => (need (evG tg (wipeD ρ own) x) fun ρ1 => (evC c ρ1 h2).bind fun k h4 =>
        if k then ((ev e).val ρ1 h4).bind fun y h5 => .ok (some y) h5 else .ok none h4).noErr) n (xs.length + 1) 0 [] h).bind fun ys h6 => mkL m ys h6
      | _ => .no
    | _ => .no
  | .fld e f => .of fun ρ h => ((ev e).val ρ h).bind fun x h1 => need (fldR T h1 x f) fun d => .ok d h1
  | .mk c es => .of fun ρ h => (evs es ρ h).bind fun xs h1 => need (T.cl c) fun cl => iniR h1.length (cf cl.ini (.ref h1.length :: xs) (h1 ++ [.ins c []]))
  | .meth m o es => .of fun ρ h => ((ev o).val ρ h).bind fun x h1 => need (mthR T h1 x m) fun i => (evs es ρ h1).bind fun xs h2 => cf i (x :: xs) h2
  | .callI c f g es => .of fun ρ h => ((ev c).tst ρ h).bind fun k h1 => (evs es ρ h1).bind fun xs h2 => cf (if k then f else g) xs h2
  | .updT o e => .of fun ρ h => ((ev o).val ρ h).bind fun x h1 => if mtOk .update h1 x then ((ev e).val ρ h1).bind fun y h2 => need (updTR h2 x y) fun h3 => .ok .non h3 else .no
  | .dlit t m k v => .of fun ρ h => ((ev k).val ρ h).noErr.bind fun x h1 => ((ev v).val ρ h1).noErr.bind fun y h2 => need (putMO (di0 t) x y) fun o => mkDi m o h2
  | .dpr t a => .of fun ρ h => ((ev a).val ρ h).bind fun x h1 => need (lstV h1 x) fun xs => need (prsMO (di0 t) xs) fun o => mkDi false o h1
  | .lckE a e => .of fun ρ h => match ρ[a]? with
    | some (some (.ref n)) => need (lckR h n) fun h1 => ((ev e).val ρ h1).noErr.bind fun d h2 => need (unlR h2 n) fun h3 => .ok d h3
    | _ => .no
def evs : Es → Loc → Hea → Res (List D)
  | .nil, _, h => .ok [] h
  | .cons e es, ρ, h => ((ev e).val ρ h).bind fun x h1 => (evs es ρ h1).bind fun xs h2 => .ok (x :: xs) h2
/-- a clause's tests: none or one -/
def evC : Es → Loc → Hea → Res Bool
  | .nil, _, h => .ok true h
  | .cons e _, ρ, h => (ev e).tst ρ h
/-- the items that are walked -/
def evI : It → Loc → Hea → Res (List D)
  | .seq e, ρ, h => ((ev e).val ρ h).bind fun x h1 => need (itV x) fun xs => .ok xs h1
  | .rng1 e, ρ, h => ((ev e).val ρ h).bind fun x h1 => need (intV x) fun j => if ok62 j then .ok (rngL 0 j.toNat) h1 else .no
  | .rng2 a b, ρ, h => ((ev a).val ρ h).bind fun x h1 => ((ev b).val ρ h1).bind fun y h2 => need (intV x) fun i => need (intV y) fun j =>
      if ok62 i && ok62 j then .ok (rngL i (j - i).toNat) h2 else .no
  | .keys e, ρ, h => ((ev e).val ρ h).bind fun x h1 => need (keysR h1 x) fun xs => .ok xs h1
  | .enum e, ρ, h => ((ev e).val ρ h).bind fun x h1 => need (lsV x) fun xs => .ok (enumD 0 xs) h1
  | .zip a b, ρ, h => ((ev a).val ρ h).bind fun x h1 => ((ev b).val ρ h1).bind fun y h2 => match lsV x with
      | some xs => need (lsV y) fun ys => .ok (zipD xs ys) h2
      | none => need (tupV x) fun xs => need (tupV y) fun ys => .ok (zipD xs ys) h2
  | .zipS a b, ρ, h => ((ev a).val ρ h).bind fun x h1 => ((ev b).val ρ h1).bind fun y h2 => match lsV x with
      | some xs => need (lsV y) fun ys => if xs.length = ys.length then .ok (zipD xs ys) h2 else .no
      | none => need (tupV x) fun xs => need (tupV y) fun ys => if xs.length = ys.length then .ok (zipD xs ys) h2 else .no
  | .enumT e, ρ, h => ((ev e).val ρ h).bind fun x h1 => need (tupV x) fun xs => .ok (enumD 0 xs) h1
end
inductive Fl where | nx | ret (d : D) | brk | cont
/-- an exception keeps the names as they stand -/
inductive SR where
  | ok (f : Fl) (ρ : Loc) (h : Hea)
  | err (c : Nat) (ρ : Loc) (h : Hea)
  | no
def SR.thn (r : SR) (f : Loc → Hea → SR) : SR := match r with | .ok .nx ρ h => f ρ h | r => r
@[simp] theorem SR.thn_nx (ρ : Loc) (h : Hea) (f : Loc → Hea → SR) : (SR.ok .nx ρ h).thn f = f ρ h := rfl
@[simp] theorem SR.thn_ret (d : D) (ρ : Loc) (h : Hea) (f : Loc → Hea → SR) : (SR.ok (.ret d) ρ h).thn f = .ok (.ret d) ρ h := rfl
@[simp] theorem SR.thn_brk (ρ : Loc) (h : Hea) (f : Loc → Hea → SR) : (SR.ok .brk ρ h).thn f = .ok .brk ρ h := rfl
@[simp] theorem SR.thn_cont (ρ : Loc) (h : Hea) (f : Loc → Hea → SR) : (SR.ok .cont ρ h).thn f = .ok .cont ρ h := rfl
@[simp] theorem SR.thn_err (c : Nat) (ρ : Loc) (h : Hea) (f : Loc → Hea → SR) : (SR.err c ρ h).thn f = .err c ρ h := rfl
@[simp] theorem SR.thn_no (f : Loc → Hea → SR) : SR.no.thn f = .no := rfl
def Res.st {α : Type} (r : Res α) (ρ : Loc) (f : α → Hea → SR) : SR := match r with | .ok a h => f a h | .err c h => .err c ρ h | .no => .no
@[simp] theorem Res.st_ok {α : Type} (a : α) (h : Hea) (ρ : Loc) (f : α → Hea → SR) : (Res.ok a h).st ρ f = f a h := rfl
@[simp] theorem Res.st_err {α : Type} (c : Nat) (h : Hea) (ρ : Loc) (f : α → Hea → SR) : (Res.err c h : Res α).st ρ f = .err c ρ h := rfl
@[simp] theorem Res.st_no {α : Type} (ρ : Loc) (f : α → Hea → SR) : (Res.no : Res α).st ρ f = .no := rfl
/-- a loop over items: brk and ret leave it -/
def frLoop (turn : D → Loc → Hea → SR) : List D → Loc → Hea → SR
  | [], ρ, h => .ok .nx ρ h
  | x :: r, ρ, h => match turn x ρ h with
    | .ok .nx ρ1 h1 => frLoop turn r ρ1 h1
    | .ok .cont ρ1 h1 => frLoop turn r ρ1 h1
    | .ok .brk ρ1 h1 => .ok .nx ρ1 h1
    | r => r
/-- a loop over a list that may change -/
def frLive (turn : D → Loc → Hea → SR) (n : Nat) : Nat → Nat → Loc → Hea → SR
  | 0, _, _, _ => .no
  | m + 1, i, ρ, h => match h[n]? with
    | some (.lst xs) => match xs[i]? with
      | some x => match turn x ρ h with
        | .ok .nx ρ1 h1 => frLive turn n m (i + 1) ρ1 h1
        | .ok .cont ρ1 h1 => frLive turn n m (i + 1) ρ1 h1
        | .ok .brk ρ1 h1 => .ok .nx ρ1 h1
        | r => r
      | none => .ok .nx ρ h
    | _ => .no
def whLoop (t : Loc → Hea → Res Bool) (turn : Loc → Hea → SR) : Nat → Loc → Hea → SR
  | 0, _, _ => .no
  | n + 1, ρ, h => (t ρ h).st ρ fun k h1 => if k then
      (match turn ρ h1 with
       | .ok .nx ρ1 h2 => whLoop t turn n ρ1 h2
       | .ok .cont ρ1 h2 => whLoop t turn n ρ1 h2
       | .ok .brk ρ1 h2 => .ok .nx ρ1 h2
       | r => r)
      else .ok .nx ρ h1
open Classical in
/-- while, with as many turns as it takes -/
noncomputable def whR (t : Loc → Hea → Res Bool) (turn : Loc → Hea → SR) (ρ : Loc) (h : Hea) : SR :=
  if e : ∃ n, whLoop t turn n ρ h ≠ .no then whLoop t turn (Classical.choose e) ρ h else .no
def setAll (ρ : Loc) : List Nat → List D → Option Loc
  | [], [] => some ρ
  | i :: is, d :: ds => setAll (ρ.set i (some d)) is ds
  | _, _ => none
mutual
noncomputable def exS : S → Loc → Hea → SR
  | .set i e, ρ, h => ((ev T cf e).val ρ h).st ρ fun d h1 => .ok .nx (ρ.set i (some d)) h1
  | .asg t e, ρ, h => ((ev T cf e).val ρ h).st ρ fun d h1 => match evG t ρ d with | some ρ1 => .ok .nx ρ1 h1 | none => .no
  | .put o i e, ρ, h => ((ev T cf e).val ρ h).st ρ fun d h1 => ((ev T cf o).val ρ h1).st ρ fun x h2 => ((ev T cf i).val ρ h2).st ρ fun y h3 => match setR h3 x y d with | some h4 => .ok .nx ρ h4 | none => .no
  | .par is es, ρ, h => (evs T cf es ρ h).st ρ fun ds h1 => match setAll ρ is ds with | some ρ1 => .ok .nx ρ1 h1 | none => .no
  | .ex e, ρ, h => ((ev T cf e).val ρ h).st ρ fun _ h1 => .ok .nx ρ h1
  | .ret e, ρ, h => ((ev T cf e).val ρ h).st ρ fun d h1 => .ok (.ret d) ρ h1
  | .retN, ρ, h => .ok (.ret .non) ρ h
  | .iff c a b, ρ, h => ((ev T cf c).tst ρ h).st ρ fun k h1 => if k then exB a ρ h1 else exB b ρ h1
  | .whl c b, ρ, h => whR (ev T cf c).tst (exB b) ρ h
  | .fr t it b, ρ, h => (evI T cf it ρ h).st ρ fun xs h1 => frLoop (fun x ρ h => match evG t ρ x with | some ρ1 => exB b ρ1 h | none => .no) xs ρ h1
  | .pass, ρ, h => .ok .nx ρ h
  | .brk, ρ, h => .ok .brk ρ h
  | .cont, ρ, h => .ok .cont ρ h
  | .rais c, ρ, h => .err c ρ h
  | .tr b i hs, ρ, h => match exB b ρ h with
    | .err c ρ1 h1 => match clauseOf c hs with | some d => .ok (.ret d) (ρ1.set i none) h1 | none => .err c ρ1 h1
    | r => r
  | .sfld o f e, ρ, h => ((ev T cf e).val ρ h).st ρ fun d h1 => ((ev T cf o).val ρ h1).st ρ fun x h2 => match sfldR T h2 x f d with | some h3 => .ok .nx ρ h3 | none => .no
  | .lckF a f s, ρ, h => match ρ[a]? with
    | some (some x) => match fldR T h x f with
      | some (.ref n) => match lckR h n with
        | some h1 => match exS s ρ h1 with
          | .ok fl ρ2 h2 => match unlR h2 n with | some h3 => .ok fl ρ2 h3 | none => .no
          | _ => .no
        | none => .no
      | _ => .no
    | _ => .no
  | .frL t a b, ρ, h => match ρ[a]? with
    | some (some (.ref n)) => match h[n]? with
      | some (.lst xs) => frLive (fun x ρ h => match evG t ρ x with | some ρ1 => exB b ρ1 h | none => .no) n (xs.length + 1) 0 ρ h
      | _ => .no
    | _ => .no
  | .lck a s, ρ, h => match ρ[a]? with
    | some (some (.ref n)) => match lckR h n with
      | some h1 => match exS s ρ h1 with
        | .ok f ρ2 h2 => match unlR h2 n with | some h3 => .ok f ρ2 h3 | none => .no
        | _ => .no
      | none => .no
    | _ => .no
noncomputable def exB : Ss → Loc → Hea → SR
  | .nil, ρ, h => .ok .nx ρ h
  | .cons s ss, ρ, h => (exS s ρ h).thn (exB ss)
end
/-- a def at its arguments -/
noncomputable def runFn (f : Fn) (ds : List D) (h : Hea) : Res D :=
  if ds.length = f.np then
    match exB T cf f.body (ds.map some ++ List.replicate (f.nv - f.np) none) h with
    | .ok .nx _ h => .ok .non h
    | .ok (.ret d) _ h => .ok d h
    | .err c _ h => .err c h
    | _ => .no
  else .no
end
/-- the i-th def by k levels of calls -/
noncomputable def callF (T : Tab) : Nat → Nat → List D → Hea → Res D
  | 0, _, _, _ => .no
  | k + 1, i, ds, h => match T.fn i with
    | some f => runFn T (callF T k) f ds h
    | none => match T.mt i with
      | some m => runFn T (callF T k) m.fn ds h
      | none => .no
end PyI
set_option Elab.async false
set_option linter.all false
set_option maxRecDepth 100000
namespace PyI
open PySem L2
structure Glb where
  K : PySem.W.Frag
  mg : Str → Option Value
  T : Tab
  tabs : List (Addr × Str)
/-- an exception object of the class C, nowhere in the air; t0: its tuple of arguments, where it is known -/
def ExT (C : Addr) (t0 : Option Addr) (a : Addr) : HO := .ext fun h => ∃ oe vs, h.get? a = some oe ∧ Zc (.ref C) none oe ∧ oe.data = .fields vs ∧ ∀ t, t0 = some t → vs[0]? = some (.ref t)
abbrev Mu := List (Option Addr)
abbrev Mk := Addr → Prop
mutual
def Rep (G : Glb) (μ : Mu) (M : Mk) (H : Hp) : D → V → Prop
  | .non, v => v = .non
  | .bl b, v => v = .bl b
  | .int i, v => v = .int i
  | .str x, v => v = .str x
  | .tup ds, v => ∃ a xs, v = .ref a ∧ SqT G.K H a xs ∧ Reps G μ M H ds xs
  | .plc ds, v => ∃ a xs, v = .ref a ∧ H a = some (.tup xs) ∧ Reps G μ M H ds xs
  | .lst ds, v => ∃ a xs, v = .ref a ∧ H a = some (.lst xs) ∧ ¬ M a ∧ Reps G μ M H ds xs
  | .scr ds, v => ∃ a xs, v = .ref a ∧ ((∃ o, H a = some (.frz o (.lst xs))) ∨ ∀ H', SqL G.K H' a xs) ∧ Reps G μ M H ds xs
  | .dK ks ds, v => ∃ a kvs, v = .ref a ∧ Rd H a (.dK kvs) ∧ ¬ M a ∧ kvs.map (·.1) = ks ∧ Reps G μ M H ds (kvs.map (·.2))
  | .dT ks ds, v => ∃ a kvs, v = .ref a ∧ Rd H a (.dT kvs) ∧ ¬ M a ∧ kvs.map (·.1) = ks ∧ Reps G μ M H ds (kvs.map (·.2))
  | .ref n, v => ∃ a, v = .ref a ∧ (μ[n]? = some (some a) ∨ μ[n]? = some none)
  | .exn c x, v => ∃ a C nm t0, v = .ref a ∧ G.T.ex c = some nm ∧ G.mg nm = some (.ref C) ∧ H a = some (ExT C t0 a) ∧ ∀ y, x = some y → ∃ t, t0 = some t ∧ H t = some (.tup [.str y])
  | .fn i, v => ∃ f fn, v = .ref f ∧ G.T.fn i = some fn ∧ G.mg fn.name = some (.ref f)
def Reps (G : Glb) (μ : Mu) (M : Mk) (H : Hp) : List D → List V → Prop
  | [], xs => xs = []
  | d :: ds, xs => ∃ x r, xs = x :: r ∧ Rep G μ M H d x ∧ Reps G μ M H ds r
end
/-- the class of the number c -/
def IsCl (G : Glb) (c : Nat) (C : Addr) : Prop := ∃ cl, G.T.cl c = some cl ∧ G.mg cl.name = some (.ref C)
/-- what stands at a for a changeable object -/
def MRep (G : Glb) (μ : Mu) (M : Mk) (H : Hp) (a : Addr) : MO → Prop
  | .dead => False
  | .lst ds => ∃ xs, H a = some (.lst xs) ∧ Reps G μ M H ds xs
  | .dK ks ds => ∃ kvs, H a = some (.dK kvs) ∧ kvs.map (·.1) = ks ∧ Reps G μ M H ds (kvs.map (·.2))
  | .dT ks ds => ∃ kvs, H a = some (.dT kvs) ∧ kvs.map (·.1) = ks ∧ Reps G μ M H ds (kvs.map (·.2))
  | .ins c fs => ∃ C dx vs, H a = some (.ins C dx vs) ∧ IsCl G c C ∧ vs.map (·.1) = fs.map (·.1) ∧ Reps G μ M H (fs.map (·.2)) (vs.map (·.2))
  | .lckK ks ds => ∃ o kvs, H a = some (.frz o (.dK kvs)) ∧ kvs.map (·.1) = ks ∧ Reps G μ M H ds (kvs.map (·.2))
  | .lckT ks ds => ∃ o kvs, H a = some (.frz o (.dT kvs)) ∧ kvs.map (·.1) = ks ∧ Reps G μ M H ds (kvs.map (·.2))
/-- what may be changed is no tuple, and no script -/
def mutO : HO → Bool
  | .tup _ => false
  | .frz _ (.tup _) => false
  | .frz _ (.lst _) => false
  | .tbl _ => false
  | .ext _ => false
  | _ => true
theorem MRep.mut {G : Glb} {μ : Mu} {M : Mk} {H : Hp} {a : Addr} {o : MO} (m : MRep G μ M H a o) : ∃ u, H a = some u ∧ mutO u = true := by
  cases o with
  | dead => exact m.elim
  | ins c fs => obtain ⟨C, dx, vs, q, k, e, p⟩ := m; exact ⟨_, q, rfl⟩
  | lst ds => obtain ⟨xs, q, p⟩ := m; exact ⟨_, q, rfl⟩
  | dK ks ds => obtain ⟨xs, q, k, p⟩ := m; exact ⟨_, q, rfl⟩
  | dT ks ds => obtain ⟨xs, q, k, p⟩ := m; exact ⟨_, q, rfl⟩
  | lckK ks ds => obtain ⟨o, xs, q, k, p⟩ := m; exact ⟨_, q, rfl⟩
  | lckT ks ds => obtain ⟨o, xs, q, k, p⟩ := m; exact ⟨_, q, rfl⟩
structure Hrel (G : Glb) (μ : Mu) (M : Mk) (H : Hp) (h : Hea) : Prop where
  len : μ.length = h.length
  live : ∀ (n : Nat) (o : MO), h[n]? = some o → (o = .dead ∧ μ[n]? = some none) ∨ ∃ a, μ[n]? = some (some a) ∧ MRep G μ M H a o
  inj : ∀ (n m : Nat) (a : Addr), μ[n]? = some (some a) → μ[m]? = some (some a) → n = m
  mu : ∀ (n : Nat) (a : Addr), μ[n]? = some (some a) → M a
  md : ∀ (a : Addr), M a → ∃ o, H a = some o ∧ mutO o = true
  tb : LamX.Tabs G.tabs H
/-- no table of code objects -/
abbrev NoTb (o : HO) : Prop := ∀ ps, o ≠ .tbl ps
theorem ntT {xs : List V} : NoTb (.tup xs) := fun _ z => by cases z
theorem ntL {xs : List V} : NoTb (.lst xs) := fun _ z => by cases z
theorem ntF {o : Obj} {u : HO} : NoTb (.frz o u) := fun _ z => by cases z
theorem ntK {xs : List (Key × V)} : NoTb (.dK xs) := fun _ z => by cases z
theorem ntD {xs : List (List Key × V)} : NoTb (.dT xs) := fun _ z => by cases z
/-- what is changeable is no table, and no code object -/
theorem tabs_upd {T : List (Addr × Str)} {H : Hp} {a : Addr} {o : HO} (t : LamX.Tabs T H) (m : ∃ u, H a = some u ∧ mutO u = true) : LamX.Tabs T (upd H a o) := fun p hp => by
  obtain ⟨u, hu, mu⟩ := m
  obtain ⟨ps, h1, h2, h3⟩ := t p hp
  refine ⟨ps, ?_, h2, fun pos cv hc => ?_⟩
  · rw [upd_ne (fun z => by rw [z, hu] at h1; cases h1; cases mu)]; exact h1
  · obtain ⟨c, e1, e2⟩ := h3 pos cv hc
    refine ⟨c, e1, ?_⟩
    rw [upd_ne (fun z => by rw [z, hu] at e2; cases e2; cases mu)]; exact e2
theorem tabs_new {T : List (Addr × Str)} {H : Hp} {a : Addr} {o : HO} (t : LamX.Tabs T H) (m : H a = none) : LamX.Tabs T (upd H a o) := t.ext fun b u e => by rw [upd_ne (ne_of_none e m)]; exact e
theorem noTb_mut {o : HO} (m : mutO o = true) : NoTb o := fun ps z => by rw [z] at m; cases m
/-- from one state to a later one -/
structure Le (μ : Mu) (M : Mk) (H : Hp) (μ' : Mu) (M' : Mk) (H' : Hp) : Prop where
  len : μ.length ≤ μ'.length
  old : ∀ (n : Nat) (a : Addr), μ[n]? = some (some a) → μ'[n]? = some (some a) ∨ μ'[n]? = some none
  dead : ∀ (n : Nat), μ[n]? = some none → μ'[n]? = some none
  new : ∀ (n : Nat) (a : Addr), μ.length ≤ n → μ'[n]? = some (some a) → H a = none
  keep : ∀ (a : Addr) (o : HO), H a = some o → NoTb o → (∀ (n : Nat), μ[n]? ≠ some (some a)) → H' a = some o
  dom : ∀ (a : Addr) (o : HO), H a = some o → ∃ o', H' a = some o'
  mkk : ∀ a, M' a → M a ∨ H a = none
  km : ∀ a, M a → M' a ∨ (∃ n : Nat, μ[n]? = some (some a)) ∨ H a = none
  frz : ∀ (a : Addr) (ob : Obj) (u : HO), H a = some (.frz ob u) → H' a = some (.frz ob u)
section
variable {G : Glb} {μ μ' μ'' : Mu} {M M' M'' : Mk} {H H' H'' : Hp} {h h' : Hea}
theorem Le.refl : Le μ M H μ M H := ⟨Nat.le_refl _, fun _ _ e => .inl e, fun _ e => e, fun n a hn e => by
  have := (List.getElem?_eq_some_iff.mp e).1; omega, fun _ _ e _ _ => e, fun _ o e => ⟨o, e⟩, fun _ e => .inl e, fun _ e => .inl e, fun _ _ _ e => e⟩
theorem Le.back (l : Le μ M H μ' M' H') {n : Nat} {a : Addr} (hn : n < μ.length) (e : μ'[n]? = some (some a)) : μ[n]? = some (some a) := by
  cases q : μ[n]? with
  | none => rw [List.getElem?_eq_none_iff] at q; omega
  | some x =>
    cases x with
    | none => rw [l.dead n q] at e; cases e
    | some b => rcases l.old n b q with z | z <;> (rw [z] at e; cases e); rfl
theorem Le.trans (l : Le μ M H μ' M' H') (k : Le μ' M' H' μ'' M'' H'') : Le μ M H μ'' M'' H'' where
  frz := fun a ob u e => k.frz a ob u (l.frz a ob u e)
  len := Nat.le_trans l.len k.len
  old := fun n a e => by
    rcases l.old n a e with z | z
    · exact k.old n a z
    · exact .inr (k.dead n z)
  dead := fun n e => k.dead n (l.dead n e)
  new := fun n a hn e => by
    by_cases hn' : n < μ'.length
    · exact l.new n a hn (k.back hn' e)
    · have z := k.new n a (Nat.le_of_not_lt hn') e
      cases q : H a with
      | none => rfl
      | some o => obtain ⟨o', z'⟩ := l.dom a o q; rw [z] at z'; cases z'
  keep := fun a o e nt hn => k.keep a o (l.keep a o e nt hn) nt fun n z => by
    by_cases hl : n < μ.length
    · exact hn n (l.back hl z)
    · have := l.new n a (Nat.le_of_not_lt hl) z
      rw [e] at this; cases this
  dom := fun a o e => by
    obtain ⟨o', z⟩ := l.dom a o e
    exact k.dom a o' z
  mkk := fun a e => by
    rcases k.mkk a e with z | z
    · exact l.mkk a z
    · cases q : H a with
      | none => exact .inr rfl
      | some o => obtain ⟨o', z'⟩ := l.dom a o q; rw [z] at z'; cases z'
  km := fun a e => by
    rcases l.km a e with z | z | z
    · rcases k.km a z with y | ⟨n, y⟩ | y
      · exact .inl y
      · by_cases hl : n < μ.length
        · exact .inr (.inl ⟨n, l.back hl y⟩)
        · exact .inr (.inr (l.new n a (Nat.le_of_not_lt hl) y))
      · refine .inr (.inr ?_)
        cases q : H a with
        | none => rfl
        | some o => obtain ⟨o', z'⟩ := l.dom a o q; rw [y] at z'; cases z'
    · exact .inr (.inl z)
    · exact .inr (.inr z)
/-- a live address holds no tuple -/
theorem Hrel.noTup (r : Hrel G μ M H h) {n : Nat} {a : Addr} (e : μ[n]? = some (some a)) {xs : List V} : ¬ Rd H a (.tup xs) := fun q => by
  have hn : n < h.length := by rw [← r.len]; exact (List.getElem?_eq_some_iff.mp e).1
  obtain ⟨o, ho⟩ : ∃ o, h[n]? = some o := ⟨h[n], List.getElem?_eq_getElem hn⟩
  rcases r.live n o ho with ⟨_, z⟩ | ⟨b, z, m⟩
  · rw [e] at z; cases z
  · rw [e] at z; cases z
    cases o with
    | dead => exact m
    | ins c fs => obtain ⟨_, _, _, hy, _⟩ := m; rcases q with q | ⟨_, q⟩ <;> (rw [hy] at q; cases q)
    | lst ds => obtain ⟨ys, hy, _⟩ := m; rcases q with q | ⟨_, q⟩ <;> (rw [hy] at q; cases q)
    | dK ks ds => obtain ⟨ys, hy, _⟩ := m; rcases q with q | ⟨_, q⟩ <;> (rw [hy] at q; cases q)
    | dT ks ds => obtain ⟨ys, hy, _⟩ := m; rcases q with q | ⟨_, q⟩ <;> (rw [hy] at q; cases q)
    | lckK ks ds => obtain ⟨_, ys, hy, _⟩ := m; rcases q with q | ⟨_, q⟩ <;> (rw [hy] at q; cases q)
    | lckT ks ds => obtain ⟨_, ys, hy, _⟩ := m; rcases q with q | ⟨_, q⟩ <;> (rw [hy] at q; cases q)
theorem Hrel.noScr (r : Hrel G μ M H h) {n : Nat} {a : Addr} (e : μ[n]? = some (some a)) {xs : List V} {ob : Obj} : ¬ H a = some (.frz ob (.lst xs)) := fun q => by
  have hn : n < h.length := by rw [← r.len]; exact (List.getElem?_eq_some_iff.mp e).1
  obtain ⟨o, ho⟩ : ∃ o, h[n]? = some o := ⟨h[n], List.getElem?_eq_getElem hn⟩
  rcases r.live n o ho with ⟨_, z⟩ | ⟨b, z, m⟩
  · rw [e] at z; cases z
  · rw [e] at z; cases z
    cases o with
    | dead => exact m
    | ins c fs => obtain ⟨_, _, _, hy, _⟩ := m; rw [hy] at q; cases q
    | lst ds => obtain ⟨ys, hy, _⟩ := m; rw [hy] at q; cases q
    | dK ks ds => obtain ⟨ys, hy, _⟩ := m; rw [hy] at q; cases q
    | dT ks ds => obtain ⟨ys, hy, _⟩ := m; rw [hy] at q; cases q
    | lckK ks ds => obtain ⟨_, ys, hy, _⟩ := m; rw [hy] at q; cases q
    | lckT ks ds => obtain ⟨_, ys, hy, _⟩ := m; rw [hy] at q; cases q
theorem Hrel.noExt (r : Hrel G μ M H h) {n : Nat} {a : Addr} (e : μ[n]? = some (some a)) {φ : Heap → Prop} : ¬ H a = some (.ext φ) := fun q => by
  obtain ⟨o, ho, mo⟩ := r.md a (r.mu n a e)
  rw [q] at ho; cases ho; cases mo
theorem ntE {φ : Heap → Prop} : NoTb (.ext φ) := fun _ z => by cases z
/-- what is kept, read -/
theorem Le.rd (l : Le μ M H μ' M' H') {a : Addr} {u : HO} (q : Rd H a u) (nt : NoTb u) (hn : ∀ n : Nat, μ[n]? ≠ some (some a)) : Rd H' a u := by
  rcases q with q | ⟨o, q⟩
  · exact .inl (l.keep a _ q nt hn)
  · exact .inr ⟨o, l.keep a _ q ntF hn⟩
theorem rd_some {a : Addr} {u : HO} (q : Rd H a u) : ∃ o, H a = some o := by
  rcases q with q | ⟨o, q⟩ <;> exact ⟨_, q⟩
theorem Le.fz (l : Le μ M H μ' M' H') {a : Addr} {u : HO} (q : Rd H a u) (m : ¬ M a) : ¬ M' a := fun z => by
  rcases l.mkk a z with y | y
  · exact m y
  · obtain ⟨o, e⟩ := rd_some q; rw [y] at e; cases e
theorem Hrel.noM (r : Hrel G μ M H h) {a : Addr} (m : ¬ M a) : ∀ n : Nat, μ[n]? ≠ some (some a) := fun n e => m (r.mu n a e)
mutual
theorem Rep.le (r : Hrel G μ M H h) (l : Le μ M H μ' M' H') : ∀ (d : D) (v : V), Rep G μ M H d v → Rep G μ' M' H' d v
  | .non, v, q => by simpa [Rep] using q
  | .bl b, v, q => by simpa [Rep] using q
  | .int i, v, q => by simpa [Rep] using q
  | .str x, v, q => by simpa [Rep] using q
  | .tup ds, v, q => by
    unfold Rep at q ⊢
    obtain ⟨a, xs, e, s, p⟩ := q
    refine ⟨a, xs, e, ?_, Reps.le r l ds xs p⟩
    rcases s with s | s
    · exact .inl (l.rd s ntT fun n z => r.noTup z s)
    · exact .inr s
  | .plc ds, v, q => by
    unfold Rep at q ⊢
    obtain ⟨a, xs, e, s, p⟩ := q
    exact ⟨a, xs, e, l.keep _ _ s ntT fun n z => r.noTup z (.inl s), Reps.le r l ds xs p⟩
  | .lst ds, v, q => by
    unfold Rep at q ⊢
    obtain ⟨a, xs, e, s, m, p⟩ := q
    exact ⟨a, xs, e, l.keep _ _ s ntL (r.noM m), l.fz (.inl s) m, Reps.le r l ds xs p⟩
  | .scr ds, v, q => by
    unfold Rep at q ⊢
    obtain ⟨a, xs, e, s, p⟩ := q
    refine ⟨a, xs, e, ?_, Reps.le r l ds xs p⟩
    rcases s with ⟨o, s⟩ | s
    · exact .inl ⟨o, l.keep _ _ s ntF fun n z => r.noScr z s⟩
    · exact .inr s
  | .dK ks ds, v, q => by
    unfold Rep at q ⊢
    obtain ⟨a, xs, e, s, m, k, p⟩ := q
    exact ⟨a, xs, e, l.rd s ntK (r.noM m), l.fz s m, k, Reps.le r l ds _ p⟩
  | .dT ks ds, v, q => by
    unfold Rep at q ⊢
    obtain ⟨a, xs, e, s, m, k, p⟩ := q
    exact ⟨a, xs, e, l.rd s ntD (r.noM m), l.fz s m, k, Reps.le r l ds _ p⟩
  | .ref n, v, q => by
    unfold Rep at q ⊢
    obtain ⟨a, e, s⟩ := q
    refine ⟨a, e, ?_⟩
    rcases s with s | s
    · exact l.old n a s
    · exact .inr (l.dead n s)
  | .fn i, v, q => by unfold Rep at q ⊢; exact q
  | .exn c x, v, q => by
    unfold Rep at q ⊢
    obtain ⟨a, C, nm, t0, e, k1, k2, s, p⟩ := q
    refine ⟨a, C, nm, t0, e, k1, k2, l.keep _ _ s ntE fun n z => r.noExt z s, fun y hy => ?_⟩
    obtain ⟨t, e1, s1⟩ := p y hy
    exact ⟨t, e1, l.keep _ _ s1 ntT fun n z => r.noTup z (.inl s1)⟩
theorem Reps.le (r : Hrel G μ M H h) (l : Le μ M H μ' M' H') : ∀ (ds : List D) (xs : List V), Reps G μ M H ds xs → Reps G μ' M' H' ds xs
  | [], xs, q => by simpa [Reps] using q
  | d :: ds, xs, q => by
    unfold Reps at q ⊢
    obtain ⟨x, t, e, p, q⟩ := q
    exact ⟨x, t, e, Rep.le r l d x p, Reps.le r l ds t q⟩
end
theorem Reps.length : ∀ {ds : List D} {xs : List V}, Reps G μ M H ds xs → xs.length = ds.length
  | [], xs, q => by unfold Reps at q; subst q; rfl
  | d :: ds, xs, q => by
    unfold Reps at q
    obtain ⟨x, t, rfl, _, q⟩ := q
    simp [Reps.length q]
theorem Reps.get : ∀ {ds : List D} {xs : List V} {i : Nat} {d : D}, Reps G μ M H ds xs → ds[i]? = some d → ∃ x, xs[i]? = some x ∧ Rep G μ M H d x
  | [], xs, i, d, q, e => by simp at e
  | d :: ds, xs, 0, d', q, e => by
    unfold Reps at q
    obtain ⟨x, t, rfl, p, q⟩ := q
    simp at e; subst e; exact ⟨x, rfl, p⟩
  | d :: ds, xs, i + 1, d', q, e => by
    unfold Reps at q
    obtain ⟨x, t, rfl, p, q⟩ := q
    simpa using Reps.get (i := i) q (by simpa using e)
theorem Reps.append : ∀ {ds es : List D} {xs ys : List V}, Reps G μ M H ds xs → Reps G μ M H es ys → Reps G μ M H (ds ++ es) (xs ++ ys)
  | [], es, xs, ys, q, p => by unfold Reps at q; subst q; exact p
  | d :: ds, es, xs, ys, q, p => by
    unfold Reps at q
    obtain ⟨x, t, rfl, r, q⟩ := q
    show Reps G μ M H (d :: (ds ++ es)) (x :: (t ++ ys))
    unfold Reps
    exact ⟨x, _, rfl, r, Reps.append q p⟩
theorem Reps.nil : Reps G μ M H [] [] := by unfold Reps; rfl
theorem Reps.cons {d : D} {ds : List D} {x : V} {xs : List V} (p : Rep G μ M H d x) (q : Reps G μ M H ds xs) : Reps G μ M H (d :: ds) (x :: xs) := by unfold Reps; exact ⟨x, xs, rfl, p, q⟩
theorem Reps.drop : ∀ {ds : List D} {xs : List V} (n : Nat), Reps G μ M H ds xs → Reps G μ M H (ds.drop n) (xs.drop n)
  | ds, xs, 0, q => by simpa using q
  | [], xs, n + 1, q => by unfold Reps at q; subst q; simpa using Reps.nil
  | d :: ds, xs, n + 1, q => by
    unfold Reps at q
    obtain ⟨x, t, rfl, r, q⟩ := q
    simpa using Reps.drop n q
theorem Reps.take : ∀ {ds : List D} {xs : List V} (n : Nat), Reps G μ M H ds xs → Reps G μ M H (ds.take n) (xs.take n)
  | ds, xs, 0, q => by simpa using Reps.nil
  | [], xs, n + 1, q => by unfold Reps at q; subst q; simpa using Reps.nil
  | d :: ds, xs, n + 1, q => by
    unfold Reps at q
    obtain ⟨x, t, rfl, r, q⟩ := q
    simpa using Reps.cons r (Reps.take n q)
theorem Reps.set {d : D} {x : V} (p : Rep G μ M H d x) : ∀ {ds : List D} {xs : List V} (n : Nat), Reps G μ M H ds xs → Reps G μ M H (ds.set n d) (xs.set n x)
  | [], xs, n, q => by unfold Reps at q; subst q; simpa using Reps.nil
  | d' :: ds, xs, 0, q => by
    unfold Reps at q
    obtain ⟨x', t, rfl, r, q⟩ := q
    simpa using Reps.cons p q
  | d' :: ds, xs, n + 1, q => by
    unfold Reps at q
    obtain ⟨x', t, rfl, r, q⟩ := q
    simpa using Reps.cons r (Reps.set p n q)
theorem Reps.dropLast {ds : List D} {xs : List V} (q : Reps G μ M H ds xs) : Reps G μ M H ds.dropLast xs.dropLast := by
  rw [List.dropLast_eq_take, List.dropLast_eq_take, q.length]
  exact q.take _
/-- the names -/
structure Envi (G : Glb) (μ : Mu) (M : Mk) (H : Hp) (ρ : Loc) (σ : St) : Prop where
  len : σ.length = ρ.length
  at_ : ∀ (i : Nat) (d : D), ρ[i]? = some (some d) → ∃ v, σ[i]? = some (some v) ∧ Rep G μ M H d v
theorem Envi.le {ρ : Loc} {σ : St} (e : Envi G μ M H ρ σ) (r : Hrel G μ M H h) (l : Le μ M H μ' M' H') : Envi G μ' M' H' ρ σ :=
  ⟨e.len, fun i d q => let ⟨v, a, b⟩ := e.at_ i d q; ⟨v, a, Rep.le r l d v b⟩⟩
theorem Envi.set {ρ : Loc} {σ : St} {d : D} {v : V} (e : Envi G μ M H ρ σ) (i : Nat) (p : Rep G μ M H d v) : Envi G μ M H (ρ.set i (some d)) (σ.set i (some v)) := by
  refine ⟨by rw [List.length_set, List.length_set, e.len], fun j d' q => ?_⟩
  by_cases hj : i = j
  · subst hj
    by_cases hi : i < ρ.length
    · rw [List.getElem?_set_self hi] at q
      cases q
      exact ⟨v, List.getElem?_set_self (by rw [e.len]; exact hi), p⟩
    · rw [List.getElem?_eq_none (by simpa using hi)] at q; cases q
  · rw [List.getElem?_set_ne hj] at q ⊢
    exact e.at_ j d' q
theorem Envi.unset {ρ : Loc} {σ : St} (e : Envi G μ M H ρ σ) (i : Nat) : Envi G μ M H (ρ.set i none) (σ.set i none) := by
  refine ⟨by rw [List.length_set, List.length_set, e.len], fun j d' q => ?_⟩
  by_cases hj : i = j
  · subst hj
    by_cases hi : i < ρ.length
    · rw [List.getElem?_set_self hi] at q
      cases q
    · rw [List.getElem?_eq_none (by simpa using hi)] at q; cases q
  · rw [List.getElem?_set_ne hj] at q ⊢
    exact e.at_ j d' q
theorem Envi.wipe {ρ : Loc} {σ : St} (e : Envi G μ M H ρ σ) : ∀ vs : List Nat, Envi G μ M H (wipeD ρ vs) (L2.wipe σ vs)
  | [] => e
  | v :: vs => (Envi.wipe e vs).unset v
/-- a new object that nobody changes -/
theorem Le.fresh {p : Addr} {o : HO} (hp : H p = none) : Le μ M H μ M (upd H p o) where
  frz := fun a ob u e => by rw [upd_ne (ne_of_none e hp)]; exact e
  len := Nat.le_refl _
  old := fun _ _ e => .inl e
  dead := fun _ e => e
  new := fun n a hn e => by have := (List.getElem?_eq_some_iff.mp e).1; omega
  keep := fun a o' e _ _ => by rw [upd_ne (ne_of_none e hp)]; exact e
  dom := fun a o' e => ⟨o', by rw [upd_ne (ne_of_none e hp)]; exact e⟩
  mkk := fun _ e => .inl e
  km := fun _ e => .inl e
theorem MRep.le (r : Hrel G μ M H h) (l : Le μ M H μ' M' H') {a : Addr} {o : MO} (e : H' a = H a) (m : MRep G μ M H a o) : MRep G μ' M' H' a o := by
  cases o with
  | dead => exact m
  | ins c fs => obtain ⟨C, dx, vs, q, k, z, p⟩ := m; exact ⟨C, dx, vs, e.trans q, k, z, Reps.le r l _ _ p⟩
  | lst ds => obtain ⟨xs, q, p⟩ := m; exact ⟨xs, e.trans q, Reps.le r l _ _ p⟩
  | dK ks ds => obtain ⟨xs, q, k, p⟩ := m; exact ⟨xs, e.trans q, k, Reps.le r l _ _ p⟩
  | dT ks ds => obtain ⟨xs, q, k, p⟩ := m; exact ⟨xs, e.trans q, k, Reps.le r l _ _ p⟩
  | lckK ks ds => obtain ⟨o, xs, q, k, p⟩ := m; exact ⟨o, xs, e.trans q, k, Reps.le r l _ _ p⟩
  | lckT ks ds => obtain ⟨o, xs, q, k, p⟩ := m; exact ⟨o, xs, e.trans q, k, Reps.le r l _ _ p⟩
theorem MRep.some {a : Addr} {o : MO} (m : MRep G μ M H a o) : ∃ u, H a = some u := by
  cases o with
  | dead => exact m.elim
  | ins c fs => obtain ⟨C, dx, vs, q, k, e, p⟩ := m; exact ⟨_, q⟩
  | lst ds => obtain ⟨xs, q, p⟩ := m; exact ⟨_, q⟩
  | dK ks ds => obtain ⟨xs, q, k, p⟩ := m; exact ⟨_, q⟩
  | dT ks ds => obtain ⟨xs, q, k, p⟩ := m; exact ⟨_, q⟩
  | lckK ks ds => obtain ⟨o, xs, q, k, p⟩ := m; exact ⟨_, q⟩
  | lckT ks ds => obtain ⟨o, xs, q, k, p⟩ := m; exact ⟨_, q⟩
theorem Hrel.fresh {p : Addr} {o : HO} (r : Hrel G μ M H h) (hp : H p = none) : Hrel G μ M (upd H p o) h where
  len := r.len
  live := fun n u e => by
    rcases r.live n u e with z | ⟨a, z, m⟩
    · exact .inl z
    · obtain ⟨w, q⟩ := m.some
      exact .inr ⟨a, z, m.le r (Le.fresh hp) (upd_ne (ne_of_none q hp))⟩
  inj := r.inj
  mu := r.mu
  md := fun a m => let ⟨o', e, k⟩ := r.md a m; ⟨o', by rw [upd_ne (ne_of_none e hp)]; exact e, k⟩
  tb := tabs_new r.tb hp
theorem Hrel.noMp (r : Hrel G μ M H h) {p : Addr} (hp : H p = none) : ¬ M p := fun m => by
  obtain ⟨o, e, _⟩ := r.md p m
  rw [hp] at e; cases e
/-- a new changeable object -/
theorem Le.alloc {p : Addr} {o : HO} (hp : H p = none) : Le μ M H (μ ++ [some p]) (fun a => M a ∨ a = p) (upd H p o) where
  frz := fun a ob u e => by rw [upd_ne (ne_of_none e hp)]; exact e
  len := by simp
  old := fun n a e => .inl (by rw [List.getElem?_append_left (List.getElem?_eq_some_iff.mp e).1]; exact e)
  dead := fun n e => by rw [List.getElem?_append_left (List.getElem?_eq_some_iff.mp e).1]; exact e
  new := fun n a hn e => by
    rw [List.getElem?_append_right hn] at e
    have h1 := (List.getElem?_eq_some_iff.mp e).1
    have h2 : n - μ.length = 0 := by simp at h1; omega
    rw [h2] at e; simp at e; subst e; exact hp
  keep := fun a o' e _ _ => by rw [upd_ne (ne_of_none e hp)]; exact e
  dom := fun a o' e => ⟨o', by rw [upd_ne (ne_of_none e hp)]; exact e⟩
  mkk := fun a e => by rcases e with e | e; exact .inl e; exact .inr (by rw [e]; exact hp)
  km := fun _ e => .inl (.inl e)
theorem Hrel.alloc {p : Addr} {o : HO} {u : MO} (r : Hrel G μ M H h) (hp : H p = none) (m : MRep G (μ ++ [some p]) (fun a => M a ∨ a = p) (upd H p o) p u) :
    Hrel G (μ ++ [some p]) (fun a => M a ∨ a = p) (upd H p o) (h ++ [u]) where
  len := by simp [r.len]
  live := fun n w e => by
    by_cases hn : n < h.length
    · rw [List.getElem?_append_left hn] at e
      have hn' : n < μ.length := by rw [r.len]; exact hn
      rw [List.getElem?_append_left hn']
      rcases r.live n w e with z | ⟨a, z, q⟩
      · exact .inl z
      · obtain ⟨t, y⟩ := q.some
        exact .inr ⟨a, z, q.le r (Le.alloc hp) (upd_ne (ne_of_none y hp))⟩
    · rw [List.getElem?_append_right (Nat.le_of_not_lt hn)] at e
      have h1 := (List.getElem?_eq_some_iff.mp e).1
      have h2 : n - h.length = 0 := by simp at h1; omega
      rw [h2] at e; simp at e; subst e
      refine .inr ⟨p, ?_, m⟩
      rw [List.getElem?_append_right (by rw [r.len]; omega)]
      have h3 : n - μ.length = 0 := by rw [r.len]; omega
      rw [h3]; rfl
  inj := fun n k a e1 e2 => by
    have key : ∀ n : Nat, (μ ++ [some p])[n]? = some (some a) → (n < μ.length ∧ μ[n]? = some (some a)) ∨ (n = μ.length ∧ a = p) := fun n e => by
      by_cases hn : n < μ.length
      · rw [List.getElem?_append_left hn] at e; exact .inl ⟨hn, e⟩
      · rw [List.getElem?_append_right (Nat.le_of_not_lt hn)] at e
        have h1 := (List.getElem?_eq_some_iff.mp e).1
        have h2 : n - μ.length = 0 := by simp at h1; omega
        rw [h2] at e; simp at e
        exact .inr ⟨by omega, e.symm⟩
    have no : ∀ n : Nat, μ[n]? = some (some p) → False := fun n e => r.noMp hp (r.mu n p e)
    rcases key n e1 with ⟨h1, h2⟩ | ⟨h1, h2⟩ <;> rcases key k e2 with ⟨h3, h4⟩ | ⟨h3, h4⟩
    · exact r.inj n k a h2 h4
    · exact (no n (h4 ▸ h2)).elim
    · exact (no k (h2 ▸ h4)).elim
    · omega
  mu := fun n a e => by
    by_cases hn : n < μ.length
    · rw [List.getElem?_append_left hn] at e; exact .inl (r.mu n a e)
    · rw [List.getElem?_append_right (Nat.le_of_not_lt hn)] at e
      have h1 := (List.getElem?_eq_some_iff.mp e).1
      have h2 : n - μ.length = 0 := by simp at h1; omega
      rw [h2] at e; simp at e; exact .inr e.symm
  tb := tabs_new r.tb hp
  md := fun a ma => by
    rcases ma with m' | m'
    · obtain ⟨o', e, k⟩ := r.md a m'
      exact ⟨o', by rw [upd_ne (ne_of_none e hp)]; exact e, k⟩
    · rw [m']; exact m.mut
/-- a live object is written -/
theorem Le.write {a : Addr} {o o0 : HO} {n : Nat} (e : μ[n]? = some (some a)) (s : H a = some o0) (nf : ∀ ob u, o0 ≠ .frz ob u := by intro _ _ z; cases z) : Le μ M H μ M (upd H a o) where
  frz := fun b ob u q => by
    have : b ≠ a := fun z => by rw [z, s] at q; cases q; exact nf _ _ rfl
    rw [upd_ne this]; exact q
  len := Nat.le_refl _
  old := fun _ _ e => .inl e
  dead := fun _ e => e
  new := fun n a hn e => by have := (List.getElem?_eq_some_iff.mp e).1; omega
  keep := fun b o' q _ hb => by
    have : b ≠ a := fun z => hb n (z ▸ e)
    rw [upd_ne this]; exact q
  dom := fun b o' q => by
    by_cases hb : b = a
    · rw [hb]; exact ⟨o, upd_same⟩
    · exact ⟨o', by rw [upd_ne hb]; exact q⟩
  mkk := fun _ e => .inl e
  km := fun _ e => .inl e
theorem Hrel.write {a : Addr} {o o0 : HO} {n : Nat} {u : MO} (r : Hrel G μ M H h) (e : μ[n]? = some (some a)) (s : H a = some o0) (m : MRep G μ M (upd H a o) a u) (nf : ∀ ob u, o0 ≠ .frz ob u := by intro _ _ z; cases z) : Hrel G μ M (upd H a o) (h.set n u) where
  len := by rw [List.length_set]; exact r.len
  live := fun k w q => by
    by_cases hk : n = k
    · subst hk
      have hn : n < h.length := by rw [← r.len]; exact (List.getElem?_eq_some_iff.mp e).1
      rw [List.getElem?_set_self hn] at q; cases q
      exact .inr ⟨a, e, m⟩
    · rw [List.getElem?_set_ne hk] at q
      rcases r.live k w q with z | ⟨b, z, y⟩
      · exact .inl z
      · have hb : b ≠ a := fun hb => hk (r.inj n k a e (hb ▸ z))
        exact .inr ⟨b, z, y.le r (Le.write e s nf) (upd_ne hb)⟩
  inj := r.inj
  mu := r.mu
  tb := tabs_upd r.tb (r.md a (r.mu n a e))
  md := fun b mb => by
    by_cases hb : b = a
    · rw [hb]; exact m.mut
    · obtain ⟨o', q, k⟩ := r.md b mb
      exact ⟨o', by rw [upd_ne hb]; exact q, k⟩
/-- a live object is given up -/
theorem Le.die {a : Addr} {n : Nat} (e : μ[n]? = some (some a)) : Le μ M H (μ.set n none) (fun b => M b ∧ b ≠ a) H where
  frz := fun _ _ _ e => e
  len := by simp
  old := fun k b q => by
    by_cases hk : n = k
    · subst hk; exact .inr (List.getElem?_set_self (List.getElem?_eq_some_iff.mp q).1)
    · rw [List.getElem?_set_ne hk]; exact .inl q
  dead := fun k q => by
    by_cases hk : n = k
    · subst hk; exact List.getElem?_set_self (List.getElem?_eq_some_iff.mp q).1
    · rw [List.getElem?_set_ne hk]; exact q
  new := fun k b hk q => by have := (List.getElem?_eq_some_iff.mp q).1; simp at this; omega
  keep := fun _ _ q _ _ => q
  dom := fun _ o q => ⟨o, q⟩
  mkk := fun _ q => .inl q.1
  km := fun b q => by
    by_cases hb : b = a
    · exact .inr (.inl ⟨n, hb ▸ e⟩)
    · exact .inl ⟨q, hb⟩
theorem Hrel.die {a : Addr} {n : Nat} (r : Hrel G μ M H h) (e : μ[n]? = some (some a)) : Hrel G (μ.set n none) (fun b => M b ∧ b ≠ a) H (h.set n .dead) where
  len := by rw [List.length_set, List.length_set]; exact r.len
  live := fun k w q => by
    by_cases hk : n = k
    · subst hk
      have hn : n < h.length := by rw [← r.len]; exact (List.getElem?_eq_some_iff.mp e).1
      rw [List.getElem?_set_self hn] at q; cases q
      exact .inl ⟨rfl, List.getElem?_set_self (List.getElem?_eq_some_iff.mp e).1⟩
    · rw [List.getElem?_set_ne hk] at q
      rw [List.getElem?_set_ne hk]
      rcases r.live k w q with z | ⟨b, z, y⟩
      · exact .inl z
      · exact .inr ⟨b, z, y.le r (Le.die e) rfl⟩
  inj := fun k j b e1 e2 => by
    have key : ∀ k : Nat, (μ.set n none)[k]? = some (some b) → μ[k]? = some (some b) := fun k q => by
      by_cases hk : n = k
      · subst hk; rw [List.getElem?_set_self (List.getElem?_eq_some_iff.mp e).1] at q; cases q
      · rw [List.getElem?_set_ne hk] at q; exact q
    exact r.inj k j b (key k e1) (key j e2)
  mu := fun k b q => by
    by_cases hk : n = k
    · subst hk; rw [List.getElem?_set_self (List.getElem?_eq_some_iff.mp e).1] at q; cases q
    · rw [List.getElem?_set_ne hk] at q
      exact ⟨r.mu k b q, fun hb => hk (r.inj n k a e (hb ▸ q))⟩
  md := fun b m => r.md b m.1
  tb := r.tb
/-- the class of the c-th exception -/
def exN (G : Glb) (c : Nat) (C : Addr) : Prop := ∃ x, G.T.ex c = some x ∧ G.mg x = some (.ref C)
/-- what is to hold behind a run -/
def Post {α β : Type} (G : Glb) (R : Mu → Mk → Hp → α → β → Prop) (W : Value → Hp → Prop) (μ : Mu) (M : Mk) (H : Hp) (r : Res α) (Q : β → Hp → Prop) : Prop :=
  match r with
  | .ok a h' => ∀ b μ' M' H', Le μ M H μ' M' H' → Hrel G μ' M' H' h' → R μ' M' H' a b → Q b H'
  | .err c h' => ∀ C μ' M' H', exN G c C → Le μ M H μ' M' H' → Hrel G μ' M' H' h' → W (.ref C) H'
  | .no => False
theorem Post.le {α β : Type} {R : Mu → Mk → Hp → α → β → Prop} {W : Value → Hp → Prop} {r : Res α} {Q : β → Hp → Prop} (p : Post G R W μ M H r Q) (l : Le μ M H μ' M' H') : Post G R W μ' M' H' r Q := by
  cases r with
  | ok a h' => exact fun b μ2 M2 H2 k => p b μ2 M2 H2 (l.trans k)
  | err c h' => exact fun C μ2 M2 H2 e k => p C μ2 M2 H2 e (l.trans k)
  | no => exact p
theorem Post.bind {α β γ δ : Type} {R : Mu → Mk → Hp → α → β → Prop} {R2 : Mu → Mk → Hp → γ → δ → Prop} {W : Value → Hp → Prop} {r : Res α} {f : α → Hea → Res γ} {Q : δ → Hp → Prop}
    (p : Post G R2 W μ M H (r.bind f) Q) : Post G R W μ M H r (fun b H1 => ∃ a μ1 M1 h1, Le μ M H μ1 M1 H1 ∧ Hrel G μ1 M1 H1 h1 ∧ R μ1 M1 H1 a b ∧ Post G R2 W μ1 M1 H1 (f a h1) Q) := by
  cases r with
  | ok a h' => exact fun b μ2 M2 H2 k hr q => ⟨a, μ2, M2, h', k, hr, q, Post.le (show Post G R2 W μ M H (f a h') Q from p) k⟩
  | err c h' => exact p
  | no => exact p
theorem Post.mono {α β : Type} {R : Mu → Mk → Hp → α → β → Prop} {W W' : Value → Hp → Prop} {r : Res α} {Q Q' : β → Hp → Prop} (p : Post G R W μ M H r Q) (hW : ∀ c H, W c H → W' c H) (hQ : ∀ b H, Q b H → Q' b H) : Post G R W' μ M H r Q' := by
  cases r with
  | ok a h' => exact fun b μ2 M2 H2 k hr q => hQ _ _ (p b μ2 M2 H2 k hr q)
  | err c h' => exact fun C μ2 M2 H2 e k hr => hW _ _ (p C μ2 M2 H2 e k hr)
  | no => exact p
end
end PyI
set_option Elab.async false
set_option linter.all false
set_option maxRecDepth 100000
namespace PyI
open PySem L2
section
variable {G : Glb} {μ : Mu} {M : Mk} {H : Hp} {h : Hea} {d : D} {v : V}
theorem rep_non : Rep G μ M H .non v = (v = .non) := by unfold Rep; rfl
theorem rep_bl {b : Bool} : Rep G μ M H (.bl b) v = (v = .bl b) := by unfold Rep; rfl
theorem rep_int {i : Int} : Rep G μ M H (.int i) v = (v = .int i) := by unfold Rep; rfl
theorem rep_str {x : Str} : Rep G μ M H (.str x) v = (v = .str x) := by unfold Rep; rfl
theorem rep_tup {ds : List D} : Rep G μ M H (.tup ds) v = (∃ a xs, v = .ref a ∧ SqT G.K H a xs ∧ Reps G μ M H ds xs) := by unfold Rep; rfl
theorem rep_plc {ds : List D} : Rep G μ M H (.plc ds) v = (∃ a xs, v = .ref a ∧ H a = some (.tup xs) ∧ Reps G μ M H ds xs) := by unfold Rep; rfl
theorem rep_lst {ds : List D} : Rep G μ M H (.lst ds) v = (∃ a xs, v = .ref a ∧ H a = some (.lst xs) ∧ ¬ M a ∧ Reps G μ M H ds xs) := by unfold Rep; rfl
theorem rep_scr {ds : List D} : Rep G μ M H (.scr ds) v = (∃ a xs, v = .ref a ∧ ((∃ o, H a = some (.frz o (.lst xs))) ∨ ∀ H', SqL G.K H' a xs) ∧ Reps G μ M H ds xs) := by unfold Rep; rfl
theorem rep_dK {ks : List Key} {ds : List D} : Rep G μ M H (.dK ks ds) v = (∃ a kvs, v = .ref a ∧ Rd H a (.dK kvs) ∧ ¬ M a ∧ kvs.map (·.1) = ks ∧ Reps G μ M H ds (kvs.map (·.2))) := by unfold Rep; rfl
theorem rep_dT {ks : List (List Key)} {ds : List D} : Rep G μ M H (.dT ks ds) v = (∃ a kvs, v = .ref a ∧ Rd H a (.dT kvs) ∧ ¬ M a ∧ kvs.map (·.1) = ks ∧ Reps G μ M H ds (kvs.map (·.2))) := by unfold Rep; rfl
theorem rep_ref {n : Nat} : Rep G μ M H (.ref n) v = (∃ a, v = .ref a ∧ (μ[n]? = some (some a) ∨ μ[n]? = some none)) := by unfold Rep; rfl
theorem rep_exn {c : Nat} {x : Option Str} : Rep G μ M H (.exn c x) v = (∃ a C nm t0, v = .ref a ∧ G.T.ex c = some nm ∧ G.mg nm = some (.ref C) ∧ H a = some (ExT C t0 a) ∧ ∀ y, x = some y → ∃ t, t0 = some t ∧ H t = some (.tup [.str y])) := by unfold Rep; rfl
theorem rep_fn {i : Nat} : Rep G μ M H (.fn i) v = (∃ f fn, v = .ref f ∧ G.T.fn i = some fn ∧ G.mg fn.name = some (.ref f)) := by unfold Rep; rfl
/-- the live object at n -/
theorem Hrel.at_ (r : Hrel G μ M H h) {n : Nat} {o : MO} (p : Rep G μ M H (.ref n) v) (e : h[n]? = some o) (ho : o ≠ .dead) : ∃ a, v = .ref a ∧ μ[n]? = some (some a) ∧ MRep G μ M H a o := by
  rw [rep_ref] at p
  obtain ⟨a, rfl, q⟩ := p
  rcases r.live n o e with ⟨z, _⟩ | ⟨b, z, m⟩
  · exact absurd z ho
  · rcases q with q | q
    · rw [z] at q; cases q; exact ⟨a, rfl, z, m⟩
    · rw [z] at q; cases q
theorem tup_rep {ds : List D} (p : Rep G μ M H d v) (e : tupV d = some ds) : ∃ a xs, v = .ref a ∧ SqT G.K H a xs ∧ Reps G μ M H ds xs := by
  unfold tupV at e
  split at e
  · cases e; rw [rep_tup] at p; exact p
  · cases e; rw [rep_plc] at p; obtain ⟨a, xs, e, s, q⟩ := p; exact ⟨a, xs, e, .of s, q⟩
  · cases e
theorem pln_rep (r : Hrel G μ M H h) {ds : List D} (p : Rep G μ M H d v) (e : plnV h d = some ds) : ∃ a xs, v = .ref a ∧ H a = some (.lst xs) ∧ Reps G μ M H ds xs := by
  unfold plnV at e
  split at e
  · cases e; rw [rep_lst] at p; obtain ⟨a, xs, e, s, _, q⟩ := p; exact ⟨a, xs, e, s, q⟩
  · split at e
    · rename_i q
      cases e
      obtain ⟨a, e, _, xs, s, t⟩ := r.at_ p q (by intro z; cases z)
      exact ⟨a, xs, e, s, t⟩
    · cases e
  · cases e
theorem lst_rep (r : Hrel G μ M H h) {ds : List D} (p : Rep G μ M H d v) (e : lstV h d = some ds) : ∃ a xs, v = .ref a ∧ SqL G.K H a xs ∧ Reps G μ M H ds xs := by
  unfold lstV at e
  split at e
  · cases e; rw [rep_lst] at p; obtain ⟨a, xs, e, s, _, q⟩ := p; exact ⟨a, xs, e, .of s, q⟩
  · cases e; rw [rep_scr] at p; obtain ⟨a, xs, e, s, q⟩ := p
    refine ⟨a, xs, e, ?_, q⟩
    rcases s with ⟨o, s⟩ | s
    · exact .inl (.inr ⟨o, s⟩)
    · exact s H
  · split at e
    · rename_i q
      cases e
      obtain ⟨a, e, _, xs, s, t⟩ := r.at_ p q (by intro z; cases z)
      exact ⟨a, xs, e, .of s, t⟩
    · cases e
  · cases e
theorem seq_cases {ds : List D} (e : seqV h d = some ds) : tupV d = some ds ∨ lstV h d = some ds := by
  unfold seqV at e
  split at e
  · exact .inl e
  · exact .inl e
  · exact .inr e
  · exact .inr e
  · exact .inr e
  · cases e
theorem seq_rep (r : Hrel G μ M H h) {ds : List D} (p : Rep G μ M H d v) (e : seqV h d = some ds) : ∃ a xs, v = .ref a ∧ (SqL G.K H a xs ∨ SqT G.K H a xs) ∧ Reps G μ M H ds xs := by
  rcases seq_cases e with e | e
  · obtain ⟨a, xs, e, s, q⟩ := tup_rep p e; exact ⟨a, xs, e, .inr s, q⟩
  · obtain ⟨a, xs, e, s, q⟩ := lst_rep r p e; exact ⟨a, xs, e, .inl s, q⟩
theorem int_rep {i : Int} (p : Rep G μ M H d v) (e : intV d = some i) : v = .int i := by
  unfold intV at e
  split at e
  · cases e; rw [rep_int] at p; exact p
  · cases e
theorem ints_rep : ∀ {ds : List D} {xs : List V} {ns : List Int}, Reps G μ M H ds xs → intsV ds = some ns → xs = ns.map V.int
  | [], xs, ns, p, e => by unfold intsV at e; cases e; unfold Reps at p; subst p; rfl
  | d :: r, xs, ns, p, e => by
    unfold Reps at p
    obtain ⟨x, t, rfl, p, q⟩ := p
    cases d with
    | int i =>
      unfold intsV at e
      obtain ⟨ms, e2, rfl⟩ := Option.map_eq_some_iff.mp e
      rw [rep_int] at p
      subst p
      rw [ints_rep q e2]; rfl
    | _ => simp [intsV] at e
theorem bls_rep : ∀ {ds : List D} {xs : List V} {ns : List Bool}, Reps G μ M H ds xs → blsV ds = some ns → xs = ns.map V.bl
  | [], xs, ns, p, e => by unfold blsV at e; cases e; unfold Reps at p; subst p; rfl
  | d :: r, xs, ns, p, e => by
    unfold Reps at p
    obtain ⟨x, t, rfl, p, q⟩ := p
    cases d with
    | bl i =>
      unfold blsV at e
      obtain ⟨ms, e2, rfl⟩ := Option.map_eq_some_iff.mp e
      rw [rep_bl] at p
      subst p
      rw [bls_rep q e2]; rfl
    | _ => simp [blsV] at e
/-- data read by the layer's deep equality -/
theorem dp_all : (∀ d v, Rep G μ M H d v → (pd d).canLay0 = true → Dp G.K H v (pd d)) ∧ True := ⟨by
  have key : ∀ n : Nat, (∀ d v, sizeOf d < n → Rep G μ M H d v → (pd d).canLay0 = true → Dp G.K H v (pd d)) ∧ (∀ ds xs, sizeOf ds < n → Reps G μ M H ds xs → PyData.canLayAll0 (pds ds) = true → DpAll G.K H xs (pds ds)) := by
    intro n
    induction n with
    | zero => exact ⟨fun _ _ z => absurd z (Nat.not_lt_zero _), fun _ _ z => absurd z (Nat.not_lt_zero _)⟩
    | succ n ih =>
      refine ⟨fun d v hn p c => ?_, fun ds xs hn p c => ?_⟩
      · cases d with
        | non => rw [rep_non] at p; subst p; exact .non
        | bl b => rw [rep_bl] at p; subst p; exact .bl b
        | int i => rw [rep_int] at p; subst p; exact .int i
        | str x => rw [rep_str] at p; subst p; exact .str x
        | tup es =>
          rw [rep_tup] at p; obtain ⟨a, xs, rfl, s, q⟩ := p
          have c' : PyData.canLayAll0 (pds es) = true := by simpa [pd, PyData.canLay0] using c
          exact .tup s (ih.2 es xs (by simp at hn; omega) q c')
        | plc es =>
          rw [rep_plc] at p; obtain ⟨a, xs, rfl, s, q⟩ := p
          have c' : PyData.canLayAll0 (pds es) = true := by simpa [pd, PyData.canLay0] using c
          exact .tup (.of s) (ih.2 es xs (by simp at hn; omega) q c')
        | lst es =>
          rw [rep_lst] at p; obtain ⟨a, xs, rfl, s, _, q⟩ := p
          have c' : PyData.canLayAll0 (pds es) = true := by simpa [pd, PyData.canLay0] using c
          exact .lst (.of s) (ih.2 es xs (by simp at hn; omega) q c')
        | scr es =>
          have e : lstV [] (.scr es) = some es := rfl
          rw [rep_scr] at p; obtain ⟨a, xs, rfl, s, q⟩ := p
          have c' : PyData.canLayAll0 (pds es) = true := by simpa [pd, PyData.canLay0] using c
          refine .lst ?_ (ih.2 es xs (by simp at hn; omega) q c')
          rcases s with ⟨o, s⟩ | s
          · exact .inl (.inr ⟨o, s⟩)
          · exact s H
        | dK _ _ => simp [pd, PyData.canLay0] at c
        | dT _ _ => simp [pd, PyData.canLay0] at c
        | ref _ => simp [pd, PyData.canLay0] at c
        | fn _ => simp [pd, PyData.canLay0] at c
        | exn _ _ => simp [pd, PyData.canLay0] at c
      · cases ds with
        | nil => unfold Reps at p; subst p; exact .nil
        | cons d r =>
          unfold Reps at p
          obtain ⟨x, t, rfl, p, q⟩ := p
          have c' : (pd d).canLay0 = true ∧ PyData.canLayAll0 (pds r) = true := by simpa [pds, PyData.canLayAll0] using c
          exact .cons (ih.1 d x (by simp at hn; omega) p c'.1) (ih.2 r t (by simp at hn; omega) q c'.2)
  exact fun d v => (key (sizeOf d + 1)).1 d v (Nat.lt_succ_self _), True.intro⟩
theorem dp_of (p : Rep G μ M H d v) (c : (pd d).canLay0 = true) : Dp G.K H v (pd d) := dp_all.1 d v p c
theorem dps_of : ∀ {ds : List D} {xs : List V}, Reps G μ M H ds xs → PyData.canLayAll0 (pds ds) = true → DpAll G.K H xs (pds ds)
  | [], xs, p, _ => by unfold Reps at p; subst p; exact .nil
  | d :: r, xs, p, c => by
    unfold Reps at p
    obtain ⟨x, t, rfl, p, q⟩ := p
    have c' : (pd d).canLay0 = true ∧ PyData.canLayAll0 (pds r) = true := by simpa [pds, PyData.canLayAll0] using c
    exact .cons (dp_of p c'.1) (dps_of q c'.2)
theorem shaped_can {d : PyData} (s : SeqAt.shaped d = true) : d.canLay0 = true := SeqAt.canLay_of_shaped s
theorem dpH_of (r : Hrel G μ M H h) (p : Rep G μ M H d v) (c : SeqAt.shaped (pdH h d) = true) : Dp G.K H v (pdH h d) := by
  have c := shaped_can c
  unfold pdH at c ⊢
  split
  · rename_i n
    simp only at c
    split
    · rename_i xs q
      rw [q] at c
      obtain ⟨a, e, _, ys, s, t⟩ := r.at_ p q (by intro z; cases z)
      subst e
      have c' : PyData.canLayAll0 (pds xs) = true := by simpa [PyData.canLay0] using c
      exact .lst (.of s) (dps_of t c')
    · rename_i hno
      split at c
      · rename_i xs q; exact absurd q (hno xs)
      · simp [PyData.canLay0] at c
  · rename_i hno
    split at c
    · exact absurd rfl (hno _)
    · exact dp_of p c
theorem keyV_kV {k : Key} (p : Rep G μ M H d v) (e : keyV d = some k) : v = kV k := by
  unfold keyV at e
  split at e
  · cases e; rw [rep_int] at p; exact p
  · cases e; rw [rep_str] at p; exact p
  · cases e
theorem keysV_kV : ∀ {ds : List D} {xs : List V} {ks : List Key}, Reps G μ M H ds xs → keysV ds = some ks → xs = ks.map kV
  | [], xs, ks, p, e => by unfold keysV at e; cases e; unfold Reps at p; subst p; rfl
  | d :: r, xs, ks, p, e => by
    unfold Reps at p
    obtain ⟨x, t, rfl, p, q⟩ := p
    unfold keysV at e
    obtain ⟨k, e1, e⟩ := Option.bind_eq_some_iff.mp e
    obtain ⟨ks', e2, rfl⟩ := Option.map_eq_some_iff.mp e
    rw [keyV_kV p e1, keysV_kV q e2]; rfl
theorem tkeyV_kV {k : List Key} (p : Rep G μ M H d v) (e : tkeyV d = some k) : ∃ b, v = .ref b ∧ H b = some (.tup (k.map kV)) := by
  unfold tkeyV at e
  split at e
  · rw [rep_plc] at p
    obtain ⟨a, xs, rfl, s, q⟩ := p
    rw [keysV_kV q e] at s
    exact ⟨a, rfl, s⟩
  · cases e
/-- an optional value -/
def RepO (G : Glb) (μ : Mu) (M : Mk) (H : Hp) : Option D → Option V → Prop
  | some d, some v => Rep G μ M H d v
  | none, none => True
  | _, _ => False
theorem look_rep {κ : Type} [DecidableEq κ] (x : κ) : ∀ {kvs : List (κ × V)} {ks : List κ} {ds : List D}, kvs.map (·.1) = ks → Reps G μ M H ds (kvs.map (·.2)) → RepO G μ M H (look ks ds x) (valV kvs x)
  | [], ks, ds, e, p => by subst e; rw [valV_nil]; simp [look, RepO]
  | kv :: r, ks, ds, e, p => by
    subst e
    cases ds with
    | nil => have := p.length; simp at this
    | cons d ds =>
      have p' : ∃ y t, kv.2 :: r.map (·.2) = y :: t ∧ Rep G μ M H d y ∧ Reps G μ M H ds t := by simpa [Reps] using p
      obtain ⟨y, t, e, q1, q2⟩ := p'
      cases e
      have ih := look_rep x (kvs := r) rfl q2
      show RepO G μ M H (look (kv.1 :: r.map (·.1)) (d :: ds) x) _
      unfold look
      by_cases hk : kv.1 = x
      · rw [if_pos hk, valV_pos hk]; exact q1
      · rw [if_neg hk, valV_neg hk]; exact ih
theorem look_none {κ : Type} [DecidableEq κ] (x : κ) : ∀ {ks : List κ} {ds : List D}, ks.length = ds.length → (look ks ds x).isSome = decide (x ∈ ks)
  | [], ds, e => by simp [look]
  | k :: ks, ds, e => by
    cases ds with
    | nil => simp at e
    | cons d ds =>
      unfold look
      by_cases hk : k = x
      · simp [hk]
      · rw [if_neg hk, look_none x (ks := ks) (ds := ds) (by simpa using e)]
        simp [Ne.symm hk]
theorem putAt_rep {κ : Type} [DecidableEq κ] {x : κ} {y : V} {z : D} (q : Rep G μ M H z y) : ∀ {kvs : List (κ × V)} {ks : List κ} {ds : List D}, kvs.map (·.1) = ks → Reps G μ M H ds (kvs.map (·.2)) →
    Reps G μ M H (putAt ks ds x z) ((kvs.map fun kv => if kv.1 = x then (kv.1, y) else kv).map (·.2))
  | [], ks, ds, e, p => by
    subst e
    have := p.length
    cases ds with
    | nil => simpa [putAt] using p
    | cons _ _ => simp at this
  | kv :: r, ks, ds, e, p => by
    subst e
    cases ds with
    | nil => have := p.length; simp at this
    | cons d ds =>
      have p' : ∃ y t, kv.2 :: r.map (·.2) = y :: t ∧ Rep G μ M H d y ∧ Reps G μ M H ds t := by simpa [Reps] using p
      obtain ⟨w, t, e, q1, q2⟩ := p'
      cases e
      have ih := putAt_rep (x := x) q (kvs := r) rfl q2
      show Reps G μ M H ((if kv.1 = x then z else d) :: putAt (r.map (·.1)) ds x z) ((if kv.1 = x then (kv.1, y) else kv).2 :: _)
      refine Reps.cons ?_ ih
      by_cases hk : kv.1 = x
      · rw [if_pos hk, if_pos hk]; exact q
      · rw [if_neg hk, if_neg hk]; exact q1
theorem map_if_fst {κ : Type} [DecidableEq κ] (x : κ) (y : V) (kvs : List (κ × V)) : (kvs.map fun kv => if kv.1 = x then (kv.1, y) else kv).map (·.1) = kvs.map (·.1) := by
  induction kvs with
  | nil => rfl
  | cons c l ih =>
    rw [List.map_cons, List.map_cons, List.map_cons, ih]
    by_cases hk : c.1 = x
    · rw [if_pos hk]
    · rw [if_neg hk]
theorem put_rep {κ : Type} [DecidableEq κ] {x : κ} {y : V} {z : D} (q : Rep G μ M H z y) {kvs : List (κ × V)} {ks : List κ} {ds : List D} (e : kvs.map (·.1) = ks) (p : Reps G μ M H ds (kvs.map (·.2))) :
    (putK kvs x y).map (·.1) = (put ks ds x z).1 ∧ Reps G μ M H (put ks ds x z).2 ((putK kvs x y).map (·.2)) := by
  subst e
  have ea : (kvs.any fun kv => decide (kv.1 = x)) = decide (x ∈ kvs.map (·.1)) := by
    rw [Bool.eq_iff_iff]
    simp [List.any_eq_true]
  unfold putK put
  rw [ea]
  by_cases hx : x ∈ kvs.map (·.1)
  · rw [if_pos hx, if_pos (by simpa using hx)]
    exact ⟨map_if_fst x y kvs, putAt_rep q rfl p⟩
  · rw [if_neg hx, if_neg (by simpa using hx)]
    refine ⟨by simp, ?_⟩
    rw [List.map_append]
    exact p.append (Reps.cons q Reps.nil)
/-- what the layer's look-up gives -/
theorem dctGet_rep (r : Hrel G μ M H h) {k : D} {y : V} {o : Option D} (p : Rep G μ M H d v) (q : Rep G μ M H k y) (e : dctGet h d k = some o) : ∃ a w, v = .ref a ∧ IsD H a ∧ DGet H a y w ∧ RepO G μ M H o w := by
  unfold dctGet at e
  split at e
  · obtain ⟨k', e1, rfl⟩ := Option.map_eq_some_iff.mp e
    rw [rep_dK] at p
    obtain ⟨a, kvs, rfl, s, _, ek, t⟩ := p
    exact ⟨a, valV kvs k', rfl, .inl ⟨kvs, s⟩, .inl ⟨kvs, k', s, keyV_kV q e1, rfl⟩, look_rep k' ek t⟩
  · obtain ⟨k', e1, rfl⟩ := Option.map_eq_some_iff.mp e
    rw [rep_dT] at p
    obtain ⟨a, kvs, rfl, s, _, ek, t⟩ := p
    obtain ⟨b, rfl, hb⟩ := tkeyV_kV q e1
    exact ⟨a, valV kvs k', rfl, .inr ⟨kvs, s⟩, .inr ⟨kvs, k', b, s, rfl, hb, rfl⟩, look_rep k' ek t⟩
  · split at e
    · rename_i z
      obtain ⟨k', e1, rfl⟩ := Option.map_eq_some_iff.mp e
      obtain ⟨a, rfl, _, kvs, s, ek, t⟩ := r.at_ p z (by intro z; cases z)
      exact ⟨a, valV kvs k', rfl, .inl ⟨kvs, .inl s⟩, .inl ⟨kvs, k', .inl s, keyV_kV q e1, rfl⟩, look_rep k' ek t⟩
    · rename_i z
      obtain ⟨k', e1, rfl⟩ := Option.map_eq_some_iff.mp e
      obtain ⟨a, rfl, _, ob, kvs, s, ek, t⟩ := r.at_ p z (by intro z; cases z)
      exact ⟨a, valV kvs k', rfl, .inl ⟨kvs, .inr ⟨ob, s⟩⟩, .inl ⟨kvs, k', .inr ⟨ob, s⟩, keyV_kV q e1, rfl⟩, look_rep k' ek t⟩
    · rename_i z
      obtain ⟨k', e1, rfl⟩ := Option.map_eq_some_iff.mp e
      obtain ⟨a, rfl, _, kvs, s, ek, t⟩ := r.at_ p z (by intro z; cases z)
      obtain ⟨b, rfl, hb⟩ := tkeyV_kV q e1
      exact ⟨a, valV kvs k', rfl, .inr ⟨kvs, .inl s⟩, .inr ⟨kvs, k', b, .inl s, rfl, hb, rfl⟩, look_rep k' ek t⟩
    · rename_i z
      obtain ⟨k', e1, rfl⟩ := Option.map_eq_some_iff.mp e
      obtain ⟨a, rfl, _, ob, kvs, s, ek, t⟩ := r.at_ p z (by intro z; cases z)
      obtain ⟨b, rfl, hb⟩ := tkeyV_kV q e1
      exact ⟨a, valV kvs k', rfl, .inr ⟨kvs, .inr ⟨ob, s⟩⟩, .inr ⟨kvs, k', b, .inr ⟨ob, s⟩, rfl, hb, rfl⟩, look_rep k' ek t⟩
    · cases e
  · cases e
end
end PyI
set_option Elab.async false
set_option linter.all false
set_option maxRecDepth 100000
set_option maxHeartbeats 4000000
namespace PyI
open PySem PySem.Spec PyProof.Rows L2
theorem tuple_mul1 (l : Addr) (items : Array Value) (n : Nat) (dd : Option Addr) (sl : Array (Option Value)) (u : Tok) :
    Meets (Builtin.«tuple.__mul__» ⟨[.ref l, .int 1 u], []⟩) (fun _ R s => s.heap.get? l = some { cls := .type "tuple", dict := dd, data := .seq items n, slots := sl } ∧ R (.ok (.ret (Value.ref l))) s) :=
  .of_wp fun prog w A R s h => by
    obtain ⟨hp, g, d, tk, os⟩ := s
    obtain ⟨at_, h⟩ := h
    have f1 := AutoSeq1.idx_int
    have c0 : (decide ((1 : Int) < -(2 ^ 63)) || decide ((1 : Int) ≥ 2 ^ 63)) = false := by decide
    wp_walk using wpAny_loadPart' at_
    repeat (first
      | (refine wpAny_ite_false (decide_eq_false (by rw [c0]; exact Bool.false_ne_true)) ?_; wp_walk using wpAny_loadPart' at_)
      | (refine wpAny_ite_true (decide_eq_true (by simp)) ?_; wp_walk using wpAny_loadPart' at_))
    exact ⟨_, rfl, h⟩
section
variable {X : Cx}
theorem op_rep1 : OpR X (binaryOp .Mult) (fun x y H Q => ∃ l xs, x = .ref l ∧ y = .int 1 ∧ SqT X.K H l xs ∧ Q (.ref l) H) := by
  intro pins s σ H x y v u Q I rx ry h
  obtain ⟨l, xs, rfl, rfl, sq, q⟩ := h
  cases rx
  obtain ⟨t, rfl⟩ := ry
  obtain ⟨its, r, ⟨⟨cls, dd, data, sl⟩, ho, hc, n, hd⟩, _⟩ := I.tuple sq
  simp only at hc hd
  subst hc hd
  refine wpAny_binaryOp_repeat_ref (T := "tuple") (U := "int") (by decide) ⟨_, ho, rfl⟩ (fun s' => typeIs_int s' 1 t) noFill_tuple_mul F.fills_int_mul F.slot_int_rmul repeat_tuple F.slot_int_index.lookup
    (call_meets F.slot_int_rmul (typeIs_int s 1 t) F.entry_int_rmul (F.args_int_rmul_2 _ _) (int_rmul_tuple 1 t l its.toArray n dd sl)
      ⟨ho, rfl, ⟨_, ho, rfl⟩, call_meets F.slot_tuple_mul ⟨_, ho, rfl⟩ F.entry_tuple_mul (F.args_tuple_mul_2 _ _) (tuple_mul1 l its.toArray n dd sl t) ⟨ho, ?_⟩⟩)
  exact ⟨.ref l, H, I, rfl, q⟩
theorem size_repS (a : Array Nat) : ∀ (m : Nat) (b : Array Nat), ((List.replicate m a).foldl (· ++ ·) b).size = b.size + m * a.size
  | 0, b => by simp
  | m + 1, b => by
    rw [List.replicate_succ, List.foldl_cons, size_repS a m, Array.size_append, Nat.succ_mul]
    omega
theorem op_mulS : OpR X (binaryOp .Mult) (fun x y H Q => ∃ a k, x = .str a ∧ y = .int k ∧ (0 ≤ k ∧ k ≤ 1000 ∧ a.length ≤ 1000) ∧ Q (.str (repS a k)) H) := by
  intro pins s σ H x y v u Q I rx ry h
  obtain ⟨a, k, rfl, rfl, ⟨c1, c2, c3⟩, q⟩ := h
  obtain ⟨t, rfl⟩ := rx
  obtain ⟨t2, rfl⟩ := ry
  have big : (2 : Int) ^ 63 = 9223372036854775808 := by decide
  have hs : sizeLine = 16777216 := sizeLine_eq
  have len : a.length * k.toNat ≤ 1000 * 1000 := Nat.mul_le_mul c3 (by omega)
  refine PySem.P.mul_str (by rw [decide_eq_false (by omega), decide_eq_false (by omega)]; rfl) (fun h1 _ => ?_) (fun h1 _ => ?_) ?_
  · have h1 : 1 ≤ k := by omega
    have : (2 ^ 63 - 1 : Int) / 1000 ≤ (2 ^ 63 - 1) / k := by
      rw [Int.le_ediv_iff_mul_le (by omega)]
      have := Int.mul_le_mul_of_nonneg_left c2 (show (0 : Int) ≤ (2 ^ 63 - 1) / 1000 by decide)
      exact Int.le_trans this (by decide)
    have e : ((2 : Int) ^ 63 - 1) / 1000 = 9223372036854775 := by decide
    have : (a.length : Int) ≤ 1000 := by exact_mod_cast c3
    omega
  · unfold PySem.Builtin.Str.tooLong
    exact decide_eq_false (by omega)
  · unfold repS at q
    split
    · rename_i c
      rw [if_pos c] at q
      exact ⟨by decide, .str _, H, I.tok _, ⟨_, rfl⟩, q⟩
    · rename_i c
      rw [if_neg c] at q
      split
      · rename_i c2
        rw [if_pos c2] at q
        exact ⟨.str _, H, I, ⟨_, rfl⟩, q⟩
      · rename_i c2
        rw [if_neg c2] at q
        refine ⟨?_, .str _, H, I.tok _, ⟨_, rfl⟩, q⟩
        show ((List.replicate k.toNat a.cps).foldl (· ++ ·) #[]).size ≤ sizeLine
        rw [size_repS, hs]
        have : a.cps.size * k.toNat ≤ 1000 * 1000 := len
        rw [Nat.mul_comm] at this
        have z : (#[] : Array Nat).size = 0 := rfl
        omega
end
end PyI
set_option Elab.async false
set_option linter.all false
set_option maxRecDepth 100000
namespace PyI
open PySem L2
def BOp.op : BOp → Operator
  | .add => .Add | .sub => .Sub | .mul => .Mult | .fdiv => .FloorDiv | .mod => .Mod | .pow => .Pow | .addK => .Add | .addM => .Add | .mulL => .Mult
def COp.op : COp → CmpOp
  | .eq => .Eq | .ne => .NotEq | .lt => .Lt | .le => .LtE | .gt => .Gt | .ge => .GtE
  | .isN => .Is | .notN => .IsNot | .isB => .Is | .notB => .IsNot | .mem => .In | .nmem => .NotIn
/-- what is to hold of a value that an operation gives -/
def PostV (G : Glb) (μ : Mu) (M : Mk) (H : Hp) (r : Res D) (Q : VK) : Prop :=
  match r with
  | .ok d h' => ∀ v μ' M' H', Le μ M H μ' M' H' → Hrel G μ' M' H' h' → Rep G μ' M' H' d v → Q v H'
  | _ => False
section
variable {G : Glb} {μ : Mu} {M : Mk} {H : Hp} {h : Hea} {X : Cx}
theorem Post.toV {W : Value → Hp → Prop} {r : Res D} {Q : VK} (p : Post G (Rep G) W μ M H r Q) (n : ∀ c k, r ≠ .err c k) : PostV G μ M H r Q := by
  cases r with
  | ok d k => exact p
  | err c k => exact absurd rfl (n c k)
  | no => exact p
theorem PostV.here {d : D} {v : V} {Q : VK} (p : PostV G μ M H (.ok d h) Q) (r : Hrel G μ M H h) (q : Rep G μ M H d v) : Q v H := p v μ M H Le.refl r q
/-- a new object that nobody changes -/
theorem PostV.new {d : D} {Q : VK} {o : HO} (p : PostV G μ M H (.ok d h) Q) (r : Hrel G μ M H h) (q : ∀ a, H a = none → Rep G μ M (upd H a o) d (.ref a)) : ∀ a, H a = none → Q (.ref a) (upd H a o) :=
  fun a ha => p (.ref a) μ M _ (Le.fresh ha) (r.fresh ha) (q a ha)
theorem Reps.fresh {ds : List D} {xs : List V} {a : Addr} {o : HO} (q : Reps G μ M H ds xs) (r : Hrel G μ M H h) (ha : H a = none) : Reps G μ M (upd H a o) ds xs := Reps.le r (Le.fresh ha) ds xs q
theorem Rep.newTup {ds : List D} {xs : List V} {a : Addr} (r : Hrel G μ M H h) (ha : H a = none) (q : Reps G μ M H ds xs) : Rep G μ M (upd H a (.tup xs)) (.tup ds) (.ref a) := by
  rw [rep_tup]; exact ⟨a, xs, rfl, .of upd_same, q.fresh r ha⟩
theorem Rep.newPlc {ds : List D} {xs : List V} {a : Addr} (r : Hrel G μ M H h) (ha : H a = none) (q : Reps G μ M H ds xs) : Rep G μ M (upd H a (.tup xs)) (.plc ds) (.ref a) := by
  rw [rep_plc]; exact ⟨a, xs, rfl, upd_same, q.fresh r ha⟩
theorem Rep.newLst {ds : List D} {xs : List V} {a : Addr} (r : Hrel G μ M H h) (ha : H a = none) (q : Reps G μ M H ds xs) : Rep G μ M (upd H a (.lst xs)) (.lst ds) (.ref a) := by
  rw [rep_lst]; exact ⟨a, xs, rfl, upd_same, r.noMp ha, q.fresh r ha⟩
def rBin (G : Glb) (o : BOp) : R2 := fun x y H Q => ∃ a b μ M h, Hrel G μ M H h ∧ Rep G μ M H a x ∧ Rep G μ M H b y ∧ PostV G μ M H (binR o h a b) Q
theorem mulOk_of {i j : Int} (e : mulOk i j = true) : CMulW i j := by
  unfold mulOk at e
  have e' : i.natAbs.log2 + j.natAbs.log2 < 1000000 := by simpa using e
  exact e'
theorem PostV.need {α : Type} {o : Option α} {f : α → Res D} {Q : VK} (p : PostV G μ M H (need o f) Q) : ∃ a, o = some a ∧ PostV G μ M H (f a) Q := by
  cases o with
  | none => exact p.elim
  | some a => exact ⟨a, rfl, p⟩
theorem PostV.ite {c : Prop} [Decidable c] {r : Res D} {Q : VK} (p : PostV G μ M H (if c then r else .no) Q) : c ∧ PostV G μ M H r Q := by
  by_cases hc : c
  · rw [if_pos hc] at p; exact ⟨hc, p⟩
  · rw [if_neg hc] at p; exact p.elim
theorem op_fdivC {X : Cx} : OpR X (binaryOp .FloorDiv) (rI CDivP fun i j => .int (i / j)) := opI fun i j _ _ _ _ _ hc q => by
  have j0 : (0 : Int) < j := hc.1
  refine PyProof.Rows.floordiv_int (by omega) ?_ (.inl hc.2)
  rw [Int.fdiv_eq_ediv_of_nonneg i (by omega)]
  exact q
theorem divC_of {i j : Int} (h0 : 0 < j) (h : i.natAbs.log2 ≤ j.natAbs.log2 + 3990) : CDivP i j := by
  refine divp_ok h0 ?_
  unfold Builtin.Int.intBits
  have j0 : ¬ (j == 0) = true := by simpa using (show j ≠ 0 by omega)
  rw [if_neg j0]
  split <;> omega
theorem PostV.ite2 {c : Prop} [Decidable c] {r1 r2 : Res D} {Q : VK} (p : PostV G μ M H (if c then r1 else r2) Q) : (c ∧ PostV G μ M H r1 Q) ∨ (¬ c ∧ PostV G μ M H r2 Q) := by
  by_cases hc : c
  · rw [if_pos hc] at p; exact .inl ⟨hc, p⟩
  · rw [if_neg hc] at p; exact .inr ⟨hc, p⟩
theorem reps_rep {μ : Mu} {M : Mk} {H : Hp} {ds : List D} {xs : List V} (q : Reps G μ M H ds xs) : ∀ n : Nat, Reps G μ M H (List.replicate n ds).flatten (List.replicate n xs).flatten
  | 0 => Reps.nil
  | n + 1 => by
    rw [List.replicate_succ, List.replicate_succ, List.flatten_cons, List.flatten_cons]
    exact q.append (reps_rep q n)
theorem op_bin (o : BOp) (eK : X.K = G.K) : OpR X (binaryOp o.op) (rBin G o) := by
  intro pins s σ H x y v u Q I rx ry ⟨a, b, μ, M, h, r, pa, pb, q⟩
  cases o with
  | add =>
    unfold binR at q
    simp only at q
    split at q
    · rw [rep_int] at pa pb; subst pa pb
      exact op_add pins s σ H _ _ v u Q I rx ry ⟨_, _, rfl, rfl, q.here r (by rw [rep_int])⟩
    · rw [rep_str] at pa pb; subst pa pb
      obtain ⟨c, q⟩ := q.ite
      exact op_add_str pins s σ H _ _ v u Q I rx ry ⟨_, _, rfl, rfl, c, q.here r (by rw [rep_str])⟩
    · split at q
      · rename_i xs e
        obtain ⟨ys, e2, q⟩ := q.need
        obtain ⟨c, q⟩ := q.ite
        obtain ⟨a1, us, rfl, s1, t1⟩ := tup_rep pa e
        obtain ⟨b1, ws, rfl, s2, t2⟩ := tup_rep pb e2
        refine op_catA pins s σ H _ _ v u Q I rx ry ⟨a1, b1, us, ws, rfl, rfl, eK ▸ s1, eK ▸ s2, by rw [t1.length, t2.length]; exact c, fun z => ?_, fun _ z => ?_, fun _ _ => ?_⟩
        · subst z
          have hx : xs = [] := List.eq_nil_of_length_eq_zero t1.length.symm
          subst hx
          exact q.here r (by rw [rep_tup]; exact ⟨b1, ws, rfl, s2, t2⟩)
        · subst z
          have hy : ys = [] := List.eq_nil_of_length_eq_zero t2.length.symm
          subst hy
          exact q.here r (by rw [List.append_nil, rep_tup]; exact ⟨a1, us, rfl, s1, t1⟩)
        · exact q.new r fun p hp => Rep.newTup r hp (t1.append t2)
      · obtain ⟨xs, e, q⟩ := q.need
        obtain ⟨ys, e2, q⟩ := q.need
        obtain ⟨c, q⟩ := q.ite
        obtain ⟨a1, us, rfl, s1, t1⟩ := pln_rep r pa e
        obtain ⟨b1, ws, rfl, s2, t2⟩ := pln_rep r pb e2
        exact op_cat pins s σ H _ _ v u Q I rx ry ⟨a1, b1, us, ws, rfl, rfl, s1, s2, by rw [t1.length, t2.length]; exact c, q.new r fun p hp => Rep.newLst r hp (t1.append t2)⟩
  | sub =>
    unfold binR at q
    simp only at q
    split at q
    · rw [rep_int] at pa pb; subst pa pb
      exact op_sub pins s σ H _ _ v u Q I rx ry ⟨_, _, rfl, rfl, q.here r (by rw [rep_int])⟩
    · exact q.elim
  | mul =>
    unfold binR at q
    simp only at q
    split at q
    · rw [rep_int] at pa pb; subst pa pb
      obtain ⟨c, q⟩ := q.ite
      exact op_mulW pins s σ H _ _ v u Q I rx ry ⟨_, _, rfl, rfl, mulOk_of c, q.here r (by rw [rep_int])⟩
    · rw [rep_str] at pa; rw [rep_int] at pb; subst pa pb
      obtain ⟨c, q⟩ := q.ite
      exact op_mulS pins s σ H _ _ v u Q I rx ry ⟨_, _, rfl, rfl, c, q.here r (by rw [rep_str])⟩
    · rw [rep_int] at pb
      subst pb
      obtain ⟨xs, e, q⟩ := q.need
      obtain ⟨a1, us, rfl, s1, t1⟩ := tup_rep pa e
      rcases q.ite2 with ⟨k1, q⟩ | ⟨_, q⟩
      · subst k1
        exact op_rep1 pins s σ H _ _ v u Q I rx ry ⟨a1, us, rfl, rfl, eK ▸ s1, q.here r pa⟩
      · obtain ⟨⟨c1, c2, c3, c4⟩, q⟩ := q.ite
        have lu := t1.length
        refine op_repT pins s σ H _ _ v u Q I rx ry ⟨a1, _, us, rfl, rfl, eK ▸ s1, fun z => c1 (by rw [z] at lu; exact List.length_eq_zero_iff.mp lu.symm), c2, c3, by rw [lu]; exact c4, q.new r fun p hp => Rep.newTup r hp ?_⟩
        exact reps_rep t1 _
    · exact q.elim
  | fdiv =>
    unfold binR at q
    simp only at q
    split at q
    · rw [rep_int] at pa pb; subst pa pb
      obtain ⟨c, q⟩ := q.ite
      rcases c with ⟨c0, c | c⟩
      · exact op_fdivW pins s σ H _ _ v u Q I rx ry ⟨_, _, rfl, rfl, ⟨c0, c⟩, q.here r (by rw [rep_int])⟩
      · exact op_fdivC pins s σ H _ _ v u Q I rx ry ⟨_, _, rfl, rfl, divC_of c0 c, q.here r (by rw [rep_int])⟩
    · exact q.elim
  | mod =>
    unfold binR at q
    simp only at q
    split at q
    · rw [rep_int] at pa pb; subst pa pb
      obtain ⟨c, q⟩ := q.ite
      exact op_mod pins s σ H _ _ v u Q I rx ry ⟨_, _, rfl, rfl, c, q.here r (by rw [rep_int])⟩
    · exact q.elim
  | pow =>
    unfold binR at q
    simp only at q
    split at q
    · rw [rep_int] at pa pb; subst pa pb
      obtain ⟨c, q⟩ := q.ite
      exact op_pow pins s σ H _ _ v u Q I rx ry ⟨_, _, rfl, rfl, c, q.here r (by rw [rep_int])⟩
    · exact q.elim
  | addK =>
    unfold binR at q
    simp only at q
    obtain ⟨xs, e, q⟩ := q.need
    obtain ⟨ys, e2, q⟩ := q.need
    obtain ⟨⟨c, nx, ny⟩, q⟩ := q.ite
    obtain ⟨a1, us, rfl, s1, t1⟩ := tup_rep pa e
    obtain ⟨b1, ws, rfl, s2, t2⟩ := tup_rep pb e2
    refine op_catA pins s σ H _ _ v u Q I rx ry ⟨a1, b1, us, ws, rfl, rfl, eK ▸ s1, eK ▸ s2, by rw [t1.length, t2.length]; exact c, fun z => ?_, fun _ z => ?_, fun _ _ => ?_⟩
    · subst z
      exact absurd (List.eq_nil_of_length_eq_zero t1.length.symm) nx
    · subst z
      exact absurd (List.eq_nil_of_length_eq_zero t2.length.symm) ny
    · exact q.new r fun p hp => Rep.newPlc r hp (t1.append t2)
  | addM =>
    unfold binR at q
    simp only at q
    obtain ⟨xs, e, q⟩ := q.need
    obtain ⟨ys, e2, q⟩ := q.need
    obtain ⟨c, q⟩ := q.ite
    obtain ⟨a1, us, rfl, s1, t1⟩ := pln_rep r pa e
    obtain ⟨b1, ws, rfl, s2, t2⟩ := pln_rep r pb e2
    refine op_cat pins s σ H _ _ v u Q I rx ry ⟨a1, b1, us, ws, rfl, rfl, s1, s2, by rw [t1.length, t2.length]; exact c, fun b hb => ?_⟩
    refine q (.ref b) _ _ _ (Le.alloc hb) (r.alloc hb ⟨us ++ ws, upd_same, Reps.le r (Le.alloc hb) _ _ (t1.append t2)⟩) ?_
    rw [rep_ref]
    exact ⟨b, rfl, .inl (by rw [← r.len, List.getElem?_append_right (Nat.le_refl _), Nat.sub_self]; rfl)⟩
  | mulL =>
    unfold binR at q
    simp only at q
    split at q
    · rename_i k
      rw [rep_int] at pb; subst pb
      obtain ⟨xs, e, q⟩ := q.need
      obtain ⟨⟨c1, c2, c3⟩, q⟩ := q.ite
      obtain ⟨a1, us, rfl, s1, t1⟩ := pln_rep r pa e
      have lu := t1.length
      have kn : k.toNat ≤ 1000 := by omega
      refine op_rep pins s σ H _ _ v u Q I rx ry ⟨a1, k, us, rfl, rfl, s1, by omega, by omega, ?_, q.new r fun p hp => Rep.newLst r hp (reps_rep t1 _)⟩
      have : us.length * k.toNat ≤ 1000 * 1000 := Nat.mul_le_mul (by omega) kn
      exact Nat.le_trans this (by decide)
    · exact q.elim
def rCmp (G : Glb) (o : COp) : R2 := fun x y H Q => ∃ a b μ M h k, Hrel G μ M H h ∧ Rep G μ M H a x ∧ Rep G μ M H b y ∧ cmpR o h a b = some k ∧ Q (.bl k) H
theorem eqR_of {h : Hea} {a b : D} {k : Bool} (e : eqR h a b = some k) : SeqAt.shaped (pdH h a) = true ∧ SeqAt.shaped (pdH h b) = true ∧ k = PyData.eqv (pdH h a) (pdH h b) := by
  unfold eqR at e
  split at e
  · rename_i c
    rw [Bool.and_eq_true] at c
    exact ⟨c.1, c.2, (Option.some.inj e).symm⟩
  · cases e
theorem flat_rep {d : D} {v : V} (f : flatD d = true) (p : Rep G μ M H d v) : flatV v = true := by
  cases d with
  | non => rw [rep_non] at p; subst p; rfl
  | bl _ => rw [rep_bl] at p; subst p; rfl
  | int _ => rw [rep_int] at p; subst p; rfl
  | str _ => rw [rep_str] at p; subst p; rfl
  | _ => exact absurd f Bool.false_ne_true
theorem flat_eq {d e : D} {v w : V} (f : flatD d = true) (g : flatD e = true) (p : Rep G μ M H d v) (q : Rep G μ M H e w) : eqV v w = PyData.eqv (pd d) (pd e) := by
  cases d with
  | non =>
    rw [rep_non] at p; subst p
    cases e with
    | non => rw [rep_non] at q; subst q; simp [eqV, PyData.eqv, pd]
    | bl _ => rw [rep_bl] at q; subst q; simp [eqV, PyData.eqv, pd]
    | int _ => rw [rep_int] at q; subst q; simp [eqV, PyData.eqv, pd]
    | str _ => rw [rep_str] at q; subst q; simp [eqV, PyData.eqv, pd]
    | _ => exact absurd g Bool.false_ne_true
  | bl _ =>
    rw [rep_bl] at p; subst p
    cases e with
    | non => rw [rep_non] at q; subst q; simp [eqV, PyData.eqv, pd]
    | bl _ => rw [rep_bl] at q; subst q; simp [eqV, PyData.eqv, pd]
    | int _ => rw [rep_int] at q; subst q; simp [eqV, PyData.eqv, pd]
    | str _ => rw [rep_str] at q; subst q; simp [eqV, PyData.eqv, pd]
    | _ => exact absurd g Bool.false_ne_true
  | int _ =>
    rw [rep_int] at p; subst p
    cases e with
    | non => rw [rep_non] at q; subst q; simp [eqV, PyData.eqv, pd]
    | bl _ => rw [rep_bl] at q; subst q; simp [eqV, PyData.eqv, pd]
    | int _ => rw [rep_int] at q; subst q; simp [eqV, PyData.eqv, pd]
    | str _ => rw [rep_str] at q; subst q; simp [eqV, PyData.eqv, pd]
    | _ => exact absurd g Bool.false_ne_true
  | str _ =>
    rw [rep_str] at p; subst p
    cases e with
    | non => rw [rep_non] at q; subst q; simp [eqV, PyData.eqv, pd]
    | bl _ => rw [rep_bl] at q; subst q; simp [eqV, PyData.eqv, pd]
    | int _ => rw [rep_int] at q; subst q; simp [eqV, PyData.eqv, pd]
    | str _ => rw [rep_str] at q; subst q; simp [eqV, PyData.eqv, pd]
    | _ => exact absurd g Bool.false_ne_true
  | _ => exact absurd f Bool.false_ne_true
theorem flats_rep : ∀ {ds : List D} {xs : List V}, ds.all flatD = true → Reps G μ M H ds xs → xs.all flatV = true
  | [], xs, f, p => by unfold Reps at p; subst p; rfl
  | d :: r, xs, f, p => by
    unfold Reps at p
    obtain ⟨x, t, rfl, p, q⟩ := p
    rw [List.all_cons, Bool.and_eq_true] at f ⊢
    exact ⟨flat_rep f.1 p, flats_rep f.2 q⟩
theorem flats_in {e : D} {w : V} (g : flatD e = true) (q : Rep G μ M H e w) : ∀ {ds : List D} {xs : List V}, ds.all flatD = true → Reps G μ M H ds xs → inV w xs = ds.any fun z => PyData.eqv (pd z) (pd e)
  | [], xs, f, p => by unfold Reps at p; subst p; rfl
  | d :: r, xs, f, p => by
    unfold Reps at p
    obtain ⟨x, t, rfl, p, pr⟩ := p
    rw [List.all_cons, Bool.and_eq_true] at f
    have ih := flats_in g q f.2 pr
    unfold inV at ih ⊢
    rw [List.any_cons, List.any_cons, ih, flat_eq f.1 g p q]
theorem any_pds (f : PyData → Bool) : ∀ ds : List D, (pds ds).any f = ds.any fun z => f (pd z)
  | [] => rfl
  | d :: r => by
    show (pd d :: pds r).any f = _
    rw [List.any_cons, List.any_cons, any_pds f r]
theorem memR_in {pins : List (Addr × Obj)} {s : Shared} {σ : St} {x y : V} {v u : Value} {a b : D} {k : Bool} {Q : VK} (eK : X.K = G.K) (hu : X.A.units + 65 < cLine) (I : Inv X pins σ H s) (rx : RelV x v) (ry : RelV y u) (r : Hrel G μ M H h) (pa : Rep G μ M H a x) (pb : Rep G μ M H b y)
    (e : memR h a b = some k) (q : Q (.bl k) H) : wpAny (model X.prog X.w) X.A (compareOp .In v u) (EP X pins σ Q) X.xe s := by
  unfold memR at e
  split at e
  · rename_i ys el
    split at e
    · rename_i c
      rw [Bool.and_eq_true] at c
      cases e
      obtain ⟨b1, ws, rfl, s2, t2⟩ := lst_rep r pb el
      have c2 : PyData.canLayAll0 (pds ys) = true := by simpa [PyData.canLay0] using shaped_can c.2
      refine op_inD hu pins s σ H _ _ v u Q I rx ry ⟨pd a, pds ys, eK ▸ dp_of pa (shaped_can c.1), eK ▸ .lst s2 (dps_of t2 c2), c.1, c.2, ?_⟩
      rw [any_pds]; exact q
    · cases e
  · split at e
    · rename_i ys et
      split at e
      · rename_i c
        rw [Bool.and_eq_true] at c
        cases e
        obtain ⟨b1, ws, rfl, s2, t2⟩ := tup_rep pb et
        refine op_in_seq pins s σ H _ _ v u Q I rx ry ⟨b1, ws, rfl, .inr (eK ▸ s2), flat_rep c.1 pa, flats_rep c.2 t2, ?_⟩
        show Q (.bl (inV x ws)) H
        rw [flats_in c.1 pa c.2 t2]; exact q
      · split at e
        · rename_i c
          rw [Bool.and_eq_true] at c
          cases e
          obtain ⟨b1, ws, rfl, s2, t2⟩ := tup_rep pb et
          have c2 : PyData.canLayAll0 (pds ys) = true := by simpa [PyData.canLay0] using shaped_can c.2
          obtain ⟨as, r1⟩ := Dp.reads I _ _ _ (eK ▸ dp_of pa (shaped_can c.1)) rx
          obtain ⟨bs, r2⟩ := Dp.reads I (.tuple (pds ys)) _ _ (eK ▸ .tup s2 (dps_of t2 c2)) ry
          exact SeqAt.in_tuple_reads r2 r1 c2 (shaped_can c.1) (PyProof.Rows.room_in_shaped c.1 hu) ⟨.bl _, H, I, rfl, by rw [any_pds]; exact q⟩
        · cases e
    · obtain ⟨o, eo, rfl⟩ := Option.map_eq_some_iff.mp e
      obtain ⟨d, w, rfl, _, g, ro⟩ := dctGet_rep r pb pa eo
      obtain rfl : u = Value.ref d := ry
      refine d_in (by omega) I g rx fun s3 I3 => ⟨.bl w.isSome, H, I3, rfl, ?_⟩
      have : w.isSome = o.isSome := by cases o <;> cases w <;> first | rfl | exact ro.elim
      rw [this]; exact q
theorem memR_notin {pins : List (Addr × Obj)} {s : Shared} {σ : St} {x y : V} {v u : Value} {a b : D} {k : Bool} {Q : VK} (eK : X.K = G.K) (hu : X.A.units + 65 < cLine) (I : Inv X pins σ H s) (rx : RelV x v) (ry : RelV y u) (r : Hrel G μ M H h) (pa : Rep G μ M H a x) (pb : Rep G μ M H b y)
    (e : memR h a b = some k) (q : Q (.bl !k) H) : wpAny (model X.prog X.w) X.A (compareOp .NotIn v u) (EP X pins σ Q) X.xe s := by
  unfold memR at e
  split at e
  · rename_i ys el
    split at e
    · rename_i c
      rw [Bool.and_eq_true] at c
      cases e
      obtain ⟨b1, ws, rfl, s2, t2⟩ := lst_rep r pb el
      have c2 : PyData.canLayAll0 (pds ys) = true := by simpa [PyData.canLay0] using shaped_can c.2
      refine op_notInD hu pins s σ H _ _ v u Q I rx ry ⟨pd a, pds ys, eK ▸ dp_of pa (shaped_can c.1), eK ▸ .lst s2 (dps_of t2 c2), c.1, c.2, ?_⟩
      rw [any_pds]; exact q
    · cases e
  · split at e
    · rename_i ys et
      split at e
      · rename_i c
        rw [Bool.and_eq_true] at c
        cases e
        obtain ⟨b1, ws, rfl, s2, t2⟩ := tup_rep pb et
        refine op_notIn_seq pins s σ H _ _ v u Q I rx ry ⟨b1, ws, rfl, .inr (eK ▸ s2), flat_rep c.1 pa, flats_rep c.2 t2, ?_⟩
        show Q (.bl (!inV x ws)) H
        rw [flats_in c.1 pa c.2 t2]; exact q
      · split at e
        · rename_i c
          rw [Bool.and_eq_true] at c
          cases e
          obtain ⟨b1, ws, rfl, s2, t2⟩ := tup_rep pb et
          have c2 : PyData.canLayAll0 (pds ys) = true := by simpa [PyData.canLay0] using shaped_can c.2
          obtain ⟨as, r1⟩ := Dp.reads I _ _ _ (eK ▸ dp_of pa (shaped_can c.1)) rx
          obtain ⟨bs, r2⟩ := Dp.reads I (.tuple (pds ys)) _ _ (eK ▸ .tup s2 (dps_of t2 c2)) ry
          exact SeqAt.notIn_tuple_reads r2 r1 c2 (shaped_can c.1) (PyProof.Rows.room_in_shaped c.1 hu) ⟨.bl _, H, I, rfl, by rw [any_pds]; exact q⟩
        · cases e
    · obtain ⟨o, eo, rfl⟩ := Option.map_eq_some_iff.mp e
      obtain ⟨d, w, rfl, _, g, ro⟩ := dctGet_rep r pb pa eo
      obtain rfl : u = Value.ref d := ry
      refine d_notIn (by omega) I g rx fun s3 I3 => ⟨.bl (!w.isSome), H, I3, rfl, ?_⟩
      have : w.isSome = o.isSome := by cases o <;> cases w <;> first | rfl | exact ro.elim
      rw [this]; exact q
theorem isNon_rep {d : D} {v : V} (p : Rep G μ M H d v) : decide (v = V.non) = isNonD d := by
  cases d with
  | non => rw [rep_non] at p; subst p; rfl
  | bl _ => rw [rep_bl] at p; subst p; rfl
  | int _ => rw [rep_int] at p; subst p; rfl
  | str _ => rw [rep_str] at p; subst p; rfl
  | tup _ => rw [rep_tup] at p; obtain ⟨_, _, rfl, _⟩ := p; rfl
  | plc _ => rw [rep_plc] at p; obtain ⟨_, _, rfl, _⟩ := p; rfl
  | lst _ => rw [rep_lst] at p; obtain ⟨_, _, rfl, _⟩ := p; rfl
  | scr _ => rw [rep_scr] at p; obtain ⟨_, _, rfl, _⟩ := p; rfl
  | dK _ _ => rw [rep_dK] at p; obtain ⟨_, _, rfl, _⟩ := p; rfl
  | dT _ _ => rw [rep_dT] at p; obtain ⟨_, _, rfl, _⟩ := p; rfl
  | ref _ => rw [rep_ref] at p; obtain ⟨_, rfl, _⟩ := p; rfl
  | fn _ => rw [rep_fn] at p; obtain ⟨_, _, rfl, _⟩ := p; rfl
  | exn _ _ => rw [rep_exn] at p; obtain ⟨_, _, _, _, rfl, _⟩ := p; rfl
theorem op_cmp (o : COp) (eK : X.K = G.K) (hu : X.A.units + 65 < cLine) : OpR X (compareOp o.op) (rCmp G o) := by
  intro pins s σ H x y v u Q I rx ry ⟨a, b, μ, M, h, k, r, pa, pb, e, q⟩
  cases o with
  | eq =>
    unfold cmpR at e
    simp only at e
    split at e
    · cases e
      rw [rep_str] at pa pb; subst pa pb
      exact op_eq pins s σ H _ _ v u Q I rx ry ⟨rfl, by simpa using q⟩
    obtain ⟨c1, c2, rfl⟩ := eqR_of e
    exact op_eqD (by omega) pins s σ H _ _ v u Q I rx ry ⟨_, _, eK ▸ dpH_of r pa c1, eK ▸ dpH_of r pb c2, c1, c2, q⟩
  | ne =>
    unfold cmpR at e
    simp only at e
    split at e
    · cases e
      rw [rep_str] at pa pb; subst pa pb
      exact op_ne pins s σ H _ _ v u Q I rx ry ⟨rfl, by simpa using q⟩
    obtain ⟨k', e2, rfl⟩ := Option.map_eq_some_iff.mp e
    obtain ⟨c1, c2, rfl⟩ := eqR_of e2
    exact op_neD (by omega) pins s σ H _ _ v u Q I rx ry ⟨_, _, eK ▸ dpH_of r pa c1, eK ▸ dpH_of r pb c2, c1, c2, q⟩
  | lt =>
    unfold cmpR at e
    simp only at e
    split at e
    · cases e
      rw [rep_int] at pa pb; subst pa pb
      exact op_lt pins s σ H _ _ v u Q I rx ry ⟨_, _, rfl, rfl, q⟩
    · obtain ⟨xs, e1, e⟩ := Option.bind_eq_some_iff.mp e
      obtain ⟨ys, e2, e⟩ := Option.bind_eq_some_iff.mp e
      obtain ⟨ns, e3, e⟩ := Option.bind_eq_some_iff.mp e
      obtain ⟨ms, e4, rfl⟩ := Option.map_eq_some_iff.mp e
      obtain ⟨a1, us, rfl, s1, t1⟩ := tup_rep pa e1
      obtain ⟨b1, ws, rfl, s2, t2⟩ := tup_rep pb e2
      rw [ints_rep t1 e3] at s1
      rw [ints_rep t2 e4] at s2
      exact op_ltT (by omega) pins s σ H _ _ v u Q I rx ry ⟨a1, b1, ns, ms, rfl, rfl, eK ▸ s1, eK ▸ s2, q⟩
  | le =>
    unfold cmpR at e
    simp only at e
    split at e
    · cases e
      rw [rep_int] at pa pb; subst pa pb
      exact op_le pins s σ H _ _ v u Q I rx ry ⟨_, _, rfl, rfl, q⟩
    · cases e
  | gt =>
    unfold cmpR at e
    simp only at e
    split at e
    · cases e
      rw [rep_int] at pa pb; subst pa pb
      exact op_gt pins s σ H _ _ v u Q I rx ry ⟨_, _, rfl, rfl, q⟩
    · cases e
  | ge =>
    unfold cmpR at e
    simp only at e
    split at e
    · cases e
      rw [rep_int] at pa pb; subst pa pb
      exact op_ge pins s σ H _ _ v u Q I rx ry ⟨_, _, rfl, rfl, q⟩
    · cases e
  | isN =>
    unfold cmpR at e
    simp only at e
    split at e
    · cases e
      rw [rep_non] at pb; subst pb
      refine op_isN pins s σ H _ _ v u Q I rx ry ⟨rfl, ?_⟩
      rw [isNon_rep pa]; exact q
    · cases e
  | notN =>
    unfold cmpR at e
    simp only at e
    split at e
    · cases e
      rw [rep_non] at pb; subst pb
      refine op_notN pins s σ H _ _ v u Q I rx ry ⟨rfl, ?_⟩
      rw [isNon_rep pa]; exact q
    · cases e
  | isB =>
    unfold cmpR at e
    simp only at e
    split at e
    · cases e
      rw [rep_bl] at pa pb; subst pa pb
      exact op_isBl pins s σ H _ _ v u Q I rx ry ⟨_, _, rfl, rfl, q⟩
    · cases e
  | notB =>
    unfold cmpR at e
    simp only at e
    split at e
    · cases e
      rw [rep_bl] at pa pb; subst pa pb
      exact op_notBl pins s σ H _ _ v u Q I rx ry ⟨_, _, rfl, rfl, q⟩
    · cases e
  | mem => exact memR_in eK hu I rx ry r pa pb e q
  | nmem =>
    obtain ⟨k', e2, rfl⟩ := Option.map_eq_some_iff.mp (show (memR h a b).map not = some k from e)
    exact memR_notin eK hu I rx ry r pa pb e2 q
theorem isEmpty_reps {ds : List D} {xs : List V} (q : Reps G μ M H ds xs) : xs.isEmpty = ds.isEmpty := by
  have := q.length
  cases ds <;> cases xs <;> first | rfl | simp at this
theorem true_rep (r : Hrel G μ M H h) {d : D} {v : V} {k : Bool} (p : Rep G μ M H d v) (e : trueR h d = some k) : TruV G.K v H k := by
  unfold trueR at e
  split at e
  · cases e; rw [rep_non] at p; subst p; rfl
  · cases e; rw [rep_bl] at p; subst p; rfl
  · cases e; rw [rep_int] at p; subst p; rfl
  · split at e
    · rename_i c; cases e; rw [rep_str] at p; subst p; exact ⟨c, rfl⟩
    · cases e
  · cases e; rw [rep_tup] at p; obtain ⟨a, xs, rfl, s, q⟩ := p; exact .inr (.inl ⟨xs, s, by rw [isEmpty_reps q]⟩)
  · cases e; rw [rep_plc] at p; obtain ⟨a, xs, rfl, s, q⟩ := p; exact .inr (.inl ⟨xs, .of s, by rw [isEmpty_reps q]⟩)
  · cases e; rw [rep_lst] at p; obtain ⟨a, xs, rfl, s, _, q⟩ := p; exact .inl ⟨xs, .of s, by rw [isEmpty_reps q]⟩
  · cases e; rw [rep_scr] at p; obtain ⟨a, xs, rfl, s, q⟩ := p
    refine .inl ⟨xs, ?_, by rw [isEmpty_reps q]⟩
    rcases s with ⟨o, s⟩ | s
    · exact .inl (.inr ⟨o, s⟩)
    · exact s H
  · split at e
    · rename_i z; cases e
      obtain ⟨a, rfl, _, xs, s, q⟩ := r.at_ p z (by intro z; cases z)
      exact .inl ⟨xs, .of s, by rw [isEmpty_reps q]⟩
    · rename_i z; cases e
      obtain ⟨a, rfl, _, kvs, s, ek, q⟩ := r.at_ p z (by intro z; cases z)
      refine .inr (.inr ⟨kvs, s, ?_⟩)
      subst ek
      cases kvs <;> rfl
    · cases e
  · cases e
def Ty.nm : Ty → String
  | .int => "int" | .bool => "bool" | .str => "str" | .tuple => "tuple" | .list => "list" | .dict => "dict"
theorem kit_all : ∀ a b : Ty, kitB a.nm b.nm = some (a == b || (a == .bool && b == .int)) := by
  intro a b; cases a <;> cases b <;> decide +kernel
theorem kit_none (b : Ty) : kitB "NoneType" b.nm = some false := by cases b <;> decide +kernel
theorem isi_rep (r : Hrel G μ M H h) {d : D} {v : V} {t : Ty} {k : Bool} (p : Rep G μ M H d v) (e : isiR h d t = some k) : ∃ T, TyX G.K H v (.type T) ∧ kitB T t.nm = some k := by
  unfold isiR at e
  split at e
  · cases e; rw [rep_non] at p; subst p; exact ⟨_, .base .non, kit_none t⟩
  · cases e; rw [rep_bl] at p; subst p
    refine ⟨_, .base (.bl _), ?_⟩
    have := kit_all .bool t
    rw [show (Ty.bool).nm = "bool" from rfl] at this
    rw [this]; cases t <;> rfl
  · cases e; rw [rep_int] at p; subst p
    refine ⟨_, .base (.int _), ?_⟩
    have := kit_all .int t
    rw [show (Ty.int).nm = "int" from rfl] at this
    rw [this]; cases t <;> rfl
  · cases e; rw [rep_str] at p; subst p
    refine ⟨_, .base (.str _), ?_⟩
    have := kit_all .str t
    rw [show (Ty.str).nm = "str" from rfl] at this
    rw [this]; cases t <;> rfl
  · cases e; rw [rep_tup] at p; obtain ⟨a, xs, rfl, s, q⟩ := p
    have e2 : kitB "tuple" t.nm = some (t == .tuple) := by
      have := kit_all .tuple t
      rw [show (Ty.tuple).nm = "tuple" from rfl] at this
      rw [this]; cases t <;> rfl
    rcases s with (s | ⟨o, s⟩) | ⟨o, its, n, hk, hc, _⟩
    · exact ⟨_, .base (.tup s), e2⟩
    · exact ⟨_, .fTuple s, e2⟩
    · exact ⟨_, .kTuple hk hc, e2⟩
  · cases e; rw [rep_plc] at p; obtain ⟨a, xs, rfl, s, q⟩ := p
    refine ⟨_, .base (.tup s), ?_⟩
    have := kit_all .tuple t
    rw [show (Ty.tuple).nm = "tuple" from rfl] at this
    rw [this]; cases t <;> rfl
  · cases e; rw [rep_lst] at p; obtain ⟨a, xs, rfl, s, _, q⟩ := p
    refine ⟨_, .base (.lst s), ?_⟩
    have := kit_all .list t
    rw [show (Ty.list).nm = "list" from rfl] at this
    rw [this]; cases t <;> rfl
  · cases e; rw [rep_scr] at p; obtain ⟨a, xs, rfl, s, q⟩ := p
    have e2 : kitB "list" t.nm = some (t == .list) := by
      have := kit_all .list t
      rw [show (Ty.list).nm = "list" from rfl] at this
      rw [this]; cases t <;> rfl
    rcases s with ⟨o, s⟩ | s
    · exact ⟨_, .base (.frz s), e2⟩
    · rcases s (fun _ => none) with (s | ⟨o, s⟩) | ⟨o, its, n, hk, hc, _⟩
      · cases s
      · cases s
      · exact ⟨_, .kList hk hc, e2⟩
  · cases e; rw [rep_dK] at p; obtain ⟨a, xs, rfl, s, _⟩ := p
    have e2 : kitB "dict" t.nm = some (t == .dict) := by
      have := kit_all .dict t
      rw [show (Ty.dict).nm = "dict" from rfl] at this
      rw [this]; cases t <;> rfl
    rcases s with s | ⟨o, s⟩
    · exact ⟨_, .base (.dK s), e2⟩
    · exact ⟨_, .fDict s, e2⟩
  · cases e
  · split at e
    · rename_i z; cases e
      obtain ⟨a, rfl, _, xs, s, q⟩ := r.at_ p z (by intro z; cases z)
      refine ⟨_, .base (.lst s), ?_⟩
      have := kit_all .list t
      rw [show (Ty.list).nm = "list" from rfl] at this
      rw [this]; cases t <;> rfl
    · rename_i z; cases e
      obtain ⟨a, rfl, _, xs, s, q⟩ := r.at_ p z (by intro z; cases z)
      refine ⟨_, .base (.dK s), ?_⟩
      have := kit_all .dict t
      rw [show (Ty.dict).nm = "dict" from rfl] at this
      rw [this]; cases t <;> rfl
    · rename_i z; cases e
      obtain ⟨a, rfl, _, xs, s, q⟩ := r.at_ p z (by intro z; cases z)
      refine ⟨_, .base (.dT s), ?_⟩
      have := kit_all .dict t
      rw [show (Ty.dict).nm = "dict" from rfl] at this
      rw [this]; cases t <;> rfl
    · cases e
  · cases e
  · cases e
end
end PyI
set_option Elab.async false
set_option linter.all false
set_option maxRecDepth 100000
namespace PyI
open PySem L2
def Bi.nm : Bi → Str
  | .len => "len" | .abs => "abs" | .int => "int" | .list => "list" | .listM => "list" | .tuple => "tuple" | .all => "all" | .any => "any"
  | .max => "max" | .min => "min" | .repr => "repr" | .sorted => "sorted" | .str => "str" | .sortT => "sorted" | .sortL => "sorted" | .listK => "list" | .sortM => "sorted"
def Mt.nm : Mt → Str
  | .get2 => "get" | .append => "append" | .pop => "pop" | .popAt => "pop" | .update => "update"
def Ty.nmS (t : Ty) : Str := Str.ofString t.nm
/-- what a comprehension captures, and how deep lambdas may be -/
structure Fo where
  f : Str → Bool
  lv : Nat
def visB (sc : Scope) (x : Str) : Bool := (match sc.names.lookup x with | some .local => true | some .cell => true | some .free => true | _ => false)
def locB (sc : Scope) (fo : Fo) (x : Str) : Bool := (match sc.names.lookup x with | some .local => true | some .cell => fo.f x | _ => false)
def varB (N : List Str) (sc : Scope) (i : Nat) (x : Str) : Bool := decide (N[i]? = some x) && visB sc x && !(x == ("__debug__" : Str)) && !(x == ("__classdict__" : Str))
def glB (sc : Scope) (x : Str) : Bool := decide (sc.names.lookup x = some .globalImplicit) && !(x == ("__debug__" : Str)) && !(x == ("__name__" : Str))
/-- no keywords; key=len -/
def kwB (sc : Scope) (b : Bi) : List Keyword → Bool
  | [] => decide (b ≠ .sortL)
  | [⟨some k, .Name z _, _⟩] => decide (b = .sortL) && decide (k = "key") && glB sc z && decide (z = "len")
  | _ => false
def ownOf (N : List Str) (own : List Nat) : List (Str × Nat) := own.map fun i => (N.getD i Str.empty, i)
/-- not and, or, not, a comparison, an if-expression -/
def plainB : Expr → Bool
  | .UnaryOp .Not _ _ => false
  | .BoolOp _ _ _ => false
  | .IfExp _ _ _ _ => false
  | .Compare _ _ _ _ => false
  | _ => true
/-- no parameter -/
def noParB (a : Arguments) : Bool := a.posonlyargs.isEmpty && a.args.isEmpty && a.vararg.isNone && a.kwonlyargs.isEmpty && a.kw_defaults.isEmpty && a.kwarg.isNone && a.defaults.isEmpty
theorem noParB_eq {a : Arguments} (h : noParB a = true) : a = ⟨[], [], none, [], [], none, []⟩ := by
  obtain ⟨a1, a2, a3, a4, a5, a6, a7⟩ := a
  unfold noParB at h
  simp only [Bool.and_eq_true, List.isEmpty_iff, Option.isNone_iff_eq_none] at h
  obtain ⟨⟨⟨⟨⟨⟨rfl, rfl⟩, rfl⟩, rfl⟩, rfl⟩, rfl⟩, rfl⟩ := h
  rfl
def mtA : Mt → Es → Bool
  | .append, .cons _ .nil => true
  | .update, .cons _ .nil => true
  | .pop, .nil => true
  | .popAt, .cons _ .nil => true
  | .get2, .cons _ (.cons _ .nil) => true
  | _, _ => false
section
variable (N : List Str)
mutual
/-- a target; own: its names are among these (a comprehension's) -/
def ckG (sc : Scope) (fo : Fo) (own : List Nat) : Tg → Expr → Bool
  | .n i, t => match t with | .Name x _ => decide (N[i]? = some x) && locB sc fo x && own.contains i | _ => false
  | .t ts, t => match t with | .Tuple xs _ _ => ckGs sc fo own ts xs | _ => false
def ckGs (sc : Scope) (fo : Fo) (own : List Nat) : Tgs → List Expr → Bool
  | .nil, a => match a with | [] => true | _ => false
  | .cons t ts, a => match a with | x :: xs => ckG sc fo own t x && ckGs sc fo own ts xs | _ => false
end
end
def xtB (T : Tab) (k : XT) (z : Str) : Bool := match k with
  | .own d => decide (T.ex d = some z)
  | .val => decide (z = "ValueError")
  | .look => decide (z = "LookupError")
section
variable (T : Tab) (N : List Str)
mutual
def ckE (sc : Scope) (fo : Fo) : E → Expr → Bool
  | .non, a => match a with | .Constant .none _ _ => true | _ => false
  | .bl b, a => match a with | .Constant (.bool c) _ _ => b == c | _ => false
  | .int i, a => match a with | .Constant (.int j) _ _ => decide (i = j) | _ => false
  | .str x, a => match a with | .Constant (.str y) _ _ => decide (x = y) | _ => false
  | .v i, a => match a with | .Name x _ => varB N sc i x | _ => false
  | .gc i, a => match a with | .Name x _ => glB sc x && (match T.cn i with | some p => decide (p.1 = x) | none => false) | _ => false
  | .gf i, a => match a with | .Name x _ => glB sc x && (match T.fn i with | some p => decide (p.name = x) | none => false) | _ => false
  | .bin o a b, e => match e with | .BinOp l op r _ => decide (op = o.op) && ckE sc fo a l && ckE sc fo b r | _ => false
  | .neg a, e => match e with | .UnaryOp .USub l _ => ckE sc fo a l | _ => false
  | .nt a, e => match e with | .UnaryOp .Not l _ => ckE sc fo a l | _ => false
  | .cmp o a b, e => match e with | .Compare l [op] [r] _ => decide (op = o.op) && ckE sc fo a l && ckE sc fo b r | _ => false
  | .chn o p a b c, e => match e with | .Compare l [op, op'] [m, r] _ => decide (op = o.op) && decide (op' = p.op) && ckE sc fo a l && ckE sc fo b m && ckE sc fo c r | _ => false
  | .and a b, e => match e with
    | .BoolOp .And [x, y] _ => ckE sc fo a x && ckE sc fo b y
    | .BoolOp .And (x :: y :: z :: r) pos => ckE sc fo a x && ckE sc fo b (.BoolOp .And (y :: z :: r) pos)
    | _ => false
  | .or a b, e => match e with
    | .BoolOp .Or [x, y] _ => ckE sc fo a x && ckE sc fo b y
    | .BoolOp .Or (x :: y :: z :: r) pos => ckE sc fo a x && ckE sc fo b (.BoolOp .Or (y :: z :: r) pos)
    | _ => false
  | .ite c a b, e => match e with | .IfExp t x y _ => ckE sc fo c t && ckE sc fo a x && ckE sc fo b y | _ => false
  | .tup es, e => match e with | .Tuple xs _ _ => ckEs sc fo es xs | _ => false
  | .tupK es, e => match e with | .Tuple xs _ _ => ckEs sc fo es xs | _ => false
  | .lst es, e => match e with | .List xs _ => ckEs sc fo es xs | _ => false
  | .lstM es, e => match e with | .List xs _ => ckEs sc fo es xs | _ => false
  | .dnewK, e => match e with | .Dict [] [] _ => true | _ => false
  | .dnewT, e => match e with | .Dict [] [] _ => true | _ => false
  | .sub a i, e => match e with | .Subscript l r _ => ckE sc fo a l && ckE sc fo i r | _ => false
  | .slc a lo hi, e => match e with | .Subscript l (.Slice x y none _) _ => ckE sc fo a l && ckO sc fo lo x && ckO sc fo hi y | _ => false
  | .call f es, e => match e with | .Call (.Name x _) (y :: ys) [] _ => glB sc x && (match T.fn f with | some p => decide (p.name = x) | none => false) && ckEs sc fo es (y :: ys) | _ => false
  | .callP f es, e => match e with | .Call (.Name x _) (y :: ys) [] _ => glB sc x && (match T.fn f with | some p => decide (p.name = x) | none => false) && ckEs sc fo es (y :: ys) | _ => false
  | .bi b a, e => match e with | .Call (.Name x _) [y] kws _ => glB sc x && decide (x = b.nm) && kwB sc b kws && ckE sc fo a y | _ => false
  | .isi a t, e => match e with | .Call (.Name x _) [y, .Name z _] [] _ => glB sc x && decide (x = "isinstance") && glB sc z && decide (z = t.nmS) && ckE sc fo a y | _ => false
  | .mt m o es, e => match e with | .Call (.Attribute l a apos) xs [] pos => decide (a = m.nm) && (apos.endLine == pos.line) && ckE sc fo o l && ckEs sc fo es xs && mtA m es | _ => false
  | .lc _ own tg it c e, a => match a with
    | .ListComp el [⟨t, i, ifs, k⟩] scope _ => decide (k = 0) && blkC N sc scope (ownOf N own) && ckI sc fo it t i && ckG N (relS scope sc) ⟨fun x => scope.names.lookup x == some .cell, fo.lv⟩ own tg t &&
        ckC (relS scope sc) ⟨fun x => scope.names.lookup x == some .cell, fo.lv⟩ c ifs && ckE (relS scope sc) ⟨fun x => scope.names.lookup x == some .cell, fo.lv⟩ e el
    | _ => false
  | .lc2 _ own own2 tg it tg2 it2 c e, a => match a with
    | .ListComp el [⟨t, i, [], k⟩, ⟨t2, i2, ifs, k2⟩] scope _ => decide (k = 0) && decide (k2 = 0) && blkC N sc scope (ownOf N own) && ckI sc fo it t i && ckG N (relS scope sc) ⟨fun x => scope.names.lookup x == some .cell, fo.lv⟩ own tg t &&
        ckI (relS scope sc) ⟨fun x => scope.names.lookup x == some .cell, fo.lv⟩ it2 t2 i2 && own2.all (fun i => own.contains i) && ckG N (relS scope sc) ⟨fun x => scope.names.lookup x == some .cell, fo.lv⟩ own2 tg2 t2 &&
        ckC (relS scope sc) ⟨fun x => scope.names.lookup x == some .cell, fo.lv⟩ c ifs && ckE (relS scope sc) ⟨fun x => scope.names.lookup x == some .cell, fo.lv⟩ e el
    | _ => false
  | .frz a, e => plainB e && ckE sc fo a e
  | .lam f b, e => match e with | .Call (.Name x _) [.Lambda ps el scope _] [] _ => glB sc x && (match T.tf f with | some t => decide (t.name = x) | none => false) && decide (fo.lv ≠ 0) && noParB ps && LamX.lamSB sc scope && ckE scope ⟨fun _ => false, 0⟩ b el | _ => false
  | .lckE a x, e => plainB e && (match N[a]? with | some _ => true | none => false) && ckE sc fo x e
  | .callV i es, e => match e with | .Call (.Name x _) (y :: ys) [] _ => varB N sc i x && ckEs sc fo es (y :: ys) | _ => false
  | .call0 f, e => match e with | .Call (.Name x _) [] [] _ => glB sc x && (match T.fn f with | some p => decide (p.name = x) | none => false) && (x != ("super" : Str)) | _ => false
  | .rev a, e => match e with | .Subscript l (.Slice none none (some (.UnaryOp .USub (.Constant (.int 1) _ _) _)) _) _ => ckE sc fo a l | _ => false
  | .dcm _ _ own tg it c k e, a => match a with
    | .DictComp kx vx [⟨t, i, ifs, z⟩] scope _ => decide (z = 0) && blkC N sc scope (ownOf N own) && ckI sc fo it t i && ckG N (relS scope sc) ⟨fun x => scope.names.lookup x == some .cell, fo.lv⟩ own tg t &&
        ckC (relS scope sc) ⟨fun x => scope.names.lookup x == some .cell, fo.lv⟩ c ifs && (ckE (relS scope sc) ⟨fun x => scope.names.lookup x == some .cell, fo.lv⟩ k kx && ckE (relS scope sc) ⟨fun x => scope.names.lookup x == some .cell, fo.lv⟩ e vx)
    | _ => false
  | .dcm2 _ _ own own2 tg it tg2 it2 c k e, a => match a with
    | .DictComp kx vx [⟨t, i, [], z⟩, ⟨t2, i2, ifs, z2⟩] scope _ => decide (z = 0) && decide (z2 = 0) && blkC N sc scope (ownOf N own) && ckI sc fo it t i && ckG N (relS scope sc) ⟨fun x => scope.names.lookup x == some .cell, fo.lv⟩ own tg t &&
        ckI (relS scope sc) ⟨fun x => scope.names.lookup x == some .cell, fo.lv⟩ it2 t2 i2 && own2.all (fun i => own.contains i) && ckG N (relS scope sc) ⟨fun x => scope.names.lookup x == some .cell, fo.lv⟩ own2 tg2 t2 &&
        ckC (relS scope sc) ⟨fun x => scope.names.lookup x == some .cell, fo.lv⟩ c ifs && (ckE (relS scope sc) ⟨fun x => scope.names.lookup x == some .cell, fo.lv⟩ k kx && ckE (relS scope sc) ⟨fun x => scope.names.lookup x == some .cell, fo.lv⟩ e vx)
    | _ => false
  | .lcL _ own tg v c e, a => match a with
    | .ListComp el [⟨t, .Name x _, ifs, k⟩] scope _ => decide (k = 0) && blkC N sc scope (ownOf N own) && varB N sc v x && ckG N (relS scope sc) ⟨fun x => scope.names.lookup x == some .cell, fo.lv⟩ own tg t &&
        ckC (relS scope sc) ⟨fun x => scope.names.lookup x == some .cell, fo.lv⟩ c ifs && ckE (relS scope sc) ⟨fun x => scope.names.lookup x == some .cell, fo.lv⟩ e el
    | _ => false
  | .fld a f, e => match e with | .Attribute l x _ => decide (x = f) && ckE sc fo a l | _ => false
  | .mk c es, e => match e with | .Call (.Name x _) (y :: ys) [] _ => glB sc x && (match T.cl c with | some p => decide (p.name = x) | none => false) && ckEs sc fo es (y :: ys) | _ => false
  | .meth m o es, e => match e with | .Call (.Attribute l x apos) ys [] pos => decide (x = m) && (apos.endLine == pos.line) && decide (ys.length < 29) && ckE sc fo o l && ckEs sc fo es ys | _ => false
  | .callI c f g es, e => match e with | .Call (.IfExp t (.Name x _) (.Name y _) _) (z :: zs) [] _ => ckE sc fo c t && (glB sc x && (match T.fn f with | some p => decide (p.name = x) | none => false)) && (glB sc y && (match T.fn g with | some p => decide (p.name = y) | none => false)) && ckEs sc fo es (z :: zs) | _ => false
  | .updT o x, e => match e with | .Call (.Attribute l a apos) [y] [] pos => decide (a = "update") && (apos.endLine == pos.line) && ckE sc fo o l && ckE sc fo x y | _ => false
  | .dlit _ _ k v, e => match e with | .Dict [some x] [y] _ => ckE sc fo k x && ckE sc fo v y | _ => false
  | .dpr _ a, e => match e with | .Call (.Name x _) [y] [] _ => glB sc x && decide (x = "dict") && ckE sc fo a y | _ => false
  | .lzp a b, e => match e with | .Call (.Name x _) [.Call (.Name y _) [c, d] [] _] [] _ => glB sc x && decide (x = "list") && (glB sc y && decide (y = "zip")) && ckE sc fo a c && ckE sc fo b d | _ => false
  | .lzpS a b, e => match e with | .Call (.Name x _) [.Call (.Name y _) [c, d] [⟨some k, .Constant (.bool true) _ _, _⟩] _] [] _ => glB sc x && decide (x = "list") && (glB sc y && decide (y = "zip")) && decide (k = "strict") && ckE sc fo a c && ckE sc fo b d | _ => false
  | .exn c a, e => match e with | .Call (.Name x _) [y] [] _ => glB sc x && decide (T.ex c = some x) && ckE sc fo a y | _ => false
  | .isx k a, e => match e with | .Call (.Name x _) [y, .Name z _] [] _ => glB sc x && decide (x = "isinstance") && glB sc z && xtB T k z && ckE sc fo a y | _ => false
  | .strx a, e => match e with | .Call (.Name x _) [y] [] _ => glB sc x && decide (x = "str") && ckE sc fo a y | _ => false
  | .lrg _ a, e => match e with | .Call (.Name x _) [.Call (.Name y _) [z] [] _] [] _ => glB sc x && decide (x = "list") && (glB sc y && decide (y = "range") && ckE sc fo a z) | _ => false
def ckEs (sc : Scope) (fo : Fo) : Es → List Expr → Bool
  | .nil, a => match a with | [] => true | _ => false
  | .cons e es, a => match a with | x :: xs => ckE sc fo e x && ckEs sc fo es xs | _ => false
/-- a slice's part -/
def ckO (sc : Scope) (fo : Fo) : Es → Option Expr → Bool
  | .nil, a => match a with | none => true | _ => false
  | .cons e es, a => match a with | some x => ckE sc fo e x && (match es with | .nil => true | _ => false) | _ => false
/-- a clause's tests -/
def ckC (sc : Scope) (fo : Fo) : Es → List Expr → Bool
  | .nil, a => match a with | [] => true | _ => false
  | .cons e es, a => match a with | [x] => ckE sc fo e x && (match es with | .nil => true | _ => false) | _ => false
def ckI (sc : Scope) (fo : Fo) : It → Expr → Expr → Bool
  | .seq e, _, i => ckE sc fo e i
  | .rng1 e, _, i => match i with | .Call (.Name x _) [a] [] _ => glB sc x && decide (x = "range") && ckE sc fo e a | _ => false
  | .rng2 e e2, _, i => match i with | .Call (.Name x _) [a, b] [] _ => glB sc x && decide (x = "range") && ckE sc fo e a && ckE sc fo e2 b | _ => false
  | .keys e, _, i => ckE sc fo e i
  | .enum e, t, i => match i, t with | .Call (.Name x _) [a] [] _, .Tuple _ _ _ => glB sc x && decide (x = "enumerate") && ckE sc fo e a | _, _ => false
  | .zip e e2, t, i => match i, t with | .Call (.Name x _) [a, b] [] _, .Tuple _ _ _ => glB sc x && decide (x = "zip") && ckE sc fo e a && ckE sc fo e2 b | _, _ => false
  | .zipS e e2, t, i => match i, t with | .Call (.Name x _) [a, b] [⟨some y, .Constant (.bool true) _ _, _⟩] _, .Tuple _ _ _ => glB sc x && decide (x = "zip") && decide (y = "strict") && ckE sc fo e a && ckE sc fo e2 b | _, _ => false
  | .enumT e, t, i => match i, t with | .Call (.Name x _) [a] [] _, .Tuple _ _ _ => glB sc x && decide (x = "enumerate") && ckE sc fo e a | _, _ => false
end
end
section
variable {T : Tab} {N : List Str} {sc : Scope} {fo : Fo}
theorem ck_starred {v : Expr} {p : Pos} : ∀ e : E, ckE T N sc fo e (.Starred v p) = true → False
  | .frz a, h => by
    have h' : (plainB (.Starred v p) && ckE T N sc fo a (.Starred v p)) = true := h
    rw [Bool.and_eq_true] at h'
    exact ck_starred a h'.2
  | .lckE m y1, h => by
    have h' : (plainB (.Starred v p) && (match N[m]? with | some _ => true | none => false) && ckE T N sc fo y1 (.Starred v p)) = true := h
    rw [Bool.and_eq_true] at h'
    exact ck_starred y1 h'.2
  | .non, h | .bl _, h | .int _, h | .str _, h | .v _, h | .gc _, h | .gf _, h | .bin _ _ _, h | .neg _, h | .nt _, h | .cmp _ _ _, h | .chn _ _ _ _ _, h | .and _ _, h | .or _ _, h | .ite _ _ _, h
  | .tup _, h | .tupK _, h | .lst _, h | .lstM _, h | .dnewK, h | .dnewT, h | .sub _ _, h | .slc _ _ _, h | .call _ _, h | .callP _ _, h | .bi _ _, h | .isi _ _, h | .mt _ _ _, h | .lc _ _ _ _ _ _, h | .lc2 _ _ _ _ _ _ _ _ _, h | .lam _ _, h | .callV _ _, h | .call0 _, h | .lrg _ _, h | .rev _, h | .dcm _ _ _ _ _ _ _ _, h | .dcm2 _ _ _ _ _ _ _ _ _ _ _, h | .dpr _ _, h | .lcL _ _ _ _ _ _, h | .fld _ _, h | .mk _ _, h | .meth _ _ _, h | .callI _ _ _ _, h | .dlit _ _ _ _, h | .updT _ _, h | .lzp _ _, h | .lzpS _ _, h | .exn _ _, h | .isx _ _, h | .strx _, h => Bool.noConfusion (show false = true from h)
theorem ck_set {v : List Expr} {k : Nat} {p : Pos} : ∀ e : E, ckE T N sc fo e (.Set v k p) = true → False
  | .frz a, h => by
    have h' : (plainB (.Set v k p) && ckE T N sc fo a (.Set v k p)) = true := h
    rw [Bool.and_eq_true] at h'
    exact ck_set a h'.2
  | .lckE m y1, h => by
    have h' : (plainB (.Set v k p) && (match N[m]? with | some _ => true | none => false) && ckE T N sc fo y1 (.Set v k p)) = true := h
    rw [Bool.and_eq_true] at h'
    exact ck_set y1 h'.2
  | .non, h | .bl _, h | .int _, h | .str _, h | .v _, h | .gc _, h | .gf _, h | .bin _ _ _, h | .neg _, h | .nt _, h | .cmp _ _ _, h | .chn _ _ _ _ _, h | .and _ _, h | .or _ _, h | .ite _ _ _, h
  | .tup _, h | .tupK _, h | .lst _, h | .lstM _, h | .dnewK, h | .dnewT, h | .sub _ _, h | .slc _ _ _, h | .call _ _, h | .callP _ _, h | .bi _ _, h | .isi _ _, h | .mt _ _ _, h | .lc _ _ _ _ _ _, h | .lc2 _ _ _ _ _ _ _ _ _, h | .lam _ _, h | .callV _ _, h | .call0 _, h | .lrg _ _, h | .rev _, h | .dcm _ _ _ _ _ _ _ _, h | .dcm2 _ _ _ _ _ _ _ _ _ _ _, h | .dpr _ _, h | .lcL _ _ _ _ _ _, h | .fld _ _, h | .mk _ _, h | .meth _ _ _, h | .callI _ _ _ _, h | .dlit _ _ _ _, h | .updT _ _, h | .lzp _ _, h | .lzpS _ _, h | .exn _ _, h | .isx _ _, h | .strx _, h => Bool.noConfusion (show false = true from h)
theorem ck_call0 {x : Str} {q p : Pos} : ∀ e : E, ckE T N sc fo e (.Call (.Name x q) [] [] p) = true → (x != ("super" : Str)) = true
  | .frz a, h => by
    have h' : (plainB (.Call (.Name x q) [] [] p) && ckE T N sc fo a (.Call (.Name x q) [] [] p)) = true := h
    rw [Bool.and_eq_true] at h'
    exact ck_call0 a h'.2
  | .lckE m y1, h => by
    have h' : (plainB (.Call (.Name x q) [] [] p) && (match N[m]? with | some _ => true | none => false) && ckE T N sc fo y1 (.Call (.Name x q) [] [] p)) = true := h
    rw [Bool.and_eq_true] at h'
    exact ck_call0 y1 h'.2
  | .call0 f, h => by
    have h' : (glB sc x && (match T.fn f with | some p => decide (p.name = x) | none => false) && (x != ("super" : Str))) = true := h
    rw [Bool.and_eq_true] at h'
    exact h'.2
  | .non, h | .bl _, h | .int _, h | .str _, h | .v _, h | .gc _, h | .gf _, h | .bin _ _ _, h | .neg _, h | .nt _, h | .cmp _ _ _, h | .chn _ _ _ _ _, h | .and _ _, h | .or _ _, h | .ite _ _ _, h
  | .tup _, h | .tupK _, h | .lst _, h | .lstM _, h | .dnewK, h | .dnewT, h | .sub _ _, h | .slc _ _ _, h | .call _ _, h | .callP _ _, h | .bi _ _, h | .isi _ _, h | .mt _ _ _, h | .lc _ _ _ _ _ _, h | .lc2 _ _ _ _ _ _ _ _ _, h | .lam _ _, h | .callV _ _, h | .dcm _ _ _ _ _ _ _ _, h | .dcm2 _ _ _ _ _ _ _ _ _ _ _, h | .lcL _ _ _ _ _ _, h | .fld _ _, h | .mk _ _, h | .meth _ _ _, h | .callI _ _ _ _, h | .dlit _ _ _ _, h | .updT _ _, h | .lzp _ _, h | .lzpS _ _, h | .exn _ _, h | .isx _ _, h | .strx _, h => Bool.noConfusion (show false = true from h)
theorem ck_slice {a b c : Option Expr} {p : Pos} : ∀ e : E, ckE T N sc fo e (.Slice a b c p) = true → False
  | .frz e, h => by
    have h' : (plainB (.Slice a b c p) && ckE T N sc fo e (.Slice a b c p)) = true := h
    rw [Bool.and_eq_true] at h'
    exact ck_slice e h'.2
  | .lckE m y1, h => by
    have h' : (plainB (.Slice a b c p) && (match N[m]? with | some _ => true | none => false) && ckE T N sc fo y1 (.Slice a b c p)) = true := h
    rw [Bool.and_eq_true] at h'
    exact ck_slice y1 h'.2
  | .non, h | .bl _, h | .int _, h | .str _, h | .v _, h | .gc _, h | .gf _, h | .bin _ _ _, h | .neg _, h | .nt _, h | .cmp _ _ _, h | .chn _ _ _ _ _, h | .and _ _, h | .or _ _, h | .ite _ _ _, h
  | .tup _, h | .tupK _, h | .lst _, h | .lstM _, h | .dnewK, h | .dnewT, h | .sub _ _, h | .slc _ _ _, h | .call _ _, h | .callP _ _, h | .bi _ _, h | .isi _ _, h | .mt _ _ _, h | .lc _ _ _ _ _ _, h | .lc2 _ _ _ _ _ _ _ _ _, h | .lam _ _, h | .callV _ _, h | .call0 _, h | .lrg _ _, h | .rev _, h | .dcm _ _ _ _ _ _ _ _, h | .dcm2 _ _ _ _ _ _ _ _ _ _ _, h | .dpr _ _, h | .lcL _ _ _ _ _ _, h | .fld _ _, h | .mk _ _, h | .meth _ _ _, h | .callI _ _ _ _, h | .dlit _ _ _ _, h | .updT _ _, h | .lzp _ _, h | .lzpS _ _, h | .exn _ _, h | .isx _ _, h | .strx _, h => Bool.noConfusion (show false = true from h)
theorem ck_setcomp {a : Expr} {g : List Comprehension} {s : Scope} {p : Pos} : ∀ e : E, ckE T N sc fo e (.SetComp a g s p) = true → False
  | .frz e, h => by
    have h' : (plainB (.SetComp a g s p) && ckE T N sc fo e (.SetComp a g s p)) = true := h
    rw [Bool.and_eq_true] at h'
    exact ck_setcomp e h'.2
  | .lckE m y1, h => by
    have h' : (plainB (.SetComp a g s p) && (match N[m]? with | some _ => true | none => false) && ckE T N sc fo y1 (.SetComp a g s p)) = true := h
    rw [Bool.and_eq_true] at h'
    exact ck_setcomp y1 h'.2
  | .non, h | .bl _, h | .int _, h | .str _, h | .v _, h | .gc _, h | .gf _, h | .bin _ _ _, h | .neg _, h | .nt _, h | .cmp _ _ _, h | .chn _ _ _ _ _, h | .and _ _, h | .or _ _, h | .ite _ _ _, h
  | .tup _, h | .tupK _, h | .lst _, h | .lstM _, h | .dnewK, h | .dnewT, h | .sub _ _, h | .slc _ _ _, h | .call _ _, h | .callP _ _, h | .bi _ _, h | .isi _ _, h | .mt _ _ _, h | .lc _ _ _ _ _ _, h | .lc2 _ _ _ _ _ _ _ _ _, h | .lam _ _, h | .callV _ _, h | .call0 _, h | .lrg _ _, h | .rev _, h | .dcm _ _ _ _ _ _ _ _, h | .dcm2 _ _ _ _ _ _ _ _ _ _ _, h | .dpr _ _, h | .lcL _ _ _ _ _ _, h | .fld _ _, h | .mk _ _, h | .meth _ _ _, h | .callI _ _ _ _, h | .dlit _ _ _ _, h | .updT _ _, h | .lzp _ _, h | .lzpS _ _, h | .exn _ _, h | .isx _ _, h | .strx _, h => Bool.noConfusion (show false = true from h)
theorem ck_star {e : E} {a : Expr} (h : ckE T N sc fo e a = true) (es : List Expr) (env : Env) : starEach (a :: es) env = (false, eval a env) :: starEach es env := by
  cases a <;> first | rfl | exact (ck_starred e h).elim
theorem ck_base {e : E} {a : Expr} (h : ckE T N sc fo e a = true) (x : Str) (env : Env) (w : Sem Value) : attributeBase a x env w = w := by
  cases a with
  | Call f xs ks p =>
    cases f with
    | Name id q =>
      cases xs with
      | nil =>
        cases ks with
        | nil => exact abase_call (ck_call0 e h)
        | cons _ _ => rfl
      | cons _ _ => rfl
    | _ => rfl
  | _ => rfl
theorem ck_ix {e : E} {a : Expr} (h : ckE T N sc fo e a = true) (o i : Value) : subscripted a false o i = operate [o, i] (getItem o i) := by
  cases a <;> first | rfl | exact (ck_slice e h).elim
theorem ck_mark {e : E} {a : Expr} (h : ckE T N sc fo e a = true) (op : CmpOp) : behindInMarks op a = false := by
  cases a <;> first | rfl | exact (ck_set e h).elim
/-- no comprehension -/
def lcB : Expr → Bool
  | .ListComp _ _ _ _ => true
  | .DictComp _ _ _ _ _ => true
  | _ => false
theorem ck_swap {e : E} {a : Expr} (h : ckE T N sc fo e a = true) (n : lcB a = false) (t : Option Expr) (l : Nat) (env : Env) : swapsWith a t l env = pure false := by
  cases a <;> first | rfl | exact (ck_setcomp e h).elim | exact Bool.noConfusion n
theorem plain_true {a : Expr} (h : plainB a = true) (env : Env) (whole : Sem Value) : isTrue a env whole = (do let v ← whole; standAt a.pos; holding [v] (truthy v)) := by
  cases a with
  | UnaryOp op x p => cases op <;> first | rfl | exact Bool.noConfusion h
  | BoolOp _ _ _ => exact Bool.noConfusion h
  | IfExp _ _ _ _ => exact Bool.noConfusion h
  | Compare _ _ _ _ => exact Bool.noConfusion h
  | _ => rfl
theorem varB_vis {i : Nat} {x : Str} (h : varB N sc i x = true) : N[i]? = some x ∧ Vis sc x ∧ (x == ("__debug__" : Str)) = false ∧ (x == ("__classdict__" : Str)) = false := by
  unfold varB at h
  simp only [Bool.and_eq_true, Bool.not_eq_true', decide_eq_true_eq] at h
  obtain ⟨⟨⟨h1, h2⟩, h3⟩, h4⟩ := h
  refine ⟨h1, ?_, h3, h4⟩
  unfold visB at h2
  split at h2
  · exact .inl (by assumption)
  · exact .inr (.inl (by assumption))
  · exact .inr (.inr (by assumption))
  · cases h2
theorem kwB_cases {b : Bi} {kws : List Keyword} (h : kwB sc b kws = true) : (kws = [] ∧ b ≠ .sortL) ∨ ∃ z zp kp, kws = [⟨some "key", .Name z zp, kp⟩] ∧ b = .sortL ∧ glB sc z = true ∧ z = "len" := by
  unfold kwB at h
  split at h
  · exact .inl ⟨rfl, of_decide_eq_true h⟩
  · simp only [Bool.and_eq_true, decide_eq_true_eq] at h
    obtain ⟨⟨⟨h4, h5⟩, h6⟩, h7⟩ := h
    exact .inr ⟨_, _, _, by rw [h5], h4, h6, h7⟩
  · cases h
theorem glB_gl {x : Str} (h : glB sc x = true) : sc.names.lookup x = some .globalImplicit ∧ (x == ("__debug__" : Str)) = false ∧ x ≠ "__name__" := by
  unfold glB at h
  simp only [Bool.and_eq_true, Bool.not_eq_true', decide_eq_true_eq] at h
  refine ⟨h.1.1, h.1.2, fun e => ?_⟩
  have := h.2
  rw [e] at this
  simp at this
end
end PyI
set_option Elab.async false
set_option linter.all false
set_option maxRecDepth 100000
namespace PyI
open PySem PySem.Spec PyProof.Rows L2
/-- as FnOk, around a stack without guards -/
structure FnG (P : Program) (w : World) (K : PySem.W.Frag) (mg : Str → Option Value) (base : Heap) (CX : CXT)
    (k : Nat) (f : Addr) (fd : FuncData) (ps : List Str) (sp : Sp) : Prop where
  len : ∀ xs H Q E, sp xs H Q E → xs.length = ps.length
  run : ∀ (A : Around) (fr : List Env) (s : Shared) (H : Hp) (gv : Args) (us : List Value) (xs : List V) (Q : VK) (E : XK),
    Room k A → A.guards = some [] → Env0 P w K mg base A fr s H → BindsTo s fd gv (ps.zip us) → Vals xs us → sp xs H Q E →
      codeAny (model P w) A (.call (.ref f) gv) (CR CX fr P w H s Q E) s
/-- a call of such a def -/
theorem pe_callG {X : Cx} {CX : CXT} {k : Nat} {f : Addr} {fd : FuncData} {ps : List Str} {sp : Sp} {E : L2.St → XK} {x : Str} {p pos : Pos} {e : Expr} {es : List Expr} {t : TA}
    (F : FnG X.prog X.w X.K X.mg X.base CX k f fd ps sp) (room : Room k X.A) (free : X.A.guards = some []) (gl : Gl X x) (at_ : X.mg x = some (.ref f)) (kept : PySem.W.keepIn X.K (.ref f) = true)
    (bd : Binds X.K fd ps []) (out : ∀ σ, PassesAt CX X σ (E σ)) (args : PA X (e :: es) t) (nd : (x == ("__debug__" : Str)) = false)
    (st : starEach (e :: es) X.env = (false, eval e X.env) :: starEach es X.env) (pl : (backTo pos (starEach es X.env)).any (·.1) = false) :
    PE X (.Call (.Name x p) (e :: es) [] pos) (tCallS sp E t) := by
  constructor
  intro pins s σ H Q I h
  apply wpAny_Call_Name_kw
  refine ld_glob I gl at_ ?_ nd
  refine PySem.W.callWith_K (h₀ := X.base) I.ok.mod.kin kept ?_ st pl
  refine thn (args.run pos pins s σ H _ I h) ?_
  rintro us s1 ⟨xs, H1, I1, r, q⟩
  refine ⟨I1.kIn, ?_⟩
  have n1 : (us ++ []).length = ps.length := by
    rw [List.append_nil, ← r.length]
    exact F.len _ _ _ _ q
  have b1 := bd s1 us I1.kIn n1
  rw [List.append_nil] at b1
  apply wpAny_call
  refine codeAny_mono (F.run X.A X.stack s1 H1 ⟨us, []⟩ us xs Q (E σ) room free I1.env0 b1 r q) ?_
  intro z s2 c
  match z, c with
  | .error z, c => exact out σ pins H1 s1 z s2 I1 c
  | .ok (.ret u), c => exact I1.after c
  | .ok .next, c => exact c.elim
  | .ok .brk, c => exact c.elim
  | .ok .cont, c => exact c.elim
/-- such a def by its body -/
theorem fnG_of {CX : CXT} {P : Program} {w : World} {K : PySem.W.Frag} {mg : Str → Option Value} {base : Heap} {k : Nat} {f : Addr} {x qual : Str} {params : Arguments} {body : List Stmt} {scope : Scope}
    {dvs : List V} {kws : List (Str × V)} {fd : FuncData} {N ps : List Str} {sp : Sp} (F : FunD K x qual params body scope dvs kws f fd) (S : FnScope N ps scope) (len : ∀ xs H Q E, sp xs H Q E → xs.length = ps.length)
    (inner : ∀ (cd : Value), fd.code = cd → ∀ (A : Around) (fr : List Env) (s : Shared) (H : Hp) (xs : List V) (Q : VK) (E : XK), Room k (A.deeper (envOfC qual scope s.heap.objs.size f cd)) → A.guards = some [] → sp xs H Q E →
      ∃ t, PSs (cxOf CX P w K mg base N qual scope f cd A fr s H E) body t ∧ t { nx := fun _ H' => Q .non H', rt := Q } (L2.start N xs) H) : FnG P w K mg base CX (k + 1) f fd ps sp := by
  obtain ⟨oc, od, dV, kV, doc, pm, an, cd, ct, osl, rfl, lk, hcd, _, _⟩ := F.ex
  refine ⟨len, ?_⟩
  intro A fr s H gv us xs Q E room free e0 bd r h
  have n1 := len _ _ _ _ h
  have inK : K.In s.heap := e0.mod.kin.keeps fun b o e => (e0.bs b o e).1
  have noL : s.heap.NoLimit := e0.mod.nolimit.keeps fun b o e => (e0.bs b o e).1
  have kinds : ∀ y ∈ ps.zip us, scope.names.lookup y.1 = some .local ∨ (scope.names.lookup y.1 = some .cell ∧ ((cellsFrom (s.heap.objs.size + 1) scope.names []).lookup y.1).isSome = true) := by
    rintro ⟨y, v⟩ hy
    rcases S.par y (List.of_mem_zip hy).1 with z | z
    · exact .inl z
    · exact .inr ⟨z, PySem.W.cellsFrom_some _ _ _ (.inl z)⟩
  refine codeAny_call_function room.depth (inK _ _ lk) rfl S.co S.gen rfl (PySem.W.codeRec_of inK hcd) (bd _ _ _ _ ?_)
  refine wpAny_newFunctionEnv_cells S.kind kinds ?_
  rintro env rfl s1 c1
  refine ⟨noL.keeps c1.toInCall.keep, codeAny_func ?_⟩
  obtain ⟨t, pt, qt⟩ := inner cd rfl A fr s H xs Q E (room.deeper _) free h
  have I : Inv (cxOf CX P w K mg base N qual scope f cd A fr s H E) [] (L2.start N xs) H s1 := inv_start S room.hd e0 n1 r c1
  refine wpAny_mono (pt.run [] s1 (L2.start N xs) H _ I qt) ?_ (fun _ _ z => z)
  intro fl s2 c
  match fl, c with
  | .ret u, ⟨v, _, H', J, rv, q⟩ => exact ⟨v, H', J.os, J.bare, J.base, J.hok, rv, q⟩
  | .next, ⟨_, H', J, q⟩ => exact ⟨V.non, H', J.os, J.bare, J.base, J.hok, rfl, q⟩
  | .brk, ⟨_, _, _, q⟩ => exact q.elim
  | .cont, ⟨_, _, _, q⟩ => exact q.elim
/-- what is tracked ahead of the law: the script, the tables -/
def OnlyT (cs : List (Addr × Addr)) (H : Hp) : Prop := ∀ b, H b = none ∨ b ∈ cs.map (·.2) ∨ ∃ o xs, H b = some (.frz o (.lst xs))
/-- the law's def is called, the script its argument; cs: code objects and their tables, empty yet -/
theorem law_callG {P : Program} {w : World} {K : PySem.W.Frag} {mg mb : Str → Option Value} {CX : CXT} {k : Nat} {fa a : Addr} {cs : List (Addr × Addr)} {fd : FuncData} {x : Str} {sp : Sp} {s1 : Shared} {vs : List Value} {ns : List Int}
    (inK : K.In s1.heap) (nsM : s1.heap.Ns mainGlobals mg) (nsB : s1.heap.Ns builtinsNs mb) (boot : ∀ x : Str, x ≠ "__name__" → mb x = bootBuiltins x) (noL : s1.heap.NoLimit) (gens : s1.gens = #[])
    (tab0 : ∀ p ∈ cs, s1.heap.get? p.2 = some { cls := .none, data := .fields #[] }) (tabK : ∀ p ∈ cs, K.lookup p.2 = none) (code : ∀ p ∈ cs, PySem.W.CodeHd s1.heap p.1 p.2)
    (bmod : ∃ (bm : Addr) (ob : Obj), mg "__builtins__" = some (.ref bm) ∧ bm ≠ builtinsNs ∧ s1.heap.get? bm = some ob ∧ ob.cls = .type "module" ∧ ob.dict = some builtinsNs ∧ ob.data = .plain)
    (obj : s1.heap.get? a = some { cls := .type "list", data := .seq vs.toArray }) (isInts : IntsAre vs ns) (few : ns.length ≤ sizeLine) (room : Room k callerA)
    (F : ∀ base : Heap, K.In base → base.Ns mainGlobals mg → (∀ p ∈ cs, LamX.TabB base mg p.1 p.2) → FnG P w K mg base CX k fa fd [x] sp) (bd : ∀ (s : Shared) (u : Value), BindsTo s fd ⟨[u], []⟩ [(x, u)])
    (law : ∀ H : Hp, (∀ p ∈ cs, H p.2 = some (.tbl #[])) → OnlyT cs H → SqL K H a (ns.map V.int) → sp [.ref a] H (fun v _ => v = .bl true) fun _ _ _ => False)
    (noX : ∀ H e s', CX [] H s1 (fun _ _ _ => False) e s' → False) :
    codeAny (model P w) callerA (.call (.ref fa) ⟨[.ref a], []⟩) (fun r s' => r = .ok (.ret (.bool true)) ∧ OldK s1.heap s'.heap ∧ s'.os = s1.os ∧ AllBare s'.gens) s1 := by
  have rv := vals_ints isInts
  have n1 := isInts.length
  have tabAt : ∀ b, b ∈ cs.map (·.2) → s1.heap.get? b = some { cls := .none, data := .fields #[] } := by
    intro b hb
    obtain ⟨p, hp, rfl⟩ := List.mem_map.mp hb
    exact tab0 p hp
  have notA : a ∉ cs.map (·.2) := by
    intro z
    have q := tabAt a z
    rw [obj] at q
    have q2 : Data.seq vs.toArray _ = Data.fields #[] := congrArg Obj.data (Option.some.inj q)
    cases q2
  have inT : ∀ p ∈ cs, p.2 ∈ cs.map (·.2) := fun p hp => List.mem_map.mpr ⟨p, hp, rfl⟩
  have main : ∀ H : Hp, (∀ p ∈ cs, H p.2 = some (.tbl #[])) → OnlyT cs H → SqL K H a (ns.map V.int) → HOk P w H s1.heap → (∀ b, H b ≠ none → b = a ∨ b ∈ cs.map (·.2)) → (H a ≠ none → K.lookup a = none) →
      codeAny (model P w) callerA (.call (.ref fa) ⟨[.ref a], []⟩) (fun r s' => r = .ok (.ret (.bool true)) ∧ OldK s1.heap s'.heap ∧ s'.os = s1.os ∧ AllBare s'.gens) s1 := by
    intro H tabH only sq ok atA freeK
    have hid : ∀ {b : Addr} {o : Obj}, s1.heap.get? b = some o → H b = none → (hidT s1.heap H).get? b = some o := fun e z => hidT_get e z
    have other : ∀ {b : Addr} {o : Obj}, s1.heap.get? b = some o → (∀ xs n, o.data ≠ .seq xs n) → o.data ≠ .fields #[] → H b = none := by
      intro b o e h1 h2
      cases q : H b with
      | none => rfl
      | some u =>
        rcases atA b (by rw [q]; intro y; cases y) with z | z
        · rw [z, obj] at e; cases e; exact (h1 _ _ rfl).elim
        · rw [tabAt b z] at e; cases e; exact (h2 rfl).elim
    have dictFree : ∀ {b : Addr} {o : Obj} {es : Array DictEntry} {ep : Nat}, s1.heap.get? b = some o → o.data = .dict es ep → H b = none := by
      intro b o es ep e d
      refine other e ?_ ?_
      · intro xs n z; rw [d] at z; cases z
      · intro z; rw [d] at z; cases z
    have nsH : ∀ {b : Addr} {m : Str → Option Value}, s1.heap.Ns b m → (hidT s1.heap H).Ns b m := by
      rintro b m ⟨o, es, ep, e, d, r⟩
      exact ⟨o, es, ep, hid e (dictFree e d), d, r⟩
    have inH : K.In (hidT s1.heap H) := by
      intro b o e
      refine hid (inK b o e) ?_
      cases q : H b with
      | none => rfl
      | some u =>
        rcases atA b (by rw [q]; intro y; cases y) with z | z
        · rw [z] at e q
          rw [freeK (by rw [q]; intro y; cases y)] at e
          cases e
        · obtain ⟨p, hp, rfl⟩ := List.mem_map.mp z
          rw [tabK p hp] at e
          cases e
    have md : Mod K mg (hidT s1.heap H) := by
      obtain ⟨mc, h1, h2⟩ := noL
      exact ⟨inH, nsH nsM, ⟨mb, nsH nsB, boot⟩, mc, nsH h1, h2⟩
    have tb : ∀ p ∈ cs, LamX.TabB (hidT s1.heap H) mg p.1 p.2 := by
      intro p hp
      have t0 := tab0 p hp
      refine ⟨?_, ?_, ?_⟩
      · obtain ⟨o, us, file, tf, flags, tg, inF, text, tt, e1, r1, r2, r3, r4, r5, r6, r7, r8, ne⟩ := code p hp
        refine ⟨o, us, file, tf, flags, tg, inF, text, tt, hid e1 (other e1 ?_ ?_), r1, r2, r3, r4, r5, r6, r7, r8, ne⟩
        · intro xs n z; rw [r2] at z; cases z
        · intro z; rw [r2] at z; cases z; simp at r3
      · obtain ⟨bm, ob, b1, b2, b3, b4, b5, b6⟩ := bmod
        refine ⟨bm, ob, b1, b2, ?_, ?_, hid b3 (other b3 ?_ ?_), b4, b5, b6⟩
        · intro q
          obtain ⟨o, es, ep, e, hd, _⟩ := nsM
          rw [q, e] at b3; cases b3; rw [hd] at b6; cases b6
        · intro q
          rw [q, t0] at b3; cases b3; cases b6
        · intro xs n z; rw [b6] at z; cases z
        · intro z; rw [b6] at z; cases z
      · intro z
        obtain ⟨o, es, ep, e, hd, _⟩ := nsM
        rw [z, t0] at e; cases e; cases hd
    have e0 : Env0 P w K mg (hidT s1.heap H) callerA [] s1 H := ⟨rfl, md, fun b o e => of_hidT e, Nat.le_of_eq (hidT_size _ _), trivial, (fun b z => by cases z), ok, .of_eq gens⟩
    refine codeAny_mono ((F _ inH (nsH nsM) tb).run callerA [] s1 H ⟨[.ref a], []⟩ [.ref a] [.ref a] _ _ room rfl e0 (bd s1 (.ref a)) (.cons rfl .nil) (law H tabH only sq)) ?_
    intro r s2 c
    match r, c with
    | .error e, c => exact (noX H e s2 c).elim
    | .ok .next, c => exact c.elim
    | .ok .brk, c => exact c.elim
    | .ok .cont, c => exact c.elim
    | .ok (.ret u), ⟨v, H2, os, bare, un, ok2, rel, q⟩ =>
      have q2 : v = .bl true := q
      subst q2
      cases (show u = Value.bool true from rel)
      have old : ∀ b o, b ∉ cs.map (·.2) → s1.heap.get? b = some o → s2.heap.get? b = some o := by
        intro b o nb e
        cases q : H b with
        | none => exact un.keep b o e q (by intro z; cases z) (by intro z; cases z)
        | some u =>
          rcases only b with z | z | ⟨ob, ys, z⟩
          · rw [q] at z; cases z
          · exact absurd z nb
          · obtain ⟨g1, _⟩ := ok b _ z
            obtain ⟨g2, _⟩ := ok2 b _ (un.frzs b ob _ z)
            rw [e] at g1
            cases g1
            exact g2
      have grew : ∀ p ∈ cs, ∃ more : Array Value, s2.heap.get? p.2 = some { cls := .none, data := .fields more } := by
        intro p hp
        obtain ⟨more, z⟩ := un.tbls p.2 #[] (tabH p hp)
        exact ⟨_, ok2 p.2 _ z⟩
      refine ⟨rfl, ⟨fun b o e => ?_, fun b o e => ?_⟩, os, bare⟩
      · by_cases hb : b ∈ cs.map (·.2)
        · obtain ⟨p, hp, rfl⟩ := List.mem_map.mp hb
          obtain ⟨more, hm⟩ := grew p hp
          rw [tab0 p hp] at e
          cases e
          exact .inr (.inl ⟨((code p hp).tab (tab0 p hp)).isCodeTable, rfl, #[], more, rfl, by rw [Array.empty_append]; exact hm⟩)
        · exact .inl (old b o hb e)
      · by_cases hb : b ∈ cs.map (·.2)
        · obtain ⟨p, hp, rfl⟩ := List.mem_map.mp hb
          obtain ⟨more, hm⟩ := grew p hp
          exact ⟨_, hm⟩
        · exact ⟨o, old b o hb e⟩
  cases hk : K.lookup a with
  | some o =>
    have e := inK a o hk
    rw [obj] at e
    cases e
    have at0 : ∀ {b : Addr} {u : HO}, (fun b => if b ∈ cs.map (·.2) then some (HO.tbl #[]) else none) b = some u → b ∈ cs.map (·.2) ∧ u = .tbl #[] := by
      intro b u z
      by_cases hb : b ∈ cs.map (·.2)
      · exact ⟨hb, (Option.some.inj ((if_pos hb).symm.trans z)).symm⟩
      · cases (if_neg hb).symm.trans z
    refine main (fun b => if b ∈ cs.map (·.2) then some (.tbl #[]) else none) (fun p hp => if_pos (inT p hp)) ?_ ?_ ?_ ?_ ?_
    · intro b
      by_cases hb : b ∈ cs.map (·.2)
      · exact .inr (.inl hb)
      · exact .inl (if_neg hb)
    · refine .inr ⟨_, vs.toArray, _, hk, rfl, rfl, rfl, ?_, ?_⟩
      · rw [List.size_toArray, n1]; exact few
      · simpa using rv
    · intro b u z
      obtain ⟨hb, rfl⟩ := at0 z
      exact tabAt b hb
    · intro b z
      cases q : (fun b => if b ∈ cs.map (·.2) then some (HO.tbl #[]) else none) b with
      | none => exact absurd q z
      | some u => exact .inr (at0 q).1
    · intro z
      exact absurd (if_neg notA) z
  | none =>
    have yes : (fun b => if b = a then some (HO.frz { cls := .type "list", data := .seq vs.toArray } (.lst (ns.map V.int))) else if b ∈ cs.map (·.2) then some (HO.tbl #[]) else none) a = some (.frz { cls := .type "list", data := .seq vs.toArray } (.lst (ns.map V.int))) := if_pos rfl
    have elsewhere : ∀ {b : Addr}, b ≠ a → (fun b => if b = a then some (HO.frz { cls := .type "list", data := .seq vs.toArray } (.lst (ns.map V.int))) else if b ∈ cs.map (·.2) then some (HO.tbl #[]) else none) b = if b ∈ cs.map (·.2) then some (HO.tbl #[]) else none := fun h => if_neg h
    refine main (fun b => if b = a then some (.frz { cls := .type "list", data := .seq vs.toArray } (.lst (ns.map V.int))) else if b ∈ cs.map (·.2) then some (.tbl #[]) else none) ?_ ?_ (.inl (.inr ⟨_, yes⟩)) ?_ ?_ (fun _ => hk)
    · intro p hp
      exact (elsewhere (fun z => notA (by rw [← z]; exact inT p hp))).trans (if_pos (inT p hp))
    · intro b
      by_cases hb : b = a
      · exact .inr (.inr ⟨_, _, by rw [hb]; exact yes⟩)
      · by_cases hb2 : b ∈ cs.map (·.2)
        · exact .inr (.inl hb2)
        · exact .inl ((elsewhere hb).trans (if_neg hb2))
    · intro b u z
      by_cases hb : b = a
      · subst hb
        cases yes.symm.trans z
        exact ⟨obj, by rw [List.length_map]; exact few, vs, _, rv, obj⟩
      · have z2 := (elsewhere hb).symm.trans z
        by_cases hb2 : b ∈ cs.map (·.2)
        · cases (if_pos hb2).symm.trans z2
          exact tabAt b hb2
        · cases (if_neg hb2).symm.trans z2
    · intro b z
      by_cases hb : b = a
      · exact .inl hb
      · by_cases hb2 : b ∈ cs.map (·.2)
        · exact .inr hb2
        · exact absurd ((elsewhere hb).trans (if_neg hb2)) z
end PyI
set_option Elab.async false
set_option linter.all false
set_option maxRecDepth 100000
namespace PyI
open PySem L2
/-- a reading by the evaluator -/
def tG {α β : Type} (G : Glb) (W : WX) (R : Mu → Mk → Hp → α → β → Prop) (f : Loc → Hea → Res α) : St → Hp → (β → Hp → Prop) → Prop := fun σ H Q =>
  ∃ μ M ρ h, Envi G μ M H ρ σ ∧ Hrel G μ M H h ∧ Post G R (fun c H' => W c none σ H') μ M H (f ρ h) Q
abbrev tE (G : Glb) (W : WX) (f : Loc → Hea → Res D) : TE := tG G W (Rep G) f
abbrev tT (G : Glb) (W : WX) (f : Loc → Hea → Res Bool) : TT := tG G W (fun _ _ _ a b => a = b) f
abbrev tAr (G : Glb) (W : WX) (f : Loc → Hea → Res (List D)) : TA := tG G W (Reps G) f
/-- what a relation bears -/
def Stab {α β : Type} (G : Glb) (R : Mu → Mk → Hp → α → β → Prop) : Prop := ∀ {μ M H h μ' M' H' a b}, Hrel G μ M H h → Le μ M H μ' M' H' → R μ M H a b → R μ' M' H' a b
theorem stab_rep {G : Glb} : Stab G (Rep G) := fun r l q => Rep.le r l _ _ q
section
variable {G : Glb} {W : WX} {σ : St} {H : Hp} {α β γ δ ε ζ : Type} {R : Mu → Mk → Hp → α → β → Prop} {R1 : Mu → Mk → Hp → ε → ζ → Prop} {R2 : Mu → Mk → Hp → γ → δ → Prop}
/-- what comes behind the first -/
theorem tG.bind {f : Loc → Hea → Res α} {g : Loc → α → Hea → Res γ} {Q : δ → Hp → Prop} (q : tG G W R2 (fun ρ h => (f ρ h).bind (g ρ)) σ H Q) :
    tG G W R f σ H (fun b H1 => ∃ a μ M ρ h, Envi G μ M H1 ρ σ ∧ Hrel G μ M H1 h ∧ R μ M H1 a b ∧ Post G R2 (fun c H' => W c none σ H') μ M H1 (g ρ a h) Q) := by
  obtain ⟨μ, M, ρ, h, e, r, p⟩ := q
  refine ⟨μ, M, ρ, h, e, r, p.bind.mono (fun _ _ z => z) ?_⟩
  rintro b H1 ⟨a, μ1, M1, h1, l, r1, q1, p1⟩
  exact ⟨a, μ1, M1, ρ, h1, e.le r l, r1, q1, p1⟩
/-- behind two -/
theorem tG.bind2 (st : Stab G R) {f : Loc → Hea → Res α} {f1 : Loc → Hea → Res ε} {g : Loc → α → ε → Hea → Res γ} {Q : δ → Hp → Prop}
    (q : tG G W R2 (fun ρ h => (f ρ h).bind fun a h1 => (f1 ρ h1).bind fun b h2 => g ρ a b h2) σ H Q) :
    tG G W R f σ H (fun b H1 => tG G W R1 f1 σ H1 fun b1 H2 => ∃ a a1 μ M ρ h, Envi G μ M H2 ρ σ ∧ Hrel G μ M H2 h ∧ R μ M H2 a b ∧ R1 μ M H2 a1 b1 ∧ Post G R2 (fun c H' => W c none σ H') μ M H2 (g ρ a a1 h) Q) := by
  obtain ⟨μ, M, ρ, h, e, r, p⟩ := q
  refine ⟨μ, M, ρ, h, e, r, p.bind.mono (fun _ _ z => z) ?_⟩
  rintro b H1 ⟨a, μ1, M1, h1, l, r1, q1, p1⟩
  refine ⟨μ1, M1, ρ, h1, e.le r l, r1, p1.bind.mono (fun _ _ z => z) ?_⟩
  rintro b1 H2 ⟨a1, μ2, M2, h2, l2, r2, q2, p2⟩
  exact ⟨a, a1, μ2, M2, ρ, h2, (e.le r l).le r1 l2, r2, st r1 l2 q1, q2, p2⟩
end
theorem imE {X : Cx} {e : Expr} {t t' : TE} (p : PE X e t) (i : ∀ σ H Q, t' σ H Q → t σ H Q) : PE X e t' := ⟨fun pins s σ H Q I h => p.run pins s σ H Q I (i σ H Q h)⟩
theorem imT {X : Cx} {e : Expr} {t t' : TT} (p : PT X e t) (i : ∀ σ H Q, t' σ H Q → t σ H Q) : PT X e t' := ⟨fun pins s σ H Q I h => p.run pins s σ H Q I (i σ H Q h)⟩
theorem imW {X : Cx} {e : Expr} {t t' : TT} (p : PW X e t) (i : ∀ σ H Q, t' σ H Q → t σ H Q) : PW X e t' := ⟨fun wh pins s σ H Q I h => p.run wh pins s σ H Q I (i σ H Q h)⟩
theorem imA {X : Cx} {e : List Expr} {t t' : TA} (p : PA X e t) (i : ∀ σ H Q, t' σ H Q → t σ H Q) : PA X e t' := ⟨fun pos pins s σ H Q I h => p.run pos pins s σ H Q I (i σ H Q h)⟩
theorem imI {X : Cx} {tg e : Expr} {t t' : TI} (p : PI X tg e t) (i : ∀ σ H Q, t' σ H Q → t σ H Q) : PI X tg e t' := ⟨fun pins s σ H Q I h => p.run pins s σ H Q I (i σ H Q h)⟩
theorem orE {X : Cx} {e : Expr} {t t' : TE} (p : PE X e t) (p' : PE X e t') : PE X e (fun σ H Q => t σ H Q ∨ t' σ H Q) := ⟨fun pins s σ H Q I h => h.elim (p.run pins s σ H Q I) (p'.run pins s σ H Q I)⟩
theorem orI {X : Cx} {tg e : Expr} {t t' : TI} (p : PI X tg e t) (p' : PI X tg e t') : PI X tg e (fun σ H Q => t σ H Q ∨ t' σ H Q) := ⟨fun pins s σ H Q I h => h.elim (p.run pins s σ H Q I) (p'.run pins s σ H Q I)⟩
/-- a def's promise, by the evaluator -/
def spF (G : Glb) (np : Nat) (f : List D → Hea → Res D) : Sp := fun vs H Q E => vs.length = np ∧ ∃ μ M ds h, Hrel G μ M H h ∧ Reps G μ M H ds vs ∧ Post G (Rep G) (fun c H' => E c none H') μ M H (f ds h) Q
/-- a constant, written -/
def constB : D → Expr → Bool
  | .non, .Constant .none _ _ => true
  | .bl b, .Constant (.bool c) _ _ => b == c
  | .int i, .Constant (.int j) _ _ => decide (i = j)
  | .str x, .Constant (.str y) _ _ => decide (x = y)
  | _, _ => false
def retB : D → Expr → Bool
  | .plc [a, b], .Tuple [e1, e2] _ _ => constB a e1 && constB b e2
  | d, e => constB d e
/-- a(): the lambda that was got is called -/
def actB (a : Str) : Expr → Bool
  | .Call (.Name x _) [] [] _ => decide (x = a)
  | _ => false
def isNoneB : Expr → Bool
  | .Constant .none _ _ => true
  | _ => false
def hsB (T : Tab) (scope : Scope) (nm : Str) : List (Nat × D) → List ExceptHandler → Bool
  | [], [] => true
  | (c, d) :: r, .ExceptHandler (some (.Name x _)) (some n) [.Return (some e) _] _ :: hs => decide (T.ex c = some x) && glB scope x && decide (n = nm) && retB d e && hsB T scope nm r hs
  | _, _ => false
/-- one clause, which returns the exception -/
def hxB (T : Tab) (scope : Scope) (nm : Str) : List (Nat × D) → List ExceptHandler → Bool
  | [(c, _)], [.ExceptHandler (some (.Name x _)) (some n) [.Return (some (.Name y _)) _] _] => decide (T.ex c = some x) && glB scope x && decide (n = nm) && decide (y = nm) && !(nm == ("__debug__" : Str)) && !(nm == ("__classdict__" : Str))
  | _, _ => false
/-- the try's suite -/
def suiteB (a : Str) : TK → Stmt → Bool
  | .ex, .Expr e _ => actB a e
  | .caught, .Expr e _ => actB a e
  | .ret, .Return (some e) _ => actB a e
  | .tup, .Return (some (.Tuple [c, e] _ _)) _ => constB (.bl true) c && actB a e
  | .fine, .Return (some (.IfExp (.Compare e [.Is] [c] _) c1 c2 _)) _ => actB a e && isNoneB c && constB (.str "fine") c1 && constB (.str "told") c2
  | _, _ => false
def ckTF (T : Tab) (t : TFn) (a : Str) (scope : Scope) (N : List Str) (body : List Stmt) : Bool := decide (N.length = 2) && (N.all fun nm => decide (nm = a) || (decide (scope.names.lookup nm = some .local))) && visB scope a && !(a == ("__debug__" : Str)) && !(a == ("__classdict__" : Str)) &&
  (match body with
   | [.Try [st] (h :: hs) [] [] _, .Return (some e) _] => (suiteB a t.kd st && decide (t.kd = .ex) && hsB T scope (N.getD 1 Str.empty) t.hs (h :: hs) && retB t.fin e) ||
      (suiteB a t.kd st && decide (t.kd = .caught) && hxB T scope (N.getD 1 Str.empty) t.hs (h :: hs) && retB t.fin e)
   | [.Try [st] (h :: hs) [] [] _] => suiteB a t.kd st && decide (t.kd ≠ .ex) && decide (t.kd ≠ .caught) && hsB T scope (N.getD 1 Str.empty) t.hs (h :: hs)
   | _ => false)
def bltNames : List Str := ["len", "abs", "int", "list", "tuple", "all", "any", "max", "min", "repr", "sorted", "str", "isinstance", "range", "enumerate", "zip", "set", "dict", "bool", "ValueError", "LookupError"]
/-- what a method's number stands for -/
def MthAt (P : Program) (w : World) (base : Heap) (G : Glb) (cf : Nat → List D → Hea → Res D) (n i : Nat) (fa : Addr) : Prop :=
  ∃ (np : Nat) (fd : FuncData) (ps : List Str), FnG P w G.K G.mg base (L2.CX P w) n fa fd ps (spF G np (cf i)) ∧ Binds G.K fd ps [] ∧ ∀ (ds : List D) (h : Hea), ds.length ≠ np → cf i ds h = .no
/-- what a class's number stands for -/
structure InsOk (P : Program) (w : World) (base : Heap) (G : Glb) (cf : Nat → List D → Hea → Res D) (n : Nat) (cl : Cl) (C : Addr) : Prop where
  at_ : G.mg cl.name = some (.ref C)
  cls : Cls G.K C
  noat : ∀ f ∈ cl.flds, NoAttr G.K C f
  ini : ∃ fi, L2.Mk G.K C fi ∧ MthAt P w base G cf n cl.ini fi
  mts : ∀ (m : Str) (i : Nat), cl.mts.lookup m = some i → ∃ fa, Meth G.K C m fa ∧ MthAt P w base G cf n i fa
/-- what an exception's class says, that its exceptions may be values -/
structure XvOk (K : PySem.W.Frag) (C : Addr) : Prop where
  c : L2.ExcC K C
  v : PySem.W.kitOne K (.ref C) (.type "ValueError") = some true
  l : PySem.W.kitOne K (.ref C) (.type "LookupError") = some false
  s : PySem.W.findIn K (.ref C) "__str__" = some (some (.builtin "BaseException.__str__"))
/-- what the module holds -/
structure Facts (P : Program) (w : World) (base : Heap) (G : Glb) (cf : Nat → List D → Hea → Res D) (n : Nat) : Prop where
  blt : ∀ x ∈ bltNames, G.mg x = none
  cns : ∀ (i : Nat) (p : Str × D), G.T.cn i = some p → ∃ u v, G.mg p.1 = some u ∧ RelV v u ∧ ∀ μ M H, Rep G μ M H p.2 v
  fns : ∀ (i : Nat) (fn : Fn), G.T.fn i = some fn → ∃ f fd ps, G.mg fn.name = some (.ref f) ∧ FnG P w G.K G.mg base (L2.CX P w) n f fd ps (spF G fn.np (cf i)) ∧ PySem.W.keepIn G.K (.ref f) = true ∧ Binds G.K fd ps []
  ar : ∀ (i : Nat) (fn : Fn) (ds : List D) (h : Hea), G.T.fn i = some fn → ds.length ≠ fn.np → cf i ds h = .no
  exs : ∀ (c : Nat) (x : Str), G.T.ex c = some x → ∃ C B newId initId bmB, ExcBaseFacts B newId initId bmB ∧ PySem.W.excIn G.K C bmB newId = true ∧ G.mg x = some (.ref C) ∧ PySem.W.keepIn G.K (.ref C) = true ∧
    PySem.W.subIn G.K (.ref C) (.type "BaseException") = some true ∧ PySem.W.typeIn G.K (.ref C) = some (.type "type")
  sub : ∀ (c d : Nat) (x y : Str) (C E : Addr), G.T.ex c = some x → G.T.ex d = some y → G.mg x = some (.ref C) → G.mg y = some (.ref E) → PySem.W.exmOne G.K (.ref C) (.ref E) = some (subX c d)
  tfs : ∀ (i : Nat) (t : TFn), G.T.tf i = some t → ∃ (f : Addr) (fd : FuncData) (a : Str) (ps : Arguments) (body : List Stmt) (scope : Scope) (N : List Str), G.mg t.name = some (.ref f) ∧ FunD G.K t.name t.name ps body scope [] [] f fd ∧ Binds G.K fd [a] [] ∧ FnScope N [a] scope ∧ N[0]? = some a ∧ ckTF G.T t a scope N body = true
  cls : ∀ (c : Nat) (cl : Cl), G.T.cl c = some cl → ∃ C, InsOk P w base G cf n cl C
  xv : G.T.xvs = true → ∀ (c : Nat) (x : Str), G.T.ex c = some x → ∃ C, G.mg x = some (.ref C) ∧ XvOk G.K C
/-- what a context must know to make lambdas -/
def LamHd (G : Glb) (X : Cx) : Prop := ∃ c P, LamX.TabB X.base X.mg c P ∧ X.env.code = .ref c ∧ (P, X.env.qual ++ "<lambda>") ∈ G.tabs ∧ ∀ p ∈ G.tabs, p.1 = P → p.2 = X.env.qual ++ "<lambda>"
/-- a context of ours -/
structure Good (P : Program) (w : World) (base : Heap) (G : Glb) (n : Nat) (N : List Str) (sc : Scope) (fo : Fo) (X : Cx) : Prop where
  prog : X.prog = P
  w : X.w = w
  K : X.K = G.K
  mg : X.mg = G.mg
  base : X.base = base
  N : X.N = N
  nd : X.N.Nodup
  calm : X.calm = true
  room : Room (n + 1 + 2 * fo.lv) X.A
  gd : X.A.guards = some []
  sc : X.env.scope = sc
  fn : X.fn = fo.f
  lam : fo.lv ≠ 0 → LamHd G X
section
variable {G : Glb} {μ μ' : Mu} {M M' : Mk} {H H' : Hp} {h h' : Hea}
mutual
theorem Rep.pure : ∀ (d : D) (v : V), pure? d = true → Rep G μ M H d v → Rep G μ' M H d v
  | .non, v, _, q => by unfold Rep at q ⊢; exact q
  | .bl b, v, _, q => by unfold Rep at q ⊢; exact q
  | .int i, v, _, q => by unfold Rep at q ⊢; exact q
  | .str x, v, _, q => by unfold Rep at q ⊢; exact q
  | .tup ds, v, c, q => by
    unfold Rep at q ⊢
    obtain ⟨a, xs, e, s, p⟩ := q
    exact ⟨a, xs, e, s, Reps.pure ds xs (by simpa [pure?] using c) p⟩
  | .plc ds, v, c, q => by
    unfold Rep at q ⊢
    obtain ⟨a, xs, e, s, p⟩ := q
    exact ⟨a, xs, e, s, Reps.pure ds xs (by simpa [pure?] using c) p⟩
  | .lst ds, v, c, q => by
    unfold Rep at q ⊢
    obtain ⟨a, xs, e, s, m, p⟩ := q
    exact ⟨a, xs, e, s, m, Reps.pure ds xs (by simpa [pure?] using c) p⟩
  | .scr ds, v, c, q => by
    unfold Rep at q ⊢
    obtain ⟨a, xs, e, s, p⟩ := q
    exact ⟨a, xs, e, s, Reps.pure ds xs (by simpa [pure?] using c) p⟩
  | .dK ks ds, v, c, q => by
    unfold Rep at q ⊢
    obtain ⟨a, xs, e, s, m, k, p⟩ := q
    exact ⟨a, xs, e, s, m, k, Reps.pure ds _ (by simpa [pure?] using c) p⟩
  | .dT ks ds, v, c, q => by
    unfold Rep at q ⊢
    obtain ⟨a, xs, e, s, m, k, p⟩ := q
    exact ⟨a, xs, e, s, m, k, Reps.pure ds _ (by simpa [pure?] using c) p⟩
  | .ref n, v, c, q => by simp [pure?] at c
  | .fn i, v, c, q => by unfold Rep at q ⊢; exact q
  | .exn c x, v, _, q => by unfold Rep at q ⊢; exact q
theorem Reps.pure : ∀ (ds : List D) (xs : List V), pures ds = true → Reps G μ M H ds xs → Reps G μ' M H ds xs
  | [], xs, _, q => by unfold Reps at q ⊢; exact q
  | d :: ds, xs, c, q => by
    unfold Reps at q ⊢
    have c' : pure? d = true ∧ pures ds = true := by simpa [pures] using c
    obtain ⟨x, t, e, p, q⟩ := q
    exact ⟨x, t, e, Rep.pure d x c'.1 p, Reps.pure ds t c'.2 q⟩
end
theorem Hrel.empty (r : Hrel G μ M H h) : Hrel G [] M H [] where
  len := rfl
  live := fun n o e => by simp at e
  inj := fun n m a e => by simp at e
  mu := fun n a e => by simp at e
  md := r.md
  tb := r.tb
/-- a run that saw nothing changeable -/
theorem Le.frame (l : Le [] M H μ' M' H') (r : Hrel G μ M H h) : Le μ M H μ M H' where
  frz := l.frz
  len := Nat.le_refl _
  old := fun _ _ e => .inl e
  dead := fun _ e => e
  new := fun n a hn e => by have := (List.getElem?_eq_some_iff.mp e).1; omega
  keep := fun a o e nt _ => l.keep a o e nt fun n z => by simp at z
  dom := l.dom
  mkk := fun _ e => .inl e
  km := fun _ e => .inl e
theorem Hrel.frame (l : Le [] M H μ' M' H') (r : Hrel G μ M H h) (r2 : Hrel G μ' M' H' h') : Hrel G μ M H' h where
  tb := r2.tb
  len := r.len
  live := fun n u e => by
    rcases r.live n u e with z | ⟨a, z, m⟩
    · exact .inl z
    · obtain ⟨w, q, qm⟩ := m.mut
      exact .inr ⟨a, z, m.le r (l.frame r) ((l.keep a w q (noTb_mut qm) fun n z => by simp at z).trans q.symm)⟩
  inj := r.inj
  mu := r.mu
  md := fun a m => let ⟨o, e, k⟩ := r.md a m; ⟨o, l.keep a o e (noTb_mut k) fun n z => by simp at z, k⟩
mutual
theorem Rep.back (l : Le [] M H μ' M' H') (r : Hrel G μ M H h) : ∀ (d : D) (v : V), pure? d = true → Rep G μ' M' H' d v → Rep G μ M H' d v
  | .non, v, _, q => by unfold Rep at q ⊢; exact q
  | .bl b, v, _, q => by unfold Rep at q ⊢; exact q
  | .int i, v, _, q => by unfold Rep at q ⊢; exact q
  | .str x, v, _, q => by unfold Rep at q ⊢; exact q
  | .tup ds, v, c, q => by
    unfold Rep at q ⊢
    obtain ⟨a, xs, e, s, p⟩ := q
    exact ⟨a, xs, e, s, Reps.back l r ds xs (by simpa [pure?] using c) p⟩
  | .plc ds, v, c, q => by
    unfold Rep at q ⊢
    obtain ⟨a, xs, e, s, p⟩ := q
    exact ⟨a, xs, e, s, Reps.back l r ds xs (by simpa [pure?] using c) p⟩
  | .lst ds, v, c, q => by
    unfold Rep at q ⊢
    obtain ⟨a, xs, e, s, m, p⟩ := q
    exact ⟨a, xs, e, s, l.noMk r m, Reps.back l r ds xs (by simpa [pure?] using c) p⟩
  | .scr ds, v, c, q => by
    unfold Rep at q ⊢
    obtain ⟨a, xs, e, s, p⟩ := q
    exact ⟨a, xs, e, s, Reps.back l r ds xs (by simpa [pure?] using c) p⟩
  | .dK ks ds, v, c, q => by
    unfold Rep at q ⊢
    obtain ⟨a, xs, e, s, m, k, p⟩ := q
    exact ⟨a, xs, e, s, l.noMk r m, k, Reps.back l r ds _ (by simpa [pure?] using c) p⟩
  | .dT ks ds, v, c, q => by
    unfold Rep at q ⊢
    obtain ⟨a, xs, e, s, m, k, p⟩ := q
    exact ⟨a, xs, e, s, l.noMk r m, k, Reps.back l r ds _ (by simpa [pure?] using c) p⟩
  | .ref n, v, c, q => by simp [pure?] at c
  | .fn i, v, c, q => by unfold Rep at q ⊢; exact q
  | .exn c x, v, _, q => by unfold Rep at q ⊢; exact q
theorem Reps.back (l : Le [] M H μ' M' H') (r : Hrel G μ M H h) : ∀ (ds : List D) (xs : List V), pures ds = true → Reps G μ' M' H' ds xs → Reps G μ M H' ds xs
  | [], xs, _, q => by unfold Reps at q ⊢; exact q
  | d :: ds, xs, c, q => by
    unfold Reps at q ⊢
    have c' : pure? d = true ∧ pures ds = true := by simpa [pures] using c
    obtain ⟨x, t, e, p, q⟩ := q
    exact ⟨x, t, e, Rep.back l r d x c'.1 p, Reps.back l r ds t c'.2 q⟩
theorem Le.noMk (l : Le [] M H μ' M' H') (r : Hrel G μ M H h) {a : Addr} (m : ¬ M' a) : ¬ M a := fun z => by
  rcases l.km a z with y | ⟨n, y⟩ | y
  · exact m y
  · simp at y
  · obtain ⟨o, e, _⟩ := r.md a z; rw [y] at e; cases e
end
end
section
variable {P : Program} {w : World} {base : Heap} {G : Glb} {cf : Nat → List D → Hea → Res D} {n : Nat} {N : List Str} {sc : Scope} {fo : Fo} {X : Cx} {W : WX}
theorem Good.gl (g : Good P w base G n N sc fo X) {x : Str} (h : glB sc x = true) : Gl X x := by
  have := (glB_gl h).1
  show X.env.kindOf x = _
  unfold Env.kindOf
  rw [g.sc]; exact this
theorem Good.hu (g : Good P w base G n N sc fo X) : X.A.units + 65 < cLine := by
  have := g.room.un; omega
theorem Good.hu1 (g : Good P w base G n N sc fo X) : X.A.units + 1 < cLine := by
  have := g.room.un; omega
theorem snd_call (F : Facts P w base G cf n) (g : Good P w base G n N sc fo X) (tk : Takes X W) {f : Nat} {fn : Fn} {x : Str} {y : Expr} {ys : List Expr} {p pos : Pos} {fs : Loc → Hea → Res (List D)} (ef : G.T.fn f = some fn) (ex : fn.name = x) (gx : glB sc x = true)
    (ha : PA X (y :: ys) (tAr G W fs)) (hs : starEach (y :: ys) X.env = (false, eval y X.env) :: starEach ys X.env) (hpl : (backTo pos (starEach ys X.env)).any (·.1) = false) :
    PE X (.Call (.Name x p) (y :: ys) [] pos) (tE G W fun ρ h => (fs ρ h).bind fun xs h1 => cf f xs h1) := by
  obtain ⟨a, fd, ps, hm, ok, kp, bd⟩ := F.fns f fn ef
  rw [ex] at hm
  have ok' : FnG X.prog X.w X.K X.mg X.base (L2.CX X.prog X.w) n a fd ps (spF G fn.np (cf f)) := by rw [g.prog, g.w, g.K, g.mg, g.base]; exact ok
  refine imE (pe_callG ok' (g.room.mono (by omega)) g.gd (g.gl gx) (by rw [g.mg]; exact hm) (by rw [g.K]; exact kp) (by rw [g.K]; exact bd) (passAt tk) ha (glB_gl gx).2.1 hs hpl) fun σ H Q q => ?_
  refine (show tAr G W fs σ H _ from tG.bind (g := fun _ xs h1 => cf f xs h1) q |> fun ⟨μ, M, ρ, h, e, r, p⟩ => ⟨μ, M, ρ, h, e, r, p.mono (fun _ _ z => z) ?_⟩)
  rintro vs H1 ⟨ds, μ, M, ρ, h, e, r, q1, p1⟩
  refine ⟨?_, μ, M, ds, h, r, q1, p1⟩
  rw [q1.length]
  by_cases hl : ds.length = fn.np
  · exact hl
  · rw [F.ar f fn ds h ef hl] at p1; exact p1.elim
theorem snd_callP (F : Facts P w base G cf n) (g : Good P w base G n N sc fo X) (tk : Takes X W) {f : Nat} {fn : Fn} {x : Str} {y : Expr} {ys : List Expr} {p pos : Pos} {fs : Loc → Hea → Res (List D)} (ef : G.T.fn f = some fn) (ex : fn.name = x) (gx : glB sc x = true)
    (ha : PA X (y :: ys) (tAr G W fs)) (hs : starEach (y :: ys) X.env = (false, eval y X.env) :: starEach ys X.env) (hpl : (backTo pos (starEach ys X.env)).any (·.1) = false) :
    PE X (.Call (.Name x p) (y :: ys) [] pos) (tE G W fun ρ h => (fs ρ h).bind fun xs h1 => if pures xs then pureRes h1 (cf f xs []) else .no) := by
  obtain ⟨a, fd, ps, hm, ok, kp, bd⟩ := F.fns f fn ef
  rw [ex] at hm
  have ok' : FnG X.prog X.w X.K X.mg X.base (L2.CX X.prog X.w) n a fd ps (spF G fn.np (cf f)) := by rw [g.prog, g.w, g.K, g.mg, g.base]; exact ok
  refine imE (pe_callG ok' (g.room.mono (by omega)) g.gd (g.gl gx) (by rw [g.mg]; exact hm) (by rw [g.K]; exact kp) (by rw [g.K]; exact bd) (passAt tk) ha (glB_gl gx).2.1 hs hpl) fun σ H Q q => ?_
  refine (show tAr G W fs σ H _ from tG.bind (g := fun _ xs h1 => if pures xs then pureRes h1 (cf f xs []) else .no) q |> fun ⟨μ, M, ρ, h, e, r, p⟩ => ⟨μ, M, ρ, h, e, r, p.mono (fun _ _ z => z) ?_⟩)
  rintro vs H1 ⟨ds, μ, M, ρ, h, e, r, q1, p1⟩
  by_cases hp : pures ds = true
  · rw [if_pos hp] at p1
    refine ⟨?_, [], M, ds, [], r.empty, Reps.pure ds vs hp q1, ?_⟩
    · rw [q1.length]
      by_cases hl : ds.length = fn.np
      · exact hl
      · rw [F.ar f fn ds [] ef hl] at p1; exact p1.elim
    · cases ec : cf f ds [] with
      | no => rw [ec] at p1; exact p1.elim
      | err c h2 =>
        rw [ec] at p1
        exact fun C μ' M' H' ex l r2 => p1 C μ M H' ex (l.frame r) (r.frame l r2)
      | ok d h2 =>
        rw [ec] at p1
        have p2 : Post G (Rep G) (fun c H' => W c none σ H') μ M H1 (if pure? d then Res.ok d h else .no) Q := p1
        intro v μ' M' H' l r2 q2
        by_cases hd : pure? d = true
        · rw [if_pos hd] at p2
          exact p2 v μ M H' (l.frame r) (r.frame l r2) (Rep.back l r d v hd q2)
        · rw [if_neg hd] at p2; exact p2.elim
  · rw [if_neg hp] at p1; exact p1.elim
end
end PyI
set_option Elab.async false
set_option linter.all false
set_option maxRecDepth 100000
set_option maxHeartbeats 1000000
namespace PyI
open PySem L2 PySem.Spec PySem.W PyProof.Rows
theorem each_of {β : Type} {v : β → V} : ∀ {zs : List β} {us : List Value}, Vals (zs.map v) us → EachIs (fun u z => RelV (v z) u) us zs
  | [], _, .nil => .nil
  | _ :: _, _, .cons a r => .cons a (each_of r)
theorem vals_each {β : Type} {v : β → V} : ∀ {zs : List β} {us : List Value}, EachIs (fun u z => RelV (v z) u) us zs → Vals (zs.map v) us
  | _, _, .nil => .nil
  | _, _, .cons a r => .cons a (vals_each r)
theorem alike_int (l : List Int) : AllAlike (l.map PyData.int) := AllAlike.of fun _ _ => rfl
theorem sortable_int (l : List Int) : Sortable (l.map PyData.int) := Sortable.others fun b => ⟨by simp, by simp⟩
/-- sorted(xs, key=len), xs a list of tuples: the tuples by their lengths, stable -/
def rSortL {β : Type} (v : β → V) (k : β → Nat) (xs : List β) (K : PySem.W.Frag) : List V → Hp → VK → Prop := fun vs H Q => ∃ a, vs = [V.ref a] ∧ SqL K H a (xs.map v) ∧ (∀ x ∈ xs, ∃ t ys, v x = V.ref t ∧ SqT K H t ys ∧ ys.length = k x) ∧
  ∀ p, H p = none → Q (.ref p) (upd H p (.lst ((xs.mergeSort fun a b => decide (k a ≤ k b)).map v)))
theorem call_sortL {X : Cx} {pins : List (Addr × Obj)} {s : Shared} {σ : L2.St} {H : Hp} {vs : List V} {us : List Value} {Q : VK} (gu : X.A.units + 65 < cLine) (I : Inv X pins σ H s) (r : Vals vs us) {β : Type} {v : β → V} {k : β → Nat} {xs : List β} (h : rSortL v k xs X.K vs H Q) :
    wpAny (model X.prog X.w) X.A (call (.builtin "sorted") us [(Str.ofString "key", .builtin "len")]) (EP X pins σ Q) X.xe s := by
  obtain ⟨a, rfl, hs, hx, q⟩ := h
  obtain ⟨its, rv, hl, hz⟩ := I.list hs
  obtain ⟨u, rfl, ru⟩ := vals1 r
  obtain rfl : u = Value.ref a := ru
  refine sorted_key_data (R := fun u z => RelV (v z) u) (bs := xs) (vs := its) (b := false) (fun x => .int (k x)) hl.isList (each_of rv) ?_ ?_ (by rw [← List.length_map (f := v)]; exact hz) ?_ (ksk_s1 _ _) (fun _ => ksk_l1 _ _) (fun x => ksk_t4 "len" x) ?_ ?_
  · have := alike_int (xs.map fun x => (k x : Int)); rw [List.map_map] at this; exact this
  · have := sortable_int (xs.map fun x => (k x : Int)); rw [List.map_map] at this; exact this
  · intro x hx
    show X.A.units + 2 + 0 < cLine
    omega
  · intro u x rx mx h tk kp
    obtain ⟨t, ys, e0, st, ln⟩ := hx x mx
    rw [e0] at rx
    cases rx
    obtain ⟨its2, r2, pl, hz2⟩ := I.tuple st
    have hn := line63
    have l2 := r2.length
    refine len_tuple (s := { s with heap := h, toks := tk }) (pl.keeps kp) (by simp only [List.size_toArray]; omega) ⟨h, _, rfl, fun _ _ e => e, ?_⟩
    have e : ((its2.toArray.size : Nat) : Int) = ((k x : Nat) : Int) := by rw [List.size_toArray, ← l2, ln]
    rw [e]
    exact .int _ _
  · intro out c h' tk kp f1 f2 ln eo
    have eo2 : EachIs (fun u z => RelV (v z) u) out (xs.mergeSort fun a b => decide (k a ≤ k b)) := by
      have : dataLe false (fun x => PyData.int (k x : Int)) = fun a b : β => decide (k a ≤ k b) := by
        rw [dataLe_int]; funext a b; simp
      rw [← this]; exact eo
    refine ⟨.ref _, upd H (s.heap.objs.size + 1) (.lst ((xs.mergeSort fun a b => decide (k a ≤ k b)).map v)), I.laid (t' := tk) kp (Nat.le_succ _) ⟨by rw [List.length_map, List.length_mergeSort, ← List.length_map (f := v)]; exact hz, out, c, vals_each eo2, f2⟩, rfl, q _ (I.hok.fresh (Nat.le_succ _))⟩
/-- sorted(xs), xs a list of tuples of ints -/
def rSortT {β : Type} (v : β → V) (k : β → List Int) (xs : List β) (K : PySem.W.Frag) : List V → Hp → VK → Prop := fun vs H Q => ∃ a, vs = [V.ref a] ∧ SqL K H a (xs.map v) ∧ (∀ x ∈ xs, ∃ t, v x = V.ref t ∧ SqT K H t ((k x).map V.int) ∧ k x ≠ []) ∧
  ∀ p, H p = none → Q (.ref p) (upd H p (.lst ((xs.mergeSort fun a b => decide (k a ≤ k b)).map v)))
theorem reads_ints {h : Heap} : ∀ {ns : List Int} {us : List Value}, Vals (ns.map V.int) us → ReadsAll h us (ns.map PyData.int) []
  | [], _, .nil => .nil
  | n :: ns, _, .cons a r => by
    obtain ⟨t, rfl⟩ := a
    exact ReadsAll.cons (as := []) (bs := []) (.int _ _) (reads_ints r)
theorem depth_tup (ns : List Int) : (PyData.tuple (ns.map PyData.int)).depth = 1 := by
  show PyData.depthAll (ns.map PyData.int) + 1 = 1
  rw [depth_ints]
theorem call_sortT {X : Cx} {pins : List (Addr × Obj)} {s : Shared} {σ : L2.St} {H : Hp} {vs : List V} {us : List Value} {Q : VK} (gu : X.A.units + 65 < cLine) (I : Inv X pins σ H s) (r : Vals vs us) {β : Type} {v : β → V} {k : β → List Int} {xs : List β} (h : rSortT v k xs X.K vs H Q) :
    wpAny (model X.prog X.w) X.A (call (.builtin "sorted") us) (EP X pins σ Q) X.xe s := by
  obtain ⟨a, rfl, hs, hx, q⟩ := h
  obtain ⟨its, rv, hl, hz⟩ := I.list hs
  obtain ⟨u, rfl, ru⟩ := vals1 r
  obtain rfl : u = Value.ref a := ru
  have rd : ∀ {xs : List β} {us : List Value}, (∀ x ∈ xs, ∃ t, v x = V.ref t ∧ SqT X.K H t ((k x).map V.int) ∧ k x ≠ []) → EachIs (fun u z => RelV (v z) u) us xs → EachIs (fun v b => ∃ as, Reads s.heap v (PyData.tuple ((k b).map PyData.int)) as) us xs := by
    intro xs us hx rv
    induction rv with
    | nil => exact .nil
    | @cons u x us xs h1 h2 ih =>
      refine .cons ?_ (ih fun y hy => hx y (List.mem_cons_of_mem _ hy))
      obtain ⟨t, e, st, _⟩ := hx x List.mem_cons_self
      obtain ⟨its2, r2, pl, hz2⟩ := I.tuple st
      rw [e] at h1
      cases h1
      obtain ⟨o, ho, hc, n, hd⟩ := pl
      exact ⟨_, .tuple ho hc hd (by simpa using reads_ints r2)⟩
  refine sorted_data (R := fun u z => RelV (v z) u) (bs := xs) (vs := its) (enc := fun x => PyData.tuple ((k x).map PyData.int)) hl.isList (each_of rv) (rd hx (each_of rv)) ?_ ?_ (by rw [← List.length_map (f := v)]; exact hz) ?_ ?_
  · exact AllAlike.of fun b b' => by
      show alike (.tuple ((k b).map PyData.int)) (.tuple ((k b').map PyData.int)) = true
      simpa [alike] using alike_ints (k b) (k b')
  · refine .inl fun d hd => ?_
    obtain ⟨x, hxm, rfl⟩ := List.mem_map.mp hd
    obtain ⟨t, _, _, ne⟩ := hx x hxm
    cases e : k x with
    | nil => exact absurd e ne
    | cons a r => exact ⟨_, _, rfl⟩
  · intro x hx
    rw [depth_tup]; omega
  · intro out ln eo
    have eo2 : EachIs (fun u z => RelV (v z) u) out (xs.mergeSort fun a b => decide (k a ≤ k b)) := by
      have : dataLe false (fun x => PyData.tuple ((k x).map PyData.int)) = fun a b : β => decide (k a ≤ k b) := dataLe_rows k
      rw [← this]; exact eo
    obtain ⟨ep, he'⟩ := PyProof.Rows.sortedAll_at s.heap its out.toArray
    refine ⟨.ref _, upd H (s.heap.objs.size + 1) (.lst ((xs.mergeSort fun a b => decide (k a ≤ k b)).map v)), I.laid (t' := s.toks) (fun _ _ => PyProof.Rows.sortedAll_old) (Nat.le_succ _) ⟨by rw [List.length_map, List.length_mergeSort, ← List.length_map (f := v)]; exact hz, out, ep, vals_each eo2, he'⟩, rfl, q _ (I.hok.fresh (Nat.le_succ _))⟩
end PyI
set_option Elab.async false
set_option linter.all false
set_option maxRecDepth 100000
namespace PyI
open PySem L2
section
variable {G : Glb} {μ : Mu} {M : Mk} {H : Hp} {h : Hea} {X : Cx}
def Bi.isTy : Bi → Bool
  | .int => true | .list => true | .listM => true | .tuple => true | .str => true | .listK => true
  | _ => false
def Bi.id : Bi → String
  | .len => "len" | .abs => "abs" | .int => "int" | .list => "list" | .listM => "list" | .tuple => "tuple" | .all => "all" | .any => "any"
  | .max => "max" | .min => "min" | .repr => "repr" | .sorted => "sorted" | .str => "str" | .sortT => "sorted" | .sortL => "sorted" | .listK => "list" | .sortM => "sorted"
def Bi.val (b : Bi) : Value := if b.isTy then .type b.id else .builtin b.id
theorem bi_boot (b : Bi) : bootBuiltins b.nm = some b.val := by cases b <;> decide +kernel
theorem bi_free (b : Bi) : b.nm ∈ bltNames := by cases b <;> decide +kernel
def rBi (G : Glb) (b : Bi) : List V → Hp → VK → Prop := fun xs H Q => ∃ d v μ M h, xs = [v] ∧ Hrel G μ M H h ∧ Rep G μ M H d v ∧ PostV G μ M H (biR b h d) Q
theorem foldl_max : ∀ (r : List Int) (a : Int), let m := r.foldl (fun a b => if b > a then b else a) a; a ≤ m ∧ (∀ y ∈ r, y ≤ m) ∧ (m = a ∨ m ∈ r)
  | [], a => by simp
  | b :: r, a => by
    have ih := foldl_max r (if b > a then b else a)
    simp only [List.foldl_cons]
    obtain ⟨h1, h2, h3⟩ := ih
    refine ⟨?_, fun y hy => ?_, ?_⟩
    · by_cases c : b > a
      · rw [if_pos c] at h1 ⊢; omega
      · rw [if_neg c] at h1 ⊢; exact h1
    · rcases List.mem_cons.mp hy with e | hy
      · subst e
        by_cases c : y > a
        · rw [if_pos c] at h1 ⊢; exact h1
        · rw [if_neg c] at h1 ⊢; omega
      · exact h2 y hy
    · by_cases c : b > a
      · rw [if_pos c] at h3 ⊢
        rcases h3 with z | z
        · exact .inr (by rw [z]; exact List.mem_cons_self)
        · exact .inr (List.mem_cons_of_mem _ z)
      · rw [if_neg c] at h3 ⊢
        rcases h3 with z | z
        · exact .inl z
        · exact .inr (List.mem_cons_of_mem _ z)
theorem foldl_min : ∀ (r : List Int) (a : Int), let m := r.foldl (fun a b => if b < a then b else a) a; m ≤ a ∧ (∀ y ∈ r, m ≤ y) ∧ (m = a ∨ m ∈ r)
  | [], a => by simp
  | b :: r, a => by
    have ih := foldl_min r (if b < a then b else a)
    simp only [List.foldl_cons]
    obtain ⟨h1, h2, h3⟩ := ih
    refine ⟨?_, fun y hy => ?_, ?_⟩
    · by_cases c : b < a
      · rw [if_pos c] at h1 ⊢; omega
      · rw [if_neg c] at h1 ⊢; exact h1
    · rcases List.mem_cons.mp hy with e | hy
      · subst e
        by_cases c : y < a
        · rw [if_pos c] at h1 ⊢; exact h1
        · rw [if_neg c] at h1 ⊢; omega
      · exact h2 y hy
    · by_cases c : b < a
      · rw [if_pos c] at h3 ⊢
        rcases h3 with z | z
        · exact .inr (by rw [z]; exact List.mem_cons_self)
        · exact .inr (List.mem_cons_of_mem _ z)
      · rw [if_neg c] at h3 ⊢
        rcases h3 with z | z
        · exact .inl z
        · exact .inr (List.mem_cons_of_mem _ z)
theorem maxI_eq {ns : List Int} {m : Int} (hm : m ∈ ns) (hl : ∀ y, y ∈ ns → y ≤ m) : m = maxI ns := by
  cases ns with
  | nil => simp at hm
  | cons a r =>
    obtain ⟨h1, h2, h3⟩ := foldl_max r a
    have e : maxI (a :: r) = r.foldl (fun a b => if b > a then b else a) a := rfl
    rw [e]
    have k1 : m ≤ r.foldl (fun a b => if b > a then b else a) a := by
      rcases List.mem_cons.mp hm with z | z
      · rw [z]; exact h1
      · exact h2 m z
    have k2 : r.foldl (fun a b => if b > a then b else a) a ≤ m := by
      rcases h3 with z | z
      · rw [z]; exact hl a List.mem_cons_self
      · exact hl _ (List.mem_cons_of_mem _ z)
    omega
theorem minI_eq {ns : List Int} {m : Int} (hm : m ∈ ns) (hl : ∀ y, y ∈ ns → m ≤ y) : m = minI ns := by
  cases ns with
  | nil => simp at hm
  | cons a r =>
    obtain ⟨h1, h2, h3⟩ := foldl_min r a
    have e : minI (a :: r) = r.foldl (fun a b => if b < a then b else a) a := rfl
    rw [e]
    have k1 : r.foldl (fun a b => if b < a then b else a) a ≤ m := by
      rcases List.mem_cons.mp hm with z | z
      · rw [z]; exact h1
      · exact h2 m z
    have k2 : m ≤ r.foldl (fun a b => if b < a then b else a) a := by
      rcases h3 with z | z
      · rw [z]; exact hl a List.mem_cons_self
      · exact hl _ (List.mem_cons_of_mem _ z)
    omega
theorem cr_repr (eK : X.K = G.K) (gd : X.A.guards = some []) (hu : X.A.units + 65 < cLine) {pins : List (Addr × Obj)} {s : Shared} {σ : St} {us : List Value} {Q : VK} {d : D} {v : V} (I : Inv X pins σ H s) (rr : Vals [v] us) (r : Hrel G μ M H h) (p : Rep G μ M H d v)
    (c : repOk (pdH h d) = true) (q : Q (.str (pdH h d).shown) H) : wpAny (model X.prog X.w) X.A (call (.builtin "repr") us) (EP X pins σ Q) X.xe s := by
  unfold repOk at c
  simp only [Bool.and_eq_true, decide_eq_true_eq, Bool.not_eq_true'] at c
  obtain ⟨c0, c1, c2, c3, c4, c5⟩ := c
  have dp := dpH_of r p c1
  obtain ⟨u, rfl, ru⟩ := vals1 rr
  have go : (∀ {as}, Reads s.heap u (pdH h d) as → ∃ a, u = .ref a) → wpAny (model X.prog X.w) X.A (call (.builtin "repr") [u]) (EP X pins σ Q) X.xe s := by
    intro isr
    obtain ⟨as, rd⟩ := Dp.reads I _ _ _ (eK ▸ dp) ru
    obtain ⟨a, rfl⟩ := isr rd
    exact repr_of_reads' rd c2 (fun z => by rw [c3] at z; cases z) gd (by omega) (fun _ _ e => e) (fun h' u' tk keep => ⟨.str _, H, I.kept (t' := tk) keep, ⟨_, rfl⟩, q⟩) c5
  cases ed : pdH h d with
  | none =>
    rw [ed] at dp q
    cases dp
    obtain rfl : u = Value.none := ru
    exact PySem.P.repr_of_none ⟨.str _, H, I.tok _, ⟨_, rfl⟩, q⟩
  | bool b =>
    rw [ed] at dp q
    cases dp
    obtain rfl : u = Value.bool b := ru
    exact PySem.P.repr_of_bool ⟨.str _, H, I.tok _, ⟨_, rfl⟩, q⟩
  | int i =>
    rw [ed] at dp q c2
    cases dp
    obtain ⟨t, rfl⟩ := ru
    exact PySem.P.repr_of_int (of_decide_eq_true c2) ⟨.str _, H, I.tok _, ⟨_, rfl⟩, q⟩
  | str x =>
    rw [ed] at dp q c5
    cases dp
    obtain ⟨t, rfl⟩ := ru
    exact PySem.P.repr_of_str ⟨.str _, H, I.tok _, ⟨_, rfl⟩, q⟩ c5
  | dict _ => rw [ed] at c0; cases c0
  | list xs => exact go (fun rd => by rw [ed] at rd; cases rd; exact ⟨_, rfl⟩)
  | tuple xs => exact go (fun rd => by rw [ed] at rd; cases rd; exact ⟨_, rfl⟩)
theorem insI_perm (a : Int) : ∀ l : List Int, (insI a l).Perm (a :: l)
  | [] => List.Perm.refl _
  | b :: r => by
    unfold insI
    split
    · exact List.Perm.refl _
    · exact (List.Perm.cons b (insI_perm a r)).trans (List.Perm.swap a b r)
theorem sortI_perm : ∀ l : List Int, (sortI l).Perm l
  | [] => List.Perm.refl _
  | a :: r => (insI_perm a _).trans (List.Perm.cons a (sortI_perm r))
theorem insI_up (a : Int) : ∀ l : List Int, l.Pairwise (· ≤ ·) → (insI a l).Pairwise (· ≤ ·)
  | [], _ => List.pairwise_singleton _ _
  | b :: r, h => by
    obtain ⟨h1, h2⟩ := List.pairwise_cons.mp h
    unfold insI
    split
    · rename_i c
      refine List.pairwise_cons.mpr ⟨fun y hy => ?_, h⟩
      rcases List.mem_cons.mp hy with z | z
      · rw [z]; exact c
      · have := h1 y z; omega
    · rename_i c
      refine List.pairwise_cons.mpr ⟨fun y hy => ?_, insI_up a r h2⟩
      rcases List.mem_cons.mp ((insI_perm a r).mem_iff.mp hy) with z | z
      · rw [z]; omega
      · exact h1 y z
theorem sortI_up : ∀ l : List Int, (sortI l).Pairwise (· ≤ ·)
  | [] => List.Pairwise.nil
  | a :: r => insI_up a _ (sortI_up r)
theorem sort_uniq {α : Type} {le : α → α → Prop} (anti : ∀ a b, le a b → le b a → a = b) : ∀ {l m : List α}, l.Perm m → l.Pairwise le → m.Pairwise le → l = m
  | [], m, p, _, _ => (List.Perm.nil_eq p)
  | a :: l, [], p, _, _ => by have := p.length_eq; simp at this
  | a :: l, b :: m, p, h1, h2 => by
    obtain ⟨a1, a2⟩ := List.pairwise_cons.mp h1
    obtain ⟨b1, b2⟩ := List.pairwise_cons.mp h2
    have e : a = b := by
      rcases List.mem_cons.mp (p.mem_iff.mp (List.mem_cons_self (a := a) (l := l))) with z | z
      · exact z
      · rcases List.mem_cons.mp (p.mem_iff.mpr (List.mem_cons_self (a := b) (l := m))) with y | y
        · exact y.symm
        · exact anti a b (a1 b y) (b1 a z)
    subst e
    rw [sort_uniq anti p.cons_inv a2 b2]
theorem sortI_eq {l m : List Int} (p : l.Perm m) (h : l.Pairwise (· ≤ ·)) : l = sortI m :=
  sort_uniq (fun a b h1 h2 => by omega) (p.trans (sortI_perm m).symm) h (sortI_up m)
theorem lePr_iff {p q : Int × Int} : lePr p q = true ↔ p.1 < q.1 ∨ (p.1 = q.1 ∧ p.2 ≤ q.2) := by
  unfold lePr
  simp only [Bool.or_eq_true, Bool.and_eq_true, decide_eq_true_eq]
theorem insP_perm (a : Int × Int) : ∀ l : List (Int × Int), (insP a l).Perm (a :: l)
  | [] => List.Perm.refl _
  | b :: r => by
    unfold insP
    split
    · exact List.Perm.refl _
    · exact (List.Perm.cons b (insP_perm a r)).trans (List.Perm.swap a b r)
theorem sortP_perm : ∀ l : List (Int × Int), (sortP l).Perm l
  | [] => List.Perm.refl _
  | a :: r => (insP_perm a _).trans (List.Perm.cons a (sortP_perm r))
theorem insP_up (a : Int × Int) : ∀ l : List (Int × Int), l.Pairwise (fun p q => lePr p q = true) → (insP a l).Pairwise (fun p q => lePr p q = true)
  | [], _ => List.pairwise_singleton _ _
  | b :: r, h => by
    obtain ⟨h1, h2⟩ := List.pairwise_cons.mp h
    unfold insP
    split
    · rename_i c
      refine List.pairwise_cons.mpr ⟨fun y hy => ?_, h⟩
      rcases List.mem_cons.mp hy with z | z
      · rw [z]; exact c
      · have k1 := lePr_iff.mp (h1 y z); have k2 := lePr_iff.mp c
        exact lePr_iff.mpr (by omega)
    · rename_i c
      have c' : ¬ (a.1 < b.1 ∨ (a.1 = b.1 ∧ a.2 ≤ b.2)) := fun z => c (lePr_iff.mpr z)
      refine List.pairwise_cons.mpr ⟨fun y hy => ?_, insP_up a r h2⟩
      rcases List.mem_cons.mp ((insP_perm a r).mem_iff.mp hy) with z | z
      · rw [z]; exact lePr_iff.mpr (by omega)
      · exact h1 y z
theorem sortP_up : ∀ l : List (Int × Int), (sortP l).Pairwise (fun p q => lePr p q = true)
  | [] => List.Pairwise.nil
  | a :: r => insP_up a _ (sortP_up r)
theorem sortP_eq {l m : List (Int × Int)} (p : l.Perm m) (h : l.Pairwise (fun p q => lePr p q = true)) : l = sortP m :=
  sort_uniq (fun a b h1 h2 => by have k1 := lePr_iff.mp h1; have k2 := lePr_iff.mp h2; exact Prod.ext (by omega) (by omega)) (p.trans (sortP_perm m).symm) h (sortP_up m)
theorem reps_intsV : ∀ ns : List Int, Reps G μ M H (ns.map D.int) (ns.map V.int)
  | [] => Reps.nil
  | a :: r => Reps.cons (by rw [rep_int]) (reps_intsV r)
/-- the pair that a value stands for -/
def kPr (H : Hp) : V → Int × Int
  | .ref t => match H t with
    | some (.tup [.int i, .int j]) => (i, j)
    | _ => (0, 0)
  | _ => (0, 0)
def IsPr (H : Hp) (x : V) : Prop := ∃ t, x = V.ref t ∧ H t = some (.tup [.int (kPr H x).1, .int (kPr H x).2])
theorem prs_rep : ∀ {xs : List D} {ys : List V} {ps : List (Int × Int)}, Reps G μ M H xs ys → prsV xs = some ps → ys.map (kPr H) = ps ∧ ∀ y ∈ ys, IsPr H y
  | [], ys, ps, t, e => by
    unfold Reps at t; subst t
    unfold prsV at e; cases e
    exact ⟨rfl, fun y hy => by cases hy⟩
  | d :: xs, ys, ps, t, e => by
    unfold prsV at e
    split at e
    · rename_i q; cases q
    · rename_i i j r q
      cases q
      obtain ⟨ps', e', rfl⟩ := Option.map_eq_some_iff.mp e
      unfold Reps at t
      obtain ⟨x, ys', rfl, h1, h2⟩ := t
      obtain ⟨k1, k2⟩ := prs_rep h2 e'
      rw [rep_plc] at h1
      obtain ⟨a, us, rfl, sa, ru⟩ := h1
      unfold Reps at ru
      obtain ⟨u1, us', rfl, w1, ru⟩ := ru
      unfold Reps at ru
      obtain ⟨u2, us'', rfl, w2, ru⟩ := ru
      unfold Reps at ru
      subst ru
      rw [rep_int] at w1 w2
      subst w1 w2
      have kk : kPr H (.ref a) = (i, j) := by simp only [kPr, sa]
      refine ⟨by rw [List.map_cons, kk, k1], fun y hy => ?_⟩
      rcases List.mem_cons.mp hy with z | z
      · rw [z]; exact ⟨a, rfl, by rw [kk]; exact sa⟩
      · exact k2 y z
    · cases e
theorem reps_prs : ∀ {zs : List V}, (∀ y ∈ zs, IsPr H y) → Reps G μ M H ((zs.map (kPr H)).map prD) zs
  | [], _ => Reps.nil
  | z :: zs, h => by
    refine Reps.cons ?_ (reps_prs fun y hy => h y (List.mem_cons_of_mem _ hy))
    obtain ⟨t, e, s⟩ := h z List.mem_cons_self
    unfold prD
    rw [rep_plc]
    exact ⟨t, _, e, s, Reps.cons (by rw [rep_int]) (Reps.cons (by rw [rep_int]) Reps.nil)⟩
theorem kIs_map : ∀ {ks : List Key} {ns : List Int}, kIs ks = some ns → ks = ns.map Sum.inl
  | [], ns, e => by unfold kIs at e; cases e; rfl
  | .inl i :: r, ns, e => by
    unfold kIs at e
    obtain ⟨ns', e', rfl⟩ := Option.map_eq_some_iff.mp e
    rw [kIs_map e']; rfl
  | .inr _ :: r, ns, e => by unfold kIs at e; cases e
theorem kIsV_rep {d : D} {v : V} {ns : List Int} (r : Hrel G μ M H h) (p : Rep G μ M H d v) (e : kIsV h d = some ns) : ∃ a kvs, v = .ref a ∧ Rd H a (.dK kvs) ∧ kvs.map (·.1) = ns.map Sum.inl := by
  unfold kIsV at e
  split at e
  · rw [rep_dK] at p
    obtain ⟨a, kvs, rfl, s, _, k, _⟩ := p
    exact ⟨a, kvs, rfl, s, by rw [k]; exact kIs_map e⟩
  · split at e
    · rename_i z
      obtain ⟨a, rfl, _, kvs, s, k, _⟩ := r.at_ p z (by intro z; cases z)
      exact ⟨a, kvs, rfl, .inl s, by rw [k]; exact kIs_map e⟩
    · cases e
  · cases e
theorem kysV_rep {d : D} {v : V} {ks : List Key} (r : Hrel G μ M H h) (p : Rep G μ M H d v) (e : kysV h d = some ks) : ∃ a kvs, v = .ref a ∧ Rd H a (.dK kvs) ∧ kvs.map (·.1) = ks := by
  unfold kysV at e
  split at e
  · cases e
    rw [rep_dK] at p
    obtain ⟨a, kvs, rfl, s, _, k, _⟩ := p
    exact ⟨a, kvs, rfl, s, k⟩
  · split at e
    · rename_i z
      cases e
      obtain ⟨a, rfl, _, kvs, s, k, _⟩ := r.at_ p z (by intro z; cases z)
      exact ⟨a, kvs, rfl, .inl s, k⟩
    · cases e
  · cases e
theorem reps_kD : ∀ k : List Key, Reps G μ M H (k.map kD) (k.map kV)
  | [] => Reps.nil
  | .inl i :: r => Reps.cons (by show Rep G μ M H (.int i) (.int i); rw [rep_int]) (reps_kD r)
  | .inr x :: r => Reps.cons (by show Rep G μ M H (.str x) (.str x); rw [rep_str]) (reps_kD r)
theorem reps_zip : ∀ {xs : List D} {ys : List V}, Reps G μ M H xs ys → ∃ zs : List (D × V), zs.map (·.1) = xs ∧ zs.map (·.2) = ys ∧ ∀ z ∈ zs, Rep G μ M H z.1 z.2
  | [], ys, t => by unfold Reps at t; subst t; exact ⟨[], rfl, rfl, fun z hz => by cases hz⟩
  | d :: xs, ys, t => by
    unfold Reps at t
    obtain ⟨y, ys', rfl, h1, h2⟩ := t
    obtain ⟨zs, e1, e2, h3⟩ := reps_zip h2
    refine ⟨(d, y) :: zs, by rw [List.map_cons, e1], by rw [List.map_cons, e2], fun z hz => ?_⟩
    rcases List.mem_cons.mp hz with q | q
    · rw [q]; exact h1
    · exact h3 z q
theorem reps_of_zip : ∀ {zs : List (D × V)}, (∀ z ∈ zs, Rep G μ M H z.1 z.2) → Reps G μ M H (zs.map (·.1)) (zs.map (·.2))
  | [], _ => Reps.nil
  | z :: zs, h => Reps.cons (h z List.mem_cons_self) (reps_of_zip fun y hy => h y (List.mem_cons_of_mem _ hy))
theorem sort_fst {α β : Type} (le : α → α → Bool) (zs : List (α × β)) : (zs.mergeSort fun a b => le a.1 b.1).map (·.1) = (zs.map (·.1)).mergeSort le :=
  List.map_mergeSort fun _ _ _ _ => rfl
theorem tl_rep {d : D} {v : V} {n : Nat} (p : Rep G μ M H d v) (e : tlD d = some n) : ∃ t ys, v = V.ref t ∧ SqT G.K H t ys ∧ ys.length = n := by
  unfold tlD at e
  split at e
  · cases e
    rw [rep_tup] at p
    obtain ⟨a, us, rfl, sa, ru⟩ := p
    exact ⟨a, us, rfl, sa, ru.length⟩
  · cases e
    rw [rep_plc] at p
    obtain ⟨a, us, rfl, sa, ru⟩ := p
    exact ⟨a, us, rfl, .inl (.inl sa), ru.length⟩
  · cases e
theorem tis_rep {d : D} {v : V} {ns : List Int} (p : Rep G μ M H d v) (e : tIs? d = some ns) : ∃ t, v = V.ref t ∧ SqT G.K H t (ns.map V.int) := by
  unfold tIs? at e
  split at e
  · rw [rep_tup] at p
    obtain ⟨a, us, rfl, sa, ru⟩ := p
    rw [ints_rep ru e] at sa
    exact ⟨a, rfl, sa⟩
  · rw [rep_plc] at p
    obtain ⟨a, us, rfl, sa, ru⟩ := p
    rw [ints_rep ru e] at sa
    exact ⟨a, rfl, .inl (.inl sa)⟩
  · cases e
theorem cr_bi (b : Bi) (nk : b ≠ .sortL) (eK : X.K = G.K) (hc : X.calm = true) (gd : X.A.guards = some []) (hu : X.A.units + 65 < cLine) : CallR X b.val (rBi G b) := by
  intro pins s σ H xs us Q I rr ⟨d, v, μ, M, h, e, r, p, q⟩
  subst e
  cases b with
  | len =>
    unfold biR at q
    simp only at q
    split at q
    · rename_i ds e
      obtain ⟨a, ys, rfl, sq, t⟩ := seq_rep r p e
      exact call_len_seq pins s σ H _ us Q I rr ⟨a, ys, rfl, eK ▸ sq, q.here r (by rw [rep_int, t.length])⟩
    · split at q
      · rw [rep_str] at p; subst p
        obtain ⟨c, q⟩ := q.ite
        exact call_len_str pins s σ H _ us Q I rr ⟨_, rfl, c, q.here r (by rw [rep_int])⟩
      · exact q.elim
  | abs =>
    unfold biR at q
    simp only at q
    split at q
    · rw [rep_int] at p; subst p
      exact call_abs pins s σ H _ us Q I rr ⟨_, rfl, q.here r (by rw [rep_int])⟩
    · exact q.elim
  | int =>
    unfold biR at q
    simp only at q
    split at q
    · rw [rep_int] at p; subst p
      exact call_int1 pins s σ H _ us Q I rr (.inl ⟨_, rfl, q.here r (by rw [rep_int])⟩)
    · rw [rep_bl] at p; subst p
      exact call_int1 pins s σ H _ us Q I rr (.inr ⟨_, rfl, q.here r (by rw [rep_int])⟩)
    · exact q.elim
  | list =>
    unfold biR at q
    obtain ⟨ds, e, q⟩ := q.need
    obtain ⟨a, ys, rfl, sq, t⟩ := seq_rep r p e
    exact call_list_of pins s σ H _ us Q I rr ⟨a, ys, rfl, eK ▸ sq, q.new r fun b hb => Rep.newLst r hb t⟩
  | listM =>
    unfold biR at q
    obtain ⟨ds, e, q⟩ := q.need
    obtain ⟨a, ys, rfl, sq, t⟩ := seq_rep r p e
    refine call_list_of pins s σ H _ us Q I rr ⟨a, ys, rfl, eK ▸ sq, fun b hb => ?_⟩
    refine q (.ref b) _ _ _ (Le.alloc hb) (r.alloc hb ⟨ys, upd_same, Reps.le r (Le.alloc hb) _ _ t⟩) ?_
    rw [rep_ref]
    exact ⟨b, rfl, .inl (by rw [← r.len, List.getElem?_append_right (Nat.le_refl _), Nat.sub_self]; rfl)⟩
  | tuple =>
    unfold biR at q
    obtain ⟨ds, e, q⟩ := q.need
    rcases seq_cases e with e2 | e2
    · obtain ⟨a, ys, rfl, sq, t⟩ := tup_rep p e2
      exact call_tuple_of pins s σ H _ us Q I rr ⟨a, ys, rfl, .inr ⟨eK ▸ sq, q.here r (by rw [rep_tup]; exact ⟨a, ys, rfl, sq, t⟩)⟩⟩
    · obtain ⟨a, ys, rfl, sq, t⟩ := lst_rep r p e2
      exact call_tuple_of pins s σ H _ us Q I rr ⟨a, ys, rfl, .inl ⟨eK ▸ sq, q.new r fun b hb => Rep.newTup r hb t⟩⟩
  | all =>
    unfold biR at q
    obtain ⟨ds, e, q⟩ := q.need
    obtain ⟨bs, e2, q⟩ := q.need
    obtain ⟨a, ys, rfl, sq, t⟩ := lst_rep r p e
    rw [bls_rep t e2] at sq
    exact cr_all hc pins s σ H _ us Q I rr ⟨a, bs, rfl, eK ▸ sq, q.here r (by rw [rep_bl])⟩
  | any =>
    unfold biR at q
    obtain ⟨ds, e, q⟩ := q.need
    obtain ⟨bs, e2, q⟩ := q.need
    obtain ⟨a, ys, rfl, sq, t⟩ := lst_rep r p e
    rw [bls_rep t e2] at sq
    exact cr_any hc pins s σ H _ us Q I rr ⟨a, bs, rfl, eK ▸ sq, q.here r (by rw [rep_bl])⟩
  | max =>
    unfold biR at q
    obtain ⟨ds, e, q⟩ := q.need
    obtain ⟨ns, e2, q⟩ := q.need
    obtain ⟨a, ys, rfl, sq, t⟩ := lst_rep r p e
    rw [ints_rep t e2] at sq
    by_cases hn : ns = []
    · rw [if_pos hn] at q; exact q.elim
    · rw [if_neg hn] at q
      exact cr_max hc pins s σ H _ us Q I rr ⟨a, ns, rfl, eK ▸ sq, List.length_pos_iff.mpr hn, fun m hm hl => q.here r (by rw [rep_int, maxI_eq hm hl])⟩
  | min =>
    unfold biR at q
    obtain ⟨ds, e, q⟩ := q.need
    obtain ⟨ns, e2, q⟩ := q.need
    obtain ⟨a, ys, rfl, sq, t⟩ := lst_rep r p e
    rw [ints_rep t e2] at sq
    by_cases hn : ns = []
    · rw [if_pos hn] at q; exact q.elim
    · rw [if_neg hn] at q
      exact cr_min hc pins s σ H _ us Q I rr ⟨a, ns, rfl, eK ▸ sq, List.length_pos_iff.mpr hn, fun m hm hl => q.here r (by rw [rep_int, minI_eq hm hl])⟩
  | repr =>
    unfold biR at q
    obtain ⟨c, q⟩ := q.ite
    exact cr_repr eK gd hu I rr r p c (q.here r (by rw [rep_str]))
  | sorted =>
    unfold biR at q
    simp only at q
    split at q
    · rename_i xs e
      obtain ⟨a, ys, rfl, sq, t⟩ := lst_rep r p e
      split at q
      · rename_i ns e2
        rw [ints_rep t e2] at sq
        refine cr_sortedI pins s σ H _ us Q I rr ⟨a, ns, rfl, eK ▸ sq, fun ns' b hp hs hb => ?_⟩
        have z := sortI_eq hp hs
        subst z
        exact q.new r (fun b hb => Rep.newLst r hb (reps_intsV _)) b hb
      · obtain ⟨ps, e3, q⟩ := q.need
        obtain ⟨k1, k2⟩ := prs_rep t e3
        refine cr_sortedPO pins s σ H _ us Q I rr ⟨a, ys, kPr H, rfl, eK ▸ sq, k2, fun zs b hs hst hb => ?_⟩
        have z : zs.map (kPr H) = sortP ps := by
          refine sortP_eq (by rw [← k1]; exact hst.perm.map _) ?_
          refine List.pairwise_map.mpr (List.Pairwise.imp ?_ hs)
          intro x y hxy
          have := SrtO.lexB_no.mp hxy
          exact lePr_iff.mpr (by omega)
        rw [← z] at q
        exact q.new r (fun b hb => Rep.newLst r hb (reps_prs fun y hy => k2 y (hst.perm.mem_iff.mp hy))) b hb
    · obtain ⟨ns, e, q⟩ := q.need
      obtain ⟨c, q⟩ := q.ite
      obtain ⟨a, kvs, rfl, sq, k⟩ := kIsV_rep r p e
      refine call_sortedDI hc pins s σ H _ us Q I rr ⟨a, kvs, ns, rfl, sq, k, c, fun ns' b hp hs hb => ?_⟩
      have z := sortI_eq hp hs
      subst z
      exact q.new r (fun b hb => Rep.newLst r hb (reps_intsV _)) b hb
  | str => exact q.elim
  | listK =>
    unfold biR at q
    simp only at q
    split at q
    · rename_i ks e
      obtain ⟨a, kvs, rfl, sq, k⟩ := kysV_rep r p e
      refine call_listD hc pins s σ H _ us Q I rr ⟨a, kvs, rfl, sq, fun b hb => ?_⟩
      have z := reps_kD (G := G) (μ := μ) (M := M) (H := H) ks
      rw [← k] at z q
      rw [List.map_map (f := fun kv : Key × V => kv.1) (g := kV)] at z
      exact q.new r (fun b hb => Rep.newLst r hb z) b hb
    · exact q.elim
  | sortM =>
    unfold biR at q
    simp only at q
    split at q
    · rename_i xs e
      obtain ⟨ps, e3, q⟩ := q.need
      obtain ⟨a, ys, rfl, sq, t⟩ := lst_rep r p e
      obtain ⟨k1, k2⟩ := prs_rep t e3
      refine cr_sortedPO pins s σ H _ us Q I rr ⟨a, ys, kPr H, rfl, eK ▸ sq, k2, fun zs b hs hst hb => ?_⟩
      have z : zs.map (kPr H) = sortP ps := by
        refine sortP_eq (by rw [← k1]; exact hst.perm.map _) ?_
        refine List.pairwise_map.mpr (List.Pairwise.imp ?_ hs)
        intro x y hxy
        have := SrtO.lexB_no.mp hxy
        exact lePr_iff.mpr (by omega)
      rw [← z] at q
      have t2 : Reps G μ M H ((zs.map (kPr H)).map prD) zs := reps_prs fun y hy => k2 y (hst.perm.mem_iff.mp hy)
      refine q (.ref b) _ _ _ (Le.alloc hb) (r.alloc hb ⟨zs, upd_same, Reps.le r (Le.alloc hb) _ _ t2⟩) ?_
      rw [rep_ref]
      exact ⟨b, rfl, .inl (by rw [← r.len, List.getElem?_append_right (Nat.le_refl _), Nat.sub_self]; rfl)⟩
    · exact q.elim
  | sortT =>
    unfold biR at q
    simp only at q
    split at q
    · rename_i xs e
      obtain ⟨c, q⟩ := q.ite
      obtain ⟨a, ys, rfl, sq, t⟩ := lst_rep r p e
      obtain ⟨zs, e1, e2, hz⟩ := reps_zip t
      subst e1
      rw [← e2] at sq
      refine call_sortT (v := fun z : D × V => z.2) (k := fun z => tIs z.1) (xs := zs) (by omega) I rr ⟨a, rfl, eK ▸ sq, fun z hm => ?_, fun b hb => ?_⟩
      · have k := List.all_eq_true.mp c z.1 (List.mem_map.mpr ⟨z, hm, rfl⟩)
        unfold tOk at k
        split at k
        · rename_i n ns e3
          obtain ⟨t, e4, st⟩ := tis_rep (hz z hm) e3
          refine ⟨t, e4, ?_, ?_⟩
          · show SqT X.K H t ((((tIs? z.1).getD []).map V.int))
            rw [e3]; exact eK ▸ st
          · show (tIs? z.1).getD [] ≠ []
            rw [e3]; simp
        · cases k
      · have srt : sortTD (zs.map (·.1)) = (zs.mergeSort fun a b => decide (tIs a.1 ≤ tIs b.1)).map (·.1) := (sort_fst (fun a b => decide (tIs a ≤ tIs b)) zs).symm
        rw [srt] at q
        exact q.new r (fun b hb => Rep.newLst r hb (reps_of_zip fun z hm => hz z ((List.mergeSort_perm _ _).mem_iff.mp hm))) b hb
    · exact q.elim
  | sortL => exact absurd rfl nk
open PySem.Spec in
/-- sorted(xs, key=len) -/
theorem cr_sortL (eK : X.K = G.K) (hu : X.A.units + 65 < cLine) {pins : List (Addr × Obj)} {s : Shared} {σ : L2.St} {H : Hp} {xs : List V} {us : List Value} {Q : VK} (I : Inv X pins σ H s) (rr : Vals xs us) (q0 : rBi G .sortL xs H Q) :
    wpAny (model X.prog X.w) X.A (call (.builtin "sorted") us [(Str.ofString "key", .builtin "len")]) (EP X pins σ Q) X.xe s := by
  obtain ⟨d, v, μ, M, h, e, r, p, q⟩ := q0
  subst e
  unfold biR at q
  simp only at q
  split at q
  · rename_i xs e
    obtain ⟨c, q⟩ := q.ite
    obtain ⟨a, ys, rfl, sq, t⟩ := lst_rep r p e
    obtain ⟨zs, e1, e2, hz⟩ := reps_zip t
    subst e1
    rw [← e2] at sq
    refine call_sortL (v := fun z : D × V => z.2) (k := fun z => (tlD z.1).getD 0) (xs := zs) (by omega) I rr ⟨a, rfl, eK ▸ sq, fun z hm => ?_, fun b hb => ?_⟩
    · have k := List.all_eq_true.mp c z.1 (List.mem_map.mpr ⟨z, hm, rfl⟩)
      obtain ⟨n, e3⟩ := Option.isSome_iff_exists.mp k
      obtain ⟨t, ys, e4, st, ln⟩ := tl_rep (hz z hm) e3
      refine ⟨t, ys, e4, eK ▸ st, ?_⟩
      show ys.length = (tlD z.1).getD 0
      rw [e3]; exact ln
    · have srt : sortLD (zs.map (·.1)) = (zs.mergeSort fun a b => decide ((tlD a.1).getD 0 ≤ (tlD b.1).getD 0)).map (·.1) := (sort_fst (fun a b => decide ((tlD a).getD 0 ≤ (tlD b).getD 0)) zs).symm
      rw [srt] at q
      exact q.new r (fun b hb => Rep.newLst r hb (reps_of_zip fun z hm => hz z ((List.mergeSort_perm _ _).mem_iff.mp hm))) b hb
  · exact q.elim
end
end PyI
set_option Elab.async false
set_option linter.all false
set_option maxRecDepth 100000
namespace PyI
open PySem L2
section
variable {α β γ δ : Type} {G : Glb} {μ : Mu} {M : Mk} {H : Hp} {h : Hea} {W : WX} {σ : St} {R : Mu → Mk → Hp → α → β → Prop} {R2 : Mu → Mk → Hp → γ → δ → Prop}
theorem Post.here {Wv : Value → Hp → Prop} {a : α} {b : β} {Q : β → Hp → Prop} (p : Post G R Wv μ M H (.ok a h) Q) (r : Hrel G μ M H h) (q : R μ M H a b) : Q b H := p b μ M H Le.refl r q
theorem Post.need {Wv : Value → Hp → Prop} {o : Option γ} {f : γ → Res α} {Q : β → Hp → Prop} (p : Post G R Wv μ M H (need o f) Q) : ∃ a, o = some a ∧ Post G R Wv μ M H (f a) Q := by
  cases o with
  | none => exact p.elim
  | some a => exact ⟨a, rfl, p⟩
theorem Post.ite {Wv : Value → Hp → Prop} {c : Prop} [Decidable c] {r : Res α} {Q : β → Hp → Prop} (p : Post G R Wv μ M H (if c then r else .no) Q) : c ∧ Post G R Wv μ M H r Q := by
  by_cases hc : c
  · rw [if_pos hc] at p; exact ⟨hc, p⟩
  · rw [if_neg hc] at p; exact p.elim
theorem tG.mono {f : Loc → Hea → Res α} {Q Q' : β → Hp → Prop} (p : tG G W R f σ H Q) (k : ∀ b H', Q b H' → Q' b H') : tG G W R f σ H Q' := by
  obtain ⟨μ, M, ρ, h, e, r, p⟩ := p
  exact ⟨μ, M, ρ, h, e, r, p.mono (fun _ _ z => z) k⟩
/-- from one state of the evaluator -/
theorem tG.of {f : Loc → Hea → Res α} {ρ : Loc} {Q : β → Hp → Prop} (e : Envi G μ M H ρ σ) (r : Hrel G μ M H h) (p : Post G R (fun c H' => W c none σ H') μ M H (f ρ h) Q) : tG G W R f σ H Q := ⟨μ, M, ρ, h, e, r, p⟩
/-- the rest behind a value, from one state -/
theorem tG.thn {f : Loc → Hea → Res α} {g : α → Hea → Res γ} {ρ : Loc} {Q : δ → Hp → Prop} (e : Envi G μ M H ρ σ) (r : Hrel G μ M H h) (p : Post G R2 (fun c H' => W c none σ H') μ M H ((f ρ h).bind g) Q) :
    tG G W R f σ H (fun b H1 => ∃ a μ1 M1 h1, Le μ M H μ1 M1 H1 ∧ Envi G μ1 M1 H1 ρ σ ∧ Hrel G μ1 M1 H1 h1 ∧ R μ1 M1 H1 a b ∧ Post G R2 (fun c H' => W c none σ H') μ1 M1 H1 (g a h1) Q) := by
  refine ⟨μ, M, ρ, h, e, r, p.bind.mono (fun _ _ z => z) ?_⟩
  rintro b H1 ⟨a, μ1, M1, h1, l, r1, q1, p1⟩
  exact ⟨a, μ1, M1, h1, l, e.le r l, r1, q1, p1⟩
theorem tG.congr {f f' : Loc → Hea → Res α} {Q : β → Hp → Prop} (q : tG G W R f σ H Q) (e : ∀ ρ h, f ρ h = f' ρ h) : tG G W R f' σ H Q := by
  obtain ⟨μ, M, ρ, h, e1, r, p⟩ := q
  exact ⟨μ, M, ρ, h, e1, r, e ρ h ▸ p⟩
theorem tG.out {f : Loc → Hea → Res α} {Q : β → Hp → Prop} (q : tG G W R f σ H Q) : ∃ μ M ρ h, Envi G μ M H ρ σ ∧ Hrel G μ M H h ∧ Post G R (fun c H' => W c none σ H') μ M H (f ρ h) Q := q
/-- behind one value, behind two -/
theorem tE.b1 {f : Loc → Hea → Res D} {g : Loc → D → Hea → Res γ} {Q : δ → Hp → Prop} (q : tG G W R2 (fun ρ h => (f ρ h).bind (g ρ)) σ H Q) :
    tE G W f σ H (fun b H1 => ∃ a μ M ρ h, Envi G μ M H1 ρ σ ∧ Hrel G μ M H1 h ∧ Rep G μ M H1 a b ∧ Post G R2 (fun c H' => W c none σ H') μ M H1 (g ρ a h) Q) := tG.bind q
theorem tT.b1 {f : Loc → Hea → Res Bool} {g : Loc → Bool → Hea → Res γ} {Q : δ → Hp → Prop} (q : tG G W R2 (fun ρ h => (f ρ h).bind (g ρ)) σ H Q) :
    tT G W f σ H (fun b H1 => ∃ μ M ρ h, Envi G μ M H1 ρ σ ∧ Hrel G μ M H1 h ∧ Post G R2 (fun c H' => W c none σ H') μ M H1 (g ρ b h) Q) := by
  refine tG.mono (tG.bind (R := fun _ _ _ a b => a = b) q) ?_
  rintro b H1 ⟨a, μ, M, ρ, h, e, r, rfl, p⟩
  exact ⟨μ, M, ρ, h, e, r, p⟩
theorem tA.b1 {f : Loc → Hea → Res (List D)} {g : Loc → List D → Hea → Res γ} {Q : δ → Hp → Prop} (q : tG G W R2 (fun ρ h => (f ρ h).bind (g ρ)) σ H Q) :
    tAr G W f σ H (fun b H1 => ∃ a μ M ρ h, Envi G μ M H1 ρ σ ∧ Hrel G μ M H1 h ∧ Reps G μ M H1 a b ∧ Post G R2 (fun c H' => W c none σ H') μ M H1 (g ρ a h) Q) := tG.bind q
theorem tE.b2 {f f1 : Loc → Hea → Res D} {g : Loc → D → D → Hea → Res γ} {Q : δ → Hp → Prop} (q : tG G W R2 (fun ρ h => (f ρ h).bind fun a h1 => (f1 ρ h1).bind fun b h2 => g ρ a b h2) σ H Q) :
    tE G W f σ H (fun b H1 => tE G W f1 σ H1 fun b1 H2 => ∃ a a1 μ M ρ h, Envi G μ M H2 ρ σ ∧ Hrel G μ M H2 h ∧ Rep G μ M H2 a b ∧ Rep G μ M H2 a1 b1 ∧ Post G R2 (fun c H' => W c none σ H') μ M H2 (g ρ a a1 h) Q) :=
  tG.bind2 (R := Rep G) (R1 := Rep G) stab_rep q
theorem Res.bind_assoc {α β γ : Type} (r : Res α) (f : α → Hea → Res β) (g : β → Hea → Res γ) : (r.bind f).bind g = r.bind fun a h => (f a h).bind g := by cases r <;> rfl
theorem need_bind {α β γ : Type} (o : Option α) (f : α → Res β) (g : β → Hea → Res γ) : (need o f).bind g = need o fun a => (f a).bind g := by cases o <;> rfl
theorem need_ne {α β : Type} {o : Option α} {f : α → Res β} {c : Nat} {k : Hea} (n : ∀ a, f a ≠ .err c k) : need o f ≠ .err c k := by
  cases o with
  | none => intro e; cases e
  | some a => exact n a
theorem ite_ne {β : Type} {p : Prop} [Decidable p] {r : Res β} {c : Nat} {k : Hea} (n : r ≠ .err c k) : (if p then r else .no) ≠ .err c k := by
  by_cases h : p
  · rw [if_pos h]; exact n
  · rw [if_neg h]; intro e; cases e
theorem binR_ne {o : BOp} {x y : D} {c : Nat} {k : Hea} : binR o h x y ≠ .err c k := by
  by_cases hM : o = .addM
  · subst hM
    exact need_ne fun _ => need_ne fun _ => ite_ne (fun e => by cases e)
  by_cases hL : o = .mulL
  · subst hL
    show (match y with
      | .int k => need (plnV h x) fun xs => if 0 ≤ k ∧ k ≤ 1000 ∧ xs.length ≤ 1000 then Res.ok (D.lst (List.replicate k.toNat xs).flatten) h else .no
      | _ => Res.no) ≠ _
    split
    · exact need_ne fun _ => ite_ne (fun e => by cases e)
    · intro e; cases e
  intro e
  unfold binR at e
  cases o <;> first | exact hM rfl | exact hL rfl | skip
  all_goals simp only at e
  all_goals repeat' (first | (cases e; done) | (split at e))
  all_goals first
    | (cases e; done)
    | (cases q0 : tupV x with
       | none => rw [q0] at e; cases e
       | some xs =>
         rw [q0] at e
         simp only [need_some] at e
         cases q1 : tupV y with
         | none => rw [q1] at e; cases e
         | some ys => rw [q1] at e; simp only [need_some] at e; split at e <;> (cases e; done))
    | (rename_i xs _
       cases q : tupV y with
       | none => rw [q] at e; cases e
       | some ys => rw [q] at e; simp only [need_some] at e; split at e <;> cases e)
    | (cases q0 : tupV x with
       | none => rw [q0] at e; cases e
       | some xs =>
         rw [q0] at e
         simp only [need_some] at e
         first
           | (cases e; done)
           | (split at e <;> cases e))
    | (cases q : plnV h x with
       | none => rw [q] at e; cases e
       | some xs =>
         rw [q] at e
         cases q2 : plnV h y with
         | none => rw [q2] at e; cases e
         | some ys => rw [q2] at e; simp only [need_some] at e; split at e <;> cases e)
theorem biR_ne {b : Bi} {x : D} {c : Nat} {k : Hea} : biR b h x ≠ .err c k := by
  cases b <;> unfold biR
  · simp only
    split
    · intro e; cases e
    · split
      · exact ite_ne (fun e => by cases e)
      · intro e; cases e
  · simp only; split <;> (intro e; cases e)
  · simp only; split <;> (intro e; cases e)
  · exact need_ne fun _ e => by cases e
  · exact need_ne fun _ e => by cases e
  · exact need_ne fun _ e => by cases e
  · exact need_ne fun _ => need_ne fun _ e => by cases e
  · exact need_ne fun _ => need_ne fun _ e => by cases e
  · refine need_ne fun _ => need_ne fun _ e => ?_
    split at e <;> cases e
  · refine need_ne fun _ => need_ne fun _ e => ?_
    split at e <;> cases e
  · exact ite_ne (fun e => by cases e)
  · simp only
    split
    · split
      · intro e; cases e
      · exact need_ne fun _ e => by cases e
    · exact need_ne fun _ => ite_ne (fun e => by cases e)
  · intro e; cases e
  · simp only
    split
    · exact ite_ne (fun e => by cases e)
    · intro e; cases e
  · simp only
    split
    · exact ite_ne (fun e => by cases e)
    · intro e; cases e
  · simp only
    split
    · intro e; cases e
    · intro e; cases e
  · simp only
    split
    · exact need_ne fun _ e => by cases e
    · intro e; cases e
end
section
variable {P : Program} {w : World} {base : Heap} {G : Glb} {cf : Nat → List D → Hea → Res D} {n : Nat} {N : List Str} {sc : Scope} {fo : Fo} {X : Cx} {W : WX}
variable {a b c : Expr} {fa fb fc : Loc → Hea → Res D} {pos : Pos}
theorem sv_const {v : V} {d : D} {e : Expr} (p : PE X e (tC v)) (q : ∀ μ M H, Rep G μ M H d v) : PE X e (tE G W fun _ h => .ok d h) :=
  imE p fun σ H Q ⟨μ, M, ρ, h, e, r, p⟩ => p.here r (q μ M H)
theorem sv_v (g : Good P w base G n N sc fo X) {i : Nat} {x : Str} (k : varB N sc i x = true) : PE X (.Name x pos) (tE G W fun ρ h => match ρ[i]? with | some (some d) => .ok d h | _ => .no) := by
  obtain ⟨h1, h2, h3, h4⟩ := varB_vis k
  refine imE (pe_var (i := i) (by rw [g.N]; exact h1) (by rw [g.sc]; exact h2) h3 h4) fun σ H Q q => ?_
  obtain ⟨μ, M, ρ, h, e, r, p⟩ := q.out
  split at p
  · rename_i d q
    obtain ⟨v, hv, hr⟩ := e.at_ i d q
    exact ⟨v, hv, p.here r hr⟩
  · exact p.elim
theorem sv_gc (F : Facts P w base G cf n) (g : Good P w base G n N sc fo X) {i : Nat} {p : Str × D} {x : Str} (ei : G.T.cn i = some p) (ex : p.1 = x) (k : glB sc x = true) :
    PE X (.Name x pos) (tE G W fun _ h => match G.T.cn i with | some p => .ok p.2 h | none => .no) := by
  obtain ⟨u, v, hm, rv, hr⟩ := F.cns i p ei
  rw [ex] at hm
  rw [ei]
  exact sv_const (pe_glob (g.gl k) (by rw [g.mg]; exact hm) rv (glB_gl k).2.1) hr
theorem sv_gf (F : Facts P w base G cf n) (g : Good P w base G n N sc fo X) {i : Nat} {fn : Fn} {x : Str} (ei : G.T.fn i = some fn) (ex : fn.name = x) (k : glB sc x = true) :
    PE X (.Name x pos) (tE G W fun _ h => match G.T.fn i with | some _ => .ok (.fn i) h | none => .no) := by
  obtain ⟨f, fd, ps, hm, _⟩ := F.fns i fn ei
  have hm2 := hm
  rw [ex] at hm
  rw [ei]
  exact sv_const (v := .ref f) (pe_glob (g.gl k) (by rw [g.mg]; exact hm) rfl (glB_gl k).2.1) fun μ M H => by rw [rep_fn]; exact ⟨f, fn, rfl, ei, hm2⟩
theorem sv_bin (g : Good P w base G n N sc fo X) {o : BOp} (ha : PE X a (tE G W fa)) (hb : PE X b (tE G W fb)) :
    PE X (.BinOp a o.op b pos) (tE G W fun ρ h => (fa ρ h).bind fun x h1 => (fb ρ h1).bind fun y h2 => binR o h2 x y) := by
  refine imE (pe_op (op_bin o g.K) ha hb) fun σ H Q q => ?_
  refine tG.mono (tE.b2 q) ?_
  exact fun x H1 z => z.mono fun y H2 ⟨d, e, μ, M, ρ, h, _, r, pa, pb, p⟩ => ⟨d, e, μ, M, h, r, pa, pb, p.toV fun c k => binR_ne⟩
theorem sv_neg (ha : PE X a (tE G W fa)) : PE X (.UnaryOp .USub a pos) (tE G W fun ρ h => (fa ρ h).bind fun x h1 => match x with | .int i => .ok (.int (-i)) h1 | _ => .no) := by
  refine imE (pe_un un_neg ha) fun σ H Q q => ?_
  refine tG.mono (tE.b1 q) ?_
  rintro v H1 ⟨d, μ, M, ρ, h, e, r, pa, p⟩
  split at p
  · rw [rep_int] at pa
    exact ⟨_, pa, p.here r (by rw [rep_int])⟩
  · exact p.elim
theorem sv_nt (g : Good P w base G n N sc fo X) (ha : PE X a (tE G W fa)) : PE X (.UnaryOp .Not a pos) (tE G W fun ρ h => (fa ρ h).bind fun x h1 => need (trueR h1 x) fun k => .ok (.bl !k) h1) := by
  refine imE (pe_notT ha) fun σ H Q q => ?_
  refine tG.mono (tE.b1 q) ?_
  rintro v H1 ⟨d, μ, M, ρ, h, e, r, pa, p⟩
  obtain ⟨k, ek, p⟩ := p.need
  exact ⟨k, by rw [g.K]; exact true_rep r pa ek, p.here r (by rw [rep_bl])⟩
theorem sv_cmp (g : Good P w base G n N sc fo X) {o : COp} (ha : PE X a (tE G W fa)) (hb : PE X b (tE G W fb)) (hm : behindInMarks o.op b = false) :
    PE X (.Compare a [o.op] [b] pos) (tE G W fun ρ h => ((fa ρ h).bind fun x h1 => (fb ρ h1).bind fun y h2 => need (cmpR o h2 x y) fun k => .ok k h2).bind fun k h1 => .ok (.bl k) h1) := by
  refine imE (pe_cmpR (op_cmp o g.K g.hu) ha hb hm) fun σ H Q q => ?_
  have q2 : tE G W (fun ρ h => (fa ρ h).bind fun x h1 => (fb ρ h1).bind fun y h2 => need (cmpR o h2 x y) fun k => .ok (.bl k) h2) σ H Q := tG.congr q fun ρ h => by simp only [Res.bind_assoc, need_bind, Res.bind_ok]
  refine tG.mono (tE.b2 q2) ?_
  exact fun x H1 z => z.mono fun y H2 ⟨d, e, μ, M, ρ, h, _, r, pa, pb, p⟩ => by
    obtain ⟨k, ek, p⟩ := p.need
    exact ⟨d, e, μ, M, h, k, r, pa, pb, ek, p.here r (by rw [rep_bl])⟩
theorem st_cmp (g : Good P w base G n N sc fo X) {o : COp} (ha : PE X a (tE G W fa)) (hb : PE X b (tE G W fb)) (hm : behindInMarks o.op b = false) :
    PT X (.Compare a [o.op] [b] pos) (tT G W fun ρ h => (fa ρ h).bind fun x h1 => (fb ρ h1).bind fun y h2 => need (cmpR o h2 x y) fun k => .ok k h2) := by
  refine imT (pt_cmpR (op_cmp o g.K g.hu) ha hb hm) fun σ H Q q => ?_
  refine tG.mono (tE.b2 q) ?_
  exact fun x H1 z => z.mono fun y H2 ⟨d, e, μ, M, ρ, h, _, r, pa, pb, p⟩ => by
    obtain ⟨k, ek, p⟩ := p.need
    exact ⟨d, e, μ, M, h, k, r, pa, pb, ek, k, rfl, p.here r rfl⟩
theorem st_plain (g : Good P w base G n N sc fo X) (pl : plainB a = true) (ha : PE X a (tE G W fa)) : PT X a (tT G W fun ρ h => (fa ρ h).bind fun x h1 => need (trueR h1 x) fun k => .ok k h1) := by
  refine imT (pt_truth ha (plain_true pl X.env)) fun σ H Q q => ?_
  refine tG.mono (tE.b1 q) ?_
  rintro v H1 ⟨d, μ, M, ρ, h, e, r, pa, p⟩
  obtain ⟨k, ek, p⟩ := p.need
  exact ⟨k, by rw [g.K]; exact true_rep r pa ek, p.here r rfl⟩
def chnR (o p : COp) (fa fb fc : Loc → Hea → Res D) (ρ : Loc) (h : Hea) : Res Bool :=
  (fa ρ h).bind fun x h1 => (fb ρ h1).bind fun y h2 => need (cmpR o h2 x y) fun k => if k then (fc ρ h2).bind fun z h3 => need (cmpR p h3 y z) fun k2 => .ok k2 h3 else .ok false h2
theorem chn_read (g : Good P w base G n N sc fo X) {o p : COp} {σ : St} {H : Hp} {Q : Bool → Hp → Prop} (q : tT G W (chnR o p fa fb fc) σ H Q) {Q2 : VK} (hQ : ∀ k H', Q k H' → Q2 (.bl k) H') :
    tChain (rCmp G o) (rCmp G p) (tE G W fa) (tE G W fb) (tE G W fc) σ H Q2 := by
  refine tG.mono (tE.b2 q) ?_
  exact fun x H1 z => z.mono fun y H2 ⟨d, d2, μ, M, ρ, h, e, r, pa, pb, p⟩ => by
    obtain ⟨k, ek, p⟩ := p.need
    refine ⟨d, d2, μ, M, h, k, r, pa, pb, ek, k, rfl, ?_⟩
    cases k with
    | false => exact hQ _ _ (p.here r rfl)
    | true =>
      refine tG.mono (tG.thn (f := fc) e r p) ?_
      rintro v H3 ⟨d3, μ1, M1, h1, l, e1, r1, pc, p1⟩
      obtain ⟨k2, ek2, p1⟩ := p1.need
      exact ⟨d2, d3, μ1, M1, h1, k2, r1, Rep.le r l _ _ pb, pc, ek2, hQ _ _ (p1.here r1 rfl)⟩
theorem lastMarks2 {o p : CmpOp} : lastMarks [o, p] [b, c] = behindInMarks p c := rfl
theorem st_chn (g : Good P w base G n N sc fo X) {o p : COp} (ha : PE X a (tE G W fa)) (hb : PE X b (tE G W fb)) (hc : PE X c (tE G W fc)) (hm : behindInMarks p.op c = false) :
    PT X (.Compare a [o.op, p.op] [b, c] pos) (tT G W (chnR o p fa fb fc)) :=
  imT (pt_chain (op_cmp o g.K g.hu) (op_cmp p g.K g.hu) ha hb hc (lastMarks2.trans hm)) fun σ H Q q => chn_read g q fun k H' q => ⟨k, rfl, q⟩
theorem sv_chn (g : Good P w base G n N sc fo X) {o p : COp} (ha : PE X a (tE G W fa)) (hb : PE X b (tE G W fb)) (hc : PE X c (tE G W fc)) (hm : behindInMarks p.op c = false) :
    PE X (.Compare a [o.op, p.op] [b, c] pos) (tE G W fun ρ h => (chnR o p fa fb fc ρ h).bind fun k h1 => .ok (.bl k) h1) := by
  refine imE (pe_chain (op_cmp o g.K g.hu) (op_cmp p g.K g.hu) ha hb hc (lastMarks2.trans hm)) fun σ H Q q => ?_
  refine chn_read g (Q := fun k H' => Q (.bl k) H') ?_ fun k H' q => q
  obtain ⟨μ, M, ρ, h, e, r, q⟩ := q.out
  refine ⟨μ, M, ρ, h, e, r, ?_⟩
  generalize chnR o p fa fb fc ρ h = z at q ⊢
  cases z with
  | no => exact q
  | err c k => exact q
  | ok k h1 =>
    intro k' μ' M' H' l r' ek
    cases ek
    exact q (.bl k) μ' M' H' l r' (by rw [rep_bl])
variable {rest : List Expr} {ta tb : Loc → Hea → Res Bool}
theorem sv_and (g : Good P w base G n N sc fo X) (ha : PE X a (tE G W fa)) (hb : PE X (.BoolOp .And (b :: rest) pos) (tE G W fb)) :
    PE X (.BoolOp .And (a :: b :: rest) pos) (tE G W fun ρ h => (fa ρ h).bind fun x h1 => need (trueR h1 x) fun k => if k then fb ρ h1 else .ok x h1) := by
  refine imE (pe_andT ha hb) fun σ H Q q => ?_
  refine tG.mono (tE.b1 q) ?_
  rintro v H1 ⟨d, μ, M, ρ, h, e, r, pa, p⟩
  obtain ⟨k, ek, p⟩ := p.need
  refine ⟨k, by rw [g.K]; exact true_rep r pa ek, ?_⟩
  cases k with
  | true => exact ⟨μ, M, ρ, h, e, r, p⟩
  | false => exact p.here r pa
theorem sv_or (g : Good P w base G n N sc fo X) (ha : PE X a (tE G W fa)) (hb : PE X (.BoolOp .Or (b :: rest) pos) (tE G W fb)) :
    PE X (.BoolOp .Or (a :: b :: rest) pos) (tE G W fun ρ h => (fa ρ h).bind fun x h1 => need (trueR h1 x) fun k => if k then .ok x h1 else fb ρ h1) := by
  refine imE (pe_orT ha hb) fun σ H Q q => ?_
  refine tG.mono (tE.b1 q) ?_
  rintro v H1 ⟨d, μ, M, ρ, h, e, r, pa, p⟩
  obtain ⟨k, ek, p⟩ := p.need
  refine ⟨k, by rw [g.K]; exact true_rep r pa ek, ?_⟩
  cases k with
  | false => exact ⟨μ, M, ρ, h, e, r, p⟩
  | true => exact p.here r pa
theorem st_and (ha : PT X a (tT G W ta)) (hb : PW X (.BoolOp .And (b :: rest) pos) (tT G W tb)) :
    PW X (.BoolOp .And (a :: b :: rest) pos) (tT G W fun ρ h => (ta ρ h).bind fun k h1 => if k then tb ρ h1 else .ok false h1) := by
  refine imW (pw_and ha hb) fun σ H Q q => ?_
  refine tG.mono (tT.b1 q) ?_
  rintro k H1 ⟨μ, M, ρ, h, e, r, p⟩
  cases k with
  | true => exact ⟨μ, M, ρ, h, e, r, p⟩
  | false => exact p.here r rfl
theorem st_or (ha : PT X a (tT G W ta)) (hb : PW X (.BoolOp .Or (b :: rest) pos) (tT G W tb)) :
    PW X (.BoolOp .Or (a :: b :: rest) pos) (tT G W fun ρ h => (ta ρ h).bind fun k h1 => if k then .ok true h1 else tb ρ h1) := by
  refine imW (pw_or ha hb) fun σ H Q q => ?_
  refine tG.mono (tT.b1 q) ?_
  rintro k H1 ⟨μ, M, ρ, h, e, r, p⟩
  cases k with
  | false => exact ⟨μ, M, ρ, h, e, r, p⟩
  | true => exact p.here r rfl
theorem st_nt (ha : PT X a (tT G W ta)) : PT X (.UnaryOp .Not a pos) (tT G W fun ρ h => (ta ρ h).bind fun k h1 => .ok (!k) h1) := by
  refine imT (pt_not ha) fun σ H Q q => ?_
  refine tG.mono (tT.b1 q) ?_
  rintro k H1 ⟨μ, M, ρ, h, e, r, p⟩
  exact p.here r rfl
theorem sv_ite {tc : Loc → Hea → Res Bool} (hc : PT X c (tT G W tc)) (ha : PE X a (tE G W fa)) (hb : PE X b (tE G W fb)) :
    PE X (.IfExp c a b pos) (tE G W fun ρ h => (tc ρ h).bind fun k h1 => if k then fa ρ h1 else fb ρ h1) := by
  refine imE (pe_ifExp hc ha hb) fun σ H Q q => ?_
  refine tG.mono (tT.b1 q) ?_
  rintro k H1 ⟨μ, M, ρ, h, e, r, p⟩
  cases k with
  | true => exact ⟨μ, M, ρ, h, e, r, p⟩
  | false => exact ⟨μ, M, ρ, h, e, r, p⟩
theorem st_ite {tc ta tb : Loc → Hea → Res Bool} (hc : PT X c (tT G W tc)) (ha : PT X a (tT G W ta)) (hb : PT X b (tT G W tb)) :
    PT X (.IfExp c a b pos) (tT G W fun ρ h => (tc ρ h).bind fun k h1 => if k then ta ρ h1 else tb ρ h1) := by
  refine ⟨fun pins s σ H Q I q => ?_⟩
  show wpAny _ _ (do if ← isTrue c X.env (eval c X.env) then isTrue a X.env (eval a X.env) else isTrue b X.env (eval b X.env)) _ _ s
  refine wpAny_bind (thn (hc.run pins s σ H _ I (tT.b1 q)) fun k s1 z => ?_)
  obtain ⟨H1, I1, μ, M, ρ, h, e, r, p⟩ := z
  cases k with
  | true => exact ha.run pins s1 σ H1 Q I1 ⟨μ, M, ρ, h, e, r, p⟩
  | false => exact hb.run pins s1 σ H1 Q I1 ⟨μ, M, ρ, h, e, r, p⟩
end
end PyI
set_option Elab.async false
set_option linter.all false
set_option maxRecDepth 100000
namespace PyI
open PySem L2
section
variable {α β γ δ : Type} {G : Glb} {μ : Mu} {M : Mk} {H : Hp} {h : Hea} {W : WX} {σ : St} {R2 : Mu → Mk → Hp → γ → δ → Prop}
theorem tG.split (p : D → Hea → Bool) {f f1 : Loc → Hea → Res D} {g : Loc → D → D → Hea → Res γ} {Q : δ → Hp → Prop} (q : tG G W R2 (fun ρ h => (f ρ h).bind fun a h1 => (f1 ρ h1).bind fun b h2 => g ρ a b h2) σ H Q) :
    tG G W R2 (fun ρ h => (f ρ h).bind fun a h1 => (f1 ρ h1).bind fun b h2 => if p a h2 = true then g ρ a b h2 else .no) σ H Q ∨ tG G W R2 (fun ρ h => (f ρ h).bind fun a h1 => (f1 ρ h1).bind fun b h2 => if p a h2 = false then g ρ a b h2 else .no) σ H Q := by
  obtain ⟨μ, M, ρ, h, e, r, q⟩ := q.out
  cases ef : f ρ h with
  | no => rw [ef] at q; exact q.elim
  | err c k => rw [ef] at q; exact .inl (tG.of e r (by rw [ef]; exact q))
  | ok a h1 =>
    rw [ef, Res.bind_ok] at q
    cases ef1 : f1 ρ h1 with
    | no => rw [ef1] at q; exact q.elim
    | err c k => rw [ef1] at q; exact .inl (tG.of e r (by rw [ef, Res.bind_ok, ef1]; exact q))
    | ok b h2 =>
      rw [ef1, Res.bind_ok] at q
      cases ep : p a h2 with
      | true => exact .inl (tG.of e r (by rw [ef, Res.bind_ok, ef1, Res.bind_ok, if_pos ep]; exact q))
      | false => exact .inr (tG.of e r (by rw [ef, Res.bind_ok, ef1, Res.bind_ok, if_pos ep]; exact q))
theorem tA.b2 {f : Loc → Hea → Res D} {f1 : Loc → Hea → Res (List D)} {g : Loc → D → List D → Hea → Res γ} {Q : δ → Hp → Prop} (q : tG G W R2 (fun ρ h => (f ρ h).bind fun a h1 => (f1 ρ h1).bind fun b h2 => g ρ a b h2) σ H Q) :
    tE G W f σ H (fun b H1 => tAr G W f1 σ H1 fun b1 H2 => ∃ a a1 μ M ρ h, Envi G μ M H2 ρ σ ∧ Hrel G μ M H2 h ∧ Rep G μ M H2 a b ∧ Reps G μ M H2 a1 b1 ∧ Post G R2 (fun c H' => W c none σ H') μ M H2 (g ρ a a1 h) Q) :=
  tG.bind2 (R := Rep G) (R1 := Reps G) stab_rep q
/-- a new changeable object is told -/
theorem Post.alloc {Wv : Value → Hp → Prop} {u : MO} {o : HO} {Q : VK} {p : Addr} (q : Post G (Rep G) Wv μ M H (allocR u h) Q) (r : Hrel G μ M H h) (hp : H p = none)
    (m : MRep G (μ ++ [some p]) (fun a => M a ∨ a = p) (upd H p o) p u) : Q (.ref p) (upd H p o) := by
  refine q (.ref p) _ _ _ (Le.alloc hp) (r.alloc hp m) ?_
  rw [rep_ref]
  exact ⟨p, rfl, .inl (by rw [← r.len, List.getElem?_append_right (Nat.le_refl _), Nat.sub_self]; rfl)⟩
theorem frz_post {Wv : Value → Hp → Prop} {d : D} {v : V} {Q : VK} (p : Post G (Rep G) Wv μ M H (frzR h d) Q) (r : Hrel G μ M H h) (q : Rep G μ M H d v) : Q v H := by
  unfold frzR at p
  split at p
  · rename_i n
    split at p
    · rename_i xs e
      obtain ⟨a, rfl, hn, ys, s, t⟩ := r.at_ q e (by intro z; cases z)
      exact p (.ref a) _ _ _ (Le.die hn) (r.die hn) (by rw [rep_lst]; exact ⟨a, ys, rfl, s, fun z => z.2 rfl, Reps.le r (Le.die hn) _ _ t⟩)
    · rename_i ks ds e
      obtain ⟨a, rfl, hn, ys, s, k, t⟩ := r.at_ q e (by intro z; cases z)
      exact p (.ref a) _ _ _ (Le.die hn) (r.die hn) (by rw [rep_dK]; exact ⟨a, ys, rfl, .inl s, fun z => z.2 rfl, k, Reps.le r (Le.die hn) _ _ t⟩)
    · rename_i ks ds e
      obtain ⟨a, rfl, hn, ys, s, k, t⟩ := r.at_ q e (by intro z; cases z)
      exact p (.ref a) _ _ _ (Le.die hn) (r.die hn) (by rw [rep_dT]; exact ⟨a, ys, rfl, .inl s, fun z => z.2 rfl, k, Reps.le r (Le.die hn) _ _ t⟩)
    · exact p.elim
  · exact p.here r q
theorem subR_seq {x y d : D} {xs : List D} (e : seqV h x = some xs) (q : subR h x y = some d) : ∃ i, intV y = some i ∧ atI xs i = some d := by
  unfold subR at q
  rw [e] at q
  exact Option.bind_eq_some_iff.mp q
theorem atI_rep {ds : List D} {xs : List V} {i : Int} {d : D} (q : Reps G μ M H ds xs) (e : atI ds i = some d) : ∃ v, atI xs i = some v ∧ Rep G μ M H d v := by
  unfold atI at e ⊢
  rw [q.length]
  revert e
  generalize ixN ds.length i = k
  cases k with
  | none => intro e; cases e
  | some j => exact fun e => q.get e
theorem plain_to {pos : Pos} {ts : List (Bool × Sem Value)} (h : ts.any (·.1) = false) : backTo pos ts = ts := by
  unfold backTo
  induction ts with
  | nil => rfl
  | cons t r ih =>
    have h' : t.1 = false ∧ r.any (·.1) = false := by simpa using h
    obtain ⟨s, t⟩ := t
    have : s = false := h'.1
    subst this
    rw [List.map_cons, ih h'.2]; rfl
end
section
variable {P : Program} {w : World} {base : Heap} {G : Glb} {cf : Nat → List D → Hea → Res D} {n : Nat} {N : List Str} {sc : Scope} {fo : Fo} {X : Cx} {W : WX}
variable {a b c : Expr} {es : List Expr} {fa fb fc : Loc → Hea → Res D} {fs : Loc → Hea → Res (List D)} {pos : Pos}
theorem sv_nil : PA X [] (tAr G W fun _ h => .ok [] h) := imA pa_nil fun σ H Q q => by
  obtain ⟨μ, M, ρ, h, e, r, p⟩ := q.out
  exact p.here r Reps.nil
theorem sv_cons (ha : PE X a (tE G W fa)) (hr : PA X es (tAr G W fs)) (hs : starEach (a :: es) X.env = (false, eval a X.env) :: starEach es X.env) :
    PA X (a :: es) (tAr G W fun ρ h => (fa ρ h).bind fun x h1 => (fs ρ h1).bind fun xs h2 => .ok (x :: xs) h2) := by
  refine imA (pa_cons ha hr hs) fun σ H Q q => ?_
  refine tG.mono (tA.b2 q) ?_
  exact fun v H1 z => z.mono fun vs H2 ⟨d, ds, μ, M, ρ, h, e, r, pa, pb, p⟩ => p.here r (pb.cons pa |> fun x => x)
theorem sv_tup {x1} (hs : PA X es (tAr G W fs)) : PE X (.Tuple es x1 pos) (tE G W fun ρ h => (fs ρ h).bind fun xs h1 => if xs.length ≤ sizeLine then .ok (.tup xs) h1 else .no) := by
  refine imE (pe_tup hs) fun σ H Q q => ?_
  refine tG.mono (tA.b1 q) ?_
  rintro vs H1 ⟨ds, μ, M, ρ, h, e, r, pa, p⟩
  obtain ⟨z, p⟩ := p.ite
  exact ⟨by rw [pa.length]; exact z, fun a ha => p (.ref a) μ M _ (Le.fresh ha) (r.fresh ha) (Rep.newTup r ha pa)⟩
theorem sv_tupK {x1} (hs : PA X es (tAr G W fs)) : PE X (.Tuple es x1 pos) (tE G W fun ρ h => (fs ρ h).bind fun xs h1 => if xs.length ≤ sizeLine then .ok (.plc xs) h1 else .no) := by
  refine imE (pe_tup hs) fun σ H Q q => ?_
  refine tG.mono (tA.b1 q) ?_
  rintro vs H1 ⟨ds, μ, M, ρ, h, e, r, pa, p⟩
  obtain ⟨z, p⟩ := p.ite
  exact ⟨by rw [pa.length]; exact z, fun a ha => p (.ref a) μ M _ (Le.fresh ha) (r.fresh ha) (Rep.newPlc r ha pa)⟩
theorem sv_lst (hs : PA X es (tAr G W fs)) : PE X (.List es pos) (tE G W fun ρ h => (fs ρ h).bind fun xs h1 => if xs.length ≤ sizeLine then .ok (.lst xs) h1 else .no) := by
  refine imE (pe_lst hs) fun σ H Q q => ?_
  refine tG.mono (tA.b1 q) ?_
  rintro vs H1 ⟨ds, μ, M, ρ, h, e, r, pa, p⟩
  obtain ⟨z, p⟩ := p.ite
  exact ⟨by rw [pa.length]; exact z, fun a ha => p (.ref a) μ M _ (Le.fresh ha) (r.fresh ha) (Rep.newLst r ha pa)⟩
theorem sv_lstM (hs : PA X es (tAr G W fs)) : PE X (.List es pos) (tE G W fun ρ h => (fs ρ h).bind fun xs h1 => if xs.length ≤ sizeLine then allocR (.lst xs) h1 else .no) := by
  refine imE (pe_lst hs) fun σ H Q q => ?_
  refine tG.mono (tA.b1 q) ?_
  rintro vs H1 ⟨ds, μ, M, ρ, h, e, r, pa, p⟩
  obtain ⟨z, p⟩ := p.ite
  exact ⟨by rw [pa.length]; exact z, fun a ha => p.alloc r ha ⟨vs, upd_same, Reps.le r (Le.alloc ha) _ _ pa⟩⟩
theorem sv_dnewK : PE X (.Dict [] [] pos) (tE G W fun _ h => allocR (.dK [] []) h) := by
  refine imE pe_dnewK fun σ H Q q => ?_
  obtain ⟨μ, M, ρ, h, e, r, p⟩ := q.out
  exact fun a ha => p.alloc r ha ⟨[], upd_same, rfl, Reps.nil⟩
theorem sv_dnewT : PE X (.Dict [] [] pos) (tE G W fun _ h => allocR (.dT [] []) h) := by
  refine imE pe_dnewT fun σ H Q q => ?_
  obtain ⟨μ, M, ρ, h, e, r, p⟩ := q.out
  exact fun a ha => p.alloc r ha ⟨[], upd_same, rfl, Reps.nil⟩
theorem sv_frz (ha : PE X a (tE G W fa)) : PE X a (tE G W fun ρ h => (fa ρ h).bind fun x h1 => frzR h1 x) := by
  refine imE ha fun σ H Q q => ?_
  refine tG.mono (tE.b1 q) ?_
  rintro v H1 ⟨d, μ, M, ρ, h, e, r, pa, p⟩
  exact frz_post p r pa
theorem sv_sub (g : Good P w base G n N sc fo X) (ha : PE X a (tE G W fa)) (hb : PE X b (tE G W fb)) (hs : PlainIx b) :
    PE X (.Subscript a b pos) (tE G W fun ρ h => (fa ρ h).bind fun x h1 => (fb ρ h1).bind fun y h2 => need (subR h2 x y) fun d => .ok d h2) := by
  refine imE (orE (pe_ix ix_seq ha hb hs) (pe_dget g.hu1 ha hb hs)) fun σ H Q q => ?_
  rcases tG.split (fun x h => (seqV h x).isSome) q with q | q
  · refine .inl (tG.mono (tE.b2 q) ?_)
    exact fun v H1 z => z.mono fun u H2 ⟨d, d2, μ, M, ρ, h, e, r, pa, pb, p⟩ => by
      obtain ⟨c, p⟩ := p.ite
      obtain ⟨y, ey, p⟩ := p.need
      obtain ⟨xs, ex⟩ := Option.isSome_iff_exists.mp c
      obtain ⟨i, ei, ej⟩ := subR_seq ex ey
      obtain ⟨p', vs, rfl, sq, t⟩ := seq_rep r pa ex
      obtain ⟨z, ez, rz⟩ := atI_rep t ej
      have eu := int_rep pb ei
      subst eu
      rw [g.K]
      rcases sq with sq | sq
      · exact .inl ⟨p', vs, i, z, rfl, rfl, sq, ez, p.here r rz⟩
      · exact .inr (.inl ⟨p', vs, i, z, rfl, rfl, sq, ez, p.here r rz⟩)
  · refine .inr (tG.mono (tE.b2 q) ?_)
    exact fun v H1 z => z.mono fun u H2 ⟨d, d2, μ, M, ρ, h, e, r, pa, pb, p⟩ => by
      obtain ⟨c, p⟩ := p.ite
      obtain ⟨y, ey, p⟩ := p.need
      unfold subR at ey
      have c' : seqV h d = none := by simpa using c
      rw [c'] at ey
      obtain ⟨o, eo, e2⟩ := Option.bind_eq_some_iff.mp (show (dctGet h d d2).bind id = some y from ey)
      cases (show o = some y from e2)
      obtain ⟨q', w', rfl, isd, dg, rw'⟩ := dctGet_rep r pa pb eo
      cases w' with
      | none => exact rw'.elim
      | some w' => exact ⟨q', w', rfl, dg, p.here r rw'⟩
theorem sv_bi (F : Facts P w base G cf n) (g : Good P w base G n N sc fo X) {bi : Bi} (nk : bi ≠ .sortL) {x : Str} {p : Pos} (ex : x = bi.nm) (k : glB sc x = true) (ha : PE X a (tE G W fa))
    (hs : starEach [a] X.env = (false, eval a X.env) :: starEach [] X.env) :
    PE X (.Call (.Name x p) [a] [] pos) (tE G W fun ρ h => (fa ρ h).bind fun x h1 => biR bi h1 x) := by
  have hg := g.gl k
  have hm : X.mg x = none := by rw [g.mg, ex]; exact F.blt _ (bi_free bi)
  have hv : bootBuiltins x = some bi.val := by rw [ex]; exact bi_boot bi
  have cr := cr_bi (G := G) (X := X) bi nk g.K g.calm g.gd g.hu
  have ar : PA X [a] (tCons (tE G W fa) tNil) := pa_cons ha pa_nil hs
  have key : PE X (.Call (.Name x p) [a] [] pos) (tCB (rBi G bi) (tCons (tE G W fa) tNil)) := by
    unfold Bi.val at hv cr
    by_cases t : bi.isTy = true
    · rw [if_pos t] at hv cr
      exact pe_callTy cr hg hm hv ar (glB_gl k).2.2 (glB_gl k).2.1 hs rfl
    · rw [if_neg t] at hv cr
      exact pe_callB cr hg hm hv ar (glB_gl k).2.2 (glB_gl k).2.1 hs rfl
  refine imE key fun σ H Q q => ?_
  refine tG.mono (tE.b1 q) ?_
  rintro v H1 ⟨d, μ, M, ρ, h, e, r, pa, p⟩
  exact ⟨d, v, μ, M, h, rfl, r, pa, p.toV fun _ _ => biR_ne⟩
open PySem.Spec PyProof.Rows in
theorem sv_sortL (F : Facts P w base G cf n) (g : Good P w base G n N sc fo X) {x z : Str} {p zp kp : Pos} (ex : x = Bi.sortL.nm) (k : glB sc x = true) (ez : z = "len") (kz : glB sc z = true) (ha : PE X a (tE G W fa))
    (hs : starEach [a] X.env = (false, eval a X.env) :: starEach [] X.env) :
    PE X (.Call (.Name x p) [a] [⟨some "key", .Name z zp, kp⟩] pos) (tE G W fun ρ h => (fa ρ h).bind fun x h1 => biR .sortL h1 x) := by
  have hg := g.gl k
  have hgz := g.gl kz
  have hm : X.mg x = none := by rw [g.mg, ex]; exact F.blt _ (bi_free .sortL)
  have hmz : X.mg z = none := by rw [g.mg, ez]; exact F.blt _ (bi_free .len)
  have hv : bootBuiltins x = some (.builtin "sorted") := by rw [ex]; exact bi_boot .sortL
  have hvz : bootBuiltins z = some (.builtin "len") := by rw [ez]; exact bi_boot .len
  have ar : PA X [a] (tCons (tE G W fa) tNil) := pa_cons ha pa_nil hs
  have key : PE X (.Call (.Name x p) [a] [⟨some "key", .Name z zp, kp⟩] pos) (tCB (rBi G .sortL) (tCons (tE G W fa) tNil)) := by
    refine ⟨fun pins s σ H Q I h => ?_⟩
    refine wpAny_Call_Name_kw (ld_blt I hg hm hv ?_ (glB_gl k).2.2 (glB_gl k).2.1)
    refine PyProof.Rows.callWith_kw (thn (ar.run pos pins s σ H _ I h) fun us s1 ⟨vs, H1, I1, r1, q1⟩ => ?_) (by rw [hs]; rfl) (by rw [hs]; rfl) (by rfl) (by rfl)
    show wpAny _ _ (evalAll ((do let v ← eval (.Name z zp) X.env; standAt pos; pure v) :: [])) _ _ s1
    refine wpAny_evalAll_cons (wpAny_bind (ld_blt I1 hgz hmz hvz (wpAny_bind (wpAny_standAt (wpAny_pure ?_))) (glB_gl kz).2.2 (glB_gl kz).2.1))
    exact wpAny_evalAll_nil (cr_sortL g.K g.hu I1 r1 q1)
  refine imE key fun σ H Q q => ?_
  refine tG.mono (tE.b1 q) ?_
  rintro v H1 ⟨d, μ, M, ρ, h, e, r, pa, p⟩
  exact ⟨d, v, μ, M, h, rfl, r, pa, p.toV fun _ _ => biR_ne⟩
def Ty.val (t : Ty) : Value := .type t.nm
theorem ty_boot (t : Ty) : bootBuiltins t.nmS = some t.val := by cases t <;> decide +kernel
theorem ty_free (t : Ty) : t.nmS ∈ bltNames := by cases t <;> decide +kernel
theorem sv_isi (F : Facts P w base G cf n) (g : Good P w base G n N sc fo X) {t : Ty} {x z : Str} {p p2 : Pos} (ex : x = "isinstance") (k : glB sc x = true) (ez : z = t.nmS) (k2 : glB sc z = true) (ha : PE X a (tE G W fa))
    (hs : starEach [a, .Name z p2] X.env = (false, eval a X.env) :: starEach [.Name z p2] X.env) :
    PE X (.Call (.Name x p) [a, .Name z p2] [] pos) (tE G W fun ρ h => (fa ρ h).bind fun x h1 => need (isiR h1 x t) fun k => .ok (.bl k) h1) := by
  have hm : X.mg x = none := by rw [g.mg, ex]; exact F.blt _ (by decide +kernel)
  have hv : bootBuiltins x = some (.builtin "isinstance") := by rw [ex]; decide +kernel
  have h2 : PE X (.Name z p2) (tC (.ty t.nm)) := pe_bltn (g.gl k2) (by rw [g.mg, ez]; exact F.blt _ (ty_free t)) (by rw [ez]; exact ty_boot t) rfl (glB_gl k2).2.2 (glB_gl k2).2.1
  have ar : PA X [a, .Name z p2] (tCons (tE G W fa) (tCons (tC (.ty t.nm)) tNil)) := pa_cons ha (pa_cons h2 pa_nil rfl) hs
  refine imE (pe_callB call_isi (g.gl k) hm hv ar (glB_gl k).2.2 (glB_gl k).2.1 hs rfl) fun σ H Q q => ?_
  refine tG.mono (tE.b1 q) ?_
  rintro v H1 ⟨d, μ, M, ρ, h, e, r, pa, p⟩
  obtain ⟨kk, ek, p⟩ := p.need
  obtain ⟨T, ty, kb⟩ := isi_rep r pa ek
  exact ⟨v, .ty t.nm, .type T, .type t.nm, kk, rfl, .ty _, g.K ▸ ty, kb, p.here r (by rw [rep_bl])⟩
/-- a slice's part, by the evaluator -/
def tPa (G : Glb) (W : WX) (f : Loc → Hea → Res (List D)) : TO := tG G W (fun _ _ _ a b => a = b) fun ρ h => (f ρ h).bind fun l h1 => need (partV l) fun l => .ok l h1
theorem imO {e : Option Expr} {t t' : TO} (p : PO X e t) (i : ∀ σ H Q, t' σ H Q → t σ H Q) : PO X e t' := ⟨fun pins s σ H Q I h => p.run pins s σ H Q I (i σ H Q h)⟩
theorem sv_ono : PO X none (tPa G W fun _ h => .ok [] h) := imO po_none fun σ H Q q => by
  obtain ⟨μ, M, ρ, h, e, r, p⟩ := q.out
  exact p.here r rfl
theorem sv_osome (ha : PE X a (tE G W fa)) : PO X (some a) (tPa G W fun ρ h => (fa ρ h).bind fun x h1 => (Res.ok [] h1).bind fun xs h2 => .ok (x :: xs) h2) := by
  refine imO (po_some ha) fun σ H Q q => ?_
  have q2 : tG G W (fun _ _ _ a b => a = b) (fun ρ h => (fa ρ h).bind fun x h1 => need (partV [x]) fun l => .ok l h1) σ H Q := tG.congr q fun ρ h => by simp only [Res.bind_assoc, Res.bind_ok]
  refine tG.mono (tE.b1 q2) ?_
  rintro v H1 ⟨d, μ, M, ρ, h, e, r, pa, p⟩
  obtain ⟨o, eo, p⟩ := p.need
  cases d with
  | int i =>
    cases (show some (some i) = some o from eo)
    rw [rep_int] at pa
    exact ⟨i, pa, p.here r rfl⟩
  | _ => cases eo
theorem cut_rep {μ : Mu} {M : Mk} {H : Hp} {ds : List D} {xs : List V} {lo hi : Option Int} (q : Reps G μ M H ds xs) : Reps G μ M H (cutD ds lo hi) (cutV xs lo hi) := by
  unfold cutD cutV
  rw [q.length]
  exact (q.drop _).take _
theorem cut_all {ds : List D} {lo hi : Option Int} (c : HT.sIx ds.length 0 lo = 0 ∧ HT.sIx ds.length ds.length hi = ds.length) : cutD ds lo hi = ds := by
  unfold cutD
  rw [c.1, c.2]; simp
def slcR (fa : Loc → Hea → Res D) (fl fh : Loc → Hea → Res (List D)) (ρ : Loc) (h : Hea) : Res D :=
  (fa ρ h).bind fun x h1 => ((fl ρ h1).bind fun l h2 => need (partV l) fun l => .ok l h2).bind fun l h2 => ((fh ρ h2).bind fun u h3 => need (partV u) fun u => .ok u h3).bind fun u h3 =>
      match tupV x with
      | some xs => .ok (.tup (cutD xs l u)) h3
      | none => need (lstV h3 x) fun xs => .ok (.lst (cutD xs l u)) h3
theorem sv_slc (g : Good P w base G n N sc fo X) {lo hi : Option Expr} {fl fh : Loc → Hea → Res (List D)} {p2 : Pos} (ha : PE X a (tE G W fa)) (hl : PO X lo (tPa G W fl)) (hh : PO X hi (tPa G W fh)) :
    PE X (.Subscript a (.Slice lo hi none p2) pos) (tE G W (slcR fa fl fh)) := by
  refine imE (pe_slice (SlR.or sl_list sl_tupA) ha hl hh) fun σ H Q q => ?_
  obtain ⟨μ, M, ρ, h, e, r, p⟩ := q.out
  unfold slcR at p
  refine tG.mono (tG.thn (f := fa) e r p) ?_
  rintro v H1 ⟨d, μ1, M1, h1, l1, e1, r1, pa, p1⟩
  refine tG.mono (tG.thn (R := fun _ _ _ a b => a = b) (f := fun ρ h => (fl ρ h).bind fun l h1 => need (partV l) fun l => .ok l h1) e1 r1 p1) ?_
  rintro lo' H2 ⟨_, μ2, M2, h2, l2, e2, r2, rfl, p2⟩
  refine tG.mono (tG.thn (R := fun _ _ _ a b => a = b) (f := fun ρ h => (fh ρ h).bind fun l h1 => need (partV l) fun l => .ok l h1) e2 r2 p2) ?_
  rintro hi' H3 ⟨_, μ3, M3, h3, l3, e3, r3, rfl, p3⟩
  have pd := Rep.le r1 (l2.trans l3) _ _ pa
  rw [g.K]
  split at p3
  · rename_i xs ex
    obtain ⟨a', ys, rfl, sq, t⟩ := tup_rep pd ex
    have hl := t.length
    refine .inr ⟨a', ys, rfl, sq, fun c => ?_, fun _ p hp => ?_⟩
    · rw [hl] at c
      refine p3.here r3 ?_
      rw [cut_all c, rep_tup]
      exact ⟨a', ys, rfl, sq, t⟩
    · exact p3 (.ref p) μ3 M3 _ (Le.fresh hp) (r3.fresh hp) (Rep.newTup r3 hp (cut_rep t))
  · obtain ⟨xs, ex, p3⟩ := p3.need
    obtain ⟨a', ys, rfl, sq, t⟩ := lst_rep r3 pd ex
    exact .inl ⟨a', ys, rfl, sq, fun p hp => p3 (.ref p) μ3 M3 _ (Le.fresh hp) (r3.fresh hp) (Rep.newLst r3 hp (cut_rep t))⟩
variable {apos : Pos}
theorem pln_ty {μ : Mu} {M : Mk} {H : Hp} {h : Hea} {d : D} {v : V} (r : Hrel G μ M H h) (p : Rep G μ M H d v) (k : (plnV h d).isSome = true) : tyV G.K "list" v H := by
  obtain ⟨ds, e⟩ := Option.isSome_iff_exists.mp k
  obtain ⟨a, xs, rfl, s, _⟩ := pln_rep r p e
  exact .inl ⟨rfl, xs, .of s⟩
theorem isD_of {μ : Mu} {M : Mk} {H : Hp} {h : Hea} {d : D} {v : V} (r : Hrel G μ M H h) (p : Rep G μ M H d v) (k : mtOk .get2 h d = true) : ∃ a, v = .ref a ∧ IsD H a := by
  unfold mtOk at k
  split at k
  · rename_i q; cases q
  · rename_i q; cases q
  · rename_i q; cases q
  · split at k
    · rw [rep_dK] at p; obtain ⟨a, kvs, rfl, s, _⟩ := p; exact ⟨a, rfl, .inl ⟨kvs, s⟩⟩
    · rw [rep_dT] at p; obtain ⟨a, kvs, rfl, s, _⟩ := p; exact ⟨a, rfl, .inr ⟨kvs, s⟩⟩
    · split at k
      · rename_i z; obtain ⟨a, rfl, _, kvs, s, _⟩ := r.at_ p z (by intro z; cases z); exact ⟨a, rfl, .inl ⟨kvs, .inl s⟩⟩
      · rename_i z; obtain ⟨a, rfl, _, kvs, s, _⟩ := r.at_ p z (by intro z; cases z); exact ⟨a, rfl, .inr ⟨kvs, .inl s⟩⟩
      · rename_i z; obtain ⟨a, rfl, _, ob, kvs, s, _⟩ := r.at_ p z (by intro z; cases z); exact ⟨a, rfl, .inl ⟨kvs, .inr ⟨ob, s⟩⟩⟩
      · rename_i z; obtain ⟨a, rfl, _, ob, kvs, s, _⟩ := r.at_ p z (by intro z; cases z); exact ⟨a, rfl, .inr ⟨kvs, .inr ⟨ob, s⟩⟩⟩
      · cases k
    · cases k
/-- what stands behind a method's name -/
def mtF (m : Mt) (fo : Loc → Hea → Res D) (fs : Loc → Hea → Res (List D)) (ρ : Loc) (h : Hea) : Res D :=
  (fo ρ h).bind fun x h1 => if mtOk m h1 x then (fs ρ h1).bind fun xs h2 => mtR m h2 x xs else .no
theorem mt_append_post {Wv : Value → Hp → Prop} {μ : Mu} {M : Mk} {H : Hp} {h : Hea} {d : D} {v : V} {ds : List D} {vs : List V} {Q : VK} (p : Post G (Rep G) Wv μ M H (mtR .append h d ds) Q) (r : Hrel G μ M H h) (pa : Rep G μ M H d v) (pb : Reps G μ M H ds vs) : rAppend v vs H Q := by
  unfold mtR at p
  split at p
  · rename_i q; cases q
  · rename_i y q
    split at p
    · rename_i n
      split at p
      · rename_i xs ex
        obtain ⟨z, p⟩ := p.ite
        obtain ⟨a, rfl, hn, ys, s, t⟩ := r.at_ pa ex (by intro z; cases z)
        unfold Reps at pb
        obtain ⟨u, tl, rfl, pu, pt⟩ := pb
        unfold Reps at pt
        subst pt
        refine ⟨a, ys, u, rfl, rfl, s, by rw [t.length]; exact z, ?_⟩
        exact p .non μ M _ (Le.write hn s) (r.write hn s ⟨ys ++ [u], upd_same, (Reps.le r (Le.write hn s) _ _ t).append (Reps.cons (Rep.le r (Le.write hn s) _ _ pu) Reps.nil)⟩) (by rw [rep_non])
      · exact p.elim
    · exact p.elim
  · rename_i q; cases q
  · rename_i q; cases q
  · rename_i q; cases q
  · exact p.elim
theorem mt_pop_post {Wv : Value → Hp → Prop} {μ : Mu} {M : Mk} {H : Hp} {h : Hea} {d : D} {v : V} {Q : VK} (p : Post G (Rep G) Wv μ M H (mtR .pop h d []) Q) (r : Hrel G μ M H h) (pa : Rep G μ M H d v) : rPop v [] H Q := by
  unfold mtR at p
  split at p
  · rename_i q; cases q
  · rename_i q; cases q
  · split at p
    · rename_i n
      split at p
      · rename_i xs ex
        obtain ⟨y, ey, p⟩ := p.need
        obtain ⟨a, rfl, hn, ys, s, t⟩ := r.at_ pa ex (by intro z; cases z)
        obtain ⟨u, eu, ru⟩ := t.get ey
        refine ⟨a, ys, u, rfl, rfl, s, by rw [t.length]; exact eu, ?_⟩
        exact p u μ M _ (Le.write hn s) (r.write hn s ⟨ys.dropLast, upd_same, (Reps.le r (Le.write hn s) _ _ t).dropLast⟩) (Rep.le r (Le.write hn s) _ _ ru)
      · exact p.elim
    · exact p.elim
  · rename_i q; cases q
  · rename_i q; cases q
  · rename_i h1 h2 h3; exact (h1 rfl rfl).elim
theorem Reps.eraseIdx {G : Glb} {μ : Mu} {M : Mk} {H : Hp} : ∀ {ds : List D} {xs : List V} (k : Nat), Reps G μ M H ds xs → Reps G μ M H (ds.eraseIdx k) (xs.eraseIdx k)
  | [], xs, k, h => by
    have e : xs = [] := h
    subst e; exact (show ([] : List V) = [] from rfl)
  | d :: ds, xs, 0, h => by
    obtain ⟨x, r, rfl, h3, h4⟩ := h
    exact h4
  | d :: ds, xs, k + 1, h => by
    obtain ⟨x, r, rfl, h3, h4⟩ := h
    exact ⟨x, r.eraseIdx k, rfl, h3, h4.eraseIdx k⟩
theorem mt_popAt_post {Wv : Value → Hp → Prop} {μ : Mu} {M : Mk} {H : Hp} {h : Hea} {d : D} {v : V} {ds : List D} {vs : List V} {Q : VK} (p : Post G (Rep G) Wv μ M H (mtR .popAt h d ds) Q) (r : Hrel G μ M H h) (pa : Rep G μ M H d v) (pb : Reps G μ M H ds vs) : rPopAt v vs H Q := by
  unfold mtR at p
  split at p
  · rename_i q; cases q
  · rename_i q; cases q
  · rename_i q; cases q
  · rename_i i q
    split at p
    · rename_i n
      split at p
      · rename_i xs ex
        obtain ⟨z, p⟩ := p.ite
        obtain ⟨y, ey, p⟩ := p.need
        obtain ⟨a, rfl, hn, ys, s, t⟩ := r.at_ pa ex (by intro z; cases z)
        obtain ⟨u, eu, ru⟩ := t.get ey
        unfold Reps at pb
        obtain ⟨u2, tl, rfl, pu, pt⟩ := pb
        unfold Reps at pt
        subst pt
        have pu' : u2 = .int i := pu
        subst pu'
        have lt : i.toNat < ys.length := (List.getElem?_eq_some_iff.mp eu).1
        have sx : seqIndex? i ys.length = some i.toNat := by
          unfold seqIndex?
          rw [if_neg (show ¬ i < 0 by omega)]
          show (if (decide (0 ≤ i) && decide (i < (ys.length : Int))) = true then some i.toNat else none) = _
          rw [decide_eq_true z.1, decide_eq_true (show i < (ys.length : Int) by omega)]
          rfl
        refine ⟨a, ys, i, i.toNat, u, rfl, rfl, s, by omega, by omega, sx, eu, ?_⟩
        exact p u μ M _ (Le.write hn s) (r.write hn s ⟨ys.eraseIdx i.toNat, upd_same, (Reps.le r (Le.write hn s) _ _ t).eraseIdx _⟩) (Rep.le r (Le.write hn s) _ _ ru)
      · exact p.elim
    · exact p.elim
  · rename_i q; cases q
  · exact p.elim
theorem few_of {es : List Expr} {pos : Pos} (hp : (backTo pos (starEach es X.env)).any (·.1) = false) (hl : es.length < 20) : ((backTo pos (starEach es X.env)).all (fun x => !x.1) && (backToKw pos (keywordEach [] X.env)).all (fun x => x.1.isSome)
    && decide (es.length + ([] : List Keyword).length + (if ([] : List Keyword).isEmpty then 0 else 1) < 30)) = true := by
  have h1 : (backTo pos (starEach es X.env)).all (fun x => !x.1) = true := by
    rw [← Bool.not_eq_false', ← hp]
    rw [List.not_all_eq_any_not]; simp
  rw [h1]
  have h2 : (backToKw pos (keywordEach [] X.env)).all (fun x => x.1.isSome) = true := rfl
  rw [h2]
  simp; omega
theorem merge_rep {G : Glb} {μ : Mu} {M : Mk} {H : Hp} : ∀ {more : List (Key × V)} {ks2 : List Key} {vs2 : List D}, more.map (·.1) = ks2 → Reps G μ M H vs2 (more.map (·.2)) →
    ∀ {kvs : List (Key × V)} {ks : List Key} {vs : List D}, kvs.map (·.1) = ks → Reps G μ M H vs (kvs.map (·.2)) →
    (mergeK kvs more).map (·.1) = (putAll ks vs ks2 vs2).1 ∧ Reps G μ M H (putAll ks vs ks2 vs2).2 ((mergeK kvs more).map (·.2))
  | [], ks2, vs2, e, p, kvs, ks, vs, e1, p1 => by
    subst e
    have ev : vs2 = [] := List.eq_nil_of_length_eq_zero (by have := p.length; simpa using this.symm)
    subst ev
    exact ⟨e1, p1⟩
  | (k, v) :: r, ks2, vs2, e, p, kvs, ks, vs, e1, p1 => by
    subst e
    cases vs2 with
    | nil => have := p.length; simp at this
    | cons d ds =>
      rw [List.map_cons] at p
      unfold Reps at p
      obtain ⟨x, t, et, q1, q2⟩ := p
      obtain ⟨rfl, rfl⟩ := List.cons.inj et
      obtain ⟨z1, z2⟩ := put_rep (x := k) q1 e1 p1
      exact merge_rep (more := r) rfl q2 z1 z2
/-- d.update(more), another dict -/
def tDUpd (td ty : TE) : TE := fun σ H Q => td σ H fun x H1 => ∃ a, x = .ref a ∧ IsD H1 a ∧ ty σ H1 fun y H2 => ∃ b kvs more, y = .ref b ∧ a ≠ b ∧ H2 a = some (.dK kvs) ∧ Rd H2 b (.dK more) ∧ kvs.length + more.length ≤ sizeLine ∧ Q .non (upd H2 a (.dK (mergeK kvs more)))
theorem pe_dupd {o e : Expr} {apos cpos : Pos} {td ty : TE} (ho : PE X o td) (he : PE X e ty) (m : M1 X o "update" apos e cpos) : PE X (.Call (.Attribute o "update" apos) [e] [] cpos) (tDUpd td ty) := by
  constructor
  intro pins s σ H Q I h
  refine wpAny_Call_method m.base m.few m.line PySem.F.plainAttrs_dict PySem.F.slot_dict_update PySem.F.type_dict_update ?_
  refine thn (ho.run pins s σ H _ I h) fun u s1 hu => ?_
  obtain ⟨x, H1, I1, rx, a, ex, d, q1⟩ := hu
  subst ex
  obtain rfl : u = Value.ref a := rx
  obtain ⟨t1, t2, _⟩ := isD_at I1 d
  refine ⟨t1, t2, ?_⟩
  rw [m.trees]
  refine Calls.callWith_builtin rfl (Calls.evalArgs_plain (Calls.spliced_cons (thn (he.run pins s1 σ H1 _ I1 q1) fun iv s2 hi => Calls.spliced_nil ?_)))
  obtain ⟨y, H2, I2, ry, b, kvs, more, ey, hab, ea, eb, hz, q2⟩ := hi
  subst ey
  obtain rfl : iv = Value.ref b := ry
  obtain ⟨z1, lo1, vs1, rel1, dd1⟩ := dk_of I2.hok ea
  obtain ⟨z2, lo2, vs2, rel2, dd2⟩ := dk_rd I2.hok eb
  have ml := length_mergeK more kvs
  refine call_meetsIn PySem.F.slot_dict_update dd1.typeIs PySem.F.entry_dict_update (PySem.F.args_dict_update_2 _ _) (meets_dict_update (mixKind X.prog X.w) a b hab lo2) ⟨vs1, vs2, dd1, dd2, ?_, fun h' d1 _ sb => ?_⟩
  · rw [← rel1.length, ← rel2.length]; exact hz
  · have there : ∃ q, h'.get? a = some q := let ⟨q, _, _, hq, _⟩ := d1; ⟨q, hq⟩
    exact ⟨.non, _, d_write I2 (t' := s2.toks) (by rw [ea]; exact True.intro) sb there (dk_new (by omega) lo1 (KV.merge rel2 rel1) d1), rfl, q2⟩
theorem sv_update (g : Good P w base G n N sc fo X) {name : Str} (en : name = "update") {e : Expr} (ha : PE X a (tE G W fa)) (h1 : PE X e (tE G W fb)) (hb : attributeBase a name X.env (eval a X.env) = eval a X.env) (hl : (apos.endLine == pos.line) = true)
    (he : starEach [e] X.env = (false, eval e X.env) :: starEach [] X.env) :
    PE X (.Call (.Attribute a name apos) [e] [] pos) (tE G W (mtF .update fa fun ρ h => (fb ρ h).bind fun x h1 => (Res.ok [] h1).bind fun xs h2 => .ok (x :: xs) h2)) := by
  subst en
  have hp : backTo pos (starEach [e] X.env) = [(false, eval e X.env)] := by rw [he]; rfl
  refine imE (pe_dupd ha h1 ⟨hb, few_of (by rw [hp]; rfl) (by simp), hl, hp⟩) fun σ H Q q => ?_
  have q2 : tE G W (fun ρ h => (fa ρ h).bind fun x h1 => if mtOk .update h1 x = true then (fb ρ h1).bind fun y h2 => mtR .update h2 x [y] else .no) σ H Q :=
    tG.congr q fun ρ h => by unfold mtF; simp only [Res.bind_assoc, Res.bind_ok]
  obtain ⟨μ, M, ρ, h, e1, r, p⟩ := q2.out
  refine tG.mono (tG.thn (f := fa) e1 r p) ?_
  rintro v H1 ⟨d, μ1, M1, h1, l1, e1, r1, pa, p1⟩
  obtain ⟨k, p1⟩ := p1.ite
  obtain ⟨a', rfl, isd⟩ := isD_of r1 pa k
  refine ⟨a', rfl, isd, tG.mono (tG.thn (f := fb) e1 r1 p1) ?_⟩
  rintro y H2 ⟨d2, μ2, M2, h2, l2, e2, r2, pb, p2⟩
  have pa2 := Rep.le r1 l2 _ _ pa
  cases d2 with
  | dK ks2 vs2 =>
    cases d with
    | ref n =>
      have p2 : Post G (Rep G) (fun c H' => W c none σ H') μ2 M2 H2 (match h2[n]? with
        | some (.dK ks vs) => if ks.length + ks2.length ≤ sizeLine then .ok .non (h2.set n (.dK (putAll ks vs ks2 vs2).1 (putAll ks vs ks2 vs2).2)) else .no
        | _ => .no) Q := p2
      split at p2
      · rename_i ks vs z
        obtain ⟨c, p2⟩ := p2.ite
        obtain ⟨b, eb, hn, kvs, s, ek, t⟩ := r2.at_ pa2 z (by intro z; cases z)
        cases eb
        rw [rep_dK] at pb
        obtain ⟨b2, more, rfl, rd, nm, ek2, t2⟩ := pb
        have ne : a' ≠ b2 := fun z => nm (z ▸ r2.mu n a' hn)
        refine ⟨b2, kvs, more, rfl, ne, s, rd, ?_, ?_⟩
        · rw [← ek, ← ek2, List.length_map, List.length_map] at c; exact c
        · have wr : Le μ2 M2 H2 μ2 M2 (upd H2 a' (.dK (mergeK kvs more))) := Le.write hn s
          obtain ⟨z1, z2⟩ := merge_rep ek2 (Reps.le r2 wr _ _ t2) ek (Reps.le r2 wr _ _ t)
          exact p2 .non μ2 M2 _ wr (r2.write hn s ⟨_, upd_same, z1, z2⟩) (by rw [rep_non])
      · exact p2.elim
    | _ => exact p2.elim
  | _ => cases d <;> exact p2.elim
theorem sv_append (g : Good P w base G n N sc fo X) {name : Str} (en : name = "append") {e : Expr} (ha : PE X a (tE G W fa)) (hs : PA X [e] (tAr G W fs)) (hb : attributeBase a name X.env (eval a X.env) = eval a X.env) (hl : (apos.endLine == pos.line) = true)
    (he : starEach [e] X.env = (false, eval e X.env) :: starEach [] X.env) :
    PE X (.Call (.Attribute a name apos) [e] [] pos) (tE G W (mtF .append fa fs)) := by
  subst en
  have hp : (backTo pos (starEach [e] X.env)).any (·.1) = false := by rw [he]; rfl
  refine imE (pe_bm PySem.F.plainAttrs_list PySem.F.slot_list_append PySem.F.type_list_append mt_append ha hs hb (few_of hp (by simp)) hl he rfl) fun σ H Q q => ?_
  obtain ⟨μ, M, ρ, h, e1, r, p⟩ := q.out
  unfold mtF at p
  refine tG.mono (tG.thn (f := fa) e1 r p) ?_
  rintro v H1 ⟨d, μ1, M1, h1, l1, e1, r1, pa, p1⟩
  obtain ⟨k, p1⟩ := p1.ite
  refine ⟨by rw [g.K]; exact pln_ty r1 pa k, tG.mono (tG.thn (f := fs) e1 r1 p1) ?_⟩
  rintro vs H2 ⟨ds, μ2, M2, h2, l2, e2, r2, pb, p2⟩
  exact mt_append_post p2 r2 (Rep.le r1 l2 _ _ pa) pb
theorem sv_popAt (g : Good P w base G n N sc fo X) {name : Str} (en : name = "pop") {e : Expr} (ha : PE X a (tE G W fa)) (hs : PA X [e] (tAr G W fs)) (hb : attributeBase a name X.env (eval a X.env) = eval a X.env) (hl : (apos.endLine == pos.line) = true)
    (he : starEach [e] X.env = (false, eval e X.env) :: starEach [] X.env) :
    PE X (.Call (.Attribute a name apos) [e] [] pos) (tE G W (mtF .popAt fa fs)) := by
  subst en
  have hp : (backTo pos (starEach [e] X.env)).any (·.1) = false := by rw [he]; rfl
  refine imE (pe_bm PySem.F.plainAttrs_list PySem.F.slot_list_pop PySem.F.type_list_pop mt_popAt ha hs hb (few_of hp (by simp)) hl he rfl) fun σ H Q q => ?_
  obtain ⟨μ, M, ρ, h, e1, r, p⟩ := q.out
  unfold mtF at p
  refine tG.mono (tG.thn (f := fa) e1 r p) ?_
  rintro v H1 ⟨d, μ1, M1, h1, l1, e1, r1, pa, p1⟩
  obtain ⟨k, p1⟩ := p1.ite
  refine ⟨by rw [g.K]; exact pln_ty r1 pa k, tG.mono (tG.thn (f := fs) e1 r1 p1) ?_⟩
  rintro vs H2 ⟨ds, μ2, M2, h2, l2, e2, r2, pb, p2⟩
  exact mt_popAt_post p2 r2 (Rep.le r1 l2 _ _ pa) pb
theorem sv_pop (g : Good P w base G n N sc fo X) {name : Str} (en : name = "pop") (ha : PE X a (tE G W fa)) (hb : attributeBase a name X.env (eval a X.env) = eval a X.env) (hl : (apos.endLine == pos.line) = true) :
    PE X (.Call (.Attribute a name apos) [] [] pos) (tE G W (mtF .pop fa fun _ h => .ok [] h)) := by
  subst en
  refine imE (pe_bm0 PySem.F.plainAttrs_list PySem.F.slot_list_pop PySem.F.type_list_pop mt_pop ha hb hl) fun σ H Q q => ?_
  obtain ⟨μ, M, ρ, h, e1, r, p⟩ := q.out
  unfold mtF at p
  refine tG.mono (tG.thn (f := fa) e1 r p) ?_
  rintro v H1 ⟨d, μ1, M1, h1, l1, e1, r1, pa, p1⟩
  obtain ⟨k, p1⟩ := p1.ite
  exact ⟨by rw [g.K]; exact pln_ty r1 pa k, mt_pop_post p1 r1 pa⟩
theorem sv_get2 (g : Good P w base G n N sc fo X) {name : Str} (en : name = "get") (ha : PE X a (tE G W fa)) (h1 : PE X b (tE G W fb)) (h2 : PE X c (tE G W fc)) (hb : attributeBase a name X.env (eval a X.env) = eval a X.env) (hl : (apos.endLine == pos.line) = true)
    (he : starEach [b, c] X.env = [(false, eval b X.env), (false, eval c X.env)]) :
    PE X (.Call (.Attribute a name apos) [b, c] [] pos) (tE G W (mtF .get2 fa fun ρ h => (fb ρ h).bind fun x h1 => ((fc ρ h1).bind fun y h2 => (Res.ok [] h2).bind fun xs h3 => .ok (y :: xs) h3).bind fun xs h2 => .ok (x :: xs) h2)) := by
  subst en
  have hp : backTo pos (starEach [b, c] X.env) = [(false, eval b X.env), (false, eval c X.env)] := by rw [he]; rfl
  refine imE (pe_dget2 g.hu1 ha h1 h2 ⟨hb, few_of (by rw [hp]; rfl) (by simp), hl, hp⟩) fun σ H Q q => ?_
  have q2 : tE G W (fun ρ h => (fa ρ h).bind fun x h1 => if mtOk .get2 h1 x = true then (fb ρ h1).bind fun y h2 => (fc ρ h2).bind fun z h3 => mtR .get2 h3 x [y, z] else .no) σ H Q :=
    tG.congr q fun ρ h => by unfold mtF; simp only [Res.bind_assoc, Res.bind_ok]
  obtain ⟨μ, M, ρ, h, e1, r, p⟩ := q2.out
  refine tG.mono (tG.thn (f := fa) e1 r p) ?_
  rintro v H1 ⟨d, μ1, M1, h1, l1, e1, r1, pa, p1⟩
  obtain ⟨k, p1⟩ := p1.ite
  obtain ⟨a', rfl, isd⟩ := isD_of r1 pa k
  refine ⟨a', rfl, isd, tG.mono (tG.thn (f := fb) e1 r1 p1) ?_⟩
  rintro y H2 ⟨d2, μ2, M2, h2, l2, e2, r2, pb, p2⟩
  refine tG.mono (tG.thn (f := fc) e2 r2 p2) ?_
  rintro z H3 ⟨d3, μ3, M3, h3, l3, e3, r3, pc, p3⟩
  have p3 : Post G (Rep G) (fun c H' => W c none σ H') μ3 M3 H3 (need (dctGet h3 d d2) fun r => .ok (r.getD d3) h3) Q := p3
  obtain ⟨o, eo, p3⟩ := p3.need
  obtain ⟨q', w', e4, isd', dg, rw'⟩ := dctGet_rep r3 (Rep.le r1 (l2.trans l3) _ _ pa) (Rep.le r2 l3 _ _ pb) eo
  cases e4
  refine ⟨w', dg, p3.here r3 ?_⟩
  cases o with
  | none => cases w' with
    | none => exact pc
    | some _ => exact rw'.elim
  | some o => cases w' with
    | none => exact rw'.elim
    | some _ => exact rw'
end
end PyI
set_option Elab.async false
set_option linter.all false
set_option maxRecDepth 100000
namespace PyI
open PySem L2
/-- a target by the evaluator -/
def tGt (G : Glb) (own : List Nat) (t : Tg) : TG := fun v σ H Q => ∃ μ M ρ d ρ', Envi G μ M H ρ σ ∧ Rep G μ M H d v ∧ evG t ρ d = some ρ' ∧ ∀ σ', Envi G μ M H ρ' σ' → L2.wipe σ' own = L2.wipe σ own → Q σ' H
def tGts (G : Glb) (own : List Nat) (t : Tgs) : TGs := fun vs σ H Q => ∃ μ M ρ ds ρ', Envi G μ M H ρ σ ∧ Reps G μ M H ds vs ∧ evGs t ρ ds = some ρ' ∧ ∀ σ', Envi G μ M H ρ' σ' → L2.wipe σ' own = L2.wipe σ own → Q σ' H
theorem wipe_set {σ : St} {i : Nat} {x : Option V} : ∀ {own : List Nat}, i ∈ own → L2.wipe (σ.set i x) own = L2.wipe σ own
  | v :: vs, h => by
    unfold L2.wipe
    by_cases hv : i = v
    · subst hv
      by_cases hm : i ∈ vs
      · rw [wipe_set hm]
      · have : ∀ vs : List Nat, (L2.wipe (σ.set i x) vs).set i none = (L2.wipe σ vs).set i none := by
          intro vs
          induction vs with
          | nil => simp [L2.wipe, List.set_set]
          | cons u us ih =>
            unfold L2.wipe
            by_cases hu : u = i
            · subst hu; rw [List.set_set, List.set_set]; exact ih
            · rw [List.set_comm _ _ hu, List.set_comm _ _ hu, ih]
        exact this vs
    · rcases List.mem_cons.mp h with e | h
      · exact absurd e hv
      · rw [wipe_set h]
theorem imG {X : Cx} {e : Expr} {t t' : TG} (p : PG X e t) (i : ∀ v σ H Q, t' v σ H Q → t v σ H Q) : PG X e t' := ⟨fun pins s σ H v u Q I r h => p.run pins s σ H v u Q I r (i v σ H Q h)⟩
theorem imGs {X : Cx} {e : List Expr} {t t' : TGs} (p : PGs X e t) (i : ∀ v σ H Q, t' v σ H Q → t v σ H Q) : PGs X e t' := ⟨fun pins s σ H v u Q I r h => p.run pins s σ H v u Q I r (i v σ H Q h)⟩
theorem ckG_assign {N : List Str} {sc : Scope} {fo : Fo} {own : List Nat} : ∀ {t : Tg} {a : Expr}, ckG N sc fo own t a = true → ∀ (es : List Expr) (env : Env), assignEach (a :: es) env = (false, assign a env) :: assignEach es env := by
  intro t a h es env
  cases a <;> first | rfl | (cases t <;> exact Bool.noConfusion h)
theorem ckGs_assign {N : List Str} {sc : Scope} {fo : Fo} {own : List Nat} (env : Env) : ∀ {ts : Tgs} {es : List Expr}, ckGs N sc fo own ts es = true → assignEach es env = es.map fun a => (false, assign a env)
  | .nil, es, h => by cases es <;> first | rfl | exact Bool.noConfusion h
  | .cons t ts, es, h => by
    cases es with
    | nil => exact Bool.noConfusion h
    | cons a es =>
      have h' : (ckG N sc fo own t a && ckGs N sc fo own ts es) = true := h
      rw [Bool.and_eq_true] at h'
      rw [ckG_assign h'.1, ckGs_assign env h'.2]; rfl
theorem ckGs_len {N : List Str} {sc : Scope} {fo : Fo} {own : List Nat} : ∀ {ts : Tgs} {es : List Expr}, ckGs N sc fo own ts es = true → ∀ {ρ : Loc} {ds : List D} {ρ' : Loc}, evGs ts ρ ds = some ρ' → ds.length = es.length
  | .nil, es, h => by
    cases es with
    | nil => rename_i ds _; intro e; cases ds with | nil => rfl | cons _ _ => cases e
    | cons _ _ => exact Bool.noConfusion h
  | .cons t ts, es, h => by
    cases es with
    | nil => exact Bool.noConfusion h
    | cons a es =>
      have h' : (ckG N sc fo own t a && ckGs N sc fo own ts es) = true := h
      rw [Bool.and_eq_true] at h'
      rename_i ρ ds ρ'
      intro e
      cases ds with
      | nil => cases e
      | cons d ds =>
        obtain ⟨ρ1, _, e2⟩ := Option.bind_eq_some_iff.mp (show (evG t ρ d).bind (fun ρ1 => evGs ts ρ1 ds) = some ρ' from e)
        rw [List.length_cons, List.length_cons, ckGs_len h'.2 e2]
section
variable {P : Program} {w : World} {base : Heap} {G : Glb} {n : Nat} {N : List Str} {sc : Scope} {fo : Fo} {X : Cx}
theorem locB_loc {x : Str} (h : locB sc fo x = true) : L2.Loc sc x ∧ (fo.f x = true ∨ sc.names.lookup x = some .local) := by
  unfold locB at h
  split at h
  · rename_i e; exact ⟨.inl e, .inr e⟩
  · rename_i e; exact ⟨.inr e, .inl h⟩
  · cases h
mutual
theorem snd_G (g : Good P w base G n N sc fo X) {own : List Nat} : ∀ (t : Tg) (a : Expr), ckG N sc fo own t a = true → PG X a (tGt G own t)
  | .n i, a, h => by
    cases a with
    | Name x pos =>
      have h' : (decide (N[i]? = some x) && locB sc fo x && own.contains i) = true := h
      simp only [Bool.and_eq_true, decide_eq_true_eq] at h'
      obtain ⟨⟨h1, h2⟩, h3⟩ := h'
      obtain ⟨l1, l2⟩ := locB_loc h2
      refine imG (pg_name g.nd (by rw [g.N]; exact h1) (by rw [g.sc]; exact l1) (by rw [g.fn, g.sc]; exact l2)) fun v σ H Q q => ?_
      obtain ⟨μ, M, ρ, d, ρ', e, p, ev, q⟩ := q
      cases ev
      exact q _ (e.set i p) (wipe_set (by simpa using h3))
    | _ => exact Bool.noConfusion h
  | .t ts, a, h => by
    cases a with
    | Tuple xs k pos =>
      have h' : ckGs N sc fo own ts xs = true := h
      have ea := ckGs_assign X.env h'
      refine imG (pg_tup (n := xs.length) g.calm (snd_Gs g ts xs h') (by rw [ea, List.length_map]) (by rw [ea, List.findIdx?_map]; exact List.findIdx?_eq_none_iff.mpr fun _ _ => rfl)) fun v σ H Q q => ?_
      obtain ⟨μ, M, ρ, d, ρ', e, p, ev, q⟩ := q
      obtain ⟨ds, ed, e2⟩ := Option.bind_eq_some_iff.mp (show (tupV d).bind (fun xs => evGs ts ρ xs) = some ρ' from ev)
      obtain ⟨b, ys, rfl, sq, t⟩ := tup_rep p ed
      exact ⟨b, ys, rfl, by rw [g.K]; exact sq, by rw [t.length]; exact ckGs_len h' e2, μ, M, ρ, ds, ρ', e, t, e2, q⟩
    | _ => exact Bool.noConfusion h
theorem snd_Gs (g : Good P w base G n N sc fo X) {own : List Nat} : ∀ (ts : Tgs) (es : List Expr), ckGs N sc fo own ts es = true → PGs X es (tGts G own ts)
  | .nil, es, h => by
    cases es with
    | nil =>
      refine imGs pgs_nil fun v σ H Q q => ?_
      obtain ⟨μ, M, ρ, ds, ρ', e, p, ev, q⟩ := q
      cases ds with
      | nil => cases ev; unfold Reps at p; exact ⟨p, q σ e rfl⟩
      | cons _ _ => cases ev
    | cons _ _ => exact Bool.noConfusion h
  | .cons t ts, es, h => by
    cases es with
    | nil => exact Bool.noConfusion h
    | cons a es =>
      have h' : (ckG N sc fo own t a && ckGs N sc fo own ts es) = true := h
      rw [Bool.and_eq_true] at h'
      refine imGs (pgs_cons (snd_G g t a h'.1) (snd_Gs g ts es h'.2) (by rw [ckG_assign h'.1]; rfl)) fun v σ H Q q => ?_
      obtain ⟨μ, M, ρ, ds, ρ', e, p, ev, q⟩ := q
      cases ds with
      | nil => cases ev
      | cons d ds =>
        unfold Reps at p
        obtain ⟨x, r, rfl, p1, p2⟩ := p
        obtain ⟨ρ1, e1, e2⟩ := Option.bind_eq_some_iff.mp (show (evG t ρ d).bind (fun ρ1 => evGs ts ρ1 ds) = some ρ' from ev)
        exact ⟨x, r, rfl, μ, M, ρ, d, ρ1, e, p1, e1, fun σ1 e3 w1 => ⟨μ, M, ρ1, ds, ρ', e3, p2, e2, fun σ2 e4 w2 => q σ2 e4 (w2.trans w1)⟩⟩
end
end
/-- a weaker 'later': marked objects may change at will -/
structure Lw0 (μ : Mu) (M : Mk) (H : Hp) (μ' : Mu) (M' : Mk) (H' : Hp) : Prop where
  old : ∀ (n : Nat) (a : Addr), μ[n]? = some (some a) → μ'[n]? = some (some a) ∨ μ'[n]? = some none
  dead : ∀ (n : Nat), μ[n]? = some none → μ'[n]? = some none
  keep : ∀ (a : Addr) (o : HO), H a = some o → NoTb o → ¬ M a → H' a = some o ∧ ¬ M' a
structure Lw (μ : Mu) (M : Mk) (H : Hp) (μ' : Mu) (M' : Mk) (H' : Hp) : Prop extends Lw0 μ M H μ' M' H' where
  frz : ∀ (a : Addr) (ob : Obj) (u : HO), H a = some (.frz ob u) → H' a = some (.frz ob u)
instance {μ μ' : Mu} {M M' : Mk} {H H' : Hp} : Coe (Lw μ M H μ' M' H') (Lw0 μ M H μ' M' H') := ⟨Lw.toLw0⟩
theorem Le.lw {G : Glb} {μ μ' : Mu} {M M' : Mk} {H H' : Hp} {h : Hea} (l : Le μ M H μ' M' H') (r : Hrel G μ M H h) : Lw μ M H μ' M' H' :=
  ⟨⟨l.old, l.dead, fun a o e nt m => ⟨l.keep a o e nt (r.noM m), l.fz (.inl e) m⟩⟩, l.frz⟩
theorem Lw.refl {μ : Mu} {M : Mk} {H : Hp} : Lw μ M H μ M H := ⟨⟨fun _ _ e => .inl e, fun _ e => e, fun _ _ e _ m => ⟨e, m⟩⟩, fun _ _ _ e => e⟩
theorem Lw.trans {μ μ' μ'' : Mu} {M M' M'' : Mk} {H H' H'' : Hp} (l : Lw μ M H μ' M' H') (k : Lw μ' M' H' μ'' M'' H'') : Lw μ M H μ'' M'' H'' where
  frz := fun a ob u e => k.frz a ob u (l.frz a ob u e)
  old := fun n a e => by
    rcases l.old n a e with z | z
    · exact k.old n a z
    · exact .inr (k.dead n z)
  dead := fun n e => k.dead n (l.dead n e)
  keep := fun a o e nt m => let ⟨e1, m1⟩ := l.keep a o e nt m; k.keep a o e1 nt m1
section
variable {G : Glb} {μ μ' : Mu} {M M' : Mk} {H H' : Hp} {h : Hea}
theorem Lw0.rd (l : Lw0 μ M H μ' M' H') {a : Addr} {u : HO} (q : Rd H a u) (nt : NoTb u) (m : ¬ M a) : Rd H' a u ∧ ¬ M' a := by
  rcases q with q | ⟨o, q⟩
  · exact ⟨.inl (l.keep a _ q nt m).1, (l.keep a _ q nt m).2⟩
  · exact ⟨.inr ⟨o, (l.keep a _ q ntF m).1⟩, (l.keep a _ q ntF m).2⟩
theorem Hrel.tupM (r : Hrel G μ M H h) {a : Addr} {xs : List V} (q : Rd H a (.tup xs)) : ¬ M a := fun m => by
  obtain ⟨o, e, k⟩ := r.md a m
  rcases q with q | ⟨_, q⟩ <;> (rw [e] at q; cases q; cases k)
theorem Hrel.scrM (r : Hrel G μ M H h) {a : Addr} {xs : List V} {ob : Obj} (q : H a = some (.frz ob (.lst xs))) : ¬ M a := fun m => by
  obtain ⟨o, e, k⟩ := r.md a m
  rw [e] at q; cases q; cases k
theorem Hrel.extM (r : Hrel G μ M H h) {a : Addr} {φ : Heap → Prop} (q : H a = some (.ext φ)) : ¬ M a := fun m => by
  obtain ⟨o, e, k⟩ := r.md a m
  rw [e] at q; cases q; cases k
mutual
theorem Rep.lw (r : Hrel G μ M H h) (l : Lw0 μ M H μ' M' H') : ∀ (d : D) (v : V), Rep G μ M H d v → Rep G μ' M' H' d v
  | .non, v, q => by simpa [Rep] using q
  | .bl b, v, q => by simpa [Rep] using q
  | .int i, v, q => by simpa [Rep] using q
  | .str x, v, q => by simpa [Rep] using q
  | .tup ds, v, q => by
    unfold Rep at q ⊢
    obtain ⟨a, xs, e, s, p⟩ := q
    refine ⟨a, xs, e, ?_, Reps.lw r l ds xs p⟩
    rcases s with s | s
    · exact .inl (l.rd s ntT (r.tupM s)).1
    · exact .inr s
  | .plc ds, v, q => by
    unfold Rep at q ⊢
    obtain ⟨a, xs, e, s, p⟩ := q
    exact ⟨a, xs, e, (l.keep _ _ s ntT (r.tupM (.inl s))).1, Reps.lw r l ds xs p⟩
  | .lst ds, v, q => by
    unfold Rep at q ⊢
    obtain ⟨a, xs, e, s, m, p⟩ := q
    exact ⟨a, xs, e, (l.keep _ _ s ntL m).1, (l.keep _ _ s ntL m).2, Reps.lw r l ds xs p⟩
  | .scr ds, v, q => by
    unfold Rep at q ⊢
    obtain ⟨a, xs, e, s, p⟩ := q
    refine ⟨a, xs, e, ?_, Reps.lw r l ds xs p⟩
    rcases s with ⟨o, s⟩ | s
    · exact .inl ⟨o, (l.keep _ _ s ntF (r.scrM s)).1⟩
    · exact .inr s
  | .dK ks ds, v, q => by
    unfold Rep at q ⊢
    obtain ⟨a, xs, e, s, m, k, p⟩ := q
    exact ⟨a, xs, e, (l.rd s ntK m).1, (l.rd s ntK m).2, k, Reps.lw r l ds _ p⟩
  | .dT ks ds, v, q => by
    unfold Rep at q ⊢
    obtain ⟨a, xs, e, s, m, k, p⟩ := q
    exact ⟨a, xs, e, (l.rd s ntD m).1, (l.rd s ntD m).2, k, Reps.lw r l ds _ p⟩
  | .ref n, v, q => by
    unfold Rep at q ⊢
    obtain ⟨a, e, s⟩ := q
    refine ⟨a, e, ?_⟩
    rcases s with s | s
    · exact l.old n a s
    · exact .inr (l.dead n s)
  | .fn i, v, q => by unfold Rep at q ⊢; exact q
  | .exn c x, v, q => by
    unfold Rep at q ⊢
    obtain ⟨a, C, nm, t0, e, k1, k2, s, p⟩ := q
    refine ⟨a, C, nm, t0, e, k1, k2, (l.keep _ _ s ntE (r.extM s)).1, fun y hy => ?_⟩
    obtain ⟨t, e1, s1⟩ := p y hy
    exact ⟨t, e1, (l.keep _ _ s1 ntT (r.tupM (.inl s1))).1⟩
theorem Reps.lw (r : Hrel G μ M H h) (l : Lw0 μ M H μ' M' H') : ∀ (ds : List D) (xs : List V), Reps G μ M H ds xs → Reps G μ' M' H' ds xs
  | [], xs, q => by simpa [Reps] using q
  | d :: ds, xs, q => by
    unfold Reps at q ⊢
    obtain ⟨x, t, e, p, q⟩ := q
    exact ⟨x, t, e, Rep.lw r l d x p, Reps.lw r l ds t q⟩
end
theorem Envi.lw {ρ : Loc} {σ : St} (e : Envi G μ M H ρ σ) (r : Hrel G μ M H h) (l : Lw0 μ M H μ' M' H') : Envi G μ' M' H' ρ σ :=
  ⟨e.len, fun i d q => let ⟨v, a, b⟩ := e.at_ i d q; ⟨v, a, Rep.lw r l d v b⟩⟩
end
/-- J walks over ds, now and later -/
def Walks (G : Glb) (J : L2.It) (ds : List D) (μ : Mu) (M : Mk) (H : Hp) : Prop := ∀ μ' M' H' h', Lw μ M H μ' M' H' → Hrel G μ' M' H' h' → ∀ i : Nat,
  (∀ d, ds[i]? = some d → J.go i H' ∧ ∀ x H2, J.yld i H' x H2 → Le μ' M' H' μ' M' H2 ∧ Hrel G μ' M' H2 h' ∧ Rep G μ' M' H2 d x) ∧ (ds.length ≤ i → J.stop i H')
def RW (G : Glb) (μ : Mu) (M : Mk) (H : Hp) (ds : List D) (J : L2.It) : Prop := Walks G J ds μ M H
abbrev tIr (G : Glb) (W : WX) (f : Loc → Hea → Res (List D)) : TI := tG G W (RW G) f
section
variable {G : Glb} {μ : Mu} {M : Mk} {H : Hp} {h : Hea}
theorem walk_list (r : Hrel G μ M H h) {d : D} {a : Addr} {ds : List D} (p : Rep G μ M H d (.ref a)) (e : lsV d = some ds) : Walks G (Itl G.K a) ds μ M H := by
  intro μ' M' H' h' l r' i
  have p' := Rep.lw r l.toLw0 _ _ p
  have e' : lstV h' d = some ds := by
    unfold lsV at e
    split at e
    · cases e; rfl
    · cases e; rfl
    · cases e
  obtain ⟨b, xs, eb, sq, t⟩ := lst_rep r' p' e'
  cases eb
  refine ⟨fun d ed => ?_, fun hl => ⟨xs, sq, by rw [t.length]; exact hl⟩⟩
  obtain ⟨x, ex, rx⟩ := t.get ed
  refine ⟨⟨xs, x, sq, ex⟩, fun y H2 q => ?_⟩
  obtain ⟨rfl, q⟩ := q
  have := q xs sq
  rw [ex] at this
  cases this
  exact ⟨Le.refl, r', rx⟩
theorem walk_tup (r : Hrel G μ M H h) {d : D} {a : Addr} {ds : List D} (p : Rep G μ M H d (.ref a)) (e : tupV d = some ds) : Walks G (Itt G.K a) ds μ M H := by
  intro μ' M' H' h' l r' i
  have p' := Rep.lw r l.toLw0 _ _ p
  obtain ⟨b, xs, eb, sq, t⟩ := tup_rep p' e
  cases eb
  refine ⟨fun d ed => ?_, fun hl => ⟨xs, sq, by rw [t.length]; exact hl⟩⟩
  obtain ⟨x, ex, rx⟩ := t.get ed
  refine ⟨⟨xs, x, sq, ex⟩, fun y H2 q => ?_⟩
  obtain ⟨rfl, q⟩ := q
  have := q xs sq
  rw [ex] at this
  cases this
  exact ⟨Le.refl, r', rx⟩
theorem rngL_len : ∀ (n : Nat) (lo : Int), (rngL lo n).length = n
  | 0, _ => rfl
  | n + 1, lo => by unfold rngL; rw [List.length_cons, rngL_len n]
theorem rngL_get : ∀ (n : Nat) (lo : Int) (i : Nat) (d : D), (rngL lo n)[i]? = some d → i < n ∧ d = .int (lo + i)
  | 0, lo, i, d, e => by simp [rngL] at e
  | n + 1, lo, 0, d, e => by simp [rngL] at e; exact ⟨Nat.succ_pos _, by rw [← e]; simp⟩
  | n + 1, lo, i + 1, d, e => by
    have e' : (rngL (lo + 1) n)[i]? = some d := by simpa [rngL] using e
    obtain ⟨h1, h2⟩ := rngL_get n (lo + 1) i d e'
    exact ⟨Nat.succ_lt_succ h1, by rw [h2]; congr 1; omega⟩
theorem walk_rng (lo : Int) (n : Nat) : Walks G (Itr lo n) (rngL lo n) μ M H := by
  intro μ' M' H' h' l r' i
  refine ⟨fun d ed => ?_, fun hl => by rw [rngL_len] at hl; exact hl⟩
  obtain ⟨h1, h2⟩ := rngL_get n lo i d ed
  refine ⟨h1, fun y H2 q => ?_⟩
  obtain ⟨rfl, rfl⟩ := q
  subst h2
  exact ⟨Le.refl, r', by rw [rep_int]⟩
theorem enumD_len : ∀ (xs : List D) (k : Nat), (enumD k xs).length = xs.length
  | [], _ => rfl
  | x :: r, k => by unfold enumD; rw [List.length_cons, List.length_cons, enumD_len r]
theorem enumD_get : ∀ (xs : List D) (k i : Nat) (d : D), (enumD k xs)[i]? = some d → ∃ x, xs[i]? = some x ∧ d = .plc [.int ((k + i : Nat) : Int), x]
  | [], k, i, d, e => by simp [enumD] at e
  | x :: r, k, 0, d, e => by simp [enumD] at e; exact ⟨x, rfl, by rw [← e]; simp⟩
  | x :: r, k, i + 1, d, e => by
    have e' : (enumD (k + 1) r)[i]? = some d := by simpa [enumD] using e
    obtain ⟨y, h1, h2⟩ := enumD_get r (k + 1) i d e'
    exact ⟨y, h1, by rw [h2]; congr 3; omega⟩
theorem zipD_get : ∀ (xs ys : List D) (i : Nat) (d : D), (zipD xs ys)[i]? = some d → ∃ x y, xs[i]? = some x ∧ ys[i]? = some y ∧ d = .plc [x, y]
  | [], ys, i, d, e => by simp [zipD] at e
  | x :: r, [], i, d, e => by simp [zipD] at e
  | x :: r, y :: t, 0, d, e => by simp [zipD] at e; exact ⟨x, y, rfl, rfl, e.symm⟩
  | x :: r, y :: t, i + 1, d, e => by
    have e' : (zipD r t)[i]? = some d := by simpa [zipD] using e
    obtain ⟨u, v, h1, h2, h3⟩ := zipD_get r t i d e'
    exact ⟨u, v, h1, h2, h3⟩
theorem zipD_len : ∀ (xs ys : List D) (i : Nat), (zipD xs ys).length ≤ i → xs.length ≤ i ∨ ys.length ≤ i
  | [], ys, i, e => .inl (Nat.zero_le _)
  | x :: r, [], i, e => .inr (Nat.zero_le _)
  | x :: r, y :: t, 0, e => by simp [zipD] at e
  | x :: r, y :: t, i + 1, e => by
    have e' : (zipD r t).length ≤ i := by simpa [zipD] using e
    rcases zipD_len r t i e' with z | z
    · exact .inl (Nat.succ_le_succ z)
    · exact .inr (Nat.succ_le_succ z)
theorem newPair {μ' : Mu} {M' : Mk} {H' : Hp} {h' : Hea} (r' : Hrel G μ' M' H' h') {T : Addr} (hT : H' T = none) {d1 d2 : D} {x y : V} (p1 : Rep G μ' M' H' d1 x) (p2 : Rep G μ' M' H' d2 y) :
    Le μ' M' H' μ' M' (upd H' T (.tup [x, y])) ∧ Hrel G μ' M' (upd H' T (.tup [x, y])) h' ∧ Rep G μ' M' (upd H' T (.tup [x, y])) (.plc [d1, d2]) (.ref T) :=
  ⟨Le.fresh hT, r'.fresh hT, Rep.newPlc r' hT (Reps.cons p1 (Reps.cons p2 Reps.nil))⟩
theorem walk_enum (r : Hrel G μ M H h) {d : D} {a : Addr} {ds : List D} (p : Rep G μ M H d (.ref a)) (e : lsV d = some ds) : Walks G (Ite G.K a) (enumD 0 ds) μ M H := by
  intro μ' M' H' h' l r' i
  have p' := Rep.lw r l.toLw0 _ _ p
  have e' : lstV h' d = some ds := by
    unfold lsV at e
    split at e
    · cases e; rfl
    · cases e; rfl
    · cases e
  obtain ⟨b, xs, eb, sq, t⟩ := lst_rep r' p' e'
  cases eb
  refine ⟨fun d ed => ?_, fun hl => ⟨xs, sq, by rw [enumD_len] at hl; rw [t.length]; exact hl⟩⟩
  obtain ⟨y, ey, rfl⟩ := enumD_get ds 0 i d ed
  obtain ⟨x, ex, rx⟩ := t.get ey
  refine ⟨⟨xs, x, sq, ex⟩, fun y H2 q => ?_⟩
  obtain ⟨T, x', rfl, hT, rfl, q⟩ := q
  have := q xs sq
  rw [ex] at this
  cases this
  exact newPair r' hT (by rw [rep_int]; simp) rx
theorem walk_zip (r : Hrel G μ M H h) {d d2 : D} {a a2 : Addr} {ds ds2 : List D} (p : Rep G μ M H d (.ref a)) (e : lsV d = some ds) (p2 : Rep G μ M H d2 (.ref a2)) (e2 : lsV d2 = some ds2) : Walks G (Itz G.K a a2) (zipD ds ds2) μ M H := by
  intro μ' M' H' h' l r' i
  have key : ∀ {d : D} {ds : List D}, lsV d = some ds → lstV h' d = some ds := fun {d ds} e => by
    unfold lsV at e
    split at e
    · cases e; rfl
    · cases e; rfl
    · cases e
  obtain ⟨b, xs, eb, sq, t⟩ := lst_rep r' (Rep.lw r l.toLw0 _ _ p) (key e)
  cases eb
  obtain ⟨b, ys, eb, sq2, t2⟩ := lst_rep r' (Rep.lw r l.toLw0 _ _ p2) (key e2)
  cases eb
  refine ⟨fun d ed => ?_, fun hl => ⟨xs, ys, sq, sq2, by rw [t.length, t2.length]; exact zipD_len _ _ _ hl⟩⟩
  obtain ⟨y, z, ey, ez, rfl⟩ := zipD_get ds ds2 i d ed
  obtain ⟨x, ex, rx⟩ := t.get ey
  obtain ⟨x2, ex2, rx2⟩ := t2.get ez
  refine ⟨⟨xs, ys, x, x2, sq, sq2, ex, ex2⟩, fun y H2 q => ?_⟩
  obtain ⟨T, x', x2', rfl, hT, rfl, q, q2⟩ := q
  have q' := q xs sq
  rw [ex] at q'
  cases q'
  have q' := q2 ys sq2
  rw [ex2] at q'
  cases q'
  exact newPair r' hT rx rx2
theorem walk_zipT (r : Hrel G μ M H h) {d d2 : D} {a a2 : Addr} {ds ds2 : List D} (p : Rep G μ M H d (.ref a)) (e : tupV d = some ds) (p2 : Rep G μ M H d2 (.ref a2)) (e2 : tupV d2 = some ds2) : Walks G (RZ.ItzT G.K a a2) (zipD ds ds2) μ M H := by
  intro μ' M' H' h' l r' i
  obtain ⟨b, xs, eb, sq, t⟩ := tup_rep (Rep.lw r l.toLw0 _ _ p) e
  cases eb
  obtain ⟨b, ys, eb, sq2, t2⟩ := tup_rep (Rep.lw r l.toLw0 _ _ p2) e2
  cases eb
  refine ⟨fun d ed => ?_, fun hl => ⟨xs, ys, sq, sq2, by rw [t.length, t2.length]; exact zipD_len _ _ _ hl⟩⟩
  obtain ⟨y, z, ey, ez, rfl⟩ := zipD_get ds ds2 i d ed
  obtain ⟨x, ex, rx⟩ := t.get ey
  obtain ⟨x2, ex2, rx2⟩ := t2.get ez
  refine ⟨⟨xs, ys, x, x2, sq, sq2, ex, ex2⟩, fun y H2 q => ?_⟩
  obtain ⟨T, x', x2', rfl, hT, rfl, q, q2⟩ := q
  have q' := q xs sq
  rw [ex] at q'
  cases q'
  have q' := q2 ys sq2
  rw [ex2] at q'
  cases q'
  exact newPair r' hT rx rx2
end
section
variable {γ δ : Type} {G : Glb} {H : Hp} {W : WX} {σ : St} {R2 : Mu → Mk → Hp → γ → δ → Prop}
theorem tG.split1 (p : D → Bool) {f : Loc → Hea → Res D} {g : Loc → D → Hea → Res γ} {Q : δ → Hp → Prop} (q : tG G W R2 (fun ρ h => (f ρ h).bind fun a h1 => g ρ a h1) σ H Q) :
    tG G W R2 (fun ρ h => (f ρ h).bind fun a h1 => if p a = true then g ρ a h1 else .no) σ H Q ∨ tG G W R2 (fun ρ h => (f ρ h).bind fun a h1 => if p a = false then g ρ a h1 else .no) σ H Q := by
  obtain ⟨μ, M, ρ, h, e, r, q⟩ := q.out
  cases ef : f ρ h with
  | no => rw [ef] at q; exact q.elim
  | err c k => rw [ef] at q; exact .inl (tG.of e r (by rw [ef]; exact q))
  | ok a h1 =>
    rw [ef, Res.bind_ok] at q
    cases ep : p a with
    | true => exact .inl (tG.of e r (by rw [ef, Res.bind_ok, if_pos ep]; exact q))
    | false => exact .inr (tG.of e r (by rw [ef, Res.bind_ok, if_pos ep]; exact q))
end
section
variable {P : Program} {w : World} {base : Heap} {G : Glb} {cf : Nat → List D → Hea → Res D} {n : Nat} {N : List Str} {sc : Scope} {fo : Fo} {X : Cx} {W : WX}
variable {a b tg : Expr} {fa fb : Loc → Hea → Res D} {pos p : Pos}
theorem lsV_lstV {h : Hea} {d : D} {ds : List D} (e : lsV d = some ds) : lstV h d = some ds := by
  unfold lsV at e
  split at e
  · cases e; rfl
  · cases e; rfl
  · cases e
theorem si_seq (g : Good P w base G n N sc fo X) (ha : PE X a (tE G W fa)) : PI X tg a (tIr G W fun ρ h => (fa ρ h).bind fun x h1 => need (itV x) fun xs => .ok xs h1) := by
  refine imI (orI (pi_tup ha) (pi_list ha)) fun σ H Q q => ?_
  rcases tG.split1 (fun x => (tupV x).isSome) q with q | q
  · refine .inl (tG.mono (tE.b1 q) ?_)
    rintro v H1 ⟨d, μ, M, ρ, h, e, r, pa, p⟩
    obtain ⟨c, p⟩ := p.ite
    obtain ⟨xs, ex, p⟩ := p.need
    obtain ⟨ds, ed⟩ := Option.isSome_iff_exists.mp c
    have : xs = ds := by
      unfold tupV at ed; unfold itV at ex
      cases d <;> first | (cases ed; cases ex; rfl) | cases ed
    subst this
    obtain ⟨a', ys, rfl, sq, t⟩ := tup_rep pa ed
    exact ⟨a', rfl, ⟨ys, by rw [g.K]; exact sq⟩, by rw [g.K]; exact p.here r (walk_tup r pa ed)⟩
  · refine .inr (tG.mono (tE.b1 q) ?_)
    rintro v H1 ⟨d, μ, M, ρ, h, e, r, pa, p⟩
    obtain ⟨c, p⟩ := p.ite
    obtain ⟨xs, ex, p⟩ := p.need
    have ed : lsV d = some xs := by
      unfold itV at ex; unfold tupV at c; unfold lsV
      cases d <;> first | exact ex | cases c | cases ex
    obtain ⟨a', ys, rfl, sq, t⟩ := lst_rep r pa (lsV_lstV ed)
    exact ⟨a', rfl, ⟨ys, by rw [g.K]; exact sq⟩, by rw [g.K]; exact p.here r (walk_list r pa ed)⟩
theorem reps_keys {G : Glb} {μ : Mu} {M : Mk} {H : Hp} : ∀ k : List Key, Reps G μ M H (k.map kD) (k.map kV)
  | [] => Reps.nil
  | .inl i :: r => Reps.cons (by show Rep G μ M H (.int i) (.int i); rw [rep_int]) (reps_keys r)
  | .inr x :: r => Reps.cons (by show Rep G μ M H (.str x) (.str x); rw [rep_str]) (reps_keys r)
theorem rep_key {G : Glb} {μ : Mu} {M : Mk} {H : Hp} : ∀ k : Key, Rep G μ M H (kD k) (kV k)
  | .inl i => by show Rep G μ M H (.int i) (.int i); rw [rep_int]
  | .inr x => by show Rep G μ M H (.str x) (.str x); rw [rep_str]
theorem walk_keysK {G : Glb} {μ : Mu} {M : Mk} {H : Hp} {d : Addr} {o : Obj} {kvs : List (Key × V)} (hd : H d = some (.frz o (.dK kvs))) : Walks G (Itk d o kvs) ((kvs.map (·.1)).map kD) μ M H := by
  intro μ' M' H' h' l r' i
  have hd' := l.frz _ _ _ hd
  refine ⟨fun x ex => ?_, fun hl => ⟨hd', by simpa using hl⟩⟩
  rw [List.map_map, List.getElem?_map] at ex
  obtain ⟨⟨k, v⟩, ek, rfl⟩ := Option.map_eq_some_iff.mp ex
  refine ⟨⟨hd', (List.getElem?_eq_some_iff.mp ek).1⟩, fun y H2 q => ?_⟩
  obtain ⟨rfl, k2, v2, e2, rfl⟩ := q
  rw [ek] at e2
  cases e2
  exact ⟨Le.refl, r', rep_key k⟩
theorem walk_keysT {G : Glb} {μ : Mu} {M : Mk} {H : Hp} {d : Addr} {o : Obj} {kvs : List (List Key × V)} (hd : H d = some (.frz o (.dT kvs))) : Walks G (Itkt d o kvs) ((kvs.map (·.1)).map fun k => .plc (k.map kD)) μ M H := by
  intro μ' M' H' h' l r' i
  have hd' := l.frz _ _ _ hd
  refine ⟨fun x ex => ?_, fun hl => ⟨hd', by simpa using hl⟩⟩
  rw [List.map_map, List.getElem?_map] at ex
  obtain ⟨⟨k, v⟩, ek, rfl⟩ := Option.map_eq_some_iff.mp ex
  refine ⟨⟨hd', (List.getElem?_eq_some_iff.mp ek).1⟩, fun y H2 q => ?_⟩
  obtain ⟨rfl, k2, v2, q2, e2, rfl, hq⟩ := q
  rw [ek] at e2
  cases e2
  refine ⟨Le.refl, r', ?_⟩
  show Rep G μ' M' H2 (.plc (k.map kD)) (.ref q2)
  rw [rep_plc]
  exact ⟨q2, _, rfl, hq, reps_keys k⟩
theorem si_keys (g : Good P w base G n N sc fo X) (ha : PE X a (tE G W fa)) : PI X tg a (tIr G W fun ρ h => (fa ρ h).bind fun x h1 => need (keysR h1 x) fun xs => .ok xs h1) := by
  refine imI (pi_keys ha) fun σ H Q q => ?_
  refine tG.mono (tE.b1 q) ?_
  rintro v H1 ⟨d, μ, M, ρ, h, e, r, pa, p⟩
  obtain ⟨xs, ex, p⟩ := p.need
  unfold keysR at ex
  split at ex
  · split at ex
    · rename_i ks vs eh
      cases ex
      obtain ⟨a', rfl, _, o, kvs, s, ek, t⟩ := r.at_ pa eh (by intro z; cases z)
      exact ⟨a', o, rfl, .inl ⟨kvs, s, p.here r (by rw [← ek]; exact walk_keysK s)⟩⟩
    · rename_i ks vs eh
      cases ex
      obtain ⟨a', rfl, _, o, kvs, s, ek, t⟩ := r.at_ pa eh (by intro z; cases z)
      exact ⟨a', o, rfl, .inr ⟨kvs, s, p.here r (by rw [← ek]; exact walk_keysT s)⟩⟩
    · cases ex
  · cases ex
theorem si_rng1 (F : Facts P w base G cf n) (g : Good P w base G n N sc fo X) {x : Str} (ex : x = "range") (k : glB sc x = true) (ha : PE X a (tE G W fa)) (hs : starEach [a] X.env = (false, eval a X.env) :: starEach [] X.env) :
    PI X tg (.Call (.Name x p) [a] [] pos) (tIr G W fun ρ h => (fa ρ h).bind fun x h1 => need (intV x) fun j => if ok62 j then .ok (rngL 0 j.toNat) h1 else .no) := by
  subst ex
  refine imI (pi_range1 (g.gl k) (by rw [g.mg]; exact F.blt _ (by decide +kernel)) (pa_cons ha pa_nil hs) hs) fun σ H Q q => ?_
  refine tG.mono (tE.b1 q) ?_
  rintro v H1 ⟨d, μ, M, ρ, h, e, r, pa, p⟩
  obtain ⟨j, ej, p⟩ := p.need
  obtain ⟨c, p⟩ := p.ite
  have ev := int_rep pa ej
  subst ev
  obtain ⟨c1, c2⟩ := ok62_of c
  exact ⟨j, rfl, c1, c2, p.here r (walk_rng 0 _)⟩
theorem si_rng2 (F : Facts P w base G cf n) (g : Good P w base G n N sc fo X) {x : Str} (ex : x = "range") (k : glB sc x = true) (ha : PE X a (tE G W fa)) (hb : PE X b (tE G W fb)) (hs : starEach [a, b] X.env = (false, eval a X.env) :: starEach [b] X.env)
    (hs2 : starEach [b] X.env = (false, eval b X.env) :: starEach [] X.env) :
    PI X tg (.Call (.Name x p) [a, b] [] pos) (tIr G W fun ρ h => (fa ρ h).bind fun x h1 => (fb ρ h1).bind fun y h2 => need (intV x) fun i => need (intV y) fun j =>
      if ok62 i && ok62 j then .ok (rngL i (j - i).toNat) h2 else .no) := by
  subst ex
  refine imI (pi_range2 (g.gl k) (by rw [g.mg]; exact F.blt _ (by decide +kernel)) (pa_cons ha (pa_cons hb pa_nil hs2) hs) (by rw [hs, hs2]; rfl) hs2) fun σ H Q q => ?_
  refine tG.mono (tE.b2 q) ?_
  exact fun v H1 z => z.mono fun u H2 ⟨d, d2, μ, M, ρ, h, e, r, pa, pb, p⟩ => by
    obtain ⟨i, ei, p⟩ := p.need
    obtain ⟨j, ej, p⟩ := p.need
    obtain ⟨c, p⟩ := p.ite
    have ev := int_rep pa ei
    have eu := int_rep pb ej
    subst ev
    subst eu
    rw [Bool.and_eq_true] at c
    obtain ⟨c1, c2⟩ := ok62_of c.1
    obtain ⟨c3, c4⟩ := ok62_of c.2
    exact ⟨i, j, rfl, ⟨c1, c2, c3, c4⟩, p.here r (walk_rng i _)⟩
theorem si_enum (F : Facts P w base G cf n) (g : Good P w base G n N sc fo X) {x : Str} {elts : List Expr} {kk : Nat} {tpos : Pos} (ex : x = "enumerate") (k : glB sc x = true) (ha : PE X a (tE G W fa)) (hs : starEach [a] X.env = (false, eval a X.env) :: starEach [] X.env) :
    PI X (.Tuple elts kk tpos) (.Call (.Name x p) [a] [] pos) (tIr G W fun ρ h => (fa ρ h).bind fun x h1 => need (lsV x) fun xs => .ok (enumD 0 xs) h1) := by
  subst ex
  refine imI (pi_enum (g.gl k) (by rw [g.mg]; exact F.blt _ (by decide +kernel)) (pa_cons ha pa_nil hs) hs) fun σ H Q q => ?_
  refine tG.mono (tE.b1 q) ?_
  rintro v H1 ⟨d, μ, M, ρ, h, e, r, pa, p⟩
  obtain ⟨xs, ex, p⟩ := p.need
  obtain ⟨a', ys, rfl, sq, t⟩ := lst_rep r pa (lsV_lstV ex)
  exact ⟨a', ys, rfl, by rw [g.K]; exact sq, by rw [g.K]; exact p.here r (walk_enum r pa ex)⟩
theorem si_zip (F : Facts P w base G cf n) (g : Good P w base G n N sc fo X) {x : Str} {elts : List Expr} {kk : Nat} {tpos : Pos} (ex : x = "zip") (k : glB sc x = true) (ha : PE X a (tE G W fa)) (hb : PE X b (tE G W fb)) (hs : starEach [a, b] X.env = (false, eval a X.env) :: starEach [b] X.env)
    (hs2 : starEach [b] X.env = (false, eval b X.env) :: starEach [] X.env) :
    PI X (.Tuple elts kk tpos) (.Call (.Name x p) [a, b] [] pos) (tIr G W fun ρ h => (fa ρ h).bind fun x h1 => (fb ρ h1).bind fun y h2 => match lsV x with
      | some xs => need (lsV y) fun ys => .ok (zipD xs ys) h2
      | none => need (tupV x) fun xs => need (tupV y) fun ys => .ok (zipD xs ys) h2) := by
  subst ex
  refine imI (RZ.pi_zipA (g.gl k) (by rw [g.mg]; exact F.blt _ (by decide +kernel)) (pa_cons ha (pa_cons hb pa_nil hs2) hs) hs (by rw [hs2]; rfl)) fun σ H Q q => ?_
  refine tG.mono (tE.b2 q) ?_
  exact fun v H1 z => z.mono fun u H2 ⟨d, d2, μ, M, ρ, h, e, r, pa, pb, p⟩ => by
    split at p
    · rename_i xs ex
      obtain ⟨ys, ey, p⟩ := p.need
      obtain ⟨a1, zs, rfl, sq, t⟩ := lst_rep r pa (lsV_lstV ex)
      obtain ⟨a2, us, rfl, sq2, t2⟩ := lst_rep r pb (lsV_lstV ey)
      exact ⟨a1, a2, zs, us, rfl, .inl ⟨by rw [g.K]; exact sq, by rw [g.K]; exact sq2, by rw [g.K]; exact p.here r (walk_zip r pa ex pb ey)⟩⟩
    · obtain ⟨xs, ex, p⟩ := p.need
      obtain ⟨ys, ey, p⟩ := p.need
      obtain ⟨a1, zs, rfl, sq, t⟩ := tup_rep pa ex
      obtain ⟨a2, us, rfl, sq2, t2⟩ := tup_rep pb ey
      exact ⟨a1, a2, zs, us, rfl, .inr ⟨by rw [g.K]; exact sq, by rw [g.K]; exact sq2, by rw [g.K]; exact p.here r (walk_zipT r pa ex pb ey)⟩⟩
end
end PyI
set_option Elab.async false
set_option linter.all false
set_option maxRecDepth 100000
namespace PyI
open PySem L2
def W0 : WX := fun _ _ _ _ => False
theorem wipe_get {σ : St} : ∀ (vs : List Nat) (j : Nat), (L2.wipe σ vs)[j]? = if j ∈ vs ∧ j < σ.length then some none else σ[j]?
  | [], j => by simp [L2.wipe]
  | v :: vs, j => by
    unfold L2.wipe
    by_cases hv : v = j
    · subst hv
      by_cases hl : v < σ.length
      · rw [List.getElem?_set_self (by rw [wipe_length]; exact hl), if_pos ⟨List.mem_cons_self, hl⟩]
      · rw [List.getElem?_eq_none (by rw [List.length_set, wipe_length]; omega), if_neg (fun z => hl z.2), List.getElem?_eq_none (by omega)]
    · rw [List.getElem?_set_ne hv, wipe_get vs j]
      have : (j ∈ v :: vs ∧ j < σ.length) ↔ (j ∈ vs ∧ j < σ.length) := by
        simp [Ne.symm hv]
      simp only [this]
theorem wipe_idem (σ : St) (vs : List Nat) : L2.wipe (L2.wipe σ vs) vs = L2.wipe σ vs := by
  apply List.ext_getElem?
  intro j
  rw [wipe_get, wipe_length]
  by_cases h : j ∈ vs ∧ j < σ.length
  · rw [if_pos h, wipe_get, if_pos h]
  · rw [if_neg h]
/-- the list that a comprehension fills: it stands at D, marked, in nobody's hands -/
structure LcS (G : Glb) (D : Addr) (μ0 : Mu) (M0 : Mk) (H0 : Hp) (μ : Mu) (M : Mk) (H : Hp) (h : Hea) (ds : List PyI.D) (acc : List V) : Prop where
  le : Le μ0 M0 H0 μ M H
  rel : Hrel G μ M H h
  mD : M D
  nl : ∀ n : Nat, μ[n]? ≠ some (some D)
  at_ : H D = some (.lst acc)
  reps : Reps G μ M H ds acc
section
variable {G : Glb} {μ0 μ μ' : Mu} {M0 M M' : Mk} {H0 H H' : Hp} {h h' : Hea} {D : Addr} {ds : List PyI.D} {acc : List V}
theorem Le.nl (l : Le μ M H μ' M' H') {o : HO} (e : H D = some o) (n0 : ∀ n : Nat, μ[n]? ≠ some (some D)) : ∀ n : Nat, μ'[n]? ≠ some (some D) := fun n z => by
  by_cases hn : n < μ.length
  · exact n0 n (l.back hn z)
  · have := l.new n D (Nat.le_of_not_lt hn) z
    rw [e] at this; cases this
theorem Le.kmD (l : Le μ M H μ' M' H') {o : HO} (e : H D = some o) (n0 : ∀ n : Nat, μ[n]? ≠ some (some D)) (m : M D) : M' D := by
  rcases l.km D m with z | ⟨n, z⟩ | z
  · exact z
  · exact absurd z (n0 n)
  · rw [e] at z; cases z
/-- marked, in nobody's hands: written -/
theorem Lw0.dirty {o : HO} (m : M D) : Lw0 μ M H μ M (upd H D o) := ⟨fun _ _ e => .inl e, fun _ e => e, fun a o' e _ ma => ⟨by rw [upd_ne (fun z : a = D => ma (by rw [z]; exact m))]; exact e, ma⟩⟩
theorem Lw.dirty {o o0 : HO} (m : M D) (s : H D = some o0) (nf : ∀ ob u, o0 ≠ .frz ob u := by intro _ _ z; cases z) : Lw μ M H μ M (upd H D o) := ⟨Lw0.dirty m, fun a ob u e => by
  have : a ≠ D := fun z => by rw [z, s] at e; cases e; exact nf _ _ rfl
  rw [upd_ne this]; exact e⟩
theorem Hrel.dirty {o : HO} (r : Hrel G μ M H h) (m : M D) (n0 : ∀ n : Nat, μ[n]? ≠ some (some D)) (k : mutO o = true) : Hrel G μ M (upd H D o) h where
  len := r.len
  live := fun n u e => by
    rcases r.live n u e with z | ⟨a, z, y⟩
    · exact .inl z
    · have ha : a ≠ D := fun q => n0 n (q ▸ z)
      refine .inr ⟨a, z, ?_⟩
      have e' : upd H D o a = H a := upd_ne ha
      cases u with
      | dead => exact y
      | ins c fs => obtain ⟨C, dx, vs, q, k, z, p⟩ := y; exact ⟨C, dx, vs, e'.trans q, k, z, Reps.lw r (Lw0.dirty m) _ _ p⟩
      | lst ds => obtain ⟨xs, q, p⟩ := y; exact ⟨xs, e'.trans q, Reps.lw r (Lw0.dirty m) _ _ p⟩
      | dK ks ds => obtain ⟨xs, q, k, p⟩ := y; exact ⟨xs, e'.trans q, k, Reps.lw r (Lw0.dirty m) _ _ p⟩
      | dT ks ds => obtain ⟨xs, q, k, p⟩ := y; exact ⟨xs, e'.trans q, k, Reps.lw r (Lw0.dirty m) _ _ p⟩
      | lckK ks ds => obtain ⟨o, xs, q, k, p⟩ := y; exact ⟨o, xs, e'.trans q, k, Reps.lw r (Lw0.dirty m) _ _ p⟩
      | lckT ks ds => obtain ⟨o, xs, q, k, p⟩ := y; exact ⟨o, xs, e'.trans q, k, Reps.lw r (Lw0.dirty m) _ _ p⟩
  inj := r.inj
  mu := r.mu
  md := fun b mb => by
    by_cases hb : b = D
    · rw [hb]; exact ⟨o, upd_same, k⟩
    · obtain ⟨o', q, k⟩ := r.md b mb
      exact ⟨o', by rw [upd_ne hb]; exact q, k⟩
  tb := tabs_upd r.tb (r.md D m)
theorem Le.dirty {o : HO} (l : Le μ0 M0 H0 μ M H) (e0 : H0 D = none) : Le μ0 M0 H0 μ M (upd H D o) where
  frz := fun a ob u e => by rw [upd_ne (ne_of_none e e0)]; exact l.frz a ob u e
  len := l.len
  old := l.old
  dead := l.dead
  new := l.new
  keep := fun a o' e nt n => by rw [upd_ne (ne_of_none e e0)]; exact l.keep a o' e nt n
  dom := fun a o' e => by rw [upd_ne (ne_of_none e e0)]; exact l.dom a o' e
  mkk := l.mkk
  km := l.km
theorem Le.mark {o : HO} (e0 : H0 D = none) : Le μ0 M0 H0 μ0 (fun a => M0 a ∨ a = D) (upd H0 D o) where
  frz := fun a ob u e => by rw [upd_ne (ne_of_none e e0)]; exact e
  len := Nat.le_refl _
  old := fun _ _ e => .inl e
  dead := fun _ e => e
  new := fun n a hn e => by have := (List.getElem?_eq_some_iff.mp e).1; omega
  keep := fun a o' e _ _ => by rw [upd_ne (ne_of_none e e0)]; exact e
  dom := fun a o' e => ⟨o', by rw [upd_ne (ne_of_none e e0)]; exact e⟩
  mkk := fun a e => by
    rcases e with e | e
    · exact .inl e
    · exact .inr (by rw [e]; exact e0)
  km := fun _ e => .inl (.inl e)
theorem Hrel.mark {o : HO} (r : Hrel G μ0 M0 H0 h) (e0 : H0 D = none) (k : mutO o = true) : Hrel G μ0 (fun a => M0 a ∨ a = D) (upd H0 D o) h where
  len := r.len
  live := fun n u e => by
    rcases r.live n u e with z | ⟨a, z, y⟩
    · exact .inl z
    · obtain ⟨w, q⟩ := y.some
      exact .inr ⟨a, z, y.le r (Le.mark e0) (upd_ne (ne_of_none q e0))⟩
  inj := r.inj
  mu := fun n a e => .inl (r.mu n a e)
  md := fun a m => by
    rcases m with m | m
    · obtain ⟨o, e, k⟩ := r.md a m
      exact ⟨o, by rw [upd_ne (ne_of_none e e0)]; exact e, k⟩
    · rw [m]; exact ⟨_, upd_same, k⟩
  tb := tabs_new r.tb e0
/-- a new list, marked -/
theorem LcS.start (r : Hrel G μ0 M0 H0 h) (e0 : H0 D = none) : LcS G D μ0 M0 H0 μ0 (fun a => M0 a ∨ a = D) (upd H0 D (.lst [])) h [] [] where
  le := Le.mark e0
  rel := r.mark e0 rfl
  mD := .inr rfl
  nl := fun n e => r.noMp e0 (r.mu n D e)
  at_ := upd_same
  reps := Reps.nil
theorem LcS.step (s : LcS G D μ0 M0 H0 μ M H h ds acc) (l : Le μ M H μ' M' H') (r : Hrel G μ' M' H' h') : LcS G D μ0 M0 H0 μ' M' H' h' ds acc where
  le := s.le.trans l
  rel := r
  mD := l.kmD s.at_ s.nl s.mD
  nl := l.nl s.at_ s.nl
  at_ := l.keep D _ s.at_ ntL s.nl
  reps := Reps.le s.rel l _ _ s.reps
theorem LcS.push (s : LcS G D μ0 M0 H0 μ M H h ds acc) (e0 : H0 D = none) {d : PyI.D} {v : V} (q : Rep G μ M H d v) : LcS G D μ0 M0 H0 μ M (upd H D (.lst (acc ++ [v]))) h (ds ++ [d]) (acc ++ [v]) where
  le := s.le.dirty e0
  rel := s.rel.dirty s.mD s.nl rfl
  mD := s.mD
  nl := s.nl
  at_ := upd_same
  reps := (Reps.lw s.rel (Lw0.dirty s.mD) _ _ s.reps).append (Reps.cons (Rep.lw s.rel (Lw0.dirty s.mD) _ _ q) Reps.nil)
/-- the loop is over: a list that nobody changes -/
theorem LcS.fin (s : LcS G D μ0 M0 H0 μ M H h ds acc) (e0 : H0 D = none) : Le μ0 M0 H0 μ (fun a => M a ∧ a ≠ D) H ∧ Hrel G μ (fun a => M a ∧ a ≠ D) H h ∧ Rep G μ (fun a => M a ∧ a ≠ D) H (.lst ds) (.ref D) := by
  have lw : Lw0 μ M H μ (fun a => M a ∧ a ≠ D) H := ⟨fun _ _ e => .inl e, fun _ e => e, fun a o e _ m => ⟨e, fun z => m z.1⟩⟩
  refine ⟨{ len := s.le.len, old := s.le.old, dead := s.le.dead, new := s.le.new, keep := s.le.keep, frz := s.le.frz, dom := s.le.dom, mkk := fun a m => s.le.mkk a m.1, km := fun a m => ?_ }, ?_, ?_⟩
  · rcases s.le.km a m with z | z | z
    · by_cases ha : a = D
      · exact .inr (.inr (by rw [ha]; exact e0))
      · exact .inl ⟨z, ha⟩
    · exact .inr (.inl z)
    · exact .inr (.inr z)
  · exact {
      len := s.rel.len
      live := fun n u e => by
        rcases s.rel.live n u e with z | ⟨a, z, y⟩
        · exact .inl z
        · refine .inr ⟨a, z, ?_⟩
          cases u with
          | dead => exact y
          | ins c fs => obtain ⟨C, dx, vs, q, k, z, p⟩ := y; exact ⟨C, dx, vs, q, k, z, Reps.lw s.rel lw _ _ p⟩
          | lst ds => obtain ⟨xs, q, p⟩ := y; exact ⟨xs, q, Reps.lw s.rel lw _ _ p⟩
          | dK ks ds => obtain ⟨xs, q, k, p⟩ := y; exact ⟨xs, q, k, Reps.lw s.rel lw _ _ p⟩
          | dT ks ds => obtain ⟨xs, q, k, p⟩ := y; exact ⟨xs, q, k, Reps.lw s.rel lw _ _ p⟩
          | lckK ks ds => obtain ⟨o, xs, q, k, p⟩ := y; exact ⟨o, xs, q, k, Reps.lw s.rel lw _ _ p⟩
          | lckT ks ds => obtain ⟨o, xs, q, k, p⟩ := y; exact ⟨o, xs, q, k, Reps.lw s.rel lw _ _ p⟩
      inj := s.rel.inj
      mu := fun n a e => ⟨s.rel.mu n a e, fun z => s.nl n (z ▸ e)⟩
      md := fun a m => s.rel.md a m.1
      tb := s.rel.tb }
  · rw [rep_lst]
    exact ⟨D, acc, rfl, s.at_, fun z => z.2 rfl, Reps.lw s.rel lw _ _ s.reps⟩
/-- the loop is over: a list to be changed -/
theorem LcS.live (s : LcS G D μ0 M0 H0 μ M H h ds acc) (e0 : H0 D = none) : Le μ0 M0 H0 (μ ++ [some D]) M H ∧ Hrel G (μ ++ [some D]) M H (h ++ [.lst ds]) ∧ Rep G (μ ++ [some D]) M H (.ref h.length) (.ref D) := by
  have lt : ∀ {n : Nat} {x : Option Addr}, μ[n]? = some x → (μ ++ [some D])[n]? = some x := fun {n x} e => by
    rw [List.getElem?_append_left (List.getElem?_eq_some_iff.mp e).1]; exact e
  have lw : Lw0 μ M H (μ ++ [some D]) M H := ⟨fun _ _ e => .inl (lt e), fun _ e => lt e, fun a o e _ m => ⟨e, m⟩⟩
  have inv : ∀ {n : Nat} {x : Option Addr}, (μ ++ [some D])[n]? = some x → μ[n]? = some x ∨ (n = μ.length ∧ x = some D) := fun {n x} e => by
    by_cases hn : n < μ.length
    · rw [List.getElem?_append_left hn] at e; exact .inl e
    · rw [List.getElem?_append_right (Nat.le_of_not_lt hn)] at e
      have h1 := (List.getElem?_eq_some_iff.mp e).1
      have h2 : n - μ.length = 0 := by simp at h1; omega
      rw [h2] at e; simp at e; exact .inr ⟨by omega, e.symm⟩
  refine ⟨{ len := by { have := s.le.len; simp; omega }, old := fun n a e => ?_, dead := fun n e => lt (s.le.dead n e), new := fun n a hn e => ?_, keep := s.le.keep, frz := s.le.frz, dom := s.le.dom, mkk := s.le.mkk, km := s.le.km }, ?_, ?_⟩
  · rcases s.le.old n a e with z | z
    · exact .inl (lt z)
    · exact .inr (lt z)
  · rcases inv e with z | ⟨_, z⟩
    · exact s.le.new n a hn z
    · cases z; exact e0
  · exact {
      len := by simp [s.rel.len]
      live := fun n u e => by
        by_cases hn : n < h.length
        · rw [List.getElem?_append_left hn] at e
          rcases s.rel.live n u e with ⟨z1, z2⟩ | ⟨a, z, y⟩
          · exact .inl ⟨z1, lt z2⟩
          · refine .inr ⟨a, lt z, ?_⟩
            cases u with
            | dead => exact y
            | ins c fs => obtain ⟨C, dx, vs, q, k, z, p⟩ := y; exact ⟨C, dx, vs, q, k, z, Reps.lw s.rel lw _ _ p⟩
            | lst ds => obtain ⟨xs, q, p⟩ := y; exact ⟨xs, q, Reps.lw s.rel lw _ _ p⟩
            | dK ks ds => obtain ⟨xs, q, k, p⟩ := y; exact ⟨xs, q, k, Reps.lw s.rel lw _ _ p⟩
            | dT ks ds => obtain ⟨xs, q, k, p⟩ := y; exact ⟨xs, q, k, Reps.lw s.rel lw _ _ p⟩
            | lckK ks ds => obtain ⟨o, xs, q, k, p⟩ := y; exact ⟨o, xs, q, k, Reps.lw s.rel lw _ _ p⟩
            | lckT ks ds => obtain ⟨o, xs, q, k, p⟩ := y; exact ⟨o, xs, q, k, Reps.lw s.rel lw _ _ p⟩
        · rw [List.getElem?_append_right (Nat.le_of_not_lt hn)] at e
          have h1 := (List.getElem?_eq_some_iff.mp e).1
          have h2 : n - h.length = 0 := by simp at h1; omega
          rw [h2] at e; simp at e; subst e
          refine .inr ⟨D, ?_, acc, s.at_, Reps.lw s.rel lw _ _ s.reps⟩
          have h3 : n = μ.length := by rw [s.rel.len]; omega
          rw [h3, List.getElem?_append_right (Nat.le_refl _), Nat.sub_self]; rfl
      inj := fun n k a e1 e2 => by
        rcases inv e1 with z1 | ⟨h1, z1⟩ <;> rcases inv e2 with z2 | ⟨h2, z2⟩
        · exact s.rel.inj n k a z1 z2
        · cases z2; exact absurd z1 (s.nl n)
        · cases z1; exact absurd z2 (s.nl k)
        · omega
      mu := fun n a e => by
        rcases inv e with z | ⟨_, z⟩
        · exact s.rel.mu n a z
        · cases z; exact s.mD
      md := s.rel.md
      tb := s.rel.tb }
  · rw [rep_ref]
    exact ⟨D, rfl, .inl (by rw [← s.rel.len, List.getElem?_append_right (Nat.le_refl _), Nat.sub_self]; rfl)⟩
end
theorem noErr_ok {α : Type} {r : Res α} {a : α} {h : Hea} : r.noErr = .ok a h ↔ r = .ok a h := by
  cases r <;> simp [Res.noErr]
theorem noErr_ne {α : Type} {r : Res α} {c : Nat} {h : Hea} : r.noErr ≠ .err c h := by
  cases r <;> simp [Res.noErr]
theorem bind_okE {α β : Type} {r : Res α} {f : α → Hea → Res β} {b : β} {h : Hea} (e : r.bind f = .ok b h) : ∃ a h1, r = .ok a h1 ∧ f a h1 = .ok b h := by
  cases r with
  | ok a h1 => exact ⟨a, h1, rfl, e⟩
  | err c k => cases e
  | no => cases e
theorem need_okE {α β : Type} {o : Option α} {f : α → Res β} {b : β} {h : Hea} (e : need o f = .ok b h) : ∃ a, o = some a ∧ f a = .ok b h := by
  cases o with
  | none => cases e
  | some a => exact ⟨a, rfl, e⟩
theorem lcLoop_ne {turn : D → Hea → Res (Option D)} (n : ∀ x h c k, turn x h ≠ .err c k) : ∀ (xs acc : List D) (h : Hea) (c : Nat) (k : Hea), lcLoop turn xs acc h ≠ .err c k
  | [], acc, h, c, k, e => by cases e
  | x :: r, acc, h, c, k, e => by
    unfold lcLoop at e
    cases et : turn x h with
    | no => rw [et] at e; cases e
    | err c' k' => exact n x h c' k' et
    | ok y h1 =>
      rw [et, Res.bind_ok] at e
      cases y with
      | none => exact lcLoop_ne n r acc h1 c k e
      | some y =>
        simp only at e
        split at e
        · exact lcLoop_ne n r _ h1 c k e
        · cases e
theorem lcLoop_cons {turn : D → Hea → Res (Option D)} {x : D} {r acc ys : List D} {h hF : Hea} (e : lcLoop turn (x :: r) acc h = .ok ys hF) : ∃ y h1, turn x h = .ok y h1 ∧
    ((∃ z, y = some z ∧ acc.length < sizeLine ∧ lcLoop turn r (acc ++ [z]) h1 = .ok ys hF) ∨ (y = none ∧ lcLoop turn r acc h1 = .ok ys hF)) := by
  unfold lcLoop at e
  obtain ⟨y, h1, et, e⟩ := bind_okE e
  refine ⟨y, h1, et, ?_⟩
  cases y with
  | none => exact .inr ⟨rfl, e⟩
  | some y =>
    simp only at e
    split at e
    · rename_i c; exact .inl ⟨y, rfl, c, e⟩
    · cases e
theorem lc2Loop_ne {inner : D → List D → Hea → Res (List D)} (n : ∀ x acc h c k, inner x acc h ≠ .err c k) : ∀ (xs acc : List D) (h : Hea) (c : Nat) (k : Hea), lc2Loop inner xs acc h ≠ .err c k
  | [], acc, h, c, k, e => by cases e
  | x :: r, acc, h, c, k, e => by
    unfold lc2Loop at e
    cases et : inner x acc h with
    | no => rw [et] at e; cases e
    | err c' k' => exact n x acc h c' k' et
    | ok y h1 =>
      rw [et, Res.bind_ok] at e
      exact lc2Loop_ne n r y h1 c k e
/-- one turn of a comprehension -/
def lcTurn (own : List Nat) (tg : Tg) (fc : Loc → Hea → Res Bool) (fe : Loc → Hea → Res D) (ρ : Loc) (x : D) (h2 : Hea) : Res (Option D) :=
  (need (evG tg (wipeD ρ own) x) fun ρ1 => (fc ρ1 h2).bind fun k h4 => if k then (fe ρ1 h4).bind fun y h5 => .ok (some y) h5 else .ok none h4).noErr
def lcF (m : Bool) (own : List Nat) (tg : Tg) (fi : Loc → Hea → Res (List D)) (fc : Loc → Hea → Res Bool) (fe : Loc → Hea → Res D) (ρ : Loc) (h : Hea) : Res D :=
  (fi ρ h).bind fun xs h1 => (lcLoop (lcTurn own tg fc fe ρ) xs [] h1).bind fun ys h6 => mkL m ys h6
theorem lcTurn_ok {own : List Nat} {tg : Tg} {fc : Loc → Hea → Res Bool} {fe : Loc → Hea → Res D} {ρ : Loc} {x : D} {h h1 : Hea} {y : Option D} (e : lcTurn own tg fc fe ρ x h = .ok y h1) :
    ∃ ρ1 k h4, evG tg (wipeD ρ own) x = some ρ1 ∧ fc ρ1 h = .ok k h4 ∧ ((k = true ∧ ∃ z, y = some z ∧ fe ρ1 h4 = .ok z h1) ∨ (k = false ∧ y = none ∧ h1 = h4)) := by
  obtain ⟨ρ1, e1, e⟩ := need_okE (noErr_ok.mp e)
  obtain ⟨k, h4, e2, e⟩ := bind_okE e
  refine ⟨ρ1, k, h4, e1, e2, ?_⟩
  cases k with
  | true =>
    obtain ⟨z, h5, e3, e⟩ := bind_okE (show (fe ρ1 h4).bind _ = _ from e)
    cases e
    exact .inl ⟨rfl, z, rfl, e3⟩
  | false => cases e; exact .inr ⟨rfl, rfl, rfl⟩
section
variable {G : Glb} {W : WX} {σ : St} {H : Hp} {own : List Nat} {tg : Tg} {fi : Loc → Hea → Res (List D)} {fc : Loc → Hea → Res Bool} {fe : Loc → Hea → Res D}
/-- the turn, by the layer's readings: from a state with the list at L -/
theorem lc_turn {L : Addr} {μ0 μ : Mu} {M0 M : Mk} {H0 H : Hp} {h h1 : Hea} {ds : List D} {acc : List V} {ρ : Loc} {σ : St} {x : D} {v : V} {y : Option D} {Nx : Hp → Prop} (e0 : H0 L = none)
    (s : LcS G L μ0 M0 H0 μ M H h ds acc) (en : Envi G μ M H ρ σ) (rx : Rep G μ M H x v) (et : lcTurn own tg fc fe ρ x h = .ok y h1)
    (hn : ∀ μ' M' H' ds' acc', (match y with | some z => ds.length < sizeLine ∧ ds' = ds ++ [z] | none => ds' = ds) → LcS G L μ0 M0 H0 μ' M' H' h1 ds' acc' → Envi G μ' M' H' ρ σ → Lw μ M H μ' M' H' → Nx H')
    (hz : ∀ z, y = some z → ds.length < sizeLine) :
    tGt G own tg v (L2.wipe σ own) H fun σ2 H2 => L2.wipe σ2 own = L2.wipe σ own ∧ tT G W0 fc σ2 H2 fun b H3 =>
      if b = true then tE G W0 fe σ2 H3 fun y H4 => ∃ acc, H4 L = some (.lst acc) ∧ acc.length < sizeLine ∧ Nx (upd H4 L (.lst (acc ++ [y]))) else Nx H3 := by
  obtain ⟨ρ1, k, h4, e1, e2, e3⟩ := lcTurn_ok et
  refine ⟨μ, M, wipeD ρ own, x, ρ1, en.wipe own, rx, e1, fun σ2 en2 w2 => ⟨w2.trans (wipe_idem σ own), ?_⟩⟩
  refine ⟨μ, M, ρ1, h, en2, s.rel, ?_⟩
  rw [e2]
  intro b μ1 M1 H1 l1 r1 eb
  subst eb
  have s1 := s.step l1 r1
  rcases e3 with ⟨rfl, z, rfl, e3⟩ | ⟨rfl, rfl, rfl⟩
  · rw [if_pos rfl]
    refine ⟨μ1, M1, ρ1, h4, en2.le s.rel l1, r1, ?_⟩
    rw [e3]
    intro u μ2 M2 H2 l2 r2 ru
    have s2 := s1.step l2 r2
    refine ⟨acc, s2.at_, by rw [s2.reps.length]; exact hz z rfl, ?_⟩
    exact hn μ2 M2 _ (ds ++ [z]) (acc ++ [u]) ⟨hz z rfl, rfl⟩ (s2.push e0 ru) (((en.le s.rel l1).le r1 l2).lw r2 (Lw0.dirty s2.mD)) (((l1.trans l2).lw s.rel).trans (Lw.dirty s2.mD s2.at_))
  · rw [if_neg Bool.false_ne_true]
    exact hn μ1 M1 H1 ds acc rfl s1 (en.le s.rel l1) (l1.lw s.rel)
theorem lc_read {m0 : Bool} {Q : VK} (q : tE G W (lcF m0 own tg fi fc fe) σ H Q) : tLc (tIr G W fi) (tGt G own tg) (tT G W0 fc) (tE G W0 fe) own σ H Q := by
  obtain ⟨μ, M, ρ, h, e, r, p⟩ := q.out
  unfold lcF at p
  refine tG.mono (tG.thn (R := RW G) (f := fi) e r p) ?_
  rintro J H1 ⟨xs, μ1, M1, h1, l1, e1, r1, wk, p1⟩
  intro L e0
  obtain ⟨ys, hF, eF⟩ : ∃ ys hF, lcLoop (lcTurn own tg fc fe ρ) xs [] h1 = .ok ys hF := by
    revert p1
    cases ec : lcLoop (lcTurn own tg fc fe ρ) xs [] h1 with
    | ok ys hF => exact fun _ => ⟨ys, hF, rfl⟩
    | err c k => exact absurd ec (lcLoop_ne (fun x h c k => noErr_ne) xs [] h1 c k)
    | no => exact fun z => z.elim
  rw [eF, Res.bind_ok] at p1
  refine ⟨fun i m H => i + m = xs.length ∧ ∃ μ M h ds acc, LcS G L μ1 M1 H1 μ M H h ds acc ∧ Envi G μ M H ρ σ ∧ Lw μ1 M1 H1 μ M H ∧ lcLoop (lcTurn own tg fc fe ρ) (xs.drop i) ds h = .ok ys hF,
    ⟨xs.length, by omega, μ1, _, h1, [], [], LcS.start r1 e0, e1.le r1 (LcS.start r1 e0).le, (LcS.start r1 e0).le.lw r1, by rw [List.drop_zero]; exact eF⟩, ?_⟩
  rintro i m H2 ⟨hi, μ2, M2, h2, ds, acc, s, en, lw, el⟩
  have wk2 := wk μ2 M2 H2 h2 lw s.rel i
  by_cases hd : i < xs.length
  · refine .inr ?_
    have ex : xs[i]? = some xs[i] := List.getElem?_eq_getElem hd
    rw [List.drop_eq_getElem_cons hd] at el
    obtain ⟨y, h3, et, el⟩ := lcLoop_cons el
    obtain ⟨go, yl⟩ := wk2.1 _ ex
    refine ⟨go, fun H' => (i + 1) + (m - 1) = xs.length ∧ ∃ μ M h ds acc, LcS G L μ1 M1 H1 μ M H' h ds acc ∧ Envi G μ M H' ρ σ ∧ Lw μ1 M1 H1 μ M H' ∧ lcLoop (lcTurn own tg fc fe ρ) (xs.drop (i + 1)) ds h = .ok ys hF, fun H' z => ⟨m - 1, by omega, z⟩, ?_⟩
    intro v H3 yd
    obtain ⟨l3, r3, rv⟩ := yl v H3 yd
    have s3 := s.step l3 r3
    refine lc_turn e0 s3 (en.le s.rel l3) rv et ?_ ?_
    · intro μ' M' H' ds' acc' hy s' en' lw'
      refine ⟨by omega, μ', M', h3, ds', acc', s', en', (lw.trans (l3.lw s.rel)).trans lw', ?_⟩
      rcases el with ⟨z, rfl, hz, el⟩ | ⟨rfl, el⟩
      · rw [hy.2]; exact el
      · have hy : ds' = ds := hy
        rw [hy]; exact el
    · intro z ez
      rcases el with ⟨z', _, hz, _⟩ | ⟨e, _⟩
      · exact hz
      · rw [e] at ez; cases ez
  · refine .inl ⟨wk2.2 (Nat.le_of_not_lt hd), ?_⟩
    rw [List.drop_eq_nil_of_le (Nat.le_of_not_lt hd)] at el
    cases (show Res.ok ds h2 = Res.ok ys hF from el)
    cases m0 with
    | false =>
      obtain ⟨f1, f2, f3⟩ := s.fin e0
      exact p1 (.ref L) μ2 _ H2 f1 f2 f3
    | true =>
      obtain ⟨f1, f2, f3⟩ := s.live e0
      exact p1 (.ref L) _ M2 H2 f1 f2 f3
def lc2In (own own2 : List Nat) (tg tg2 : Tg) (fi2 : Loc → Hea → Res (List D)) (fc : Loc → Hea → Res Bool) (fe : Loc → Hea → Res D) (ρ : Loc) (x : D) (acc : List D) (h2 : Hea) : Res (List D) :=
  (need (evG tg (wipeD ρ own) x) fun ρ1 => (fi2 ρ1 h2).bind fun xs2 h4 => lcLoop (lcTurn own2 tg2 fc fe ρ1) xs2 acc h4).noErr
def lc2F (m : Bool) (own own2 : List Nat) (tg tg2 : Tg) (fi fi2 : Loc → Hea → Res (List D)) (fc : Loc → Hea → Res Bool) (fe : Loc → Hea → Res D) (ρ : Loc) (h : Hea) : Res D :=
  (fi ρ h).bind fun xs h1 => (lc2Loop (lc2In own own2 tg tg2 fi2 fc fe ρ) xs [] h1).bind fun ys h6 => mkL m ys h6
variable {own2 : List Nat} {tg2 : Tg} {fi2 : Loc → Hea → Res (List D)}
theorem lc2_read {m0 : Bool} {Q : VK} (q : tE G W (lc2F m0 own own2 tg tg2 fi fi2 fc fe) σ H Q) : tLc2 (tIr G W fi) (tGt G own tg) tYes (tIr G W0 fi2) (tGt G own2 tg2) (tT G W0 fc) (tE G W0 fe) own own2 σ H Q := by
  obtain ⟨μ, M, ρ, h, e, r, p⟩ := q.out
  unfold lc2F at p
  refine tG.mono (tG.thn (R := RW G) (f := fi) e r p) ?_
  rintro J H1 ⟨xs, μ1, M1, h1, l1, e1, r1, wk, p1⟩
  intro L e0
  obtain ⟨ys, hF, eF⟩ : ∃ ys hF, lc2Loop (lc2In own own2 tg tg2 fi2 fc fe ρ) xs [] h1 = .ok ys hF := by
    revert p1
    cases ec : lc2Loop (lc2In own own2 tg tg2 fi2 fc fe ρ) xs [] h1 with
    | ok ys hF => exact fun _ => ⟨ys, hF, rfl⟩
    | err c k => exact absurd ec (lc2Loop_ne (fun x acc h c k => noErr_ne) xs [] h1 c k)
    | no => exact fun z => z.elim
  rw [eF, Res.bind_ok] at p1
  refine ⟨fun i m H => i + m = xs.length ∧ ∃ μ M h ds acc, LcS G L μ1 M1 H1 μ M H h ds acc ∧ Envi G μ M H ρ σ ∧ Lw μ1 M1 H1 μ M H ∧ lc2Loop (lc2In own own2 tg tg2 fi2 fc fe ρ) (xs.drop i) ds h = .ok ys hF,
    ⟨xs.length, by omega, μ1, _, h1, [], [], LcS.start r1 e0, e1.le r1 (LcS.start r1 e0).le, (LcS.start r1 e0).le.lw r1, by rw [List.drop_zero]; exact eF⟩, ?_⟩
  rintro i m H2 ⟨hi, μ2, M2, h2, ds, acc, s, en, lw, el⟩
  have wk2 := wk μ2 M2 H2 h2 lw s.rel i
  by_cases hd : i < xs.length
  · refine .inr ?_
    have ex : xs[i]? = some xs[i] := List.getElem?_eq_getElem hd
    rw [List.drop_eq_getElem_cons hd] at el
    obtain ⟨ds1, h3, et, el⟩ := bind_okE (show (lc2In own own2 tg tg2 fi2 fc fe ρ xs[i] ds h2).bind (fun acc1 h1 => lc2Loop (lc2In own own2 tg tg2 fi2 fc fe ρ) (xs.drop (i + 1)) acc1 h1) = .ok ys hF from el)
    obtain ⟨go, yl⟩ := wk2.1 _ ex
    refine ⟨go, fun H' => (i + 1) + (m - 1) = xs.length ∧ ∃ μ M h ds acc, LcS G L μ1 M1 H1 μ M H' h ds acc ∧ Envi G μ M H' ρ σ ∧ Lw μ1 M1 H1 μ M H' ∧ lc2Loop (lc2In own own2 tg tg2 fi2 fc fe ρ) (xs.drop (i + 1)) ds h = .ok ys hF, fun H' z => ⟨m - 1, by omega, z⟩, ?_⟩
    intro v H3 yd
    obtain ⟨l3, r3, rv⟩ := yl v H3 yd
    have s3 := s.step l3 r3
    have en3 := en.le s.rel l3
    obtain ⟨ρ1, e1', et⟩ := need_okE (noErr_ok.mp et)
    obtain ⟨xs2, h4, e2', et⟩ := bind_okE et
    refine ⟨μ2, M2, wipeD ρ own, xs[i], ρ1, en3.wipe own, rv, e1', fun σ2 en2 w2 => ⟨w2.trans (wipe_idem σ own), ?_⟩⟩
    show tIr G W0 fi2 σ2 H3 _
    refine ⟨μ2, M2, ρ1, h2, en2, r3, ?_⟩
    rw [e2']
    intro J1 μ4 M4 H4 l4 r4 wkI
    have s4 := s3.step l4 r4
    refine ⟨fun j k H => j + k = xs2.length ∧ ∃ μ M h dsb acc, LcS G L μ1 M1 H1 μ M H h dsb acc ∧ Envi G μ M H ρ1 σ2 ∧ Envi G μ M H ρ σ ∧ Lw μ1 M1 H1 μ M H ∧ Lw μ4 M4 H4 μ M H ∧ lcLoop (lcTurn own2 tg2 fc fe ρ1) (xs2.drop j) dsb h = .ok ds1 h3,
      ⟨xs2.length, by omega, μ4, M4, h4, ds, acc, s4, en2.le r3 l4, en3.le r3 l4, (lw.trans (l3.lw s.rel)).trans (l4.lw r3), Lw.refl, by rw [List.drop_zero]; exact et⟩, ?_⟩
    rintro j k H5 ⟨hj, μ5, M5, h5, dsb, acc5, s5, en5, en5', lw5, lw5', el5⟩
    have wk5 := wkI μ5 M5 H5 h5 lw5' s5.rel j
    by_cases hd5 : j < xs2.length
    · refine .inr ?_
      have ex5 : xs2[j]? = some xs2[j] := List.getElem?_eq_getElem hd5
      rw [List.drop_eq_getElem_cons hd5] at el5
      obtain ⟨y, h6, et5, el6⟩ := lcLoop_cons el5
      obtain ⟨go5, yl5⟩ := wk5.1 _ ex5
      refine ⟨go5, fun H' => (j + 1) + (k - 1) = xs2.length ∧ ∃ μ M h dsb acc, LcS G L μ1 M1 H1 μ M H' h dsb acc ∧ Envi G μ M H' ρ1 σ2 ∧ Envi G μ M H' ρ σ ∧ Lw μ1 M1 H1 μ M H' ∧ Lw μ4 M4 H4 μ M H' ∧ lcLoop (lcTurn own2 tg2 fc fe ρ1) (xs2.drop (j + 1)) dsb h = .ok ds1 h3, fun H' z => ⟨k - 1, by omega, z⟩, ?_⟩
      intro v5 H6 yd5
      obtain ⟨l6, r6, rv6⟩ := yl5 v5 H6 yd5
      have s6 := s5.step l6 r6
      refine lc_turn e0 s6 (en5.le s5.rel l6) rv6 et5 ?_ ?_
      · intro μ' M' H' ds' acc' hy s' en' lw'
        have lw6 := (l6.lw s5.rel).trans lw'
        refine ⟨by omega, μ', M', h6, ds', acc', s', en', en5'.lw s5.rel lw6, lw5.trans lw6, lw5'.trans lw6, ?_⟩
        rcases el6 with ⟨z, rfl, hz, el6⟩ | ⟨rfl, el6⟩
        · rw [hy.2]; exact el6
        · have hy : ds' = dsb := hy
          rw [hy]; exact el6
      · intro z ez
        rcases el6 with ⟨z', _, hz, _⟩ | ⟨e, _⟩
        · exact hz
        · rw [e] at ez; cases ez
    · refine .inl ⟨wk5.2 (Nat.le_of_not_lt hd5), ?_⟩
      rw [List.drop_eq_nil_of_le (Nat.le_of_not_lt hd5)] at el5
      obtain ⟨q1, q2⟩ : dsb = ds1 ∧ h5 = h3 := by
        have q : Res.ok dsb h5 = Res.ok ds1 h3 := el5
        injection q with q1 q2
        exact ⟨q1, q2⟩
      rw [q1, q2] at s5
      exact ⟨by omega, μ5, M5, h3, ds1, acc5, s5, en5', lw5, el⟩
  · refine .inl ⟨wk2.2 (Nat.le_of_not_lt hd), ?_⟩
    rw [List.drop_eq_nil_of_le (Nat.le_of_not_lt hd)] at el
    cases (show Res.ok ds h2 = Res.ok ys hF from el)
    cases m0 with
    | false =>
      obtain ⟨f1, f2, f3⟩ := s.fin e0
      exact p1 (.ref L) μ2 _ H2 f1 f2 f3
    | true =>
      obtain ⟨f1, f2, f3⟩ := s.live e0
      exact p1 (.ref L) _ M2 H2 f1 f2 f3
end
end PyI
set_option Elab.async false
set_option linter.all false
set_option maxRecDepth 100000
namespace PyI
open PySem PySem.Spec PyProof.Rows L2
/-- a suite's ends, where slot i is emptied behind it -/
def endsA (i : Nat) (D : Ends) : Ends := { nx := fun σ1 H1 => D.nx (σ1.set i none) H1, rt := D.rt, bk := fun σ1 H1 => D.bk (σ1.set i none) H1, ct := fun σ1 H1 => D.ct (σ1.set i none) H1 }
abbrev Cls := List (Value × (Addr → Value → Option Addr → TS))
/-- what the clauses wish of an exception of the body -/
def wClauses (K : PySem.W.Frag) (Wo : WX) (i : Nat) (D : Ends) : Cls → WX
  | [] => Wo
  | (c, ts) :: r => fun cls d σ H => ∃ yes, PySem.W.exmOne K cls c = some yes ∧ (yes = true → ∀ a, H a = none → ts a cls d (endsA i D) (σ.set i (some (.ref a))) H) ∧ (yes = false → wClauses K Wo i D r cls d σ H)
inductive ClsOk (X : Cx) (nm : Str) : List ExceptHandler → Cls → Prop
  | nil : ClsOk X nm [] []
  | cons {x : Str} {c : Value} {ts : Addr → Value → Option Addr → TS} {st : Stmt} {su : List Stmt} {q1 q2 : Pos} {hr : List ExceptHandler} {l : Cls} (hc : Names X x c)
      (hs : ∀ (a : Addr) (o : Obj) (cls : Value) (d : Option Addr) (pn : List (Addr × Obj)), Zc cls d o → (∃ fs, o.data = .fields fs) → PSs (X.suite a ((a, o) :: pn)) (st :: su) (ts a cls d)) (r : ClsOk X nm hr l) :
      ClsOk X nm (.ExceptHandler (some (.Name x q1)) (some nm) (st :: su) q2 :: hr) ((c, ts) :: l)
section
variable {X : Cx} {nm : Str} {i : Nat} {body : List Stmt} {e0 : ExceptHandler} {er : List ExceptHandler} {l : Cls} {pos : Pos} {tb : WX → TS} {Wo : WX}
theorem ps_try_as_many (s0 : X.stack = X.env :: X.outer) (f0 : X.env.frame = some X.env.locals) (nd : X.N.Nodup) (hi : X.N[i]? = some nm) (kn : X.env.kindOf nm = some .local) (tk : Takes X Wo)
    (hb : ∀ (W : WX) (pn : List (Addr × Obj)) (xe : Value → Shared → Prop), Takes (X.tr pn xe) W → PassesOwn (model X.prog X.w) X.A X.env xe → PSs (X.tr pn xe) body (tb W))
    (hh : ClsOk X nm (e0 :: er) l) : PS X (.Try body (e0 :: er) [] [] pos) (fun D σ H => tb (wClauses X.K Wo i D l) D σ H) := by
  constructor
  intro pins s σ H D I hw
  have okX := I.ok
  have frX : X.A.frames = some (X.env :: X.outer) := by rw [okX.frames, s0]
  have locN : L2.Loc X.env.scope nm := .inl kn
  apply wpAny_Try_except
  have run := (hb (wClauses X.K Wo i D l) (X.pn ++ pins) (fun u t1 => wpAny (model X.prog X.w) X.A (noteFrame u X.env) (fun _ t2 => wpAny (model X.prog X.w) X.A (setFlight u none) (fun _ t3 =>
    wpAny (model X.prog X.w) X.A (handleBy u X.env (e0 :: er)) (SP X pins D) X.xe t3) X.xe t2) X.xe t1) ?_ PassesOwn.looking).run [] s σ H D (I.toTry _) hw
  · refine wpAny_mono run ?_ (fun _ _ z => z)
    intro fl t1 q
    cases fl with
    | next => obtain ⟨σ1, H1, J, z⟩ := q; exact wpAny_execs_nil ⟨σ1, H1, J.ofTry okX, z⟩
    | brk => obtain ⟨σ1, H1, J, z⟩ := q; exact ⟨σ1, H1, J.ofTry okX, z⟩
    | cont => obtain ⟨σ1, H1, J, z⟩ := q; exact ⟨σ1, H1, J.ofTry okX, z⟩
    | ret u => obtain ⟨v, σ1, H1, J, rv, z⟩ := q; exact ⟨v, σ1, H1, J.ofTry okX, rv, z⟩
  · rintro u t1 ⟨a, B, tI, pins1, σ1, H1, cls, d, rfl, J0, nb, up, sky, na, os, ag, w⟩
    have J : Inv X pins σ1 H1 tI := J0.ofTry okX
    rw [s0] at sky
    show wpAny (model X.prog X.w) X.A (noteFrame (.ref a) X.env) _ _ _
    apply Sky.land Zc.steady frX f0 sky
    intro g fl up2
    have Jg : Inv X pins σ1 H1 { t1 with heap := g } := J.landed nb fl.1 (up.trans up2) os ag
    obtain ⟨o3, fs3, ho3, hz3, hd3⟩ := fl.there
    have aFr : a ∉ frs (X.env :: X.outer) := by
      intro hm
      obtain ⟨_, o5, e5, n5⟩ := fl.2.2.1.mem hm
      rw [ho3] at e5
      cases e5
      exact n5 _ hd3
    have aL : a ≠ X.env.locals := by
      intro z
      exact aFr (List.mem_filterMap.mpr ⟨X.env, List.mem_cons_self, by rw [f0, z]⟩)
    have aF : a ∉ X.fs := by
      intro hm
      obtain ⟨v, hv, z⟩ := List.mem_filterMap.mp hm
      exact aFr (List.mem_filterMap.mpr ⟨v, List.mem_cons_of_mem _ hv, z⟩)
    have S3 := Jg.suite ho3 hd3 na aL aF
    have go : ∀ {hs : List ExceptHandler} {m : Cls}, ClsOk X nm hs m → wClauses X.K Wo i D m cls d σ1 H1 → wpAny (model X.prog X.w) X.A (handleBy (.ref a) X.env hs) (SP X pins D) X.xe { t1 with heap := g } := by
      intro hs m hk
      induction hk with
      | nil =>
        intro wn
        apply wpAny_handleBy_nil
        obtain ⟨_, _, _, ob, fs, tb1, oT, tr, z1, z2, z3, z4, _⟩ := id fl
        unfold PySem.passOn
        apply wpAny_bind
        refine wpAny_field z1 z3 z4 ?_
        rw [if_neg (by simp : ¬ ((Value.ref tb1 == Value.none) = true))]
        have last : wpAny (model X.prog X.w) X.A (setFlight (.ref a) X.env.frame) (fun _ t4 => wpAny (model X.prog X.w) X.A (throw (.ref a) : Sem Flow) (SP X pins D) X.xe t4) X.xe { t1 with heap := g } := by
          rw [f0]
          apply HandSPX.setFlight_upZ fl
          intro g4 hg4 up4
          apply wpAny_throw
          apply tk
          exact ⟨a, B, tI, pins, σ1, H1, cls, d, rfl, J, nb, (up.trans up2).trans up4, .inr (.inr (by rw [s0]; exact hg4)), na, os, ag, wn⟩
        first
          | exact wpAny_bind (wpAny_pure (wpAny_bind last))
          | exact wpAny_bind last
      | @cons x c ts st su q1 q2 hr m2 hc hsu _ ih =>
        rintro ⟨yes, ex, onYes, onNo⟩
        refine wpAny_handleBy_cons (codeAny_handlers_test ?_) (fun z => by cases z)
        have tyA : PySem.W.Looks (model X.prog X.w) g (typeOf (.ref a)) cls := by
          intro A Q E s k q
          exact wpAny_typeOf_ref (k _ _ ho3) (by rw [hz3.1]; exact q)
        have match1 := PySem.W.exm_one (M := model X.prog X.w) Jg.kIn tyA ex
        have look : ∀ {Q E : Value → Shared → Prop}, Q c { t1 with heap := g } → wpAny (model X.prog X.w) (X.A.mark (some (.ref a))) (eval (.Name x q1) X.env) Q E { t1 with heap := g } := by
          intro Q E q
          obtain ⟨hg, hdb, hm | ⟨hm, hv, hn⟩⟩ := hc
          · exact ld_glob (X := X.suite a ((a, o3) :: (X.pn ++ pins))) S3 hg hm q hdb
          · exact ld_blt (X := X.suite a ((a, o3) :: (X.pn ++ pins))) S3 hg hm hv q hn hdb
        apply look
        apply match1.here
        cases yes with
        | false => exact ih (onNo rfl)
        | true =>
          apply codeAny_handlers_suite_as
          apply HandSPX.lands_againZ fl
          intro g4 fl4 up4
          have J4 : Inv X pins σ1 H1 { t1 with heap := g4 } := J.landed nb fl4.1 ((up.trans up2).trans up4) os ag
          obtain ⟨o4, fs4, ho4, hz4, hd4⟩ := fl4.there
          have S4 := J4.suite ho4 hd4 na aL aF
          refine store_ok (X := X.suite a ((a, o4) :: (X.pn ++ pins))) (v := .ref a) S4 nd hi locN rfl ?_ (.inr kn)
          intro t5 S5
          refine wpAny_mono ((hsu a o4 cls d (X.pn ++ pins) hz4 ⟨_, hd4⟩).run [] t5 _ H1 _ S5 (onYes rfl a na)) ?_ (fun _ _ z => z.elim)
          intro f6 t6 q6
          have done : ∀ {σ6 : L2.St} {H6 : Hp} {Q : Shared → Prop}, Inv (X.suite a ((a, o4) :: (X.pn ++ pins))) [] σ6 H6 t6 → (∀ t7, Inv X pins (σ6.set i none) H6 t7 → Q t7) →
              wpAny (model X.prog X.w) X.A (do bindName X.env nm .none; unbindBehindTheSuite X.env nm q2) (fun _ t7 => Q t7) X.xe t6 := by
            intro σ6 H6 Q S6 hq
            exact gone_ok (S6.unsuite okX) nd hi kn hq
          cases f6 with
          | next => obtain ⟨σ6, H6, S6, z⟩ := q6; exact done S6 fun t7 J7 => ⟨_, _, J7, z⟩
          | brk => obtain ⟨σ6, H6, S6, z⟩ := q6; exact done S6 fun t7 J7 => ⟨_, _, J7, z⟩
          | cont => obtain ⟨σ6, H6, S6, z⟩ := q6; exact done S6 fun t7 J7 => ⟨_, _, J7, z⟩
          | ret u => obtain ⟨v6, σ6, H6, S6, rv, z⟩ := q6; exact done S6 fun t7 J7 => ⟨_, _, _, J7, rv, z⟩
    exact go hh w
end
end PyI
set_option Elab.async false
set_option linter.all false
set_option maxRecDepth 100000
set_option maxHeartbeats 1000000
namespace PyI
open PySem PySem.Spec PyProof.Rows L2 LamX
/-- how the tracked heap grows when a lambda is made: not at all, or the table at P and the new code object at c' -/
def Grown (P c' : Addr) (q : Str) (H H1 : Hp) : Prop := H1 = H ∨ ∃ ps, H c' = none ∧ (∃ os, H P = some (.tbl os)) ∧ H1 = upd (upd H P (.tbl ps)) c' (CodeO c' q)
section
variable {X : Cx} {pins : List (Addr × Obj)} {σ : L2.St} {H : Hp} {s : Shared}
theorem Grown.at_ {P c' : Addr} {q : Str} {H1 : Hp} (gr : Grown P c' q H H1) {b : Addr} {o : HO} (e : H b = some o) (nt : NoTb o) : H1 b = some o := by
  rcases gr with rfl | ⟨ps, n, ⟨os, t⟩, rfl⟩
  · exact e
  · have h1 : b ≠ c' := ne_of_none e n
    have h2 : b ≠ P := by
      intro z
      rw [z, t] at e
      cases e
      exact nt os rfl
    rw [upd_ne h1, upd_ne h2]
    exact e
theorem Grown.dom {P c' : Addr} {q : Str} {H1 : Hp} (gr : Grown P c' q H H1) {b : Addr} {o : HO} (e : H b = some o) : ∃ o', H1 b = some o' := by
  rcases gr with rfl | ⟨ps, n, _, rfl⟩
  · exact ⟨o, e⟩
  · have h1 : b ≠ c' := ne_of_none e n
    by_cases h2 : b = P
    · exact ⟨.tbl ps, by rw [upd_ne h1, h2, upd_same]⟩
    · exact ⟨o, by rw [upd_ne h1, upd_ne h2]; exact e⟩
theorem lam_made {tabs : List (Addr × Str)} {c P : Addr} {params : Arguments} {body : Expr} {scope : Scope} {pos : Pos} {E Q : Value → Shared → Prop} (I : Inv X pins σ H s) (tb : TabB X.base X.mg c P) (cd : X.env.code = .ref c)
    (mem : (P, X.env.qual ++ "<lambda>") ∈ tabs) (one : ∀ p ∈ tabs, p.1 = P → p.2 = X.env.qual ++ "<lambda>") (T0 : Tabs tabs H) (nd : defaultsOf params X.env = ([], [])) (fr : ∀ y ∈ scope.names, y.2 = .free → ∃ c, X.env.cells.lookup y.1 = some c)
    (go : ∀ (f c' : Addr) (pm ctv : Value) (H1 : Hp) (t : Shared), Inv X pins σ H1 t → Grown P c' (X.env.qual ++ "<lambda>") H H1 → Tabs tabs H1 →
      t.heap.get? f = some (PySem.W.kla_obj "<lambda>" (X.env.qual ++ "<lambda>") params body scope (cloFrom X.env.cells scope.names []) pm c' ctv) → H1 f = none → f ∉ frs X.stack → H1 c' = some (CodeO c' (X.env.qual ++ "<lambda>")) → Q (.ref f) t) :
    wpAny (model X.prog X.w) X.A (eval (.Lambda params body scope pos) X.env) Q E s := by
  obtain ⟨ps, atP, tri, all⟩ := T0 _ mem
  apply PySem.W.kla_eval nd
  have bmP : s.heap.BuiltinsAt X.mg P := tb.bm.keeps I.bk
  have objP : s.heap.get? P = some { cls := .none, data := .fields ps } := I.hok P _ atP
  have freeFr : ∀ f, s.heap.objs.size ≤ f → f ∉ frs X.stack := by
    intro f le hm
    rcases List.mem_cons.mp (I.stkSub _ hm) with z | z
    · have := I.lt
      rw [← z] at this
      exact Nat.lt_irrefl _ (Nat.lt_of_lt_of_le this le)
    · exact I.nofs le z
  cases found : codeAmong pos ps.toList with
  | some cv =>
    obtain ⟨c', rfl, known⟩ := all pos cv found
    apply PySem.W.kla_makeFunctionHit (mg := X.mg) (c := c) (P := P) (ps := ps) (closure_ok fr) I.ok.glob (I.mod.glob.keeps I.bk) cd (tb.code.keeps I.bk) objP tri found bmP
    intro ctv h' tk keep le
    have J : Inv X pins σ H { s with heap := h'.push (PySem.W.kla_obj "<lambda>" (X.env.qual ++ "<lambda>") params body scope (cloFrom X.env.cells scope.names []) ((X.mg "__name__").getD .none) c' ctv), toks := tk } := by
      apply I.kept
      intro b o e
      exact Heap.get?_push_of_some _ (keep b o e)
    exact go h'.objs.size c' ((X.mg "__name__").getD .none) ctv H _ J (.inl rfl) T0 (Heap.get?_push_size _ rfl) (I.hok.fresh le) (freeFr _ le) known
  | none =>
    apply PySem.W.kla_makeFunction (mg := X.mg) (c := c) (P := P) (ps := ps) (closure_ok fr) I.ok.glob (I.mod.glob.keeps I.bk) cd (tb.code.keeps I.bk) objP tri found tb.gP bmP
    intro c' ctv h' tk keep ge lt rec tabNow
    obtain ⟨c2, oc, vs, u, e2, hoc, hd, hv⟩ := rec
    cases e2
    have le : s.heap.objs.size ≤ h'.objs.size := Nat.le_trans ge (Nat.le_of_lt lt)
    have newC : H c' = none := I.hok.fresh ge
    have J := inv_table (t' := tk) (more := #[rawInt pos.line, rawInt pos.col, .ref c']) (h' := h'.push (PySem.W.kla_obj "<lambda>" (X.env.qual ++ "<lambda>") params body scope (cloFrom X.env.cells scope.names []) ((X.mg "__name__").getD .none) c' ctv)) I atP
      (fun b o hb e => Heap.get?_push_of_some _ (keep b o hb e)) (Heap.get?_push_of_some _ tabNow) ge ⟨oc, vs, u, Heap.get?_push_of_some _ hoc, hd, hv⟩
    have gr : Grown P c' (X.env.qual ++ "<lambda>") H (upd (upd H P (.tbl (ps ++ #[rawInt pos.line, rawInt pos.col, .ref c']))) c' (CodeO c' (X.env.qual ++ "<lambda>"))) := .inr ⟨_, newC, ⟨ps, atP⟩, rfl⟩
    have list3 : (ps ++ #[rawInt pos.line, rawInt pos.col, .ref c']).toList = ps.toList ++ [rawInt pos.line, rawInt pos.col, .ref c'] := by simp
    refine go h'.objs.size c' ((X.mg "__name__").getD .none) ctv _ _ J gr ?_ (Heap.get?_push_size _ rfl) ?_ (freeFr _ le) upd_same
    · intro p hp
      by_cases hb : p.1 = P
      · rw [one p hp hb, hb]
        refine ⟨ps ++ #[rawInt pos.line, rawInt pos.col, .ref c'], ?_, ?_, ?_⟩
        · rw [upd_ne (ne_of_none atP newC), upd_same]
        · rw [list3]; exact PySem.TriplesOk_snoc _ _ _ _ tri
        · intro p2 cv hcv
          rw [list3] at hcv
          rcases among_app _ tri hcv with z | z
          · obtain ⟨c0, e1, e2⟩ := all p2 cv z
            exact ⟨c0, e1, gr.at_ e2 codeO_ne⟩
          · exact ⟨c', z, upd_same⟩
      · obtain ⟨qs, a1, a2, a3⟩ := T0 p hp
        refine ⟨qs, ?_, a2, ?_⟩
        · rw [upd_ne (ne_of_none a1 newC), upd_ne hb]; exact a1
        · intro p2 cv hcv
          obtain ⟨c0, e1, e2⟩ := a3 p2 cv hcv
          exact ⟨c0, e1, gr.at_ e2 codeO_ne⟩
    · have n1 : h'.objs.size ≠ c' := by omega
      have n2 : h'.objs.size ≠ P := Nat.ne_of_gt (Nat.lt_of_lt_of_le (Heap.lt_size objP) le)
      rw [upd_ne n1, upd_ne n2]
      exact I.hok.fresh le
end
section
variable {X : Cx} {pins : List (Addr × Obj)} {σ : L2.St} {H : Hp} {s : Shared}
/-- a(), in the def that got the lambda -/
theorem pe_actG {CXg : CXT} {Eg : XK} {Ng : List Str} {qg : Str} {sg : Scope} {g f c' : Addr} {cdg pm ctv : Value} {body : Expr} {scope : Scope} {k i : Nat} {a : Str} {pn : List (Addr × Obj)} {xe : Value → Shared → Prop} {W : WX} {E : XK} {tb : TE} {p1 p2 : Pos}
    (I : Inv X pins σ H s) (L : LamS X.env.scope scope) (obj : s.heap.get? f = some (PySem.W.kla_obj "<lambda>" (X.env.qual ++ "<lambda>") ⟨[], [], none, [], [], none, []⟩ body scope (cloFrom X.env.cells scope.names []) pm c' ctv)) (hid : H f = none) (nf : f ∉ frs X.stack)
    (tk : Takes ((cxOf CXg X.prog X.w X.K X.mg X.base Ng qg sg g cdg X.A X.stack s H Eg).tr pn xe) W) (out : ∀ cls d σ' H', E cls d H' → W cls d σ' H') (room : Room (k + 1) (X.A.deeper (envOfC qg sg s.heap.objs.size g cdg))) (gd : X.A.guards = some [])
    (inner : ∀ (A : Around) (fr : List Env) (s1 : Shared) (H1 : Hp), A.guards = some [] → Room k (A.deeper (lamEnv X scope s1.heap.objs.size f c')) → PE (lamCx X A fr s1 H1 E scope f c') body tb)
    (hN : Ng[i]? = some a) (hv : Vis sg a) (hd : (a == ("__debug__" : Str)) = false) (hc : (a == ("__classdict__" : Str)) = false) :
    PE ((cxOf CXg X.prog X.w X.K X.mg X.base Ng qg sg g cdg X.A X.stack s H Eg).tr pn xe) (.Call (.Name a p1) [] [] p2)
      (fun τ HZ Q => τ[i]? = some (some (.ref f)) ∧ HZ c' = some (CodeO c' (X.env.qual ++ "<lambda>")) ∧ tb σ HZ Q) := by
  constructor
  rintro pz sz τ HZ Q IZ ⟨slot, code, q0⟩
  apply wpAny_Call_Name_kw
  refine thn ((pe_var (pos := p1) (i := i) hN hv hd hc).run pz sz τ HZ (fun v H1 => v = .ref f ∧ H1 = HZ) IZ ⟨.ref f, slot, rfl, rfl⟩) ?_
  rintro u s1 ⟨v, H1, I1, rv, ev, eH⟩
  subst ev
  rw [eH] at I1
  obtain rfl : u = Value.ref f := rv
  have obj1 : s1.heap.get? f = some (PySem.W.kla_obj "<lambda>" (X.env.qual ++ "<lambda>") ⟨[], [], none, [], [], none, []⟩ body scope (cloFrom X.env.cells scope.names []) pm c' ctv) := I1.base.keep f _ obj hid nf (by intro z; cases z)
  apply PySem.W.callWith_F0 ⟨_, _, _, _, obj1⟩
  have un : Un (frs X.stack) [] H HZ s.heap s1.heap := I1.base
  obtain ⟨⟨oc, vs, u2, hoc, hdc, hvc⟩, _, _⟩ := I1.hok c' _ code
  have run : codeAny (model X.prog X.w) (X.A.deeper (envOfC qg sg s.heap.objs.size g cdg)) (.call (.ref f) ⟨[], []⟩) (CR (L2.CX X.prog X.w) (envOfC qg sg s.heap.objs.size g cdg :: X.stack) X.prog X.w HZ s1 Q E) s1 := by
    apply PySem.W.kla_callFunE room.depth obj1 rfl L.co L.gen rfl ⟨c', oc, vs, u2, rfl, hoc, hdc, hvc⟩
    have bind0 : bindArgs (PySem.W.kla_fn "<lambda>" (X.env.qual ++ "<lambda>") ⟨[], [], none, [], [], none, []⟩ body scope (cloFrom X.env.cells scope.names []) pm (.ref c') ctv) ⟨[], []⟩ = pure [] := rfl
    rw [bind0]
    refine wpAny_pure (wpAny_newFunctionEnv (fun y hy => (L.own y hy).2) (fun y hy => absurd hy (by simp)) ?_ L.kind)
    intro h2 hns hsb
    refine ⟨I1.nolimit.fresh _ hsb, ?_⟩
    show codeAny _ _ (.expr body (lamEnv X scope s1.heap.objs.size f c')) _ _
    have kp : ∀ b o, s1.heap.get? b = some o → h2.get? b = some o := fun b o e => hsb.extBut b o (Nat.ne_of_lt (Heap.lt_size e)) (Heap.get?_push_of_some _ e)
    have J := lam_start2 (tk := s1.toks + ([] : List (Str × Value)).length) (E := E) (f := f) (c' := c') I L I1.env0 room.hd un hns kp
    apply PySem.W.kla_codeExpr
    refine wpAny_mono ((inner (X.A.deeper (envOfC qg sg s.heap.objs.size g cdg)) _ s1 HZ gd (room.deeper _)).run [] _ _ HZ Q J q0) ?_ (fun _ _ z => z)
    rintro v t ⟨w', H', J', rv2, q2⟩
    exact ⟨w', H', J'.os, J'.bare, J'.base, J'.hok, rv2, q2⟩
  have lets : Passes (L2.CX X.prog X.w) ((cxOf CXg X.prog X.w X.K X.mg X.base Ng qg sg g cdg X.A X.stack s H Eg).tr pn xe) E := passes_call tk out
  apply wpAny_call
  refine codeAny_mono run ?_
  intro r t c
  match r, c with
  | .error z, c => exact lets pz τ HZ s1 z t I1 c
  | .ok (.ret u), c => exact I1.after c
  | .ok .next, c => exact c.elim
  | .ok .brk, c => exact c.elim
  | .ok .cont, c => exact c.elim
end
end PyI
set_option Elab.async false
set_option linter.all false
set_option maxRecDepth 100000
set_option maxHeartbeats 1000000
namespace PyI
open PySem PySem.Spec PyProof.Rows L2 LamX
/-- a constant is told, in a context of any kind -/
def tCon (G : Glb) (d : D) : TE := fun _ H Q => ∃ μ M h, Hrel G μ M H h ∧ ∀ v μ' M' H', Le μ M H μ' M' H' → Hrel G μ' M' H' h → Rep G μ' M' H' d v → Q v H'
section
variable {G : Glb} {X : Cx}
def flatV : D → V
  | .bl b => .bl b
  | .int i => .int i
  | .str x => .str x
  | _ => .non
theorem pe_flat {d : D} {e : Expr} (h : constB d e = true) : (PE X e (tC (flatV d)) ∧ ∀ G μ M H, Rep G μ M H d (flatV d)) ∧ ∃ c j p, e = .Constant c j p := by
  unfold constB at h
  split at h
  · exact ⟨⟨pe_non, fun G μ M H => by rw [rep_non]; rfl⟩, _, _, _, rfl⟩
  · rename_i b c _ _
    cases (show b = c by simpa using h)
    exact ⟨⟨pe_bl, fun G μ M H => by rw [rep_bl]; rfl⟩, _, _, _, rfl⟩
  · cases of_decide_eq_true h
    exact ⟨⟨pe_int, fun G μ M H => by rw [rep_int]; rfl⟩, _, _, _, rfl⟩
  · cases of_decide_eq_true h
    exact ⟨⟨pe_str, fun G μ M H => by rw [rep_str]; rfl⟩, _, _, _, rfl⟩
  · cases h
theorem pe_con1 {d : D} {e : Expr} (h : constB d e = true) : PE X e (tCon G d) := by
  obtain ⟨⟨p, q⟩, _⟩ := pe_flat (X := X) h
  exact imE p fun σ H Q ⟨μ, M, h, r, k⟩ => k _ μ M H Le.refl r (q _ _ _ _)
theorem pe_con {d : D} {e : Expr} (h : retB d e = true) : PE X e (tCon G d) := by
  unfold retB at h
  split at h
  · rename_i a b e1 e2 _ _
    rw [Bool.and_eq_true] at h
    obtain ⟨⟨p1, q1⟩, _, _, _, rfl⟩ := pe_flat (X := X) h.1
    obtain ⟨⟨p2, q2⟩, _, _, _, rfl⟩ := pe_flat (X := X) h.2
    refine imE (pe_tup (pa_cons p1 (pa_cons p2 pa_nil))) fun σ H Q ⟨μ, M, h0, r, k⟩ => ?_
    refine ⟨by show 2 ≤ sizeLine; decide, fun p hp => ?_⟩
    exact k (.ref p) μ M _ (Le.fresh hp) (r.fresh hp) (Rep.newPlc r hp (Reps.cons (q1 _ _ _ _) (Reps.cons (q2 _ _ _ _) Reps.nil)))
  · exact pe_con1 h
def clsVal (G : Glb) (c : Nat) : Value := match G.T.ex c with | some x => (G.mg x).getD .none | none => .none
theorem clsVal_eq {c : Nat} {x : Str} {v : Value} (e : G.T.ex c = some x) (m : G.mg x = some v) : clsVal G c = v := by
  unfold clsVal
  rw [e]
  show (G.mg x).getD .none = v
  rw [m]; rfl
/-- the clauses' wishes -/
def clsOf (G : Glb) : List (Nat × D) → Cls
  | [] => []
  | (c, d) :: r => (clsVal G c, fun _ _ _ En σ H => tCon G d σ H En.rt) :: clsOf G r
end
section
variable {P : Program} {w : World} {base : Heap} {G : Glb} {cf : Nat → List D → Hea → Res D} {n : Nat}
theorem hs_ok (F : Facts P w base G cf n) {X : Cx} (eK : X.K = G.K) (em : X.mg = G.mg) {nm : Str} : ∀ {l : List (Nat × D)} {hs : List ExceptHandler}, hsB G.T X.env.scope nm l hs = true → ClsOk X nm hs (clsOf G l)
  | [], [], _ => .nil
  | (c, d) :: r, h0 :: hs, h => by
    unfold hsB at h
    split at h
    · rename_i heq1 heq2
      cases heq1
    · rename_i c' d' r' x q1 n' e q2 q3 hs' heq1 heq2
      cases heq1
      cases heq2
      simp only [Bool.and_eq_true, decide_eq_true_eq] at h
      obtain ⟨⟨⟨⟨h1, h2⟩, rfl⟩, h4⟩, h5⟩ := h
      obtain ⟨C, B, newId, initId, bmB, _, _, hm, _⟩ := F.exs c x h1
      show ClsOk X n' _ ((clsVal G c, _) :: clsOf G r)
      rw [clsVal_eq h1 hm]
      refine .cons ⟨?_, (glB_gl h2).2.1, .inl (by rw [em]; exact hm)⟩ (fun a o cls dd pn _ _ => pss_one (ps_ret (pe_con h4))) (hs_ok F eK em h5)
      exact (glB_gl h2).1
    · cases h
  | [], _ :: _, h => Bool.noConfusion h
  | _ :: _, [], h => Bool.noConfusion h
/-- what an exception of the c-th class meets -/
theorem wClauses_of (F : Facts P w base G cf n) {En : Ends} {Wo : WX} {i : Nat} {c : Nat} {C : Addr} {μ : Mu} {M : Mk} {H : Hp} {h : Hea} {σ : L2.St} (ex : exN G c C) (r : Hrel G μ M H h) :
    ∀ {l : List (Nat × D)}, (∀ q ∈ l, ∃ x, G.T.ex q.1 = some x) → (match clauseOf c l with | some d => ∀ v μ' M' H', Le μ M H μ' M' H' → Hrel G μ' M' H' h → Rep G μ' M' H' d v → En.rt v H' | none => Wo (.ref C) none σ H) →
      wClauses G.K Wo i En (clsOf G l) (.ref C) none σ H
  | [], _, k => k
  | (d, dv) :: r0, ok, k => by
    obtain ⟨x, hx, hm⟩ := ex
    obtain ⟨y, hy⟩ := ok (d, dv) List.mem_cons_self
    obtain ⟨E, B, newId, initId, bmB, _, _, hm2, _⟩ := F.exs d y hy
    show wClauses G.K Wo i En ((clsVal G d, _) :: clsOf G r0) (.ref C) none σ H
    rw [clsVal_eq hy hm2]
    refine ⟨subX c d, F.sub c d x y C E hx hy hm hm2, fun hy' a ha => ?_, fun hn => ?_⟩
    · unfold clauseOf at k
      rw [if_pos hy'] at k
      exact ⟨μ, M, h, r, k⟩
    · unfold clauseOf at k
      rw [if_neg (by rw [hn]; simp)] at k
      exact wClauses_of F ⟨x, hx, hm⟩ r (fun q hq => ok q (List.mem_cons_of_mem _ hq)) k
theorem hsB_ex {T : Tab} {scope : Scope} {nm : Str} : ∀ {l : List (Nat × D)} {hs : List ExceptHandler}, hsB T scope nm l hs = true → ∀ q ∈ l, ∃ x, T.ex q.1 = some x
  | [], _, _, q, hq => by cases hq
  | (c, d) :: r, [], h, q, hq => Bool.noConfusion h
  | (c, d) :: r, h0 :: hs, h, q, hq => by
    unfold hsB at h
    split at h
    · rename_i heq1 heq2; cases heq1
    · rename_i c' d' r' x q1 n' e q2 q3 hs' heq1 heq2
      cases heq1
      cases heq2
      simp only [Bool.and_eq_true, decide_eq_true_eq] at h
      rcases List.mem_cons.mp hq with rfl | z
      · exact ⟨x, h.1.1.1.1⟩
      · exact hsB_ex h.2 q z
    · cases h
end
end PyI
set_option Elab.async false
set_option linter.all false
set_option maxRecDepth 100000
set_option maxHeartbeats 1000000
namespace PyI
open PySem PySem.Spec PyProof.Rows L2 LamX
section
variable {X : Cx} {pins : List (Addr × Obj)} {σ σ0 : L2.St} {H H0 : Hp} {s sI : Shared}
/-- an object that wasn't there at sI is tracked from now on -/
theorem Inv.track {u : HO} {a : Addr} (I0 : Inv X pins σ0 H0 sI) (h0 : sI.heap.get? a = none) (J : Inv X pins σ H s) (hn : H a = none) (new : ObjOk X.prog X.w (upd H a u) s.heap a u) : Inv X pins σ (upd H a u) s := by
  have ne : ∀ b o, sI.heap.get? b = some o → b ≠ a := fun b o e z => by
    rw [z, h0] at e
    cases e
  refine ⟨J.ok, J.os, J.bare, ⟨J.base.keep, J.base.slot, fun b o e n hb => ?_, J.base.there, fun b xs e => ?_, fun b o v e => ?_, fun b ps e => ?_⟩, J.loc, J.cell, ?_, fun x c e => ?_, fun p hp => ?_, J.hok.laidN (fun _ _ q => q) hn new, J.len⟩
  · obtain ⟨o', e'⟩ := I0.base.there b o e hb
    rw [upd_ne (ne b o' e')]
    exact J.base.free b o e n hb
  · have z := J.base.tups b xs e
    rw [upd_ne (ne_of_none z hn)]
    exact z
  · have z := J.base.frzs b o v e
    rw [upd_ne (ne_of_none z hn)]
    exact z
  · obtain ⟨m, z⟩ := J.base.tbls b ps e
    exact ⟨m, by rw [upd_ne (ne_of_none z hn)]; exact z⟩
  · obtain ⟨m, ⟨o, es, ep, ho, _⟩, _⟩ := I0.loc
    rw [upd_ne (ne _ o ho)]
    exact J.free
  · obtain ⟨v, ⟨o, ho, _⟩⟩ := I0.cell x c e
    rw [upd_ne (ne _ o ho)]
    exact J.freeC x c e
  · obtain ⟨e0, _⟩ := I0.pin p hp
    obtain ⟨e1, n1, r⟩ := J.pin p hp
    exact ⟨e1, by rw [upd_ne (ne _ _ e0)]; exact n1, r⟩
end
theorem exT_ok {P : Program} {w : World} {H : Hp} {h : Heap} {a C : Addr} {oe : Obj} {vs : Array Value} {t0 : Option Addr} (e : h.get? a = some oe) (z : Zc (.ref C) none oe) (d : oe.data = .fields vs) (k : ∀ t, t0 = some t → vs[0]? = some (.ref t)) : ObjOk P w H h a (ExT C t0 a) :=
  ⟨⟨oe, vs, e, z, d, k⟩, ⟨oe, e⟩, fun _ _ ⟨o, v, q, r⟩ k => ⟨o, v, k o q, r⟩⟩
/-- what the clause wishes of an exception of the body -/
def wCaught (K : PySem.W.Frag) (Wo : WX) (D : Ends) (c : Value) : WX := fun cls d σ H => ∃ yes, PySem.W.exmOne K cls c = some yes ∧ (yes = true → ∃ C, cls = .ref C ∧ d = none ∧ ∀ a, H a = none → D.rt (.ref a) (upd H a (ExT C none a))) ∧ (yes = false → Wo cls d σ H)
section
variable {X : Cx} {nm x : Str} {i : Nat} {body : List Stmt} {c : Value} {pos q1 q2 q3 q4 : Pos} {tb : WX → TS} {Wo : WX}
theorem ps_try_caught (s0 : X.stack = X.env :: X.outer) (f0 : X.env.frame = some X.env.locals) (nd : X.N.Nodup) (hi : X.N[i]? = some nm) (kn : X.env.kindOf nm = some .local) (vis : Vis X.env.scope nm) (hd : (nm == ("__debug__" : Str)) = false) (hcd : (nm == ("__classdict__" : Str)) = false) (tk : Takes X Wo)
    (hb : ∀ (W : WX) (pn : List (Addr × Obj)) (xe : Value → Shared → Prop), Takes (X.tr pn xe) W → PassesOwn (model X.prog X.w) X.A X.env xe → PSs (X.tr pn xe) body (tb W))
    (hc : Names X x c) : PS X (.Try body [.ExceptHandler (some (.Name x q1)) (some nm) [.Return (some (.Name nm q3)) q4] q2] [] [] pos) (fun D σ H => tb (wCaught X.K Wo D c) D σ H) := by
  constructor
  intro pins s σ H D I hw
  have okX := I.ok
  have frX : X.A.frames = some (X.env :: X.outer) := by rw [okX.frames, s0]
  have locN : L2.Loc X.env.scope nm := .inl kn
  apply wpAny_Try_except
  have run := (hb (wCaught X.K Wo D c) (X.pn ++ pins) (fun u t1 => wpAny (model X.prog X.w) X.A (noteFrame u X.env) (fun _ t2 => wpAny (model X.prog X.w) X.A (setFlight u none) (fun _ t3 =>
    wpAny (model X.prog X.w) X.A (handleBy u X.env [.ExceptHandler (some (.Name x q1)) (some nm) [.Return (some (.Name nm q3)) q4] q2]) (SP X pins D) X.xe t3) X.xe t2) X.xe t1) ?_ PassesOwn.looking).run [] s σ H D (I.toTry _) hw
  · refine wpAny_mono run ?_ (fun _ _ z => z)
    intro fl t1 q
    cases fl with
    | next => obtain ⟨σ1, H1, J, z⟩ := q; exact wpAny_execs_nil ⟨σ1, H1, J.ofTry okX, z⟩
    | brk => obtain ⟨σ1, H1, J, z⟩ := q; exact ⟨σ1, H1, J.ofTry okX, z⟩
    | cont => obtain ⟨σ1, H1, J, z⟩ := q; exact ⟨σ1, H1, J.ofTry okX, z⟩
    | ret u => obtain ⟨v, σ1, H1, J, rv, z⟩ := q; exact ⟨v, σ1, H1, J.ofTry okX, rv, z⟩
  · rintro u t1 ⟨a, B, tI, pins1, σ1, H1, cls, d, rfl, J0, nb, up, sky, na, os, ag, w⟩
    have J : Inv X pins σ1 H1 tI := J0.ofTry okX
    rw [s0] at sky
    show wpAny (model X.prog X.w) X.A (noteFrame (.ref a) X.env) _ _ _
    apply Sky.land Zc.steady frX f0 sky
    intro g fl up2
    have Jg : Inv X pins σ1 H1 { t1 with heap := g } := J.landed nb fl.1 (up.trans up2) os ag
    obtain ⟨o3, fs3, ho3, hz3, hd3⟩ := fl.there
    have aFr : a ∉ frs (X.env :: X.outer) := by
      intro hm
      obtain ⟨_, o5, e5, n5⟩ := fl.2.2.1.mem hm
      rw [ho3] at e5
      cases e5
      exact n5 _ hd3
    have aI : tI.heap.get? a = none := by
      cases e : tI.heap.get? a with
      | none => rfl
      | some o =>
        have z := nb a o e (by show a ∉ frs X.stack; rw [s0]; exact aFr)
        rw [fl.2.1] at z
        cases z
    have aL : a ≠ X.env.locals := by
      intro z
      exact aFr (List.mem_filterMap.mpr ⟨X.env, List.mem_cons_self, by rw [f0, z]⟩)
    have aF : a ∉ X.fs := by
      intro hm
      obtain ⟨v, hv, z⟩ := List.mem_filterMap.mp hm
      exact aFr (List.mem_filterMap.mpr ⟨v, List.mem_cons_of_mem _ hv, z⟩)
    have S3 := Jg.suite ho3 hd3 na aL aF
    obtain ⟨yes, ex, onYes, onNo⟩ := w
    refine wpAny_handleBy_cons (codeAny_handlers_test ?_) (fun z => by cases z)
    have tyA : PySem.W.Looks (model X.prog X.w) g (typeOf (.ref a)) cls := by
      intro A Q E s k q
      exact wpAny_typeOf_ref (k _ _ ho3) (by rw [hz3.1]; exact q)
    have match1 := PySem.W.exm_one (M := model X.prog X.w) Jg.kIn tyA ex
    have look : ∀ {Q E : Value → Shared → Prop}, Q c { t1 with heap := g } → wpAny (model X.prog X.w) (X.A.mark (some (.ref a))) (eval (.Name x q1) X.env) Q E { t1 with heap := g } := by
      intro Q E q
      obtain ⟨hg, hdb, hm | ⟨hm, hv, hn⟩⟩ := hc
      · exact ld_glob (X := X.suite a ((a, o3) :: (X.pn ++ pins))) S3 hg hm q hdb
      · exact ld_blt (X := X.suite a ((a, o3) :: (X.pn ++ pins))) S3 hg hm hv q hn hdb
    apply look
    apply match1.here
    cases yes with
    | false =>
      apply wpAny_handleBy_nil
      obtain ⟨_, _, _, ob, fs, tb1, oT, tr, z1, z2, z3, z4, _⟩ := id fl
      unfold PySem.passOn
      apply wpAny_bind
      refine wpAny_field z1 z3 z4 ?_
      rw [if_neg (by simp : ¬ ((Value.ref tb1 == Value.none) = true))]
      have last : wpAny (model X.prog X.w) X.A (setFlight (.ref a) X.env.frame) (fun _ t4 => wpAny (model X.prog X.w) X.A (throw (.ref a) : Sem Flow) (SP X pins D) X.xe t4) X.xe { t1 with heap := g } := by
        rw [f0]
        apply HandSPX.setFlight_upZ fl
        intro g4 hg4 up4
        apply wpAny_throw
        apply tk
        exact ⟨a, B, tI, pins, σ1, H1, cls, d, rfl, J, nb, (up.trans up2).trans up4, .inr (.inr (by rw [s0]; exact hg4)), na, os, ag, onNo rfl⟩
      first
        | exact wpAny_bind (wpAny_pure (wpAny_bind last))
        | exact wpAny_bind last
    | true =>
      obtain ⟨C, eC, rfl, go⟩ := onYes rfl
      apply codeAny_handlers_suite_as
      apply HandSPX.lands_againZ fl
      intro g4 fl4 up4
      have J4 : Inv X pins σ1 H1 { t1 with heap := g4 } := J.landed nb fl4.1 ((up.trans up2).trans up4) os ag
      obtain ⟨o4, fs4, ho4, hz4, hd4⟩ := fl4.there
      have S4 := J4.suite ho4 hd4 na aL aF
      refine store_ok (X := X.suite a ((a, o4) :: (X.pn ++ pins))) (v := .ref a) S4 nd hi locN rfl ?_ (.inr kn)
      intro t5 S5
      have sret : PSs (X.suite a ((a, o4) :: (X.pn ++ pins))) [.Return (some (.Name nm q3)) q4] (tRet fun τ HZ Q => ∃ v, τ[i]? = some (some v) ∧ Q v HZ) := pss_one (ps_ret (pe_var (X := X.suite a ((a, o4) :: (X.pn ++ pins))) (i := i) hi vis hd hcd))
      have slot : (σ1.set i (some (V.ref a)))[i]? = some (some (V.ref a)) := by
        have hl : i < σ1.length := by rw [J.len]; exact (List.getElem?_eq_some_iff.mp hi).1
        exact List.getElem?_set_self hl
      refine wpAny_mono (sret.run [] t5 _ H1 { nx := fun _ _ => False, rt := fun v H' => v = .ref a ∧ H' = H1, bk := fun _ _ => False, ct := fun _ _ => False } S5 ⟨.ref a, slot, rfl, rfl⟩) ?_ (fun _ _ z => z.elim)
      intro f6 t6 q6
      cases f6 with
      | next => obtain ⟨σ6, H6, S6, z⟩ := q6; exact z.elim
      | brk => obtain ⟨σ6, H6, S6, z⟩ := q6; exact z.elim
      | cont => obtain ⟨σ6, H6, S6, z⟩ := q6; exact z.elim
      | ret u =>
        obtain ⟨v6, σ6, H6, S6, rv, rfl, rfl⟩ := q6
        obtain ⟨ho6, _⟩ := S6.pin (a, o4) List.mem_cons_self
        have J6 : Inv X pins σ6 H6 t6 := S6.unsuite okX
        have J7 : Inv X pins σ6 (upd H6 a (ExT C none a)) t6 := PyI.Inv.track J aI J6 na (exT_ok ho6 ⟨hz4.1.trans eC, hz4.2⟩ hd4 fun t z => by cases z)
        exact gone_ok J7 nd hi kn fun t7 J8 => ⟨_, _, _, J8, rv, go a na⟩
end
end PyI
set_option Elab.async false
set_option linter.all false
set_option maxRecDepth 100000
set_option maxHeartbeats 1000000
namespace PyI
open PySem PySem.Spec PyProof.Rows L2 LamX
/-- what is to hold behind the lambda's value -/
def afterK : TK → Ends → L2.St → V → Hp → Prop
  | .ex => fun En τ _ H => En.nx τ H
  | .caught => fun En τ _ H => En.nx τ H
  | .ret => fun En _ v H => En.rt v H
  | .tup => fun En _ v H => ([.bl true, v] : List V).length ≤ sizeLine ∧ ∀ p, H p = none → En.rt (.ref p) (upd H p (.tup [.bl true, v]))
  | .fine => fun En _ v H => V.non = V.non ∧ ∃ k, V.bl (decide (v = V.non)) = .bl k ∧ if k = true then En.rt (.str "fine") H else En.rt (.str "told") H
theorem hxB_eq {T : Tab} {scope : Scope} {nm : Str} {l : List (Nat × D)} {hs : List ExceptHandler} (h : hxB T scope nm l hs = true) :
    ∃ c d x q1 q2 q3 q4, hs = [.ExceptHandler (some (.Name x q1)) (some nm) [.Return (some (.Name nm q3)) q4] q2] ∧ l = [(c, d)] ∧ T.ex c = some x ∧ glB scope x = true ∧ (nm == ("__debug__" : Str)) = false ∧ (nm == ("__classdict__" : Str)) = false := by
  unfold hxB at h
  split at h
  · simp only [Bool.and_eq_true, decide_eq_true_eq, Bool.not_eq_true'] at h
    obtain ⟨⟨⟨⟨⟨h1, h2⟩, rfl⟩, rfl⟩, h5⟩, h6⟩ := h
    exact ⟨_, _, _, _, _, _, _, rfl, rfl, h1, h2, h5, h6⟩
  · cases h
theorem actB_eq {a : Str} {e : Expr} (h : actB a e = true) : ∃ p1 p2, e = .Call (.Name a p1) [] [] p2 := by
  unfold actB at h
  split at h
  · cases of_decide_eq_true h; exact ⟨_, _, rfl⟩
  · cases h
/-- the try's suite -/
theorem suite_ok {X : Cx} {a : Str} {t : TE} (act : ∀ p1 p2, PE X (.Call (.Name a p1) [] [] p2) t) : ∀ {k : TK} {st : Stmt}, suiteB a k st = true → PSs X [st] (fun En τ H => t τ H fun v H' => afterK k En τ v H') := by
  intro k st h
  unfold suiteB at h
  split at h
  · obtain ⟨p1, p2, rfl⟩ := actB_eq h
    exact pss_one (ps_expr (act p1 p2))
  · obtain ⟨p1, p2, rfl⟩ := actB_eq h
    exact pss_one (ps_expr (act p1 p2))
  · obtain ⟨p1, p2, rfl⟩ := actB_eq h
    exact pss_one (ps_ret (act p1 p2))
  · rw [Bool.and_eq_true] at h
    obtain ⟨p1, p2, rfl⟩ := actB_eq h.2
    obtain ⟨⟨q, _⟩, _, _, _, rfl⟩ := pe_flat (X := X) h.1
    exact pss_one (ps_ret (pe_tup (pa_cons q (pa_cons (act p1 p2) pa_nil))))
  · rename_i e c pz c1 c2 _ _ _
    simp only [Bool.and_eq_true] at h
    obtain ⟨⟨⟨h1, h2⟩, h3⟩, h4⟩ := h
    obtain ⟨p1, p2, rfl⟩ := actB_eq h1
    obtain ⟨⟨q1, _⟩, _, _, _, rfl⟩ := pe_flat (X := X) h3
    obtain ⟨⟨q2, _⟩, _, _, _, rfl⟩ := pe_flat (X := X) h4
    unfold isNoneB at h2
    split at h2
    · exact pss_one (ps_ret (pe_ifExp (pt_cmpR op_isN (act p1 p2) pe_non rfl) q1 q2))
    · cases h2
  · cases h
section
variable {P : Program} {w : World} {base : Heap} {G : Glb} {cf : Nat → List D → Hea → Res D} {n : Nat} {N : List Str} {sc : Scope} {fo : Fo} {X : Cx} {W : WX}
variable {μ : Mu} {M : Mk} {H H1 : Hp} {h : Hea} {c' Pt : Addr} {q : Str}
theorem Grown.le (gr : Grown Pt c' q H H1) : Le μ M H μ M H1 where
  frz := fun a ob u e => gr.at_ e ntF
  len := Nat.le_refl _
  old := fun _ _ e => .inl e
  dead := fun _ e => e
  new := fun n a hn e => by have := (List.getElem?_eq_some_iff.mp e).1; omega
  keep := fun a o e nt _ => gr.at_ e nt
  dom := fun a o e => gr.dom e
  mkk := fun _ e => .inl e
  km := fun _ e => .inl e
theorem Grown.rel (gr : Grown Pt c' q H H1) (r : Hrel G μ M H h) (t : Tabs G.tabs H1) : Hrel G μ M H1 h where
  len := r.len
  live := fun n u e => by
    rcases r.live n u e with z | ⟨a, z, m⟩
    · exact .inl z
    · obtain ⟨o, e2, k⟩ := m.mut
      exact .inr ⟨a, z, m.le r gr.le ((gr.at_ e2 (noTb_mut k)).trans e2.symm)⟩
  inj := r.inj
  mu := r.mu
  md := fun a m => let ⟨o, e, k⟩ := r.md a m; ⟨o, gr.at_ e (noTb_mut k), k⟩
  tb := t
theorem snd_lam (F : Facts P w base G cf n) (g : Good P w base G n N sc fo X) (tk : Takes X W) {i : Nat} {t : TFn} {x : Str} {scope : Scope} {params : Arguments} {body : Expr} {fb : Loc → Hea → Res D} {p lpos pos : Pos}
    (et : G.T.tf i = some t) (ex : t.name = x) (gx : glB sc x = true) (hl : fo.lv ≠ 0) (hp : noParB params = true) (hs : lamSB sc scope = true)
    (IH : ∀ (X' : Cx) (W' : WX), Good P w base G n N scope ⟨fun _ => false, 0⟩ X' → Takes X' W' → PE X' body (tE G W' fb)) :
    PE X (.Call (.Name x p) [.Lambda params body scope lpos] [] pos) (tE G W fun ρ h => t.run (fb ρ h)) := by
  obtain ⟨f0, fd, a, ps, bd, sg, Ng, hm, FD, hb, Sg, hN0, ck⟩ := F.tfs i t et
  obtain ⟨c, Pt, TB, hcode, mem, one⟩ := g.lam hl
  cases noParB_eq hp
  have L : LamS X.env.scope scope := by rw [g.sc]; exact lamS_by hs
  have lv1 : 1 ≤ fo.lv := by omega
  constructor
  rintro pins s σ H Q I ⟨μ, M, ρ, h, e, r, p0⟩
  apply wpAny_Call_Name_kw
  refine ld_glob I (g.gl gx) (by rw [g.mg, ← ex]; exact hm) ?_ (glB_gl gx).2.1
  refine PySem.W.callWith_K (h₀ := X.base) I.ok.mod.kin (by rw [g.K]; exact FD.kp) ?_ (by rfl) (by rfl)
  show wpAny _ _ (spliced ((false, eval (.Lambda ⟨[], [], none, [], [], none, []⟩ body scope lpos) X.env) :: backTo pos (starEach [] X.env))) _ _ s
  refine Calls.spliced_cons (lam_made I TB hcode mem one r.tb rfl (L.has I.ok) fun fl c' pm ctv H1 s1 I1 gr T1 obj hid nf hco => ?_)
  refine Calls.spliced_nil ⟨I1.kIn, ?_⟩
  obtain ⟨oc, od, dV, kV, doc, pm', an, cdv, ct, osl, rfl, lk, hcd, _, _⟩ := FD.ex
  have e1 : Envi G μ M H1 ρ σ := e.le r gr.le
  have r1 : Hrel G μ M H1 h := gr.rel r T1
  have p1 : Post G (Rep G) (fun c H' => W c none σ H') μ M H1 (t.run (fb ρ h)) Q := Post.le p0 gr.le
  -- the callee's text
  unfold ckTF at ck
  simp only [Bool.and_eq_true, Bool.not_eq_true', decide_eq_true_eq, List.all_eq_true, Bool.or_eq_true] at ck
  obtain ⟨⟨⟨⟨⟨len2, names⟩, vis⟩, nd1⟩, nd2⟩, ckb⟩ := ck
  obtain ⟨b, nm, rfl⟩ : ∃ b nm, Ng = [b, nm] := by
    match Ng, len2 with
    | [b, nm], _ => exact ⟨b, nm, rfl⟩
  cases hN0
  have nne : nm ≠ a := by
    have := Sg.nd
    simp only [List.nodup_cons, List.mem_cons, List.not_mem_nil, or_false] at this
    exact fun z => this.1 z.symm
  have locN : sg.names.lookup nm = some .local := by
    rcases names nm (by simp) with z | z
    · exact absurd z nne
    · exact z
  have visA : Vis sg a := by
    unfold visB at vis
    split at vis
    · rename_i z; exact .inl z
    · rename_i z; exact .inr (.inl z)
    · rename_i z; exact .inr (.inr z)
    · cases vis
  have rc : codeAny (model X.prog X.w) X.A (.call (.ref f0) ⟨[.ref fl], []⟩) (CR (L2.CX X.prog X.w) X.stack X.prog X.w H1 s1 Q (WE W σ)) s1 := by
    refine run_ofS (k := n + 2) (N := [a, nm]) (ps := [a]) (us := [.ref fl]) (vs := [.ref fl]) (by rw [g.K]; exact lk) (by rw [g.K]; exact hcd) Sg (g.room.mono (by omega)) I1.env0 (by rw [← g.K] at hb; exact hb s1 [.ref fl] I1.kIn rfl) (.cons rfl .nil) rfl fun room' => ?_
    generalize hZ : cxOf (L2.CX X.prog X.w) X.prog X.w X.K X.mg X.base [a, nm] t.name sg f0 cdv X.A X.stack s1 H1 (WE W σ) = Z
    have act : ∀ (W0 : WX) (pn : List (Addr × Obj)) (xe : Value → Shared → Prop) (E0 : XK), Takes (Z.tr pn xe) W0 → (∀ cls d σ' H', E0 cls d H' → W0 cls d σ' H') →
        ∀ p1 p2, PE (Z.tr pn xe) (.Call (.Name a p1) [] [] p2) (fun τ HZ Q => τ[0]? = some (some (.ref fl)) ∧ HZ c' = some (CodeO c' (X.env.qual ++ "<lambda>")) ∧ tE G (fun cls d _ H => E0 cls d H) fb σ HZ Q) := by
      subst hZ
      intro W0 pn xe E0 tk0 out p1 p2
      refine pe_actG (k := n + 1) (i := 0) I1 L obj hid nf tk0 out room' g.gd (fun A fr s2 H2 gd hr => ?_) rfl visA nd1 nd2
      exact IH (lamCx X A fr s2 H2 E0 scope fl c') (fun cls d _ H => E0 cls d H) ⟨g.prog, g.w, g.K, g.mg, g.base, g.N, g.nd, rfl, hr, gd, rfl, rfl, fun z => absurd rfl z⟩ (takes_of rfl rfl rfl rfl)
    have tkZ : Takes Z (fun cls d _ H => WE W σ cls d H) := by
      subst hZ
      exact takes_of rfl rfl rfl rfl
    have eZ : Z.K = G.K ∧ Z.mg = G.mg ∧ Z.env.scope = sg ∧ Z.N = [a, nm] ∧ Z.stack = Z.env :: Z.outer ∧ Z.env.frame = some Z.env.locals := by
      subst hZ
      exact ⟨g.K, g.mg, rfl, rfl, rfl, rfl⟩
    obtain ⟨zK, zmg, zsc, zN, zst, zfr⟩ := eZ
    have kn : Z.env.kindOf nm = some .local := by
      unfold Env.kindOf
      rw [zsc]; exact locN
    -- the try
    have try_ : ∀ {st : Stmt} {h0 : ExceptHandler} {hs : List ExceptHandler} {tp : Pos} (En : Ends), t.kd ≠ .caught → suiteB a t.kd st = true → hsB G.T sg nm t.hs (h0 :: hs) = true →
        (∀ v μ' M' H', Le μ M H1 μ' M' H' → ∀ d h1, fb ρ h = .ok d h1 → Hrel G μ' M' H' h1 → Rep G μ' M' H' d v → afterK t.kd En (L2.start [a, nm] [V.ref fl]) v H') → (∀ v H', En.rt v H' ↔ Q v H') →
        ∃ u, PS Z (.Try [st] (h0 :: hs) [] [] tp) u ∧ u En (L2.start [a, nm] [V.ref fl]) H1 := by
      intro st h0 hs tp En nc hst hhs aft ert
      refine ⟨_, ps_try_as_many (X := Z) (i := 1) (nm := nm) (l := clsOf G t.hs) (Wo := fun cls d _ H => WE W σ cls d H)
        (tb := fun W0 En' τ HZ => ∃ E0 : XK, (∀ cls d σ' H', E0 cls d H' → W0 cls d σ' H') ∧ τ[0]? = some (some (.ref fl)) ∧ HZ c' = some (CodeO c' (X.env.qual ++ "<lambda>")) ∧ tE G (fun cls d _ H => E0 cls d H) fb σ HZ fun v H' => afterK t.kd En' τ v H')
        zst zfr (by rw [zN]; exact Sg.nd) (by rw [zN]; rfl) kn tkZ (fun W0 pn xe tk0 _ => ?_) (by
          have := hs_ok F zK zmg (X := Z) (nm := nm) (l := t.hs) (hs := h0 :: hs) (by rw [zsc]; exact hhs)
          exact this), ?_⟩
      · constructor
        rintro pz sz τ HZ En' IZ ⟨E0, out, s0, c0, q0⟩
        exact (suite_ok (act W0 pn xe E0 tk0 out) hst).run pz sz τ HZ En' IZ ⟨s0, c0, q0⟩
      · refine ⟨fun cls d H' => ∀ τ, wClauses Z.K (fun cls d _ H => WE W σ cls d H) 1 En (clsOf G t.hs) cls d τ H', fun cls d σ' H' z => z σ', rfl, hco, μ, M, ρ, h, e1, r1, ?_⟩
        cases fr : fb ρ h with
        | no => rw [fr] at p1; exact p1
        | ok d h1 => exact fun v μ' M' H' l r' rv => aft v μ' M' H' l d h1 fr r' rv
        | err ec h1 =>
          intro C μ' M' H' exn l r' τ
          rw [zK]
          refine wClauses_of F exn r' (hsB_ex hhs) ?_
          rw [fr] at p1
          unfold TFn.run at p1
          simp only at p1
          cases cl : clauseOf ec t.hs with
          | none =>
            rw [cl] at p1
            exact p1 C μ' M' H' exn l r'
          | some dv =>
            rw [cl] at p1
            simp only [if_neg nc] at p1
            intro v μ2 M2 H2 l2 r2 rv
            exact (ert v H2).mpr (p1 v μ2 M2 H2 (l.trans l2) r2 rv)
    split at ckb
    · rename_i st h0 hs tp fe rp
      rw [Bool.or_eq_true] at ckb
      rcases ckb with ckb | ckb
      case inr =>
        simp only [Bool.and_eq_true, decide_eq_true_eq] at ckb
        obtain ⟨⟨⟨k1, k2⟩, k3⟩, k4⟩ := ckb
        obtain ⟨c0, dv0, x0, q1, q2, q3, q4, eh, el, e0, g0, dd1, dd2⟩ := hxB_eq k3
        have eh0 : h0 = _ := (List.cons.inj eh).1
        have ehs : hs = _ := (List.cons.inj eh).2
        subst eh0 ehs
        obtain ⟨E, B, newId, initId, bmB, _, _, hmE, _⟩ := F.exs c0 x0 e0
        have fin := pss_one (ps_ret (pos := rp) (pe_con (G := G) (X := Z) k4))
        have aft : ∀ μ' M' H', Le μ M H1 μ' M' H' → ∀ d h1, fb ρ h = .ok d h1 → Hrel G μ' M' H' h1 → tCon G t.fin (L2.start [a, nm] [V.ref fl]) H' Q := by
          intro μ' M' H' l d h1 fr r'
          rw [fr] at p1
          unfold TFn.run at p1
          simp only [k2] at p1
          exact ⟨μ', M', h1, r', fun v2 μ2 M2 H2 l2 r2 rv2 => p1 v2 μ2 M2 H2 (l.trans l2) r2 rv2⟩
        refine ⟨_, pss_cons (ps_try_caught (X := Z) (i := 1) (nm := nm) (c := .ref E) (Wo := fun cls d _ H => WE W σ cls d H)
          (tb := fun W0 En' τ HZ => ∃ E0 : XK, (∀ cls d σ' H', E0 cls d H' → W0 cls d σ' H') ∧ τ[0]? = some (some (.ref fl)) ∧ HZ c' = some (CodeO c' (X.env.qual ++ "<lambda>")) ∧ tE G (fun cls d _ H => E0 cls d H) fb σ HZ fun v H' => afterK t.kd En' τ v H')
          zst zfr (by rw [zN]; exact Sg.nd) (by rw [zN]; rfl) kn (by rw [zsc]; exact .inl locN) dd1 dd2 tkZ (fun W0 pn xe tk0 _ => ?_) ⟨?_, (glB_gl g0).2.1, .inl (by rw [zmg]; exact hmE)⟩) fin, ?_⟩
        · constructor
          rintro pz sz τ HZ En' IZ ⟨E0, out, s0, c0, q0⟩
          exact (suite_ok (act W0 pn xe E0 tk0 out) k1).run pz sz τ HZ En' IZ ⟨s0, c0, q0⟩
        · have := (glB_gl g0).1
          show Z.env.kindOf x0 = _
          unfold Env.kindOf
          rw [zsc]; exact this
        · refine ⟨fun cls d H' => ∀ τ, wCaught Z.K (fun cls d _ H => WE W σ cls d H) { nx := fun τ H' => tCon G t.fin τ H' Q, rt := Q } (.ref E) cls d τ H', fun cls d σ' H' z => z σ', rfl, hco, μ, M, ρ, h, e1, r1, ?_⟩
          cases fr : fb ρ h with
          | no => rw [fr] at p1; exact p1
          | ok d h1 =>
            intro v μ' M' H' l r' rv
            rw [k2]
            exact aft μ' M' H' l d h1 fr r'
          | err ec h1 =>
            intro C μ' M' H' exn l r' τ
            rw [zK]
            obtain ⟨y, hy, hmC⟩ := exn
            rw [fr] at p1
            unfold TFn.run at p1
            simp only [k2, el] at p1
            unfold clauseOf at p1
            refine ⟨subX ec c0, F.sub ec c0 y x0 C E hy e0 hmC hmE, fun hyes => ⟨C, rfl, rfl, fun b hb => ?_⟩, fun hno => ?_⟩
            · simp only [if_pos hyes] at p1
              refine p1 (.ref b) μ' M' _ (l.trans (Le.fresh hb)) (r'.fresh hb) ?_
              rw [if_pos trivial, rep_exn]
              exact ⟨b, C, y, none, rfl, hy, hmC, upd_same, fun y' z => by cases z⟩
            · simp only [if_neg (show ¬ subX ec c0 = true by rw [hno]; exact Bool.false_ne_true), clauseOf] at p1
              exact p1 C μ' M' H' ⟨y, hy, hmC⟩ l r'
      simp only [Bool.and_eq_true, decide_eq_true_eq] at ckb
      obtain ⟨⟨⟨k1, k2⟩, k3⟩, k4⟩ := ckb
      have fin := pss_one (ps_ret (pos := rp) (pe_con (G := G) (X := Z) k4))
      have aft : ∀ v μ' M' H', Le μ M H1 μ' M' H' → ∀ d h1, fb ρ h = .ok d h1 → Hrel G μ' M' H' h1 → Rep G μ' M' H' d v → afterK t.kd { nx := fun τ H' => tCon G t.fin τ H' Q, rt := Q } (L2.start [a, nm] [V.ref fl]) v H' := by
        intro v μ' M' H' l d h1 fr r' rv
        rw [k2]
        show tCon G t.fin (L2.start [a, nm] [V.ref fl]) H' Q
        rw [fr] at p1
        unfold TFn.run at p1
        simp only [k2] at p1
        exact ⟨μ', M', h1, r', fun v2 μ2 M2 H2 l2 r2 rv2 => p1 v2 μ2 M2 H2 (l.trans l2) r2 rv2⟩
      obtain ⟨u, pu, qu⟩ := try_ (tp := tp) { nx := fun τ H' => tCon G t.fin τ H' Q, rt := Q } (by rw [k2]; exact fun z => by cases z) k1 k3 aft (fun _ _ => Iff.rfl)
      exact ⟨tSeq u (tRet (tCon G t.fin)), pss_cons pu fin, qu⟩
    · rename_i st h0 hs tp
      simp only [Bool.and_eq_true, decide_eq_true_eq] at ckb
      obtain ⟨⟨⟨k1, k2⟩, k2b⟩, k3⟩ := ckb
      have aft : ∀ v μ' M' H', Le μ M H1 μ' M' H' → ∀ d h1, fb ρ h = .ok d h1 → Hrel G μ' M' H' h1 → Rep G μ' M' H' d v → afterK t.kd { nx := fun _ H' => Q .non H', rt := Q } (L2.start [a, nm] [V.ref fl]) v H' := by
        intro v μ' M' H' l d h1 fr r' rv
        rw [fr] at p1
        unfold TFn.run at p1
        cases hk : t.kd with
        | ex => exact absurd hk k2
        | caught => exact absurd hk k2b
        | ret =>
          simp only [hk] at p1
          exact p1 v μ' M' H' l r' rv
        | tup =>
          simp only [hk] at p1
          refine ⟨by show 2 ≤ sizeLine; decide, fun pa hpa => ?_⟩
          exact p1 (.ref pa) μ' M' _ (l.trans (Le.fresh hpa)) (r'.fresh hpa) (Rep.newPlc r' hpa (Reps.cons (by rw [rep_bl]) (Reps.cons rv Reps.nil)))
        | fine =>
          simp only [hk] at p1
          refine ⟨rfl, decide (v = V.non), rfl, ?_⟩
          have hd : decide (v = V.non) = isNonD d := isNon_rep rv
          rw [hd]
          have := p1 (.str (if isNonD d then "fine" else "told")) μ' M' H' l r' (by rw [rep_str])
          cases hnd : isNonD d <;> (rw [hnd] at this; exact this)
      obtain ⟨u, pu, qu⟩ := try_ (tp := tp) { nx := fun _ H' => Q .non H', rt := Q } k2b k1 k3 aft (fun _ _ => Iff.rfl)
      exact ⟨_, pss_one pu, qu⟩
    · cases ckb
  refine wpAny_call (codeAny_mono rc ?_)
  intro z s2 cc
  match z, cc with
  | .error z, cc => exact passAt tk σ pins H1 s1 z s2 I1 cc
  | .ok (.ret u), cc => exact I1.after cc
  | .ok .next, cc => exact cc.elim
  | .ok .brk, cc => exact cc.elim
  | .ok .cont, cc => exact cc.elim
end
end PyI
set_option Elab.async false
set_option linter.all false
set_option maxRecDepth 100000
set_option maxHeartbeats 1000000
namespace PyI
open PySem PySem.Spec PyProof.Rows L2 LamX
section
variable {X : Cx} {CX : CXT} {k : Nat} {f : Addr} {fd : FuncData} {ps : List Str} {sp : Sp} {E : L2.St → XK} {x : Str} {p pos : Pos}
theorem pe_callG0 (F : FnG X.prog X.w X.K X.mg X.base CX k f fd ps sp) (room : Room k X.A) (free : X.A.guards = some []) (gl : Gl X x) (at_ : X.mg x = some (.ref f)) (kept : PySem.W.keepIn X.K (.ref f) = true)
    (bd : Binds X.K fd ps []) (out : ∀ σ, PassesAt CX X σ (E σ)) (nd : (x == ("__debug__" : Str)) = false) : PE X (.Call (.Name x p) [] [] pos) (tCallS sp E tNil) := by
  constructor
  intro pins s σ H Q I h
  apply wpAny_Call_Name_kw
  refine ld_glob I gl at_ ?_ nd
  refine PySem.W.callWith_K0 I.kIn kept ?_
  have q : sp [] H Q (E σ) := h
  have n1 : ([] : List Value).length = ps.length := F.len _ _ _ _ q
  have b1 := bd s [] I.kIn n1
  apply wpAny_call
  refine codeAny_mono (F.run X.A X.stack s H ⟨[], []⟩ [] [] Q (E σ) room free I.env0 b1 .nil q) ?_
  intro z s2 c
  match z, c with
  | .error z, c => exact out σ pins H s z s2 I c
  | .ok (.ret u), c => exact I.after c
  | .ok .next, c => exact c.elim
  | .ok .brk, c => exact c.elim
  | .ok .cont, c => exact c.elim
end
section
variable {P : Program} {w : World} {base : Heap} {G : Glb} {cf : Nat → List D → Hea → Res D} {n : Nat} {N : List Str} {sc : Scope} {fo : Fo} {X : Cx} {W : WX}
theorem lckR_some {h h1 : Hea} {n : Nat} (e : lckR h n = some h1) : (∃ ks vs, h[n]? = some (.dK ks vs) ∧ h1 = h.set n (.lckK ks vs)) ∨ ∃ ks vs, h[n]? = some (.dT ks vs) ∧ h1 = h.set n (.lckT ks vs) := by
  unfold lckR at e
  split at e
  · rename_i ks vs q; cases e; exact .inl ⟨ks, vs, q, rfl⟩
  · rename_i ks vs q; cases e; exact .inr ⟨ks, vs, q, rfl⟩
  · cases e
theorem unlR_some {h h1 : Hea} {n : Nat} (e : unlR h n = some h1) : (∃ ks vs, h[n]? = some (.lckK ks vs) ∧ h1 = h.set n (.dK ks vs)) ∨ ∃ ks vs, h[n]? = some (.lckT ks vs) ∧ h1 = h.set n (.dT ks vs) := by
  unfold unlR at e
  split at e
  · rename_i ks vs q; cases e; exact .inl ⟨ks, vs, q, rfl⟩
  · rename_i ks vs q; cases e; exact .inr ⟨ks, vs, q, rfl⟩
  · cases e
section
variable {μ μ' : Mu} {M M' : Mk} {H H' : Hp} {h h' : Hea} {d : Addr} {u : HO}
theorem Lw0.over {o : HO} (m : M d) : Lw0 μ M H μ M (upd H d o) := ⟨fun _ _ e => .inl e, fun _ e => e, fun a o' e _ ma => ⟨by rw [upd_ne (fun z : a = d => ma (by rw [z]; exact m))]; exact e, ma⟩⟩
/-- a live object written, whatever stood there -/
theorem Hrel.over {o : HO} {n : Nat} {w : MO} (r : Hrel G μ M H h) (e : μ[n]? = some (some d)) (m : MRep G μ M (upd H d o) d w) : Hrel G μ M (upd H d o) (h.set n w) where
  len := by rw [List.length_set]; exact r.len
  live := fun k v q => by
    by_cases hk : n = k
    · subst hk
      have hn : n < h.length := by rw [← r.len]; exact (List.getElem?_eq_some_iff.mp e).1
      rw [List.getElem?_set_self hn] at q; cases q
      exact .inr ⟨d, e, m⟩
    · rw [List.getElem?_set_ne hk] at q
      rcases r.live k v q with z | ⟨b, z, y⟩
      · exact .inl z
      · have hb : b ≠ d := fun hb => hk (r.inj n k d e (hb ▸ z))
        refine .inr ⟨b, z, ?_⟩
        have e' : upd H d o b = H b := upd_ne hb
        have lw : Lw0 μ M H μ M (upd H d o) := Lw0.over (r.mu n d e)
        cases v with
        | dead => exact y
        | ins c fs => obtain ⟨C, dx, vs, q, k, z, p⟩ := y; exact ⟨C, dx, vs, e'.trans q, k, z, Reps.lw r lw _ _ p⟩
        | lst ds => obtain ⟨xs, q, p⟩ := y; exact ⟨xs, e'.trans q, Reps.lw r lw _ _ p⟩
        | dK ks ds => obtain ⟨xs, q, k, p⟩ := y; exact ⟨xs, e'.trans q, k, Reps.lw r lw _ _ p⟩
        | dT ks ds => obtain ⟨xs, q, k, p⟩ := y; exact ⟨xs, e'.trans q, k, Reps.lw r lw _ _ p⟩
        | lckK ks ds => obtain ⟨o, xs, q, k, p⟩ := y; exact ⟨o, xs, e'.trans q, k, Reps.lw r lw _ _ p⟩
        | lckT ks ds => obtain ⟨o, xs, q, k, p⟩ := y; exact ⟨o, xs, e'.trans q, k, Reps.lw r lw _ _ p⟩
  inj := r.inj
  mu := r.mu
  tb := tabs_upd r.tb (r.md d (r.mu n d e))
  md := fun b mb => by
    by_cases hb : b = d
    · rw [hb]; exact m.mut
    · obtain ⟨o', q, k⟩ := r.md b mb
      exact ⟨o', by rw [upd_ne hb]; exact q, k⟩
/-- from before the lock to behind it -/
theorem Le.unlock {od : Obj} (hd : H d = some u) (nu : ∀ ob v, u ≠ .frz ob v) (l : Le μ M (upd H d (.frz od u)) μ' M' H') {n : Nat} (e : μ[n]? = some (some d)) : Le μ M H μ' M' (upd H' d u) where
  len := l.len
  old := l.old
  dead := l.dead
  new := fun k a hk q => by
    have := l.new k a hk q
    by_cases z : a = d
    · rw [z, upd_same] at this; cases this
    · rw [upd_ne z] at this; exact this
  keep := fun a o q nt hn => by
    have z : a ≠ d := fun z => hn n (z ▸ e)
    rw [upd_ne z]
    exact l.keep a o (by rw [upd_ne z]; exact q) nt hn
  dom := fun a o q => by
    by_cases z : a = d
    · exact ⟨u, by rw [z, upd_same]⟩
    · obtain ⟨o', q'⟩ := l.dom a o (by rw [upd_ne z]; exact q)
      exact ⟨o', by rw [upd_ne z]; exact q'⟩
  mkk := fun a q => by
    rcases l.mkk a q with z | z
    · exact .inl z
    · by_cases y : a = d
      · rw [y, upd_same] at z; cases z
      · rw [upd_ne y] at z; exact .inr z
  km := fun a q => by
    rcases l.km a q with z | z | z
    · exact .inl z
    · exact .inr (.inl z)
    · by_cases y : a = d
      · rw [y, upd_same] at z; cases z
      · rw [upd_ne y] at z; exact .inr (.inr z)
  frz := fun a ob v q => by
    have z : a ≠ d := fun z => by rw [z, hd] at q; cases q; exact nu _ _ rfl
    rw [upd_ne z]
    exact l.frz a ob v (by rw [upd_ne z]; exact q)
end
/-- an expression while a dict that a name holds is locked -/
theorem sv_lck {a : Expr} {fe : Loc → Hea → Res D} {m : Nat} (ha : PE X a (tE G W fe)) :
    PE X a (tE G W fun ρ h => match ρ[m]? with
      | some (some (.ref n)) => need (lckR h n) fun h1 => (fe ρ h1).noErr.bind fun d h2 => need (unlR h2 n) fun h3 => .ok d h3
      | _ => .no) := by
  refine imE (pe_lock ha) fun σ H Q q => ?_
  obtain ⟨μ, M, ρ, h, e, r, p⟩ := q.out
  split at p
  · rename_i n er
    obtain ⟨h1, e1, p⟩ := p.need
    obtain ⟨v, hv, rv⟩ := e.at_ m _ er
    -- the object
    have core : ∀ {u : HO} {w w2 : MO} {d : Addr}, (∀ ob z, u ≠ .frz ob z) → Mut (some u) → H d = some u → μ[n]? = some (some d) → h1 = h.set n w → (∀ od, MRep G μ M (upd H d (.frz od u)) d w) →
        (∀ od μ' M' H' h2 h3, H' d = some (.frz od u) → Hrel G μ' M' H' h2 → μ'[n]? = some (some d) → unlR h2 n = some h3 → Hrel G μ' M' (upd H' d u) h3) →
        tLockE (tE G W fe) σ H Q := by
      intro u w w2 d nu mu hd hn eh mr back
      refine ⟨d, u, hd, mu, fun od => ?_⟩
      have l1 : Le μ M H μ M (upd H d (.frz od u)) := Le.write hn hd nu
      refine ⟨μ, M, ρ, h1, e.le r l1, by rw [eh]; exact r.write hn hd (mr od) nu, ?_⟩
      cases er2 : fe ρ h1 with
      | no => rw [er2] at p; exact p
      | err c h2 => rw [er2] at p; exact p.elim
      | ok dv h2 =>
        rw [er2] at p
        have p2 : Post G (Rep G) (fun c H' => W c none σ H') μ M H (need (unlR h2 n) fun h3 => .ok dv h3) Q := p
        intro v2 μ' M' H' l r2 rv2
        obtain ⟨h3, e3, p3⟩ := p2.need
        have fz : H' d = some (.frz od u) := l.frz d od u upd_same
        have live2 : μ'[n]? = some (some d) := by
          rcases l.old n d hn with z | z
          · exact z
          · exfalso
            obtain ⟨ks, vs, q1, _⟩ | ⟨ks, vs, q1, _⟩ := unlR_some e3
            · rcases r2.live n _ q1 with ⟨y, _⟩ | ⟨b, y, _⟩
              · cases y
              · rw [z] at y; cases y
            · rcases r2.live n _ q1 with ⟨y, _⟩ | ⟨b, y, _⟩
              · cases y
              · rw [z] at y; cases y
        exact ⟨fz, p3 v2 μ' M' (upd H' d u) (Le.unlock hd nu l hn) (back od μ' M' H' h2 h3 fz r2 live2 e3) (Rep.lw r2 (Lw0.over (r2.mu n d live2)) _ _ rv2)⟩
    rcases lckR_some e1 with ⟨ks, vs, q1, rfl⟩ | ⟨ks, vs, q1, rfl⟩
    · obtain ⟨d, rfl, hn, kvs, s, ek, t⟩ := r.at_ rv q1 (by intro z; cases z)
      refine core (w := .lckK ks vs) (w2 := .dK ks vs) (u := .dK kvs) (by intro _ _ z; cases z) trivial s hn rfl (fun od => ⟨od, kvs, upd_same, ek, Reps.le r (Le.write hn s) _ _ t⟩) (fun od μ' M' H' h2 h3 fz r2 live2 e3 => ?_)
      obtain ⟨ks2, vs2, q2, rfl⟩ | ⟨ks2, vs2, q2, rfl⟩ := unlR_some e3
      · rcases r2.live n _ q2 with ⟨y, _⟩ | ⟨b, y, o, kvs2, s2, ek2, t2⟩
        · cases y
        · rw [live2] at y; cases y
          rw [fz] at s2; cases s2
          exact r2.over live2 ⟨kvs, upd_same, ek2, Reps.lw r2 (Lw0.over (r2.mu n d live2)) _ _ t2⟩
      · rcases r2.live n _ q2 with ⟨y, _⟩ | ⟨b, y, o, kvs2, s2, ek2, t2⟩
        · cases y
        · rw [live2] at y; cases y
          rw [fz] at s2; cases s2
    · obtain ⟨d, rfl, hn, kvs, s, ek, t⟩ := r.at_ rv q1 (by intro z; cases z)
      refine core (w := .lckT ks vs) (w2 := .dT ks vs) (u := .dT kvs) (by intro _ _ z; cases z) trivial s hn rfl (fun od => ⟨od, kvs, upd_same, ek, Reps.le r (Le.write hn s) _ _ t⟩) (fun od μ' M' H' h2 h3 fz r2 live2 e3 => ?_)
      obtain ⟨ks2, vs2, q2, rfl⟩ | ⟨ks2, vs2, q2, rfl⟩ := unlR_some e3
      · rcases r2.live n _ q2 with ⟨y, _⟩ | ⟨b, y, o, kvs2, s2, ek2, t2⟩
        · cases y
        · rw [live2] at y; cases y
          rw [fz] at s2; cases s2
      · rcases r2.live n _ q2 with ⟨y, _⟩ | ⟨b, y, o, kvs2, s2, ek2, t2⟩
        · cases y
        · rw [live2] at y; cases y
          rw [fz] at s2; cases s2
          exact r2.over live2 ⟨kvs, upd_same, ek2, Reps.lw r2 (Lw0.over (r2.mu n d live2)) _ _ t2⟩
  · exact p.elim
theorem snd_call0 (F : Facts P w base G cf n) (g : Good P w base G n N sc fo X) (tk : Takes X W) {f : Nat} {fn : Fn} {x : Str} {p pos : Pos} (ef : G.T.fn f = some fn) (ex : fn.name = x) (gx : glB sc x = true) :
    PE X (.Call (.Name x p) [] [] pos) (tE G W fun _ h => cf f [] h) := by
  obtain ⟨a, fd, ps, hm, ok, kp, bd⟩ := F.fns f fn ef
  rw [ex] at hm
  have ok' : FnG X.prog X.w X.K X.mg X.base (L2.CX X.prog X.w) n a fd ps (spF G fn.np (cf f)) := by rw [g.prog, g.w, g.K, g.mg, g.base]; exact ok
  refine imE (pe_callG0 ok' (g.room.mono (by omega)) g.gd (g.gl gx) (by rw [g.mg]; exact hm) (by rw [g.K]; exact kp) (by rw [g.K]; exact bd) (passAt tk) (glB_gl gx).2.1) fun σ H Q q => ?_
  obtain ⟨μ, M, ρ, h, e, r, p⟩ := q.out
  refine ⟨?_, μ, M, [], h, r, Reps.nil, p⟩
  by_cases hl : ([] : List D).length = fn.np
  · exact hl
  · rw [F.ar f fn [] h ef hl] at p; exact p.elim
theorem snd_callV (F : Facts P w base G cf n) (g : Good P w base G n N sc fo X) (tk : Takes X W) {i : Nat} {x : Str} {y : Expr} {ys : List Expr} {p pos : Pos} {fs : Loc → Hea → Res (List D)} (k : varB N sc i x = true)
    (ha : PA X (y :: ys) (tAr G W fs)) (hs : starEach (y :: ys) X.env = (false, eval y X.env) :: starEach ys X.env) (hpl : (backTo pos (starEach ys X.env)).any (·.1) = false) :
    PE X (.Call (.Name x p) (y :: ys) [] pos) (tE G W fun ρ h => match ρ[i]? with | some (some (.fn f)) => (fs ρ h).bind fun xs h1 => cf f xs h1 | _ => .no) := by
  obtain ⟨h1, h2, h3, h4⟩ := varB_vis k
  constructor
  intro pins s σ H Q I q
  obtain ⟨μ, M, ρ, h, e, r, q⟩ := q.out
  split at q
  · rename_i f er
    obtain ⟨v, hv, rv⟩ := e.at_ i _ er
    rw [rep_fn] at rv
    obtain ⟨b, fn, rfl, ef, hmn⟩ := rv
    obtain ⟨a, fd, ps, hm, ok, kp, bd⟩ := F.fns f fn ef
    rw [hmn] at hm
    cases hm
    have ok' : FnG X.prog X.w X.K X.mg X.base (L2.CX X.prog X.w) n b fd ps (spF G fn.np (cf f)) := by rw [g.prog, g.w, g.K, g.mg, g.base]; exact ok
    apply wpAny_Call_Name_kw
    refine thn ((pe_var (pos := p) (i := i) (by rw [g.N]; exact h1) (by rw [g.sc]; exact h2) h3 h4).run pins s σ H (fun v H1 => v = .ref b ∧ H1 = H) I ⟨.ref b, hv, rfl, rfl⟩) ?_
    rintro u s1 ⟨v, H1, I1, rv, ev, eH⟩
    subst ev
    rw [eH] at I1
    obtain rfl : u = Value.ref b := rv
    refine PySem.W.callWith_K (h₀ := X.base) I1.ok.mod.kin (by rw [g.K]; exact kp) ?_ hs hpl
    have q2 : tAr G W fs σ H (fun vs H1 => spF G fn.np (cf f) vs H1 Q (WE W σ)) := by
      refine (show tAr G W fs σ H _ from tG.bind (g := fun _ xs h1 => cf f xs h1) ⟨μ, M, ρ, h, e, r, q⟩ |> fun ⟨μ, M, ρ, h, e, r, p⟩ => ⟨μ, M, ρ, h, e, r, p.mono (fun _ _ z => z) ?_⟩)
      rintro vs H1 ⟨ds, μ, M, ρ, h, e, r, q1, p1⟩
      refine ⟨?_, μ, M, ds, h, r, q1, p1⟩
      rw [q1.length]
      by_cases hl : ds.length = fn.np
      · exact hl
      · rw [F.ar f fn ds h ef hl] at p1; exact p1.elim
    refine thn (ha.run pos pins s1 σ H _ I1 q2) ?_
    rintro us s2 ⟨xs, H2, I2, rr, q3⟩
    refine ⟨I2.kIn, ?_⟩
    have n1 : (us ++ []).length = ps.length := by
      rw [List.append_nil, ← rr.length]
      exact ok'.len _ _ _ _ q3
    have b1 := (by rw [g.K]; exact bd : Binds X.K fd ps []) s2 us I2.kIn n1
    rw [List.append_nil] at b1
    apply wpAny_call
    refine codeAny_mono (ok'.run X.A X.stack s2 H2 ⟨us, []⟩ us xs Q (WE W σ) (g.room.mono (by omega)) g.gd I2.env0 b1 rr q3) ?_
    intro z s3 c
    match z, c with
    | .error z, c => exact passAt tk σ pins H2 s2 z s3 I2 c
    | .ok (.ret u), c => exact I2.after c
    | .ok .next, c => exact c.elim
    | .ok .brk, c => exact c.elim
    | .ok .cont, c => exact c.elim
  · exact q.elim
end
end PyI
set_option Elab.async false
set_option linter.all false
set_option maxRecDepth 100000
namespace PyI
open PySem L2
theorem reps_rng (G : Glb) (μ : Mu) (M : Mk) (H : Hp) : ∀ (n : Nat) (lo : Int), Reps G μ M H (rngL lo n) ((List.range n).map fun i => V.int (lo + (i : Nat)))
  | 0, lo => by
    show _ = _
    rfl
  | n + 1, lo => by
    refine ⟨V.int lo, (List.range n).map fun i => V.int (lo + 1 + (i : Nat)), ?_, rfl, reps_rng G μ M H n (lo + 1)⟩
    rw [List.range_succ_eq_map, List.map_cons, List.map_map]
    congr 1
    · simp
    · apply List.map_congr_left
      intro i _
      show V.int _ = V.int _
      congr 1
      simp
      omega
section
variable {P : Program} {w : World} {base : Heap} {G : Glb} {cf : Nat → List D → Hea → Res D} {n : Nat} {N : List Str} {sc : Scope} {fo : Fo} {X : Cx} {W : WX}
variable {a : Expr} {fa : Loc → Hea → Res D} {pos pos2 p q : Pos}
theorem sv_lrg (F : Facts P w base G cf n) (g : Good P w base G n N sc fo X) {x y : Str} {m : Bool} (ex : x = "list") (kx : glB sc x = true) (ey : y = "range") (ky : glB sc y = true) (ha : PE X a (tE G W fa)) (na : starEach [a] X.env = (false, eval a X.env) :: starEach [] X.env) :
    PE X (.Call (.Name x p) [.Call (.Name y q) [a] [] pos2] [] pos) (tE G W fun ρ h => (fa ρ h).bind fun x h1 => need (intV x) fun j => if j.natAbs.log2 < 20 then mkL m (rngL 0 j.toNat) h1 else .no) := by
  subst ex
  subst ey
  refine imE (pe_listRg g.calm (g.gl kx) (by rw [g.mg]; exact F.blt _ (by decide +kernel)) (prg_1 (g.gl ky) (by rw [g.mg]; exact F.blt _ (by decide +kernel)) ha na)) fun σ H Q z => ?_
  refine tG.mono (tE.b1 z) ?_
  rintro v H1 ⟨d, μ, M, ρ, h, e, r, pa, p⟩
  obtain ⟨j, ej, p⟩ := p.need
  obtain ⟨c, p⟩ := p.ite
  have ev := int_rep pa ej
  subst ev
  have jl : j.natAbs < 2 ^ 20 := by
    by_cases z : j.natAbs = 0
    · rw [z]; decide
    · exact (Nat.log2_lt z).mp c
  refine ⟨j, rfl, ⟨by omega, by omega, by omega, by omega, by omega⟩, fun t ht => ?_⟩
  have rs : ∀ μ M H, Reps G μ M H (rngL 0 j.toNat) (rgV 0 j) := fun μ M H => by
    have := reps_rng G μ M H j.toNat 0
    unfold rgV
    rw [Int.sub_zero]; exact this
  cases m with
  | false => exact p (.ref t) μ M _ (Le.fresh ht) (r.fresh ht) (Rep.newLst r ht (rs _ _ _))
  | true => exact p.alloc r ht ⟨_, upd_same, Reps.le r (Le.alloc ht) _ _ (rs _ _ _)⟩
theorem reps_append {G : Glb} {μ : Mu} {M : Mk} {H : Hp} : ∀ {ds es : List D} {xs ys : List V}, Reps G μ M H ds xs → Reps G μ M H es ys → Reps G μ M H (ds ++ es) (xs ++ ys)
  | [], es, xs, ys, h1, h2 => by
    have : xs = [] := h1
    subst this; exact h2
  | d :: ds, es, xs, ys, h1, h2 => by
    obtain ⟨x, r, rfl, h3, h4⟩ := h1
    exact ⟨x, r ++ ys, rfl, h3, reps_append h4 h2⟩
theorem reps_rev {G : Glb} {μ : Mu} {M : Mk} {H : Hp} : ∀ {ds : List D} {xs : List V}, Reps G μ M H ds xs → Reps G μ M H ds.reverse xs.reverse
  | [], xs, h => by
    have : xs = [] := h
    subst this; exact (show ([] : List V) = [] from rfl)
  | d :: ds, xs, h => by
    obtain ⟨x, r, rfl, h3, h4⟩ := h
    rw [List.reverse_cons, List.reverse_cons]
    exact reps_append (reps_rev h4) ⟨x, [], rfl, h3, rfl⟩
theorem sv_rev (g : Good P w base G n N sc fo X) {k : Nat} {p1 p2 p3 : Pos} (ha : PE X a (tE G W fa)) :
    PE X (.Subscript a (.Slice none none (some (.UnaryOp .USub (.Constant (.int 1) k p1) p2)) p3) pos) (tE G W fun ρ h => (fa ρ h).bind fun x h1 => need (lstV h1 x) fun xs => .ok (.lst xs.reverse) h1) := by
  refine imE (pe_revL ha) fun σ H Q z => ?_
  refine tG.mono (tE.b1 z) ?_
  rintro v H1 ⟨d, μ, M, ρ, h, e, r, pa, p⟩
  obtain ⟨xs, ex, p⟩ := p.need
  obtain ⟨a', ys, rfl, sq, t⟩ := lst_rep r pa ex
  rw [g.K]
  exact ⟨a', ys, rfl, sq, fun q hq => p (.ref q) μ M _ (Le.fresh hq) (r.fresh hq) (Rep.newLst r hq (reps_rev t))⟩
end
end PyI
set_option Elab.async false
set_option linter.all false
set_option maxRecDepth 100000
set_option maxHeartbeats 2000000
namespace PyI
open PySem PySem.Spec PyProof.Rows L2
/-- one entry put by a comprehension -/
theorem d_setC {X : Cx} {pins : List (Addr × Obj)} {σ : L2.St} {H G : Hp} {s : Shared} {E : Value → Shared → Prop} {a : Addr} {y v : V} {u r : Value} {Q : Unit → Shared → Prop} (hu : X.A.units < cLine) (I : Inv X pins σ H s) (g : DPut H a y v G) (ry : RelV y u) (rv : RelV v r)
    (h : ∀ s', Inv X pins σ G s' → Q () s') : wpAny (model X.prog X.w) X.A (dictSet a u r) Q E s := by
  rcases g with ⟨es, k, ea, ey, few, eG⟩ | ⟨es, k, b, ea, ey, eb, few, eG⟩
  · rw [eG] at h
    rw [ey] at ry
    exact d_dictSet I ea few ry rv h
  · rw [eG] at h
    rw [ey] at ry
    obtain rfl : u = Value.ref b := ry
    obtain ⟨z, lo, ks, rel, dd⟩ := dt_of I.hok ea
    have n1 : ks.length ≤ sizeLine := by rw [← Paired.length rel]; exact z
    have n2 : (putK es k v).length ≤ sizeLine := by have := length_putK es k v; omega
    refine wpAny_dictSet_heap (knd := tupleKind (mixKind X.prog X.w)) (hsz := n1) (show X.A.units < cLine from hu) (key_of I.hok eb) dd fun g2 dd2 sb => h _ ?_
    obtain ⟨q, e1, e2, hq, w2, w3, w4, _, w5⟩ := dd2
    refine d_write I (by rw [ea]; exact trivial) sb ⟨q, hq⟩ ⟨n2, lo, _, (rel.put k eb rv).keeps fun c ys ec => ?_, q, e1, e2, hq, w2, w3, w4, w5⟩
    rw [upd_ne (ne_of ec ea (by intro z; cases z))]; exact ec
/-- {k: v for target in iter if ..}: D the new dict, empty as o0 -/
def tDcG (o0 : HO) (wi : TI) (g : TG) (tt : TT) (tk tv : TE) (vs : List Nat) : TE := fun σ H Q => wi σ H fun J H1 => ∀ D, H1 D = none → ∃ W : Nat → Nat → Hp → Prop, (∃ m, W 0 m (upd H1 D o0)) ∧ ∀ i m G, W i m G →
  (J.stop i G ∧ Q (.ref D) G) ∨ (J.go i G ∧ ∃ Nx : Hp → Prop, (∀ G', Nx G' → ∃ m', m' < m ∧ W (i + 1) m' G') ∧ ∀ x G', J.yld i G x G' → g x (L2.wipe σ vs) G' fun σ2 G2 => L2.wipe σ2 vs = L2.wipe σ vs ∧ tt σ2 G2 fun b G3 =>
    if b = true then tk σ2 G3 fun y G4 => tv σ2 G4 fun z G5 => ∃ G6, DPut G5 D y z G6 ∧ Nx G6 else Nx G3)
section
variable {X : Cx}
abbrev BlkE (X : Cx) (scope : Scope) (e : Expr) (t : TE) : Prop := ∀ (s : Shared) (H : Hp) (C : Addr) (cl : List (Str × Addr)) (fp : List Addr), PE (X.blk s H scope (compEnvC scope cl C X.env) fp) e t
abbrev BlkT (X : Cx) (scope : Scope) (e : List Expr) (t : TT) : Prop := ∀ (s : Shared) (H : Hp) (C : Addr) (cl : List (Str × Addr)) (fp : List Addr), PTs (X.blk s H scope (compEnvC scope cl C X.env) fp) e t
abbrev BlkG (X : Cx) (scope : Scope) (e : Expr) (t : TG) : Prop := ∀ (s : Shared) (H : Hp) (C : Addr) (cl : List (Str × Addr)) (fp : List Addr), PG (X.blk s H scope (compEnvC scope cl C X.env) fp) e t
theorem dcg_core {o0 : HO} {pins : List (Addr × Obj)} {s : Shared} {σ : L2.St} {H : Hp} {Q : VK} {kx vx tg iter : Expr} {ifs : List Expr} {scope : Scope} {own : List (Str × Nat)} {pos pos' : Pos} {wi : TI} {g : TG} {tt : TT} {tk tv : TE} {use : Option (Value → Sem Unit)} {Qf : Value → Shared → Prop}
    (e00 : ∀ (h : Heap) (H : Hp), sysModules < h.objs.size → ObjOk X.prog X.w H (h.push { cls := .type "dict", data := .dict #[] }) h.objs.size o0) (hu : X.A.units < cLine) (calm : X.calm = true) (nd : X.N.Nodup) (I : Inv X pins σ H s) (hi : PI X tg iter wi) (ok : BlkOk X.N X.env.scope scope own)
    (hg : BlkG X scope tg g) (ht : BlkT X scope ifs tt) (hk : BlkE X scope kx tk) (he : BlkE X scope vx tv) (hs : ∀ x, foldedSetIterable iter X.env x = pure x) (h : tDcG o0 wi g tt tk tv (own.map (·.2)) σ H Q)
    (hRR : ∀ D C s' m H', Inv X pins σ H' s' → Q (.ref D) H' → s'.heap.Ns C m → FpOk X pins H' C → compPost (model X.prog X.w) X.A X.xe use Qf (.ref D) C (.ok .next) s') :
    wpAny (model X.prog X.w) X.A (comprehension (.DictComp kx vx [⟨tg, iter, ifs, 0⟩] scope pos) scope X.env pos' newDict false (eval iter X.env) use) Qf X.xe s := by
  have free : ∀ y ∈ scope.names, y.2 = .free → ∃ c, X.env.cells.lookup y.1 = some c := fun y hy e => I.ok.has _ (ok.free y hy e)
  refine wpAny_comprehension_free (use := use) rfl hs (closure_ok free) ok.kind (fun y hy e => by rw [ok.uniq y hy, e]) ?_
  refine thn (hi.run pins s σ H _ I h) fun xv t1 hx => thn hx fun itv t2 w2 => ?_
  obtain ⟨it, fp, tn, J, G2, e, J2, T, b2, f2, q⟩ := w2
  subst e
  refine wpAny_newObj_type (newEnv_comp ?_)
  generalize eD : t2.heap.objs.size = D
  have freshD : G2 D = none := J2.hok.fresh (Nat.le_of_eq eD)
  obtain ⟨W, ⟨m0, w0⟩, turn⟩ := q D freshD
  generalize et3 : ({ t2 with heap := t2.heap.push { cls := .type "dict", data := .dict #[] } } : Shared) = t3
  have J3 : Inv X pins σ (upd G2 D o0) t3 := by
    rw [← et3]
    refine J2.laid (t' := t2.toks) (fun b o e => Heap.get?_push_of_some _ e) (Nat.le_of_eq eD) ?_
    rw [← eD]; exact e00 t2.heap _ J2.big
  have q3 : t3.heap = t2.heap.push { cls := .type "dict", data := .dict #[] } := by rw [← et3]
  have f3 : ∀ b ∈ fp, FpOk X pins (upd G2 D o0) b ∧ b < t3.heap.objs.size := fun b hb => by
    have lt : b < t2.heap.objs.size := let ⟨_, eo, _⟩ := T.obj _ _ b2 b hb; Heap.lt_size eo
    refine ⟨⟨?_, (f2 b hb).2⟩, by rw [q3, Heap.size_push]; exact Nat.lt_succ_of_lt lt⟩
    rw [upd_ne (by rw [← eD]; exact Nat.ne_of_lt lt)]; exact (f2 b hb).1
  have b3 : tn 0 t3.heap := T.keep _ _ _ b2 fun b _ o e => by rw [q3]; exact Heap.get?_push_of_some _ e
  have J4 := block_start J3 ok nd f3
  generalize ecl : cellsFrom (t3.heap.objs.size + 1) scope.names (cloFrom X.env.cells scope.names []) = cl at J4
  have pg := hg t3 (upd G2 D o0) t3.heap.objs.size cl fp
  have pt := ht t3 (upd G2 D o0) t3.heap.objs.size cl fp
  have pk := hk t3 (upd G2 D o0) t3.heap.objs.size cl fp
  have pe := he t3 (upd G2 D o0) t3.heap.objs.size cl fp
  show codeAny _ _ (.compStart (.DictComp kx vx [⟨tg, iter, ifs, 0⟩] scope pos) 0 (.ref it) (.ref D) (compEnvC scope cl t3.heap.objs.size X.env)) (compPost (model X.prog X.w) X.A X.xe use Qf (.ref D) t3.heap.objs.size) { t3 with heap := pushCells (t3.heap.push { cls := .type "dict", data := .dict #[] }) scope.names }
  have nfp : ∀ b ∈ fp, (upd G2 D o0) b = none := fun b hb => (f3 b hb).1.1
  generalize ece : compEnvC scope cl t3.heap.objs.size X.env = ce at J4 pg pt pk pe ⊢
  have cL : ce.locals = t3.heap.objs.size := by subst ece; rfl
  generalize eG3 : upd G2 D o0 = G3 at J3 J4 pg pt pk pe w0 nfp f3
  generalize et4 : ({ t3 with heap := pushCells (t3.heap.push { cls := .type "dict", data := .dict #[] }) scope.names } : Shared) = t4 at J4 ⊢
  have b4 : tn 0 t4.heap := T.keep _ _ _ b3 fun b _ o e => by rw [← et4]; exact pushCells_keeps _ _ _ _ (Heap.get?_push_of_some _ e)
  have stay : ∀ {σ' : L2.St} {H' : Hp} {s' : Shared}, Inv (X.blk t3 G3 scope ce fp) [] σ' H' s' → (∀ b ∈ fp, H' b = none) → ∀ b ∈ fp, FpOk (X.blk t3 G3 scope ce fp) [] H' b := fun {σ' H' s'} Iz hn b hb =>
    ⟨hn b hb, (Iz.ok.exf b hb).1, Iz.ok.exfs b hb, .inl hb, fun x c e => (Iz.ok.exf b hb).2 x c e, fun p hp => absurd (show p ∈ ([] : List (Addr × Obj)) ++ [] from hp) (by simp)⟩
  have loop : codeAny (model X.prog X.w) X.A (.compLoop (.DictComp kx vx [⟨tg, iter, ifs, 0⟩] scope pos) 0 (.ref it) (.ref D) ce) (compPost (model X.prog X.w) X.A X.xe use Qf (.ref D) t3.heap.objs.size) t4 := by
    refine compLoop_anyD (fun n z => ∃ i G, Inv (X.blk t3 G3 scope ce fp) [] (L2.wipe σ (own.map (·.2))) G z ∧ tn i z.heap ∧ (∀ b ∈ fp, G b = none) ∧ W i n G) ?_ m0 ⟨0, G3, J4, b4, nfp, w0⟩
    rintro n t5 ⟨i, G5, J5, b5, n5, w5⟩
    rcases turn i n G5 w5 with ⟨stop, qq⟩ | ⟨go, Nx, hNx, step⟩
    · refine thnF (T.done (X.blk t3 G3 scope ce fp) rfl rfl rfl calm i [] t5 _ G5 (fun _ _ => False) J5 (stay J5 n5) b5 stop) fun r t6 ⟨hr, J6⟩ => ?_
      subst hr
      have J7 : Inv X pins σ G5 t6 := J3.call' (ch := fp) J6.os J6.base J6.hok J6.bare fun b hb => let f := (f3 b hb).1; ⟨f.2.2.2.1, f.2.1, f.2.2.2.2.1, f.2.2.2.2.2⟩
      have nC : G5 t3.heap.objs.size = none := by
        have z : G5 ce.locals = none := J6.free
        rw [cL] at z; exact z
      obtain ⟨m, hn, _⟩ := J6.loc
      have hn : t6.heap.Ns ce.locals m := hn
      rw [cL] at hn
      exact hRR D t3.heap.objs.size t6 m G5 J7 qq hn (J3.fpOk (Nat.le_refl _) nC)
    · refine thnF (T.item (X.blk t3 G3 scope ce fp) rfl rfl rfl calm i [] t5 _ G5 (fun _ _ => False) J5 (stay J5 n5) b5 go) fun r t6 ⟨u, hr, w6⟩ => ?_
      subst hr
      refine thnF w6 fun _ t7 ⟨x, G7, J7, r7, y7, b7, n7⟩ => ?_
      refine thnF (pg.run _ t7 _ G7 x u _ (J7.pinned (stay J7 n7) (T.obj _ _ b7)) r7 (step x G7 y7)) fun _ t8 ⟨σ8, G8, J8, hw8, q8⟩ => ?_
      refine thnF (pt.run _ t8 σ8 G8 _ J8 q8) fun b t9 ⟨G9, J9, q9⟩ => ?_
      have fin : ∀ {s' : Shared} {H' : Hp}, Inv (X.blk t3 G3 scope ce fp) ([] ++ pinsAt fp t7.heap) σ8 H' s' → Nx H' → ∃ m, m < n ∧ ∃ i G, Inv (X.blk t3 G3 scope ce fp) [] (L2.wipe σ (own.map (·.2))) G s' ∧ tn i s'.heap ∧ (∀ b ∈ fp, G b = none) ∧ W i m G := fun {s' H'} Iz nx => by
        obtain ⟨m', hm, w'⟩ := hNx H' nx
        have pin : ∀ b ∈ fp, ∀ o, t7.heap.get? b = some o → s'.heap.get? b = some o ∧ H' b = none := fun b hb o e => by
          have z := Iz.pin (b, o) (List.mem_append_right _ (List.mem_append_right _ (mem_pinsAt hb e)))
          exact ⟨z.1, z.2.1⟩
        have hl : (L2.wipe σ (own.map (·.2))).length = σ8.length := by rw [← hw8, wipe_length]
        refine ⟨m', hm, i + 1, H', (Iz.unpinned (pins := [])).weak hl (fun j v e => ?_), T.keep _ _ _ b7 fun b hb o e => (pin b hb o e).1, fun b hb => ?_, w'⟩
        · rw [← hw8] at e; exact (wipe_some e).1
        · obtain ⟨o, e, _⟩ := T.obj _ _ b7 b hb
          exact (pin b hb o e).2
      cases b with
      | false =>
        rw [if_neg Bool.false_ne_true] at q9
        rw [if_neg Bool.false_ne_true]
        exact fin J9 q9
      | true =>
        rw [if_pos rfl] at q9
        rw [if_pos rfl]
        refine thnF (pk.run _ t9 σ8 G9 _ J9 q9) fun z t10 ⟨yk, G10, J10, r10, q10⟩ => ?_
        refine thnF (pe.run _ t10 σ8 G10 _ J10 q10) fun z2 t11 ⟨yv, G11, J11, r11, G12, dp, nx⟩ => ?_
        exact d_setC (X := X.blk t3 G3 scope ce fp) hu J11 dp r10 r11 fun t12 J12 => fin J12 nx
  exact codeAny_compStart_dict loop (T.self X.A 0 _ _ _ b4 loop)
variable {o0 : HO} {kx vx tg iter : Expr} {ifs : List Expr} {scope : Scope} {own : List (Str × Nat)} {pos : Pos} {wi : TI} {g : TG} {tt : TT} {tk tv : TE}
/-- as a value -/
theorem pe_dcG (e00 : ∀ (h : Heap) (H : Hp), sysModules < h.objs.size → ObjOk X.prog X.w H (h.push { cls := .type "dict", data := .dict #[] }) h.objs.size o0) (hu : X.A.units < cLine) (calm : X.calm = true) (nd : X.N.Nodup) (hi : PI X tg iter wi) (ok : BlkOk X.N X.env.scope scope own)
    (hg : BlkG X scope tg g) (ht : BlkT X scope ifs tt) (hk : BlkE X scope kx tk) (he : BlkE X scope vx tv) (hs : ∀ x, foldedSetIterable iter X.env x = pure x) :
    PE X (.DictComp kx vx [⟨tg, iter, ifs, 0⟩] scope pos) (tDcG o0 wi g tt tk tv (own.map (·.2))) := by
  constructor
  intro pins s σ H Q I h
  rw [arm_eval_DictComp]
  refine dcg_core e00 hu calm nd I hi ok hg ht hk he hs h ?_
  intro D C s' m H' J q hn f
  refine ⟨m, hn, fun h2 sb => ?_⟩
  obtain ⟨f0, f1, f2, f3, f4, f5⟩ := f
  exact ⟨.ref D, H', J.turned (t' := s'.toks) (fun b o hb e => (sb.2 b hb).trans e) f0 f1 f3 f4 f5, rfl, q⟩
/-- name = {..} on one line, the name a local -/
theorem ps_setDcG {i : Nat} {y : Str} {py spos : Pos} (e00 : ∀ (h : Heap) (H : Hp), sysModules < h.objs.size → ObjOk X.prog X.w H (h.push { cls := .type "dict", data := .dict #[] }) h.objs.size o0) (hu : X.A.units < cLine) (calm : X.calm = true) (nd : X.N.Nodup) (hy : X.N[i]? = some y)
    (hyl : X.env.scope.names.lookup y = some .local) (hsw : swapsWith (.DictComp kx vx [⟨tg, iter, ifs, 0⟩] scope pos) (some (.Name y py)) spos.line X.env = pure true) (hi : PI X tg iter wi) (ok : BlkOk X.N X.env.scope scope own)
    (hg : BlkG X scope tg g) (ht : BlkT X scope ifs tt) (hk : BlkE X scope kx tk) (he : BlkE X scope vx tv) (hs : ∀ x, foldedSetIterable iter X.env x = pure x) :
    PS X (.Assign [.Name y py] (.DictComp kx vx [⟨tg, iter, ifs, 0⟩] scope pos) spos) (tAsg (tDcG o0 wi g tt tk tv (own.map (·.2))) (gName i)) := by
  constructor
  intro pins s σ H D I h
  rw [exec_Assign_Name_used _ _ _ _ hsw]
  refine wpAny_bind (wpAny_standAt (wpAny_bind ?_))
  show wpAny _ X.A (do let _ ← comprehension (.DictComp kx vx [⟨tg, iter, ifs, 0⟩] scope pos) scope X.env (firstIterPos [⟨tg, iter, ifs, 0⟩] pos) newDict false (eval iter X.env) (some (assign (.Name y py) X.env))) _ _ s
  have h : tDcG o0 wi g tt tk tv (own.map (·.2)) σ H (fun x H1 => gName i x σ H1 D.nx) := h
  refine wpAny_bind (thn (dcg_core (Qf := fun _ s' => SP X pins D .next s') e00 hu calm nd I hi ok hg ht hk he hs h ?_) fun _ s' hq => wpAny_pure (wpAny_pure hq))
  intro L C s' m H' J q hn f
  show wpAny _ _ (assign (.Name y py) X.env (.ref L)) _ _ _
  refine wpAny_assign_Name (store_ok2 (v := V.ref L) J nd hy (.inl hyl) rfl (fun s2 J2 ⟨a, sb, ha⟩ => ?_) (.inr hyl))
  obtain ⟨f0, f1, f2, f3, f4, f5⟩ := f
  have ne : C ≠ a := by
    rcases ha with z | z
    · rw [z]; exact f1
    · exact fun e => f4 y a z e.symm
  refine ⟨m, hn.sameBut sb ne, fun h3 sb3 => ?_⟩
  exact ⟨_, H', J2.turned (t' := s2.toks) (fun b o hb e => (sb3.2 b hb).trans e) f0 f1 f3 f4 f5, q⟩
end
/-- the dict that a comprehension fills -/
def isDi : MO → Bool
  | .dK _ _ => true
  | .dT _ _ => true
  | _ => false
structure DcS (G : Glb) (D : Addr) (μ0 : Mu) (M0 : Mk) (H0 : Hp) (μ : Mu) (M : Mk) (H : Hp) (h : Hea) (o : MO) : Prop where
  le : Le μ0 M0 H0 μ M H
  rel : Hrel G μ M H h
  mD : M D
  nl : ∀ n : Nat, μ[n]? ≠ some (some D)
  di : isDi o = true
  rep : MRep G μ M H D o
section
variable {G : Glb} {μ0 μ μ' : Mu} {M0 M M' : Mk} {H0 H H' : Hp} {h h' : Hea} {D : Addr} {o o' : MO}
theorem MRep.lw2 (r : Hrel G μ M H h) (l : Lw0 μ M H μ' M' H') {a : Addr} (e : H' a = H a) (m : MRep G μ M H a o) : MRep G μ' M' H' a o := by
  cases o with
  | dead => exact m
  | ins c fs => obtain ⟨C, dx, vs, q, k, z, p⟩ := m; exact ⟨C, dx, vs, e.trans q, k, z, Reps.lw r l _ _ p⟩
  | lst ds => obtain ⟨xs, q, p⟩ := m; exact ⟨xs, e.trans q, Reps.lw r l _ _ p⟩
  | dK ks ds => obtain ⟨xs, q, k, p⟩ := m; exact ⟨xs, e.trans q, k, Reps.lw r l _ _ p⟩
  | dT ks ds => obtain ⟨xs, q, k, p⟩ := m; exact ⟨xs, e.trans q, k, Reps.lw r l _ _ p⟩
  | lckK ks ds => obtain ⟨o, xs, q, k, p⟩ := m; exact ⟨o, xs, e.trans q, k, Reps.lw r l _ _ p⟩
  | lckT ks ds => obtain ⟨o, xs, q, k, p⟩ := m; exact ⟨o, xs, e.trans q, k, Reps.lw r l _ _ p⟩
theorem isDi_nf {a : Addr} (di : isDi o = true) (m : MRep G μ M H a o) : ∃ u, H a = some u ∧ mutO u = true ∧ NoTb u ∧ ∀ ob v, u ≠ .frz ob v := by
  cases o with
  | dK ks ds => obtain ⟨xs, q, _⟩ := m; exact ⟨_, q, rfl, ntK, fun _ _ z => by cases z⟩
  | dT ks ds => obtain ⟨xs, q, _⟩ := m; exact ⟨_, q, rfl, ntD, fun _ _ z => by cases z⟩
  | _ => cases di
theorem DcS.step (s : DcS G D μ0 M0 H0 μ M H h o) (l : Le μ M H μ' M' H') (r : Hrel G μ' M' H' h') : DcS G D μ0 M0 H0 μ' M' H' h' o := by
  obtain ⟨u, hu, _, nt, _⟩ := isDi_nf s.di s.rep
  have k := l.keep D u hu nt s.nl
  exact ⟨s.le.trans l, r, l.kmD hu s.nl s.mD, l.nl hu s.nl, s.di, s.rep.le s.rel l (k.trans hu.symm)⟩
theorem DcS.start (t : Bool) (r : Hrel G μ0 M0 H0 h) (e0 : H0 D = none) : DcS G D μ0 M0 H0 μ0 (fun a => M0 a ∨ a = D) (upd H0 D (if t then .dT [] else .dK [])) h (di0 t) where
  le := Le.mark e0
  rel := r.mark e0 (by cases t <;> rfl)
  mD := .inr rfl
  nl := fun n e => r.noMp e0 (r.mu n D e)
  di := by cases t <;> rfl
  rep := by
    cases t with
    | true => exact ⟨[], upd_same, rfl, Reps.nil⟩
    | false => exact ⟨[], upd_same, rfl, Reps.nil⟩
theorem putMO_di {y z : PyI.D} (e : putMO o y z = some o') : isDi o' = true := by
  unfold putMO at e
  split at e
  · obtain ⟨k, _, e⟩ := Option.bind_eq_some_iff.mp e
    split at e
    · cases e; rfl
    · cases e
  · obtain ⟨k, _, e⟩ := Option.bind_eq_some_iff.mp e
    split at e
    · cases e; rfl
    · cases e
  · cases e
theorem DcS.push (s : DcS G D μ0 M0 H0 μ M H h o) (e0 : H0 D = none) {y z : PyI.D} {v w : V} (qy : Rep G μ M H y v) (qz : Rep G μ M H z w) (e : putMO o y z = some o') : ∃ H1, DPut H D v w H1 ∧ DcS G D μ0 M0 H0 μ M H1 h o' ∧ Lw μ M H μ M H1 := by
  obtain ⟨u, hu, mu, nt, nf⟩ := isDi_nf s.di s.rep
  have mk : ∀ {ob : HO}, mutO ob = true → MRep G μ M (upd H D ob) D o' → DcS G D μ0 M0 H0 μ M (upd H D ob) h o' ∧ Lw μ M H μ M (upd H D ob) := fun m q =>
    ⟨⟨s.le.dirty e0, s.rel.dirty s.mD s.nl m, s.mD, s.nl, putMO_di e, q⟩, Lw.dirty s.mD hu nf⟩
  have rp := s.rep
  unfold putMO at e
  split at e
  · rename_i ks vs _ _
    obtain ⟨k, ek, e⟩ := Option.bind_eq_some_iff.mp e
    split at e
    · rename_i hl
      cases e
      obtain ⟨kvs, q, e1, p⟩ := rp
      have ev := keyV_kV qy ek
      subst ev
      have hlen : kvs.length < sizeLine := by rw [← e1, List.length_map] at hl; exact hl
      have lw : Lw0 μ M H μ M (upd H D (.dK (putK kvs k w))) := Lw0.dirty s.mD
      obtain ⟨p1, p2⟩ := put_rep (x := k) (Rep.lw s.rel lw _ _ qz) e1 (Reps.lw s.rel lw _ _ p)
      obtain ⟨r1, r2⟩ := mk (ob := .dK (putK kvs k w)) rfl ⟨_, upd_same, p1, p2⟩
      exact ⟨_, .inl ⟨kvs, k, q, rfl, hlen, rfl⟩, r1, r2⟩
    · cases e
  · rename_i ks vs _ _
    obtain ⟨k, ek, e⟩ := Option.bind_eq_some_iff.mp e
    split at e
    · rename_i hl
      cases e
      obtain ⟨kvs, q, e1, p⟩ := rp
      obtain ⟨b, rfl, hb⟩ := tkeyV_kV qy ek
      have hlen : kvs.length < sizeLine := by rw [← e1, List.length_map] at hl; exact hl
      have lw : Lw0 μ M H μ M (upd H D (.dT (putK kvs k w))) := Lw0.dirty s.mD
      obtain ⟨p1, p2⟩ := put_rep (x := k) (Rep.lw s.rel lw _ _ qz) e1 (Reps.lw s.rel lw _ _ p)
      obtain ⟨r1, r2⟩ := mk (ob := .dT (putK kvs k w)) rfl ⟨_, upd_same, p1, p2⟩
      exact ⟨_, .inr ⟨kvs, k, b, q, rfl, hb, hlen, rfl⟩, r1, r2⟩
    · cases e
  · cases e
/-- the loop is over: nobody changes it -/
theorem DcS.fin (s : DcS G D μ0 M0 H0 μ M H h o) (e0 : H0 D = none) : Le μ0 M0 H0 μ (fun a => M a ∧ a ≠ D) H ∧ Hrel G μ (fun a => M a ∧ a ≠ D) H h ∧ ∀ d, mkDi false o h = .ok d h → Rep G μ (fun a => M a ∧ a ≠ D) H d (.ref D) := by
  have lw : Lw0 μ M H μ (fun a => M a ∧ a ≠ D) H := ⟨fun _ _ e => .inl e, fun _ e => e, fun a o e _ m => ⟨e, fun z => m z.1⟩⟩
  refine ⟨{ len := s.le.len, old := s.le.old, dead := s.le.dead, new := s.le.new, keep := s.le.keep, frz := s.le.frz, dom := s.le.dom, mkk := fun a m => s.le.mkk a m.1, km := fun a m => ?_ }, ?_, ?_⟩
  · rcases s.le.km a m with z | z | z
    · by_cases ha : a = D
      · exact .inr (.inr (by rw [ha]; exact e0))
      · exact .inl ⟨z, ha⟩
    · exact .inr (.inl z)
    · exact .inr (.inr z)
  · exact {
      len := s.rel.len
      live := fun n u e => by
        rcases s.rel.live n u e with z | ⟨a, z, y⟩
        · exact .inl z
        · exact .inr ⟨a, z, y.lw2 s.rel lw rfl⟩
      inj := s.rel.inj
      mu := fun n a e => ⟨s.rel.mu n a e, fun z => s.nl n (z ▸ e)⟩
      md := fun a m => s.rel.md a m.1
      tb := s.rel.tb }
  · intro d ed
    have rp := s.rep
    cases o with
    | dK ks vs =>
      cases (show Res.ok (PyI.D.dK ks vs) h = .ok d h from ed)
      obtain ⟨kvs, q, k, p⟩ := rp
      rw [rep_dK]
      exact ⟨D, kvs, rfl, .inl q, fun z => z.2 rfl, k, Reps.lw s.rel lw _ _ p⟩
    | dT ks vs =>
      cases (show Res.ok (PyI.D.dT ks vs) h = .ok d h from ed)
      obtain ⟨kvs, q, k, p⟩ := rp
      rw [rep_dT]
      exact ⟨D, kvs, rfl, .inl q, fun z => z.2 rfl, k, Reps.lw s.rel lw _ _ p⟩
    | _ => exact Bool.noConfusion s.di
/-- the loop is over: a dict to be changed -/
theorem DcS.live (s : DcS G D μ0 M0 H0 μ M H h o) (e0 : H0 D = none) : Le μ0 M0 H0 (μ ++ [some D]) M H ∧ Hrel G (μ ++ [some D]) M H (h ++ [o]) ∧ Rep G (μ ++ [some D]) M H (.ref h.length) (.ref D) := by
  have lt : ∀ {n : Nat} {x : Option Addr}, μ[n]? = some x → (μ ++ [some D])[n]? = some x := fun {n x} e => by
    rw [List.getElem?_append_left (List.getElem?_eq_some_iff.mp e).1]; exact e
  have lw : Lw0 μ M H (μ ++ [some D]) M H := ⟨fun _ _ e => .inl (lt e), fun _ e => lt e, fun a o e _ m => ⟨e, m⟩⟩
  have inv : ∀ {n : Nat} {x : Option Addr}, (μ ++ [some D])[n]? = some x → μ[n]? = some x ∨ (n = μ.length ∧ x = some D) := fun {n x} e => by
    by_cases hn : n < μ.length
    · rw [List.getElem?_append_left hn] at e; exact .inl e
    · rw [List.getElem?_append_right (Nat.le_of_not_lt hn)] at e
      have h1 := (List.getElem?_eq_some_iff.mp e).1
      have h2 : n - μ.length = 0 := by simp at h1; omega
      rw [h2] at e; simp at e; exact .inr ⟨by omega, e.symm⟩
  refine ⟨{ len := by { have := s.le.len; simp; omega }, old := fun n a e => ?_, dead := fun n e => lt (s.le.dead n e), new := fun n a hn e => ?_, keep := s.le.keep, frz := s.le.frz, dom := s.le.dom, mkk := s.le.mkk, km := s.le.km }, ?_, ?_⟩
  · rcases s.le.old n a e with z | z
    · exact .inl (lt z)
    · exact .inr (lt z)
  · rcases inv e with z | ⟨_, z⟩
    · exact s.le.new n a hn z
    · cases z; exact e0
  · exact {
      len := by simp [s.rel.len]
      live := fun n u e => by
        by_cases hn : n < h.length
        · rw [List.getElem?_append_left hn] at e
          rcases s.rel.live n u e with ⟨z1, z2⟩ | ⟨a, z, y⟩
          · exact .inl ⟨z1, lt z2⟩
          · exact .inr ⟨a, lt z, y.lw2 s.rel lw rfl⟩
        · rw [List.getElem?_append_right (Nat.le_of_not_lt hn)] at e
          have h1 := (List.getElem?_eq_some_iff.mp e).1
          have h2 : n - h.length = 0 := by simp at h1; omega
          rw [h2] at e; simp at e; subst e
          refine .inr ⟨D, ?_, s.rep.lw2 s.rel lw rfl⟩
          have h3 : n = μ.length := by rw [s.rel.len]; omega
          rw [h3, List.getElem?_append_right (Nat.le_refl _), Nat.sub_self]; rfl
      inj := fun n k a e1 e2 => by
        rcases inv e1 with z1 | ⟨h1, z1⟩ <;> rcases inv e2 with z2 | ⟨h2, z2⟩
        · exact s.rel.inj n k a z1 z2
        · cases z2; exact absurd z1 (s.nl n)
        · cases z1; exact absurd z2 (s.nl k)
        · omega
      mu := fun n a e => by
        rcases inv e with z | ⟨_, z⟩
        · exact s.rel.mu n a z
        · cases z; exact s.mD
      md := s.rel.md
      tb := s.rel.tb }
  · rw [rep_ref]
    exact ⟨D, rfl, .inl (by rw [← s.rel.len, List.getElem?_append_right (Nat.le_refl _), Nat.sub_self]; rfl)⟩
end
theorem dcLoop_ne {turn : D → Hea → Res (Option (D × D))} (n : ∀ x h c k, turn x h ≠ .err c k) : ∀ (xs : List D) (o : MO) (h : Hea) (c : Nat) (k : Hea), dcLoop turn xs o h ≠ .err c k
  | [], o, h, c, k, e => by cases e
  | x :: r, o, h, c, k, e => by
    unfold dcLoop at e
    cases et : turn x h with
    | no => rw [et] at e; cases e
    | err c' k' => exact n x h c' k' et
    | ok y h1 =>
      rw [et, Res.bind_ok] at e
      cases y with
      | none => exact dcLoop_ne n r o h1 c k e
      | some p =>
        simp only at e
        cases ep : putMO o p.1 p.2 with
        | none => rw [ep] at e; cases e
        | some o1 => rw [ep] at e; exact dcLoop_ne n r o1 h1 c k e
theorem dcLoop_cons {turn : D → Hea → Res (Option (D × D))} {x : D} {r : List D} {o oF : MO} {h hF : Hea} (e : dcLoop turn (x :: r) o h = .ok oF hF) : ∃ y h1, turn x h = .ok y h1 ∧
    ((∃ p o1, y = some p ∧ putMO o p.1 p.2 = some o1 ∧ dcLoop turn r o1 h1 = .ok oF hF) ∨ (y = none ∧ dcLoop turn r o h1 = .ok oF hF)) := by
  unfold dcLoop at e
  obtain ⟨y, h1, et, e⟩ := bind_okE e
  refine ⟨y, h1, et, ?_⟩
  cases y with
  | none => exact .inr ⟨rfl, e⟩
  | some p =>
    obtain ⟨o1, ep, e⟩ := need_okE e
    exact .inl ⟨p, o1, rfl, ep, e⟩
def dcTurn (own : List Nat) (tg : Tg) (fc : Loc → Hea → Res Bool) (fk fe : Loc → Hea → Res D) (ρ : Loc) (x : D) (h2 : Hea) : Res (Option (D × D)) :=
  (need (evG tg (wipeD ρ own) x) fun ρ1 => (fc ρ1 h2).bind fun b h4 => if b then (fk ρ1 h4).bind fun y h5 => (fe ρ1 h5).bind fun z h6 => .ok (some (y, z)) h6 else .ok none h4).noErr
def dcF (t m : Bool) (own : List Nat) (tg : Tg) (fi : Loc → Hea → Res (List D)) (fc : Loc → Hea → Res Bool) (fk fe : Loc → Hea → Res D) (ρ : Loc) (h : Hea) : Res D :=
  (fi ρ h).bind fun xs h1 => (dcLoop (dcTurn own tg fc fk fe ρ) xs (di0 t) h1).bind fun o h6 => mkDi m o h6
theorem dcTurn_ok {own : List Nat} {tg : Tg} {fc : Loc → Hea → Res Bool} {fk fe : Loc → Hea → Res D} {ρ : Loc} {x : D} {h h1 : Hea} {y : Option (D × D)} (e : dcTurn own tg fc fk fe ρ x h = .ok y h1) :
    ∃ ρ1 b h4, evG tg (wipeD ρ own) x = some ρ1 ∧ fc ρ1 h = .ok b h4 ∧ ((b = true ∧ ∃ k h5 z, y = some (k, z) ∧ fk ρ1 h4 = .ok k h5 ∧ fe ρ1 h5 = .ok z h1) ∨ (b = false ∧ y = none ∧ h1 = h4)) := by
  obtain ⟨ρ1, e1, e⟩ := need_okE (noErr_ok.mp e)
  obtain ⟨b, h4, e2, e⟩ := bind_okE e
  refine ⟨ρ1, b, h4, e1, e2, ?_⟩
  cases b with
  | true =>
    obtain ⟨k, h5, e3, e⟩ := bind_okE (show (fk ρ1 h4).bind _ = _ from e)
    obtain ⟨z, h6, e4, e⟩ := bind_okE e
    cases e
    exact .inl ⟨rfl, k, h5, z, rfl, e3, e4⟩
  | false => cases e; exact .inr ⟨rfl, rfl, rfl⟩
section
variable {G : Glb} {W : WX} {σ : L2.St} {H : Hp} {own : List Nat} {tg : Tg} {fi : Loc → Hea → Res (List D)} {fc : Loc → Hea → Res Bool} {fk fe : Loc → Hea → Res D}
theorem dc_turn {L : Addr} {μ0 μ : Mu} {M0 M : Mk} {H0 H : Hp} {h h1 : Hea} {o : MO} {ρ : Loc} {σ : L2.St} {x : D} {v : V} {y : Option (D × D)} {Nx : Hp → Prop} (e0 : H0 L = none)
    (s : DcS G L μ0 M0 H0 μ M H h o) (en : Envi G μ M H ρ σ) (rx : Rep G μ M H x v) (et : dcTurn own tg fc fk fe ρ x h = .ok y h1)
    (hn : ∀ μ' M' H' o', (match y with | some p => putMO o p.1 p.2 = some o' | none => o' = o) → DcS G L μ0 M0 H0 μ' M' H' h1 o' → Envi G μ' M' H' ρ σ → Lw μ M H μ' M' H' → Nx H')
    (hz : ∀ p, y = some p → ∃ o', putMO o p.1 p.2 = some o') :
    tGt G own tg v (L2.wipe σ own) H fun σ2 H2 => L2.wipe σ2 own = L2.wipe σ own ∧ tT G W0 fc σ2 H2 fun b H3 =>
      if b = true then tE G W0 fk σ2 H3 fun y H4 => tE G W0 fe σ2 H4 fun z H5 => ∃ H6, DPut H5 L y z H6 ∧ Nx H6 else Nx H3 := by
  obtain ⟨ρ1, k, h4, e1, e2, e3⟩ := dcTurn_ok et
  refine ⟨μ, M, wipeD ρ own, x, ρ1, en.wipe own, rx, e1, fun σ2 en2 w2 => ⟨w2.trans (wipe_idem σ own), ?_⟩⟩
  refine ⟨μ, M, ρ1, h, en2, s.rel, ?_⟩
  rw [e2]
  intro b μ1 M1 H1 l1 r1 eb
  subst eb
  have s1 := s.step l1 r1
  rcases e3 with ⟨rfl, kd, h5, z, rfl, e3, e4⟩ | ⟨rfl, rfl, rfl⟩
  · rw [if_pos rfl]
    refine ⟨μ1, M1, ρ1, h4, en2.le s.rel l1, r1, ?_⟩
    rw [e3]
    intro u μ2 M2 H2 l2 r2 ru
    have s2 := s1.step l2 r2
    refine ⟨μ2, M2, ρ1, h5, (en2.le s.rel l1).le r1 l2, r2, ?_⟩
    rw [e4]
    intro u3 μ3 M3 H3 l3 r3 ru3
    have s3 := s2.step l3 r3
    obtain ⟨o', eo⟩ := hz _ rfl
    obtain ⟨H6, dp, s6, lw6⟩ := s3.push e0 (Rep.le r2 l3 _ _ ru) ru3 eo
    exact ⟨H6, dp, hn μ3 M3 H6 o' eo s6 ((((en.le s.rel l1).le r1 l2).le r2 l3).lw r3 lw6.toLw0) ((((l1.trans l2).trans l3).lw s.rel).trans lw6)⟩
  · rw [if_neg Bool.false_ne_true]
    exact hn μ1 M1 H1 o rfl s1 (en.le s.rel l1) (l1.lw s.rel)
theorem dc_read {t m0 : Bool} {Q : VK} (q : tE G W (dcF t m0 own tg fi fc fk fe) σ H Q) : tDcG (if t then .dT [] else .dK []) (tIr G W fi) (tGt G own tg) (tT G W0 fc) (tE G W0 fk) (tE G W0 fe) own σ H Q := by
  obtain ⟨μ, M, ρ, h, e, r, p⟩ := q.out
  unfold dcF at p
  refine tG.mono (tG.thn (R := RW G) (f := fi) e r p) ?_
  rintro J H1 ⟨xs, μ1, M1, h1, l1, e1, r1, wk, p1⟩
  intro L e0
  obtain ⟨oF, hF, eF⟩ : ∃ oF hF, dcLoop (dcTurn own tg fc fk fe ρ) xs (di0 t) h1 = .ok oF hF := by
    revert p1
    cases ec : dcLoop (dcTurn own tg fc fk fe ρ) xs (di0 t) h1 with
    | ok ys hF => exact fun _ => ⟨ys, hF, rfl⟩
    | err c k => exact absurd ec (dcLoop_ne (fun x h c k => noErr_ne) xs _ h1 c k)
    | no => exact fun z => z.elim
  rw [eF, Res.bind_ok] at p1
  refine ⟨fun i m H => i + m = xs.length ∧ ∃ μ M h o, DcS G L μ1 M1 H1 μ M H h o ∧ Envi G μ M H ρ σ ∧ Lw μ1 M1 H1 μ M H ∧ dcLoop (dcTurn own tg fc fk fe ρ) (xs.drop i) o h = .ok oF hF,
    ⟨xs.length, by omega, μ1, _, h1, di0 t, DcS.start t r1 e0, e1.le r1 (DcS.start t r1 e0).le, (DcS.start t r1 e0).le.lw r1, by rw [List.drop_zero]; exact eF⟩, ?_⟩
  rintro i m H2 ⟨hi, μ2, M2, h2, o, s, en, lw, el⟩
  have wk2 := wk μ2 M2 H2 h2 lw s.rel i
  by_cases hd : i < xs.length
  · refine .inr ?_
    have ex : xs[i]? = some xs[i] := List.getElem?_eq_getElem hd
    rw [List.drop_eq_getElem_cons hd] at el
    obtain ⟨y, h3, et, el⟩ := dcLoop_cons el
    obtain ⟨go, yl⟩ := wk2.1 _ ex
    refine ⟨go, fun H' => (i + 1) + (m - 1) = xs.length ∧ ∃ μ M h o, DcS G L μ1 M1 H1 μ M H' h o ∧ Envi G μ M H' ρ σ ∧ Lw μ1 M1 H1 μ M H' ∧ dcLoop (dcTurn own tg fc fk fe ρ) (xs.drop (i + 1)) o h = .ok oF hF, fun H' z => ⟨m - 1, by omega, z⟩, ?_⟩
    intro v H3 yd
    obtain ⟨l3, r3, rv⟩ := yl v H3 yd
    have s3 := s.step l3 r3
    refine dc_turn e0 s3 (en.le s.rel l3) rv et ?_ ?_
    · intro μ' M' H' o' hy s' en' lw'
      refine ⟨by omega, μ', M', h3, o', s', en', (lw.trans (l3.lw s.rel)).trans lw', ?_⟩
      rcases el with ⟨z, o1, rfl, hz, el⟩ | ⟨rfl, el⟩
      · have hy : putMO o z.1 z.2 = some o' := hy
        rw [hz] at hy; cases hy; exact el
      · have hy : o' = o := hy
        rw [hy]; exact el
    · intro z ez
      rcases el with ⟨z', o1, e', hz, _⟩ | ⟨e, _⟩
      · rw [e'] at ez; cases ez; exact ⟨o1, hz⟩
      · rw [e] at ez; cases ez
  · refine .inl ⟨wk2.2 (Nat.le_of_not_lt hd), ?_⟩
    rw [List.drop_eq_nil_of_le (Nat.le_of_not_lt hd)] at el
    cases (show Res.ok o h2 = Res.ok oF hF from el)
    cases m0 with
    | false =>
      obtain ⟨f1, f2, f3⟩ := s.fin e0
      obtain ⟨d, ed⟩ : ∃ d, mkDi false oF hF = .ok d hF := by
        have := s.di
        cases oF <;> first | exact ⟨_, rfl⟩ | exact Bool.noConfusion this
      rw [ed] at p1
      exact p1 (.ref L) μ2 _ H2 f1 f2 (f3 d ed)
    | true =>
      obtain ⟨f1, f2, f3⟩ := s.live e0
      exact p1 (.ref L) _ M2 H2 f1 f2 f3
end
end PyI
set_option Elab.async false
set_option linter.all false
set_option maxRecDepth 100000
set_option maxHeartbeats 2000000
namespace PyI
open PySem PySem.Spec PyProof.Rows L2
def mergeT (kvs more : List (List Key × V)) : List (List Key × V) := more.foldl (fun acc kv => putK acc kv.1 kv.2) kvs
abbrev PrT (K : PySem.W.Frag) (H : Hp) (p : Addr) (kv : List Key × V) : Prop := ∃ b, SqT K H p [.ref b, kv.2] ∧ H b = some (.tup (kv.1.map kV))
theorem length_mergeT : ∀ (more kvs : List (List Key × V)), (mergeT kvs more).length ≤ kvs.length + more.length
  | [], kvs => Nat.le_refl _
  | p :: r, kvs => by
    have h1 := length_mergeT r (putK kvs p.1 p.2)
    have h2 := length_putK kvs p.1 p.2
    show (mergeT (putK kvs p.1 p.2) r).length ≤ _
    rw [List.length_cons]; omega
theorem KT.mergeT {H : Hp} : ∀ {more : List (List Key × V)} {qs : List (List Key × Addr × Value)}, KT H more qs → ∀ {kvs : List (List Key × V)} {xs : List (List Key × Addr × Value)}, KT H kvs xs → KT H (mergeT kvs more) (storedAllH xs qs) := by
  intro more qs r
  induction r with
  | nil => intro kvs xs r; exact r
  | @cons p q ps qs h t ih =>
    intro kvs xs r
    obtain ⟨h1, h2, h3⟩ := h
    have z := KT.put r p.1 h2 h3
    rw [h1] at z
    show KT H (PyI.mergeT (putK kvs p.1 p.2) ps) (storedAllH (storedH xs q.1 q.2.1 q.2.2) qs)
    rw [← h1] at z ⊢
    exact ih z
section
variable {X : Cx}
theorem prT_of {pins : List (Addr × Obj)} {σ : L2.St} {H : Hp} {s : Shared} (I : Inv X pins σ H s) : ∀ {ps : List Addr} {kvs : List (List Key × V)}, Paired (PrT X.K H) ps kvs →
    ∃ qs : List (List Key × Addr × Value), KT H kvs qs ∧ qs.length = ps.length ∧ ∀ (j : Nat) (q : List Key × Addr × Value), qs[j]? = some q → ∃ p, ps[j]? = some p ∧ IsTup s.heap p #[.ref q.2.1, q.2.2]
  | _, _, .nil => ⟨[], .nil, rfl, fun j q e => by simp at e⟩
  | _, _, .cons (a := p) (b := kv) h t => by
    obtain ⟨qs, r, hl, hp⟩ := prT_of I t
    obtain ⟨b, sq, hb⟩ := h
    obtain ⟨its, rv, ht, _⟩ := I.tuple sq
    obtain ⟨u, y, ei, ru, ry⟩ := vals2 rv
    subst ei
    obtain rfl : u = Value.ref b := ru
    refine ⟨(kv.1, b, y) :: qs, .cons ⟨rfl, hb, ry⟩ r, by rw [List.length_cons, List.length_cons, hl], fun j q e => ?_⟩
    cases j with
    | zero =>
      have e' : (kv.1, b, y) = q := Option.some.inj e
      subst e'
      exact ⟨p, rfl, ht⟩
    | succ j =>
      obtain ⟨p', e1, e2⟩ := hp j q (by simpa using e)
      exact ⟨p', by simpa using e1, e2⟩
theorem call_dictPT (hcalm : X.calm = true) (hu : X.A.units + 2 < cLine) : CallR X (.type "dict") (fun xs H Q => ∃ (a : Addr) (ps : List Addr) (kvs : List (List Key × V)), xs = [.ref a] ∧ SqL X.K H a (ps.map V.ref) ∧ Paired (PrT X.K H) ps kvs ∧
    ∀ p, H p = none → Q (.ref p) (upd H p (.dT (mergeT [] kvs)))) := by
  intro pins s σ H xs us Q I r q
  obtain ⟨a, ps, kvs, ex, hq, hp, q⟩ := q
  subst ex
  obtain ⟨u, eu, rx⟩ := vals1 r
  subst eu
  obtain rfl : u = Value.ref a := rx
  obtain ⟨its, rv, pl, hz⟩ := I.list hq
  have ei := refs_at rv
  subst ei
  rw [List.length_map] at hz
  obtain ⟨qs, rel, hl, hqs⟩ := prT_of I hp
  obtain ⟨o, n, ho, hc, hd, hdat⟩ := pl
  let prs : List (Value × Value) := qs.map fun q => (Value.ref q.2.1, q.2.2)
  have pl2 : prs.length = ps.length := by rw [List.length_map, hl]
  have items : PairItems s.heap (ps.map Value.ref).toArray (fun j => ps.getD j 0) prs := by
    refine ⟨by simp [pl2], fun j k v e => ?_⟩
    rw [List.getElem?_map] at e
    obtain ⟨q, eq, e⟩ := Option.map_eq_some_iff.mp e
    obtain ⟨rfl, rfl⟩ := Prod.mk.inj e
    obtain ⟨p, e1, e2⟩ := hqs j q eq
    refine ⟨by simp [e1], .inl ?_⟩
    show s.heap.IsTuple (ps.getD j 0) _
    rw [List.getD_eq_getElem?_getD, e1]
    exact e2
  have P := PairArg.list (prog := X.prog) (w := X.w) a (ps.map Value.ref).toArray (fun j => ps.getD j 0) prs
  refine call_dict_pairsH (knd := tupleKind (mixKind X.prog X.w)) (ps := qs) P (I.ok.hd hcalm) (show X.A.units + 1 + 1 < cLine from hu) ⟨⟨o, n, ho, hc, hd, hdat⟩, items⟩ ⟨by rw [List.length_map], fun i key v e => ?_⟩ ?_ (by rw [pl2]; exact hz) fun h' tk hd' k => ?_
  · have e : prs[i]? = some (key, v) := e
    rw [List.getElem?_map] at e
    obtain ⟨q, eq, e⟩ := Option.map_eq_some_iff.mp e
    obtain ⟨rfl, rfl⟩ := Prod.mk.inj e
    exact ⟨q.1, q.2.1, eq, rfl⟩
  · intro h' keep x hx
    have at_ : H x.2.1 = some (.tup (x.1.map kV)) := by
      have all : ∀ {l : List (List Key × V)} {m : List (List Key × Addr × Value)}, KT H l m → ∀ x ∈ m, H x.2.1 = some (.tup (x.1.map kV)) := by
        intro l m r
        induction r with
        | nil => intro x hx; cases hx
        | @cons p q ps qs h t ih =>
          intro x hx
          rcases List.mem_cons.mp hx with z | z
          · rw [z, ← h.1]; exact h.2.1
          · exact ih x z
      exact all rel x hx
    obtain ⟨o', arr, m, g1, g2, g3, g4⟩ := key_of I.hok at_
    exact ⟨o', arr, m, keep _ _ (Nat.ne_of_lt (Heap.lt_size g1)) (by simp) g1, g2, g3, g4⟩
  · have lo : (s.heap.objs.size == sysModules) = false := beq_eq_false_iff_ne.mpr (Nat.ne_of_gt I.big)
    have len : (mergeT [] kvs).length ≤ sizeLine := by
      have := length_mergeT kvs []
      have e := Paired.length rel
      simp at this
      omega
    have fr : H s.heap.objs.size = none := I.hok.fresh (Nat.le_refl _)
    obtain ⟨o', e1, e2, w1, w2, w3, w4, _, w5⟩ := hd'
    have kt : KT (upd H s.heap.objs.size (.dT (mergeT [] kvs))) (mergeT [] kvs) (storedAllH [] qs) :=
      KT.keeps (KT.mergeT rel .nil) fun b ys e => by rw [upd_ne (ne_of_none e fr)]; exact e
    exact ⟨.ref s.heap.objs.size, upd H s.heap.objs.size (.dT (mergeT [] kvs)), I.laid (t' := tk) (fun b o e => k b o (by simp) e) (Nat.le_refl _) ⟨len, lo, _, kt, o', e1, e2, w1, w2, w3, w4, w5⟩, rfl, q _ fr⟩
end
section
variable {G : Glb} {μ : Mu} {M : Mk} {H : Hp}
theorem pair_at {d k v : D} {x : V} (e : d = .plc [k, v] ∨ d = .tup [k, v]) (p : Rep G μ M H d x) : ∃ a u w', x = .ref a ∧ SqT G.K H a [u, w'] ∧ Rep G μ M H k u ∧ Rep G μ M H v w' := by
  have e2 : tupV d = some [k, v] := by rcases e with rfl | rfl <;> rfl
  obtain ⟨a, xs, rfl, s, r⟩ := tup_rep p e2
  unfold Reps at r
  obtain ⟨u, t, rfl, r1, r⟩ := r
  unfold Reps at r
  obtain ⟨w', t, rfl, r2, r⟩ := r
  unfold Reps at r
  subst r
  exact ⟨a, u, w', rfl, s, r1, r2⟩
theorem prsMO_cons {o o' : MO} {d : D} {r : List D} (e : prsMO o (d :: r) = some o') : ∃ k v o1, (d = .plc [k, v] ∨ d = .tup [k, v]) ∧ putMO o k v = some o1 ∧ prsMO o1 r = some o' := by
  unfold prsMO at e
  split at e
  · rename_i z; cases z
  · rename_i z
    cases z
    obtain ⟨o1, e1, e2⟩ := Option.bind_eq_some_iff.mp e
    exact ⟨_, _, o1, .inl rfl, e1, e2⟩
  · rename_i z
    cases z
    obtain ⟨o1, e1, e2⟩ := Option.bind_eq_some_iff.mp e
    exact ⟨_, _, o1, .inr rfl, e1, e2⟩
  · cases e
theorem prsT_rep : ∀ {xs : List D} {ys : List V} {ks : List (List Key)} {vs : List D} {acc : List (List Key × V)} {o : MO}, Reps G μ M H xs ys → prsMO (.dT ks vs) xs = some o → acc.map (·.1) = ks → Reps G μ M H vs (acc.map (·.2)) →
    ∃ ps kvs, ys = ps.map V.ref ∧ Paired (PrT G.K H) ps kvs ∧ ∃ ks' vs', o = .dT ks' vs' ∧ (mergeT acc kvs).map (·.1) = ks' ∧ Reps G μ M H vs' ((mergeT acc kvs).map (·.2))
  | [], ys, ks, vs, acc, o, t, e, e1, p1 => by
    unfold Reps at t; subst t
    unfold prsMO at e; cases e
    exact ⟨[], [], rfl, .nil, ks, vs, rfl, e1, p1⟩
  | d :: xs, ys, ks, vs, acc, o, t, e, e1, p1 => by
    obtain ⟨k, v, o1, ed, ep, e⟩ := prsMO_cons e
    unfold Reps at t
    obtain ⟨x, ys', rfl, h1, h2⟩ := t
    obtain ⟨a, u, w', rfl, sq, r1, r2⟩ := pair_at ed h1
    obtain ⟨kk, ek, ep⟩ := Option.bind_eq_some_iff.mp (show (tkeyV k).bind _ = some o1 from ep)
    split at ep
    · cases ep
      obtain ⟨b, rfl, hb⟩ := tkeyV_kV r1 ek
      obtain ⟨p3, p4⟩ := put_rep (x := kk) r2 e1 p1
      obtain ⟨ps, kvs, rfl, pr, z⟩ := prsT_rep h2 e p3 p4
      exact ⟨a :: ps, (kk, w') :: kvs, rfl, .cons ⟨b, sq, hb⟩ pr, z⟩
    · cases ep
theorem prsK_rep : ∀ {xs : List D} {ys : List V} {ks : List Key} {vs : List D} {acc : List (Key × V)} {o : MO}, Reps G μ M H xs ys → prsMO (.dK ks vs) xs = some o → acc.map (·.1) = ks → Reps G μ M H vs (acc.map (·.2)) →
    ∃ ps kvs, ys = ps.map V.ref ∧ Paired (fun p kv => SqT G.K H p [kV kv.1, kv.2]) ps kvs ∧ ∃ ks' vs', o = .dK ks' vs' ∧ (mergeK acc kvs).map (·.1) = ks' ∧ Reps G μ M H vs' ((mergeK acc kvs).map (·.2))
  | [], ys, ks, vs, acc, o, t, e, e1, p1 => by
    unfold Reps at t; subst t
    unfold prsMO at e; cases e
    exact ⟨[], [], rfl, .nil, ks, vs, rfl, e1, p1⟩
  | d :: xs, ys, ks, vs, acc, o, t, e, e1, p1 => by
    obtain ⟨k, v, o1, ed, ep, e⟩ := prsMO_cons e
    unfold Reps at t
    obtain ⟨x, ys', rfl, h1, h2⟩ := t
    obtain ⟨a, u, w', rfl, sq, r1, r2⟩ := pair_at ed h1
    obtain ⟨kk, ek, ep⟩ := Option.bind_eq_some_iff.mp (show (keyV k).bind _ = some o1 from ep)
    split at ep
    · cases ep
      have eu := keyV_kV r1 ek
      subst eu
      obtain ⟨p3, p4⟩ := put_rep (x := kk) r2 e1 p1
      obtain ⟨ps, kvs, rfl, pr, z⟩ := prsK_rep h2 e p3 p4
      exact ⟨a :: ps, (kk, w') :: kvs, rfl, .cons sq pr, z⟩
    · cases ep
end
section
variable {P : Program} {w : World} {base : Heap} {G : Glb} {cf : Nat → List D → Hea → Res D} {n : Nat} {N : List Str} {sc : Scope} {fo : Fo} {X : Cx} {W : WX}
variable {a : Expr} {fa : Loc → Hea → Res D} {pos p : Pos}
theorem dict_boot : bootBuiltins "dict" = some (.type "dict") := by decide +kernel
theorem sv_dpr (F : Facts P w base G cf n) (g : Good P w base G n N sc fo X) {x : Str} {t : Bool} (ex : x = "dict") (k : glB sc x = true) (ha : PE X a (tE G W fa)) (hs : starEach [a] X.env = (false, eval a X.env) :: starEach [] X.env) :
    PE X (.Call (.Name x p) [a] [] pos) (tE G W fun ρ h => (fa ρ h).bind fun x h1 => need (lstV h1 x) fun xs => need (prsMO (di0 t) xs) fun o => mkDi false o h1) := by
  have hg := g.gl k
  have hm : X.mg x = none := by rw [g.mg, ex]; exact F.blt _ (by decide +kernel)
  have hv : bootBuiltins x = some (.type "dict") := by rw [ex]; exact dict_boot
  have ar : PA X [a] (tCons (tE G W fa) tNil) := pa_cons ha pa_nil hs
  cases t with
  | true =>
    have cr := call_dictPT (X := X) g.calm (by have := g.hu; omega)
    refine imE (pe_callTy cr hg hm hv ar (glB_gl k).2.2 (glB_gl k).2.1 hs rfl) fun σ H Q q => ?_
    refine tG.mono (tE.b1 q) ?_
    rintro v H1 ⟨d, μ, M, ρ, h, e, r, pa, z⟩
    obtain ⟨xs, e1, z⟩ := z.need
    obtain ⟨o, e2, z⟩ := z.need
    obtain ⟨a', ys, rfl, sq, t⟩ := lst_rep r pa e1
    obtain ⟨ps, kvs, rfl, pr, ks, vs, rfl, e3, p3⟩ := prsT_rep (acc := []) t e2 rfl Reps.nil
    rw [g.K]
    refine ⟨a', ps, kvs, rfl, sq, pr, fun q hq => ?_⟩
    refine z (.ref q) μ M _ (Le.fresh hq) (r.fresh hq) ?_
    rw [rep_dT]
    exact ⟨q, _, rfl, .inl upd_same, r.noMp hq, e3, p3.fresh r hq⟩
  | false =>
    have cr := call_dictP (X := X) g.calm
    refine imE (pe_callTy cr hg hm hv ar (glB_gl k).2.2 (glB_gl k).2.1 hs rfl) fun σ H Q q => ?_
    refine tG.mono (tE.b1 q) ?_
    rintro v H1 ⟨d, μ, M, ρ, h, e, r, pa, z⟩
    obtain ⟨xs, e1, z⟩ := z.need
    obtain ⟨o, e2, z⟩ := z.need
    obtain ⟨a', ys, rfl, sq, t⟩ := lst_rep r pa e1
    obtain ⟨ps, kvs, rfl, pr, ks, vs, rfl, e3, p3⟩ := prsK_rep (acc := []) t e2 rfl Reps.nil
    rw [g.K]
    refine ⟨a', ps, kvs, rfl, sq, pr, fun q hq => ?_⟩
    refine z (.ref q) μ M _ (Le.fresh hq) (r.fresh hq) ?_
    rw [rep_dK]
    exact ⟨q, _, rfl, .inl upd_same, r.noMp hq, e3, p3.fresh r hq⟩
end
end PyI
set_option Elab.async false
set_option linter.all false
set_option maxRecDepth 100000
set_option maxHeartbeats 2000000
namespace PyI
open PySem L2
section
variable {G : Glb} {W : WX} {σ : St} {H : Hp} {own : List Nat} {tg : Tg} {fc : Loc → Hea → Res Bool} {fe : Loc → Hea → Res D}
theorem lcLive_ne {turn : D → Hea → Res (Option D)} {n : Nat} (ne : ∀ x h c k, turn x h ≠ .err c k) : ∀ (m i : Nat) (acc : List D) (h : Hea) (c : Nat) (k : Hea), lcLive turn n m i acc h ≠ .err c k
  | 0, i, acc, h, c, k, e => by cases e
  | m + 1, i, acc, h, c, k, e => by
    unfold lcLive at e
    split at e
    · split at e
      · rename_i x ex
        cases et : turn x h with
        | no => rw [et] at e; cases e
        | err c' k' => exact ne x h c' k' et
        | ok y h1 =>
          rw [et, Res.bind_ok] at e
          cases y with
          | none => exact lcLive_ne ne m (i + 1) acc h1 c k e
          | some y =>
            simp only at e
            split at e
            · exact lcLive_ne ne m (i + 1) _ h1 c k e
            · cases e
      · cases e
    · cases e
def lcLF (m : Bool) (own : List Nat) (tg : Tg) (v : Nat) (fc : Loc → Hea → Res Bool) (fe : Loc → Hea → Res D) (ρ : Loc) (h : Hea) : Res D :=
  match ρ[v]? with
    | some (some (.ref n)) => match h[n]? with
      | some (.lst xs) => (lcLive (lcTurn own tg fc fe ρ) n (xs.length + 1) 0 [] h).bind fun ys h6 => mkL m ys h6
      | _ => .no
    | _ => .no
theorem lc_readL {m0 : Bool} {v : Nat} {Q : VK} (q : tE G W (lcLF m0 own tg v fc fe) σ H Q) :
    tLc (iList G.K (tE G W fun ρ h => match ρ[v]? with | some (some d) => .ok d h | _ => .no)) (tGt G own tg) (tT G W0 fc) (tE G W0 fe) own σ H Q := by
  obtain ⟨μ, M, ρ, h, e, r, q⟩ := q.out
  unfold lcLF at q
  split at q
  · rename_i n er
    split at q
    · rename_i xs ez
      refine ⟨μ, M, ρ, h, e, r, ?_⟩
      have key : (match ρ[v]? with | some (some d) => Res.ok d h | _ => Res.no) = Res.ok (PyI.D.ref n) h := by rw [er]
      show Post G (Rep G) _ μ M H (match ρ[v]? with | some (some d) => Res.ok d h | _ => Res.no) _
      rw [key]
      intro u μ1 M1 H1 l1 r1 ru
      obtain ⟨b, rfl, hn, ys0, s0, t1⟩ := r1.at_ ru ez (by intro z; cases z)
      refine ⟨b, rfl, ⟨ys0, .of s0⟩, ?_⟩
      intro L e0
      have q := Post.le q l1
      obtain ⟨ys, hF, eF⟩ : ∃ ys hF, lcLive (lcTurn own tg fc fe ρ) n (xs.length + 1) 0 [] h = .ok ys hF := by
        revert q
        cases ec : lcLive (lcTurn own tg fc fe ρ) n (xs.length + 1) 0 [] h with
        | ok ys hF => exact fun _ => ⟨ys, hF, rfl⟩
        | err c k => exact absurd ec (lcLive_ne (fun x h c k => noErr_ne) _ _ _ _ c k)
        | no => exact fun z => z.elim
      rw [eF, Res.bind_ok] at q
      have e1 := e.le r l1
      refine ⟨fun i m H => ∃ μ M h ds acc, LcS G L μ1 M1 H1 μ M H h ds acc ∧ Envi G μ M H ρ σ ∧ (μ[n]? = some (some b) ∨ μ[n]? = some none) ∧ lcLive (lcTurn own tg fc fe ρ) n m i ds h = .ok ys hF,
        ⟨xs.length + 1, μ1, _, h, [], [], LcS.start r1 e0, e1.le r1 (LcS.start r1 e0).le, .inl hn, eF⟩, ?_⟩
      rintro i m H2 ⟨μ2, M2, h2, ds, acc, s, en, at2, el⟩
      cases m with
      | zero => cases el
      | succ m =>
        unfold lcLive at el
        split at el
        · rename_i zs eh
          have rep : Rep G μ2 M2 H2 (.ref n) (.ref b) := by rw [rep_ref]; exact ⟨b, rfl, at2⟩
          obtain ⟨b', eb, hn2, ws, s2, t2⟩ := s.rel.at_ rep eh (by intro z; cases z)
          cases eb
          split at el
          · rename_i x0 ex
            obtain ⟨y0, ey, ry⟩ := t2.get ex
            obtain ⟨y, h3, et, el⟩ := bind_okE el
            refine .inr ⟨⟨ws, y0, .of s2, ey⟩, fun H' => ∃ μ M h ds acc, LcS G L μ1 M1 H1 μ M H' h ds acc ∧ Envi G μ M H' ρ σ ∧ (μ[n]? = some (some b) ∨ μ[n]? = some none) ∧ lcLive (lcTurn own tg fc fe ρ) n m (i + 1) ds h = .ok ys hF,
              fun H' z => ⟨m, Nat.lt_succ_self m, z⟩, ?_⟩
            intro v3 H3 yd
            obtain ⟨rfl, yd⟩ := yd
            have eu := yd ws (.of s2)
            rw [ey] at eu
            cases eu
            refine lc_turn e0 s en ry et ?_ ?_
            · intro μ' M' H' ds' acc' hy s' en' lw'
              have at3 : μ'[n]? = some (some b) ∨ μ'[n]? = some none := by
                rcases at2 with z | z
                · exact lw'.old n b z
                · exact .inr (lw'.dead n z)
              refine ⟨μ', M', h3, ds', acc', s', en', at3, ?_⟩
              cases y with
              | some z =>
                simp only at el
                split at el
                · rw [hy.2]; exact el
                · cases el
              | none =>
                have hy : ds' = ds := hy
                rw [hy]; exact el
            · intro z ez
              subst ez
              simp only at el
              split at el
              · assumption
              · cases el
          · rename_i ex
            refine .inl ⟨⟨ws, .of s2, ?_⟩, ?_⟩
            · rw [t2.length]; exact List.getElem?_eq_none_iff.mp ex
            · cases (show Res.ok ds h2 = Res.ok ys hF from el)
              cases m0 with
              | false =>
                obtain ⟨f1, f2, f3⟩ := s.fin e0
                exact q (.ref L) μ2 _ H2 f1 f2 f3
              | true =>
                obtain ⟨f1, f2, f3⟩ := s.live e0
                exact q (.ref L) _ M2 H2 f1 f2 f3
        · cases el
    · exact q.elim
  · exact q.elim
end
end PyI
set_option Elab.async false
set_option linter.all false
set_option maxRecDepth 100000
set_option maxHeartbeats 2000000
namespace PyI
open PySem PySem.Spec PyProof.Rows L2
section
variable {G : Glb} {μ : Mu} {M : PyI.Mk} {H : Hp} {h : Hea}
theorem look_repF {f : Str} : ∀ {fs : List (Str × PyI.D)} {vs : List (Str × V)}, vs.map (·.1) = fs.map (·.1) → Reps G μ M H (fs.map (·.2)) (vs.map (·.2)) →
    match fs.lookup f with | some d => ∃ v, vs.lookup f = some v ∧ Rep G μ M H d v | none => vs.lookup f = none
  | [], vs, e, t => by
    cases vs with
    | nil => rfl
    | cons _ _ => cases e
  | (g, d) :: fs, vs, e, t => by
    cases vs with
    | nil => cases e
    | cons p vs =>
      obtain ⟨g2, v⟩ := p
      rw [List.map_cons, List.map_cons] at e
      obtain ⟨e1, e2⟩ := List.cons.inj e
      have e1 : g2 = g := e1
      subst e1
      rw [List.map_cons, List.map_cons] at t
      unfold Reps at t
      obtain ⟨x, r, ex, p1, p2⟩ := t
      obtain ⟨rfl, rfl⟩ := List.cons.inj ex
      have ih := look_repF (f := f) e2 p2
      rw [show List.lookup f ((g2, d) :: fs) = (match f == g2 with | true => some d | false => fs.lookup f) from rfl, show List.lookup f ((g2, v) :: vs) = (match f == g2 with | true => some v | false => vs.lookup f) from rfl]
      cases f == g2 with
      | true => exact ⟨v, rfl, p1⟩
      | false => exact ih
theorem putF_rep {f : Str} {d : PyI.D} {v : V} (p : Rep G μ M H d v) : ∀ {fs : List (Str × PyI.D)} {vs : List (Str × V)}, vs.map (·.1) = fs.map (·.1) → Reps G μ M H (fs.map (·.2)) (vs.map (·.2)) →
    (putF f v vs).map (·.1) = (putFD f d fs).map (·.1) ∧ Reps G μ M H ((putFD f d fs).map (·.2)) ((putF f v vs).map (·.2))
  | [], vs, e, t => by
    cases vs with
    | nil => exact ⟨rfl, Reps.cons p Reps.nil⟩
    | cons _ _ => cases e
  | (g, d0) :: fs, vs, e, t => by
    cases vs with
    | nil => cases e
    | cons q vs =>
      obtain ⟨g2, v0⟩ := q
      rw [List.map_cons, List.map_cons] at e
      obtain ⟨e1, e2⟩ := List.cons.inj e
      have e1 : g2 = g := e1
      subst e1
      rw [List.map_cons, List.map_cons] at t
      unfold Reps at t
      obtain ⟨x, r, ex, p1, p2⟩ := t
      obtain ⟨rfl, rfl⟩ := List.cons.inj ex
      obtain ⟨i1, i2⟩ := putF_rep (f := f) p e2 p2
      unfold putF putFD
      by_cases c : g2 = f
      · rw [if_pos c, if_pos c]
        exact ⟨by rw [List.map_cons, List.map_cons, e2], Reps.cons p p2⟩
      · rw [if_neg c, if_neg c]
        exact ⟨by rw [List.map_cons, List.map_cons, i1], Reps.cons p1 i2⟩
theorem fldR_some {T : PyI.Tab} {x y : PyI.D} {f : Str} (e : fldR T h x f = some y) : ∃ n c fs cl, x = .ref n ∧ h[n]? = some (.ins c fs) ∧ T.cl c = some cl ∧ f ∈ cl.flds ∧ fs.lookup f = some y := by
  unfold fldR at e
  split at e
  · split at e
    · rename_i n _ c fs q
      obtain ⟨cl, ec, e⟩ := Option.bind_eq_some_iff.mp e
      split at e
      · rename_i k; exact ⟨n, c, fs, cl, rfl, q, ec, by simpa using k, e⟩
      · cases e
    · cases e
  · cases e
theorem sfldR_some {T : PyI.Tab} {x d : PyI.D} {f : Str} {h2 : Hea} (e : sfldR T h x f d = some h2) : ∃ n c fs cl, x = .ref n ∧ h[n]? = some (.ins c fs) ∧ T.cl c = some cl ∧ f ∈ cl.flds ∧ fs.length < 1000 ∧ h2 = h.set n (.ins c (putFD f d fs)) := by
  unfold sfldR at e
  split at e
  · split at e
    · rename_i n _ c fs q
      obtain ⟨cl, ec, e⟩ := Option.bind_eq_some_iff.mp e
      split at e
      · rename_i k; cases e; exact ⟨n, c, fs, cl, rfl, q, ec, by simpa using k.1, k.2, rfl⟩
      · cases e
    · cases e
  · cases e
theorem mthR_some {T : PyI.Tab} {x : PyI.D} {m : Str} {i : Nat} (e : mthR T h x m = some i) : ∃ n c fs cl, x = .ref n ∧ h[n]? = some (.ins c fs) ∧ T.cl c = some cl ∧ fs.lookup m = none ∧ cl.mts.lookup m = some i := by
  unfold mthR at e
  split at e
  · split at e
    · rename_i n _ c fs q
      obtain ⟨cl, ec, e⟩ := Option.bind_eq_some_iff.mp e
      split at e
      · rename_i k; exact ⟨n, c, fs, cl, rfl, q, ec, k, e⟩
      · cases e
    · cases e
  · cases e
end
section
variable {P : Program} {w : World} {base : Heap} {G : Glb} {cf : Nat → List D → Hea → Res D} {n : Nat} {N : List Str} {sc : Scope} {fo : Fo} {X : Cx} {W : WX}
variable {a b c : Expr} {fa fb fc : Loc → Hea → Res PyI.D} {pos p : Pos}
/-- what an instance's number says -/
theorem Hrel.ins (F : Facts P w base G cf n) {μ : Mu} {M : PyI.Mk} {H : Hp} {h : Hea} (r : Hrel G μ M H h) {k : Nat} {v : V} (pa : Rep G μ M H (.ref k) v) {c : Nat} {fs : List (Str × PyI.D)} (eh : h[k]? = some (.ins c fs)) {cl : Cl} (ec : G.T.cl c = some cl) :
    ∃ a C dx vs, v = .ref a ∧ μ[k]? = some (some a) ∧ H a = some (.ins C dx vs) ∧ InsOk P w base G cf n cl C ∧ vs.map (·.1) = fs.map (·.1) ∧ Reps G μ M H (fs.map (·.2)) (vs.map (·.2)) ∧ IsCl G c C := by
  obtain ⟨a, rfl, hn, C, dx, vs, s1, k0, k3, k4⟩ := r.at_ pa eh (by intro z; cases z)
  obtain ⟨cl', k1, k2⟩ := id k0
  obtain ⟨C', CO⟩ := F.cls c cl ec
  rw [ec] at k1; cases k1
  have z := CO.at_
  rw [k2] at z; cases z
  exact ⟨a, C, dx, vs, rfl, hn, s1, CO, k3, k4, k0⟩
theorem sv_fld (F : Facts P w base G cf n) (g : Good P w base G n N sc fo X) {f : Str} (ha : PE X a (tE G W fa)) (hb : attributeBase a f X.env (eval a X.env) = eval a X.env) :
    PE X (.Attribute a f pos) (tE G W fun ρ h => (fa ρ h).bind fun x h1 => need (fldR G.T h1 x f) fun d => .ok d h1) := by
  refine imE (pe_fld ha hb) fun σ H Q q => ?_
  refine tG.mono (tE.b1 q) ?_
  rintro v H1 ⟨d, μ, M, ρ, h, e, r, pa, p⟩
  obtain ⟨y, ey, p2⟩ := p.need
  clear p
  obtain ⟨k, c, fs, cl, rfl, eh, ec, ef, el⟩ := fldR_some ey
  obtain ⟨a, C, dx, vs, rfl, hn, s1, CO, k3, k4, _⟩ := r.ins F pa eh ec
  have z := look_repF (f := f) k3 k4
  rw [el] at z
  obtain ⟨v, ev, rv⟩ := z
  exact ⟨a, C, dx, vs, v, rfl, s1, by rw [g.K]; exact CO.cls, by rw [g.K]; exact CO.noat f ef, ev, p2.here r rv⟩
/-- the run of a def that a class names -/
theorem run_mth {fA : Addr} {i : Nat} (g : Good P w base G n N sc fo X) (tk : Takes X W) {A : Around} {pins : List (Addr × Obj)} {σ : L2.St} {H : Hp} {s : Shared} {us : List Value} {xs : List V} {ds : List PyI.D} {Q : VK} {μ : Mu} {M : PyI.Mk} {h : Hea}
    (m : MthAt P w base G cf n i fA) (hA : A = X.A) (I : Inv X pins σ H s) (rr : Vals xs us) (r : Hrel G μ M H h) (q1 : Reps G μ M H ds xs) (p1 : Post G (Rep G) (fun c H' => W c none σ H') μ M H (cf i ds h) Q) :
    wpAny (model X.prog X.w) X.A (call (.ref fA) us) (EP X pins σ Q) X.xe s := by
  obtain ⟨np, fd, ps, ok, bd, ar⟩ := m
  have ok' : FnG X.prog X.w X.K X.mg X.base (L2.CX X.prog X.w) n fA fd ps (spF G np (cf i)) := by rw [g.prog, g.w, g.K, g.mg, g.base]; exact ok
  have hl : ds.length = np := by
    by_cases hl : ds.length = np
    · exact hl
    · rw [ar ds h hl] at p1; exact p1.elim
  have sp : spF G np (cf i) xs H Q (WE W σ) := ⟨by rw [q1.length]; exact hl, μ, M, ds, h, r, q1, p1⟩
  have n1 : (us ++ []).length = ps.length := by
    rw [List.append_nil, ← rr.length]
    exact ok'.len _ _ _ _ sp
  have b1 := (by rw [g.K]; exact bd : Binds X.K fd ps []) s us I.kIn n1
  rw [List.append_nil] at b1
  apply wpAny_call
  refine codeAny_mono (ok'.run X.A X.stack s H ⟨us, []⟩ us xs Q (WE W σ) (g.room.mono (by omega)) g.gd I.env0 b1 rr sp) ?_
  intro z s3 c
  match z, c with
  | .error z, c => exact passAt tk σ pins H s z s3 I c
  | .ok (.ret u), c => exact I.after c
  | .ok .next, c => exact c.elim
  | .ok .brk, c => exact c.elim
  | .ok .cont, c => exact c.elim
/-- o.m(..) -/
theorem sv_meth (F : Facts P w base G cf n) (g : Good P w base G n N sc fo X) (tk : Takes X W) {m : Str} {ys : List Expr} {apos : Pos} {fs : Loc → Hea → Res (List PyI.D)} (ha : PE X a (tE G W fa)) (hb : attributeBase a m X.env (eval a X.env) = eval a X.env)
    (hl : (apos.endLine == pos.line) = true) (few : ys.length < 29) (has : PA X ys (tAr G W fs)) (hst : (backTo pos (starEach ys X.env)).any (·.1) = false) (h0 : ys = [] → ∀ ρ h, fs ρ h = .ok [] h) (hst2 : ∀ y r, ys = y :: r → starEach (y :: r) X.env = (false, eval y X.env) :: starEach r X.env ∧ (backTo pos (starEach r X.env)).any (·.1) = false) :
    PE X (.Call (.Attribute a m apos) ys [] pos) (tE G W fun ρ h => (fa ρ h).bind fun x h1 => need (mthR G.T h1 x m) fun i => (fs ρ h1).bind fun xs h2 => cf i (x :: xs) h2) := by
  constructor
  intro pins s σ H Q I q
  have hform : methodCallForm (ys.length + ([] : List Keyword).length) (backTo pos (starEach ys X.env)) (backToKw pos (keywordEach [] X.env)) = true := by
    unfold methodCallForm
    have z : (backTo pos (starEach ys X.env)).all (fun x => !x.1) = true := by
      rw [List.all_eq_true]
      intro x hx
      rw [List.any_eq_false] at hst
      have := hst x hx
      simpa using this
    rw [z]
    show (true && true && decide (ys.length + 0 + 0 < 30)) = true
    simp; omega
  have hpos : methodCallPos true a X.env apos pos = pure pos := by
    unfold methodCallPos
    rw [hl]; rfl
  rw [arm_eval_Call, hb]
  refine wpAny_bind (thn (ha.run pins s σ H _ I (tE.b1 q)) ?_)
  rintro u s1 ⟨x, H1, I1, rx, d, μ, M, ρ, h, e, r, pa, p⟩
  obtain ⟨i, ei, p3⟩ := p.need
  clear p
  obtain ⟨k, c, vs0, cl, rfl, eh, ec, en, em⟩ := mthR_some ei
  obtain ⟨ad, C, dx, vs, rfl, hn, s2, CO, k3, k4, _⟩ := r.ins F pa eh ec
  have z := look_repF (f := m) k3 k4
  rw [en] at z
  obtain ⟨fA, hm, mt⟩ := CO.mts m i em
  obtain rfl : u = Value.ref ad := rx
  refine wpAny_bind (wpAny_standAt ?_)
  unfold methodCall
  rw [hform, hpos]
  refine wpAny_bind (wpAny_holding ?_)
  show wpAny _ _ (getMethod (.ref ad) m _) _ _ _
  refine getmeth_ok I1 s2 (by rw [g.K]; exact CO.cls) (by rw [g.K]; exact hm) z ?_
  show wpAny _ _ (do let callPos ← pure pos; callWith callPos (.ref fA) [.ref ad] (backTo pos (starEach ys X.env)) (backToKw pos (keywordEach [] X.env))) _ _ _
  refine wpAny_bind (wpAny_pure ?_)
  have q2 : tAr G W fs σ H1 (fun xs H2 => ∃ μ M ds h, Hrel G μ M H2 h ∧ Reps G μ M H2 (.ref k :: ds) (.ref ad :: xs) ∧ Post G (Rep G) (fun c H' => W c none σ H') μ M H2 (cf i (.ref k :: ds) h) Q) := by
    refine ⟨μ, M, ρ, h, e, r, p3.bind.mono (fun _ _ z => z) ?_⟩
    rintro xs H2 ⟨ds, μ2, M2, h2, l2, r2, q3, p3⟩
    exact ⟨μ2, M2, ds, h2, r2, Reps.cons (Rep.le r l2 _ _ pa) q3, p3⟩
  have keep : PySem.W.keepIn X.K (.ref fA) = true := by rw [g.K]; exact hm.kp
  cases ys with
  | nil =>
    refine PySem.W.callWith_K0 (first := [.ref ad]) I1.kIn keep ?_
    rw [h0 rfl ρ h] at p3
    exact run_mth g tk mt rfl I1 (us := [.ref ad]) (xs := [.ref ad]) (.cons rfl .nil) r (Reps.cons pa Reps.nil) p3
  | cons y r0 =>
    obtain ⟨t1, t2⟩ := hst2 y r0 rfl
    refine PySem.W.callWith_K (first := [.ref ad]) (h₀ := X.base) I1.ok.mod.kin keep (thn (has.run pos pins s1 σ H1 _ I1 q2) ?_) t1 t2
    rintro us s3 ⟨xs, H2, I2, rr, μ2, M2, ds, h2, r2, q4, p4⟩
    exact ⟨I2.kIn, run_mth g tk mt rfl I2 (us := .ref ad :: us) (xs := .ref ad :: xs) (.cons rfl rr) r2 q4 p4⟩
end
end PyI
set_option Elab.async false
set_option linter.all false
set_option maxRecDepth 100000
set_option maxHeartbeats 2000000
namespace PyI
open PySem PySem.Spec PyProof.Rows L2
def prHash (i j : Int) : Int := reduceHash (Builtin.Tuple.tupleHashOf [hashInt i, hashInt j])
def prAt (n : Nat) : Int := prHash ((n / 8 : Nat) : Int) ((n % 8 : Nat) : Int)
theorem pr_apart : ((List.range 64).map prAt).Nodup := by decide +kernel
theorem pr_hash {P : Program} {w : World} (i j : Int) : (tupleKind (mixKind P w)).hash [.inl i, .inl j] = prHash i j := rfl
theorem smPr_some {k : List Key} (h : smPr k = true) : ∃ n, n < 64 ∧ k = [.inl ((n / 8 : Nat) : Int), .inl ((n % 8 : Nat) : Int)] := by
  unfold smPr at h
  split at h
  · rename_i i j
    obtain ⟨h1, h2, h3, h4⟩ := of_decide_eq_true h
    refine ⟨8 * i.toNat + j.toNat, by omega, ?_⟩
    have e1 : (8 * i.toNat + j.toNat) / 8 = i.toNat := by omega
    have e2 : (8 * i.toNat + j.toNat) % 8 = j.toNat := by omega
    rw [e1, e2, Int.toNat_of_nonneg h1, Int.toNat_of_nonneg h3]
  · cases h
theorem nodup_get {α : Type} {l : List α} (h : l.Nodup) {i j : Nat} {a : α} (e1 : l[i]? = some a) (e2 : l[j]? = some a) : i = j := by
  have hi := (List.getElem?_eq_some_iff.mp e1).1
  exact (List.getElem?_inj hi h).mp (e1.trans e2.symm)
theorem pr_inj {P : Program} {w : World} {k1 k2 : List Key} (h1 : smPr k1 = true) (h2 : smPr k2 = true) (e : (tupleKind (mixKind P w)).hash k1 = (tupleKind (mixKind P w)).hash k2) : k1 = k2 := by
  obtain ⟨n, hn, rfl⟩ := smPr_some h1
  obtain ⟨m, hm, rfl⟩ := smPr_some h2
  rw [pr_hash, pr_hash] at e
  have e' : prAt n = prAt m := e
  have : n = m := by
    refine nodup_get pr_apart (i := n) (j := m) (a := prAt n) ?_ ?_
    · rw [List.getElem?_map, List.getElem?_range hn]; rfl
    · rw [List.getElem?_map, List.getElem?_range hm, e']; rfl
  rw [this]
theorem pr_nodup {P : Program} {w : World} : ∀ {ks : List (List Key)}, ks.Nodup → (∀ k ∈ ks, smPr k = true) → (ks.map (tupleKind (mixKind P w)).hash).Nodup
  | [], _, _ => List.nodup_nil
  | k :: r, nd, h => by
    obtain ⟨n1, n2⟩ := List.nodup_cons.mp nd
    rw [List.map_cons]
    refine List.nodup_cons.mpr ⟨fun z => ?_, pr_nodup n2 fun k hk => h k (List.mem_cons_of_mem _ hk)⟩
    obtain ⟨k2, hk2, e⟩ := List.mem_map.mp z
    have := pr_inj (h k2 (List.mem_cons_of_mem _ hk2)) (h k List.mem_cons_self) e
    exact n1 (this ▸ hk2)
def mergeTT (kvs more : List (List Key × V)) : List (List Key × V) := more.foldl (fun acc kv => putK acc kv.1 kv.2) kvs
theorem KT.merge {H : Hp} : ∀ {more : List (List Key × V)} {rs : List (List Key × Addr × Value)}, KT H more rs → ∀ {kvs : List (List Key × V)} {vs : List (List Key × Addr × Value)}, KT H kvs vs → KT H (mergeTT kvs more) (storedAllH vs rs)
  | _, _, .nil, _, _, q => q
  | p :: ps, x :: xs, .cons h t, kvs, vs, q => by
    obtain ⟨h1, h2, h3⟩ := h
    have e : KT H (putK kvs p.1 p.2) (storedH vs x.1 x.2.1 x.2.2) := by
      have := KT.put q p.1 h2 h3
      rw [← h1]; exact this
    exact KT.merge t e
theorem length_mergeTT : ∀ (more kvs : List (List Key × V)), (mergeTT kvs more).length ≤ kvs.length + more.length
  | [], kvs => by show kvs.length ≤ kvs.length + 0; omega
  | p :: r, kvs => by
    have h1 := length_mergeTT r (putK kvs p.1 p.2)
    have h2 := length_putK kvs p.1 p.2
    show (mergeTT (putK kvs p.1 p.2) r).length ≤ _
    rw [List.length_cons]; omega
theorem mergeTT_rep {G : Glb} {μ : Mu} {M : PyI.Mk} {H : Hp} : ∀ {more : List (List Key × V)} {ks2 : List (List Key)} {vs2 : List PyI.D}, more.map (·.1) = ks2 → Reps G μ M H vs2 (more.map (·.2)) →
    ∀ {kvs : List (List Key × V)} {ks : List (List Key)} {vs : List PyI.D}, kvs.map (·.1) = ks → Reps G μ M H vs (kvs.map (·.2)) →
    (mergeTT kvs more).map (·.1) = (putAll ks vs ks2 vs2).1 ∧ Reps G μ M H (putAll ks vs ks2 vs2).2 ((mergeTT kvs more).map (·.2))
  | [], ks2, vs2, e, p, kvs, ks, vs, e1, p1 => by
    subst e
    have ev : vs2 = [] := List.eq_nil_of_length_eq_zero (by have := p.length; simpa using this.symm)
    subst ev
    exact ⟨e1, p1⟩
  | (k, v) :: r, ks2, vs2, e, p, kvs, ks, vs, e1, p1 => by
    subst e
    cases vs2 with
    | nil => have := p.length; simp at this
    | cons d ds =>
      rw [List.map_cons] at p
      unfold Reps at p
      obtain ⟨x, t, et, q1, q2⟩ := p
      obtain ⟨rfl, rfl⟩ := List.cons.inj et
      obtain ⟨z1, z2⟩ := put_rep (x := k) q1 e1 p1
      exact mergeTT_rep (more := r) rfl q2 z1 z2
def tDUpdT (td ty : TE) : TE := fun σ H Q => td σ H fun x H1 => ∃ a, x = .ref a ∧ IsD H1 a ∧ ty σ H1 fun y H2 => ∃ b kvs more, y = .ref b ∧ a ≠ b ∧ H2 a = some (.dT kvs) ∧ H2 b = some (.dT more) ∧ kvs.length + more.length ≤ sizeLine ∧ (∀ k ∈ more.map (·.1), smPr k = true) ∧ Q .non (upd H2 a (.dT (mergeTT kvs more)))
theorem pe_dupdT {X : Cx} (hu : X.A.units + 1 < cLine) {o e : Expr} {apos cpos : Pos} {td ty : TE} (ho : PE X o td) (he : PE X e ty) (m : M1 X o "update" apos e cpos) : PE X (.Call (.Attribute o "update" apos) [e] [] cpos) (tDUpdT td ty) := by
  constructor
  intro pins s σ H Q I h
  refine wpAny_Call_method m.base m.few m.line PySem.F.plainAttrs_dict PySem.F.slot_dict_update PySem.F.type_dict_update ?_
  refine thn (ho.run pins s σ H _ I h) fun u s1 hu => ?_
  obtain ⟨x, H1, I1, rx, a, ex, d, q1⟩ := hu
  subst ex
  obtain rfl : u = Value.ref a := rx
  obtain ⟨t1, t2, _⟩ := isD_at I1 d
  refine ⟨t1, t2, ?_⟩
  rw [m.trees]
  refine Calls.callWith_builtin rfl (Calls.evalArgs_plain (Calls.spliced_cons (thn (he.run pins s1 σ H1 _ I1 q1) fun iv s2 hi => Calls.spliced_nil ?_)))
  obtain ⟨y, H2, I2, ry, b, kvs, more, ey, hab, ea, eb, hz, hk, q2⟩ := hi
  subst ey
  obtain rfl : iv = Value.ref b := ry
  obtain ⟨z1, lo1, vs1, rel1, dd1⟩ := dt_of I2.hok ea
  obtain ⟨z2, lo2, vs2, rel2, dd2⟩ := dt_of I2.hok eb
  have ml := length_mergeTT more kvs
  have nd2 : (vs2.map (·.1)).Nodup := by obtain ⟨q, e1, e2, hq, w2, w3, w4, _, w5⟩ := dd2; exact w5
  have keys : vs2.map (·.1) = more.map (·.1) := by
    have : ∀ {l : List (List Key × V)} {r : List (List Key × Addr × Value)}, KT H2 l r → r.map (·.1) = l.map (·.1) := by
      intro l r t
      induction t with
      | nil => rfl
      | cons h t ih => rw [List.map_cons, List.map_cons, ih, h.1]
    exact this rel2
  refine call_update_dictH (knd := tupleKind (mixKind X.prog X.w)) (tupleKind_room_in1 hu) hab lo2 dd1 dd2 (.inr ⟨fun x hx => ?_, ?_⟩) (by rw [← rel1.length, ← rel2.length]; exact hz) fun h' d1 _ sb => ?_
  · obtain ⟨q, e1, e2, hq, w2, w3, w4, his, w5⟩ := dd2
    exact (his x hx).typeIs
  · have := pr_nodup (P := X.prog) (w := X.w) nd2 (by rw [keys]; exact hk)
    rwa [List.map_map] at this
  · obtain ⟨q, e1, e2, hq, w2, w3, w4, his, w5⟩ := d1
    refine ⟨.non, _, d_write I2 (ob := .dT (mergeTT kvs more)) (t' := s2.toks) (by rw [ea]; exact trivial) sb ⟨q, hq⟩ ⟨by omega, lo1, _, (KT.merge rel2 rel1).keeps fun c ys ec => ?_, q, e1, e2, hq, w2, w3, w4, w5⟩, rfl, q2⟩
    rw [upd_ne (ne_of ec ea (by intro z; cases z))]; exact ec
theorem updTR_some {h h3 : Hea} {x y : PyI.D} (e : updTR h x y = some h3) : ∃ n j ks vs ks2 vs2, x = .ref n ∧ y = .ref j ∧ h[n]? = some (.dT ks vs) ∧ h[j]? = some (.dT ks2 vs2) ∧ n ≠ j ∧ ks.length + ks2.length ≤ sizeLine ∧ ks2.all smPr = true ∧ h3 = h.set n (.dT (putAll ks vs ks2 vs2).1 (putAll ks vs ks2 vs2).2) := by
  unfold updTR at e
  split at e
  · split at e
    · split at e
      · split at e
        · split at e
          · rename_i n _ j _ ks vs q1 _ ks2 vs2 q2 c
            cases e
            exact ⟨n, j, ks, vs, ks2, vs2, rfl, rfl, q1, q2, c.1, c.2.1, c.2.2, rfl⟩
          · cases e
        · cases e
      · cases e
    · cases e
  · cases e
section
variable {P : Program} {w : World} {base : Heap} {G : Glb} {cf : Nat → List D → Hea → Res D} {n : Nat} {N : List Str} {sc : Scope} {fo : Fo} {X : Cx} {W : WX}
variable {a b c : Expr} {fa fb fc : Loc → Hea → Res PyI.D} {pos p apos : Pos}
theorem sv_updT (g : Good P w base G n N sc fo X) {name : Str} (en : name = "update") {e : Expr} (ha : PE X a (tE G W fa)) (h1 : PE X e (tE G W fb)) (hb : attributeBase a name X.env (eval a X.env) = eval a X.env) (hl : (apos.endLine == pos.line) = true)
    (he : starEach [e] X.env = (false, eval e X.env) :: starEach [] X.env) :
    PE X (.Call (.Attribute a name apos) [e] [] pos) (tE G W fun ρ h => (fa ρ h).bind fun x h1 => if mtOk .update h1 x then (fb ρ h1).bind fun y h2 => need (updTR h2 x y) fun h3 => .ok .non h3 else .no) := by
  subst en
  have hp : backTo pos (starEach [e] X.env) = [(false, eval e X.env)] := by rw [he]; rfl
  refine imE (pe_dupdT (by have := g.hu; omega) ha h1 ⟨hb, few_of (by rw [hp]; rfl) (by simp), hl, hp⟩) fun σ H Q q => ?_
  obtain ⟨μ, M, ρ, h, e1, r, p⟩ := q.out
  refine tG.mono (tG.thn (f := fa) e1 r p) ?_
  rintro v H1 ⟨d, μ1, M1, h1, l1, e1, r1, pa, p1⟩
  obtain ⟨k, p1⟩ := p1.ite
  obtain ⟨a', rfl, isd⟩ := isD_of r1 pa k
  refine ⟨a', rfl, isd, tG.mono (tG.thn (f := fb) e1 r1 p1) ?_⟩
  rintro y H2 ⟨d2, μ2, M2, h2, l2, e2, r2, pb, p2⟩
  have pa2 := Rep.le r1 l2 _ _ pa
  obtain ⟨h3, eu, p2⟩ := p2.need
  obtain ⟨n, j, ks, vs, ks2, vs2, rfl, rfl, q1, q2, nj, c, sm, rfl⟩ := updTR_some eu
  obtain ⟨b, eb, hn, kvs, s, ek, t⟩ := r2.at_ pa2 q1 (by intro z; cases z)
  cases eb
  obtain ⟨b2, rfl, hn2, more, s2, ek2, t2⟩ := r2.at_ pb q2 (by intro z; cases z)
  have ne : a' ≠ b2 := fun z => nj (r2.inj n j a' hn (z ▸ hn2))
  refine ⟨b2, kvs, more, rfl, ne, s, s2, ?_, ?_, ?_⟩
  · rw [← ek, ← ek2, List.length_map, List.length_map] at c; exact c
  · rw [ek2]; exact fun k hk => List.all_eq_true.mp sm k hk
  · have wr : Le μ2 M2 H2 μ2 M2 (upd H2 a' (.dT (mergeTT kvs more))) := Le.write hn s
    obtain ⟨z1, z2⟩ := mergeTT_rep ek2 (Reps.le r2 wr _ _ t2) ek (Reps.le r2 wr _ _ t)
    exact p2 .non μ2 M2 _ wr (r2.write hn s ⟨_, upd_same, z1, z2⟩) (by rw [rep_non])
end
end PyI
set_option Elab.async false
set_option linter.all false
set_option maxRecDepth 100000
set_option maxHeartbeats 2000000
namespace PyI
open PySem PySem.Spec PyProof.Rows L2
def tLit (o0 : HO) (tk tv : TE) : TE := fun σ H Q => ∀ D, H D = none → tk σ (upd H D o0) fun y H1 => tv σ H1 fun z H2 => ∃ H3, DPut H2 D y z H3 ∧ Q (.ref D) H3
theorem pe_lit {X : Cx} {o0 : HO} {k v : Expr} {pos : Pos} {tk tv : TE} (e00 : ∀ (h : Heap) (H : Hp), sysModules < h.objs.size → ObjOk X.prog X.w H (h.push { cls := .type "dict", data := .dict #[] }) h.objs.size o0) (hu : X.A.units < cLine)
    (hk : PE X k tk) (hv : PE X v tv) : PE X (.Dict [some k] [v] pos) (tLit o0 tk tv) := by
  constructor
  intro pins s σ H Q I q
  have I1 := I.laid (a := s.heap.objs.size) (o := o0) (h' := s.heap.push { cls := .type "dict", data := .dict #[] }) (t' := s.toks) (fun _ _ q => Heap.get?_push_of_some _ q) (Nat.le_refl _) (e00 s.heap _ I.big)
  refine wpAny_Dict_any (by rfl) rfl (by simp) (by simp) ?_
  refine pairTrees_cons_walk (thn (hk.run pins _ σ _ _ I1 (q s.heap.objs.size (I.hok.fresh (Nat.le_refl _)))) fun u s1 ⟨y, H1, I2, ry, q1⟩ => thn (hv.run pins s1 σ H1 _ I2 q1) fun r s2 ⟨z, H2, I3, rz, q2⟩ => pairTrees_nil_walk ?_)
  obtain ⟨H3, dp, q3⟩ := q2
  unfold storeAll
  rw [List.forIn_cons]
  refine wpAny_bind (wpAny_bind (d_setC hu I3 dp ry rz fun s3 I4 => wpAny_pure ?_))
  show wpAny _ _ (forIn [] PUnit.unit _) _ _ s3
  rw [List.forIn_nil]
  exact wpAny_pure ⟨.ref s.heap.objs.size, H3, I4, rfl, q3⟩
section
variable {P : Program} {w : World} {base : Heap} {G : Glb} {cf : Nat → List D → Hea → Res D} {n : Nat} {N : List Str} {sc : Scope} {fo : Fo} {X : Cx} {W : WX}
variable {a b c : Expr} {fa fb fc : Loc → Hea → Res PyI.D} {pos p apos : Pos}
theorem sv_dlit (g : Good P w base G n N sc fo X) {t m : Bool} (ha : PE X a (tE G W0 fa)) (hb : PE X b (tE G W0 fb)) :
    PE X (.Dict [some a] [b] pos) (tE G W fun ρ h => (fa ρ h).noErr.bind fun x h1 => (fb ρ h1).noErr.bind fun y h2 => need (putMO (di0 t) x y) fun o => mkDi m o h2) := by
  have di : ∀ (h : Heap) (H : Hp), sysModules < h.objs.size → ObjOk X.prog X.w H (h.push { cls := .type "dict", data := .dict #[] }) h.objs.size (if t then .dT [] else .dK []) := by
    intro h H lo
    cases t with
    | true => exact dt_empty h lo
    | false => exact dk_empty h lo
  refine imE (pe_lit di (by have := g.hu; omega) ha hb) fun σ H Q q => ?_
  obtain ⟨μ, M, ρ, h, e, r, p⟩ := q.out
  intro D e0
  obtain ⟨x, h1, ek, y, h2, ev, o, eo⟩ : ∃ x h1, fa ρ h = .ok x h1 ∧ ∃ y h2, fb ρ h1 = .ok y h2 ∧ ∃ o, putMO (di0 t) x y = some o := by
    cases k1 : fa ρ h with
    | no => rw [k1] at p; exact p.elim
    | err c k => rw [k1] at p; exact p.elim
    | ok x h1 =>
      rw [k1] at p
      have p : Post G (Rep G) (fun c H' => W c none σ H') μ M H ((fb ρ h1).noErr.bind fun y h2 => need (putMO (di0 t) x y) fun o => mkDi m o h2) Q := p
      cases k2 : fb ρ h1 with
      | no => rw [k2] at p; exact p.elim
      | err c k => rw [k2] at p; exact p.elim
      | ok y h2 =>
        rw [k2] at p
        have p : Post G (Rep G) (fun c H' => W c none σ H') μ M H (need (putMO (di0 t) x y) fun o => mkDi m o h2) Q := p
        obtain ⟨o, eo, _⟩ := p.need
        exact ⟨x, h1, rfl, y, h2, k2, o, eo⟩
  rw [ek] at p
  have p : Post G (Rep G) (fun c H' => W c none σ H') μ M H ((fb ρ h1).noErr.bind fun y h2 => need (putMO (di0 t) x y) fun o => mkDi m o h2) Q := p
  rw [ev] at p
  have p : Post G (Rep G) (fun c H' => W c none σ H') μ M H (need (putMO (di0 t) x y) fun o => mkDi m o h2) Q := p
  rw [eo] at p
  have p : Post G (Rep G) (fun c H' => W c none σ H') μ M H (mkDi m o h2) Q := p
  have s0 := DcS.start (G := G) (h := h) t r e0
  refine ⟨μ, _, ρ, h, e.le r s0.le, s0.rel, ?_⟩
  rw [ek]
  intro u μ1 M1 H1 l1 r1 ru
  have s1 := s0.step l1 r1
  refine ⟨μ1, M1, ρ, h1, (e.le r s0.le).le s0.rel l1, r1, ?_⟩
  rw [ev]
  intro u3 μ2 M2 H2 l2 r2 ru2
  have s2 := s1.step l2 r2
  obtain ⟨H3, dp, s3, lw⟩ := s2.push e0 (Rep.le r1 l2 _ _ ru) ru2 eo
  refine ⟨H3, dp, ?_⟩
  cases m with
  | false =>
    obtain ⟨f1, f2, f3⟩ := s3.fin e0
    obtain ⟨d, ed⟩ : ∃ d, mkDi false o h2 = .ok d h2 := by
      have := s3.di
      cases o <;> first | exact ⟨_, rfl⟩ | exact Bool.noConfusion this
    rw [ed] at p
    exact p (.ref D) μ2 _ H3 f1 f2 (f3 d ed)
  | true =>
    obtain ⟨f1, f2, f3⟩ := s3.live e0
    exact p (.ref D) _ M2 H3 f1 f2 f3
theorem fn_at (F : Facts P w base G cf n) {i : Nat} {fn : Fn} (ei : G.T.fn i = some fn) : ∃ fA, G.mg fn.name = some (.ref fA) ∧ PySem.W.keepIn G.K (.ref fA) = true ∧ MthAt P w base G cf n i fA := by
  obtain ⟨f, fd, ps, hm, ok, kp, bd⟩ := F.fns i fn ei
  exact ⟨f, hm, kp, fn.np, fd, ps, ok, bd, fun ds h hl => F.ar i fn ds h ei hl⟩
theorem sv_callI (F : Facts P w base G cf n) (g : Good P w base G n N sc fo X) (tk : Takes X W) {i j : Nat} {fi fj : Fn} {x z : Str} {t y : Expr} {ys : List Expr} {p1 p2 ipos : Pos} {tc : Loc → Hea → Res Bool} {fs : Loc → Hea → Res (List PyI.D)}
    (hc : PT X t (tT G W tc)) (ei : G.T.fn i = some fi) (xi : fi.name = x) (gx : glB sc x = true) (ej : G.T.fn j = some fj) (xj : fj.name = z) (gz : glB sc z = true) (has : PA X (y :: ys) (tAr G W fs))
    (hs : starEach (y :: ys) X.env = (false, eval y X.env) :: starEach ys X.env) (hpl : (backTo pos (starEach ys X.env)).any (·.1) = false) :
    PE X (.Call (.IfExp t (.Name x p1) (.Name z p2) ipos) (y :: ys) [] pos) (tE G W fun ρ h => (tc ρ h).bind fun k h1 => (fs ρ h1).bind fun xs h2 => cf (if k then i else j) xs h2) := by
  constructor
  intro pins s σ H Q I q
  obtain ⟨fA, hm1, kp1, mt1⟩ := fn_at F ei
  obtain ⟨fB, hm2, kp2, mt2⟩ := fn_at F ej
  rw [xi] at hm1
  rw [xj] at hm2
  have q1 := tT.b1 q
  have n1 : PE X (.Name x p1) (tE G W fun _ h => .ok (.fn i) h) := sv_gf F g ei xi gx |> fun z => imE z fun σ H Q q => by
    refine tG.congr q fun ρ h => ?_
    rw [ei]
  have n2 : PE X (.Name z p2) (tE G W fun _ h => .ok (.fn j) h) := sv_gf F g ej xj gz |> fun z => imE z fun σ H Q q => by
    refine tG.congr q fun ρ h => ?_
    rw [ej]
  show wpAny _ _ (do let fv ← eval (.IfExp t (.Name x p1) (.Name z p2) ipos) X.env; callWith pos fv [] (backTo pos (starEach (y :: ys) X.env)) (backToKw pos (keywordEach [] X.env))) _ _ s
  refine wpAny_bind ?_
  have ite : PE X (.IfExp t (.Name x p1) (.Name z p2) ipos) (tE G W fun ρ h => (tc ρ h).bind fun k h1 => .ok (.fn (if k then i else j)) h1) := by
    refine imE (sv_ite hc n1 n2) fun σ H Q q => tG.congr q fun ρ h => ?_
    cases tc ρ h with
    | no => rfl
    | err c k => rfl
    | ok k h1 => cases k <;> rfl
  have q2 : tE G W (fun ρ h => (tc ρ h).bind fun k h1 => Res.ok (PyI.D.fn (if k then i else j)) h1) σ H (fun v H1 => ∃ k μ M ρ h, v = V.ref (if k = true then fA else fB) ∧ Envi G μ M H1 ρ σ ∧ Hrel G μ M H1 h ∧ Post G (Rep G) (fun c H' => W c none σ H') μ M H1 ((fs ρ h).bind fun xs h2 => cf (if k = true then i else j) xs h2) Q) := by
    obtain ⟨μ, M, ρ, h, e, r, p⟩ := q.out
    refine ⟨μ, M, ρ, h, e, r, ?_⟩
    show Post G (Rep G) _ μ M H ((tc ρ h).bind fun k h1 => Res.ok (PyI.D.fn (if k = true then i else j)) h1) _
    cases kc : tc ρ h with
    | no => rw [kc] at p; exact p
    | err c k => rw [kc] at p; exact p
    | ok k h1 =>
      rw [kc] at p
      intro v μ' M' H' l r' rv
      refine ⟨k, μ', M', ρ, h1, ?_, e.le r l, r', Post.le p l⟩
      rw [rep_fn] at rv
      obtain ⟨f0, fn, rfl, ef, hmn⟩ := rv
      cases k with
      | true =>
        rw [if_pos rfl] at ef ⊢
        rw [ei] at ef; cases ef
        rw [xi, hm1] at hmn; cases hmn; rfl
      | false =>
        rw [if_neg Bool.false_ne_true] at ef ⊢
        rw [ej] at ef; cases ef
        rw [xj, hm2] at hmn; cases hmn; rfl
  refine thn (ite.run pins s σ H _ I q2) ?_
  rintro u s1 ⟨v, H1, I1, rv, k, μ, M, ρ, h, rfl, e, r, p⟩
  obtain rfl : u = Value.ref (if k = true then fA else fB) := rv
  have q3 : tAr G W fs σ H1 (fun xs H2 => ∃ μ M ds h, Hrel G μ M H2 h ∧ Reps G μ M H2 ds xs ∧ Post G (Rep G) (fun c H' => W c none σ H') μ M H2 (cf (if k = true then i else j) ds h) Q) := by
    refine ⟨μ, M, ρ, h, e, r, p.bind.mono (fun _ _ z => z) ?_⟩
    rintro xs H2 ⟨ds, μ2, M2, h2, l2, r2, q3, p3⟩
    exact ⟨μ2, M2, ds, h2, r2, q3, p3⟩
  have keep : PySem.W.keepIn X.K (.ref (if k = true then fA else fB)) = true := by rw [g.K]; cases k; exact kp2; exact kp1
  have mt : MthAt P w base G cf n (if k = true then i else j) (if k = true then fA else fB) := by cases k; exact mt2; exact mt1
  refine PySem.W.callWith_K (h₀ := X.base) I1.ok.mod.kin keep (thn (has.run pos pins s1 σ H1 _ I1 q3) ?_) hs hpl
  rintro us s3 ⟨xs, H2, I2, rr, μ2, M2, ds, h2, r2, q4, p4⟩
  exact ⟨I2.kIn, run_mth g tk mt rfl I2 rr r2 q4 p4⟩
theorem guards_make {A : Around} {C : Addr} {us : List Value} {kw : List (Str × Value)} (h : A.guards = some []) : (A.under (.builtin "type.__call__" ⟨.ref C :: us, kw⟩)).guards = some [] := by
  first | exact h | (simpa [Around.under, Code.weight, Code.isCreation, Code.isGuard, Code.isCaller, Code.frames, Code.isFrame, guardIds] using h)
theorem sv_mk (F : Facts P w base G cf n) (g : Good P w base G n N sc fo X) (tk : Takes X W) {c : Nat} {cl : Cl} {x : Str} {y : Expr} {ys : List Expr} {fs : Loc → Hea → Res (List PyI.D)} (ec : G.T.cl c = some cl) (ex : cl.name = x) (gx : glB sc x = true) (has : PA X (y :: ys) (tAr G W fs))
    (hs : starEach (y :: ys) X.env = (false, eval y X.env) :: starEach ys X.env) (hpl : (backTo pos (starEach ys X.env)).any (·.1) = false) :
    PE X (.Call (.Name x p) (y :: ys) [] pos) (tE G W fun ρ h => (fs ρ h).bind fun xs h1 => need (G.T.cl c) fun cl => iniR h1.length (cf cl.ini (.ref h1.length :: xs) (h1 ++ [.ins c []]))) := by
  constructor
  intro pins s σ H Q I q
  obtain ⟨C, CO⟩ := F.cls c cl ec
  obtain ⟨fi, mk, np, fd, ps, ok, bd, ar⟩ := CO.ini
  have hm : X.mg x = some (.ref C) := by rw [g.mg, ← ex]; exact CO.at_
  have ok' : FnG X.prog X.w X.K X.mg X.base (L2.CX X.prog X.w) n fi fd ps (spF G np (cf cl.ini)) := by rw [g.prog, g.w, g.K, g.mg, g.base]; exact ok
  refine wpAny_Call_Name_kw (ld_glob I (g.gl gx) hm ?_ (glB_gl gx).2.1)
  have q2 : tAr G W fs σ H (fun xs H1 => ∃ μ M ds h, Hrel G μ M H1 h ∧ Reps G μ M H1 ds xs ∧ Post G (Rep G) (fun c H' => W c none σ H') μ M H1 (iniR h.length (cf cl.ini (.ref h.length :: ds) (h ++ [.ins c []]))) Q) := by
    obtain ⟨μ, M, ρ, h, e, r, p⟩ := q.out
    refine ⟨μ, M, ρ, h, e, r, p.bind.mono (fun _ _ z => z) ?_⟩
    rintro xs H2 ⟨ds, μ2, M2, h2, l2, r2, q3, p3⟩
    rw [ec] at p3
    exact ⟨μ2, M2, ds, h2, r2, q3, p3⟩
  refine PySem.W.callWith_K (h₀ := X.base) I.ok.mod.kin (by rw [g.K]; exact mk.kp) (thn (has.run pos pins s σ H _ I q2) ?_) hs hpl
  rintro us s1 ⟨xs, H1, I1, rr, μ, M, ds, h, r, q3, p3⟩
  refine ⟨I1.kIn, ?_⟩
  -- the new instance
  have f1 : H1 s1.heap.objs.size = none := I1.hok.fresh (Nat.le_refl _)
  have f2 : H1 (s1.heap.objs.size + 1) = none := I1.hok.fresh (Nat.le_succ _)
  have ne : s1.heap.objs.size + 1 ≠ s1.heap.objs.size := Nat.succ_ne_self _
  have I2 := Inv.made (C := C) I1
  generalize eD : s1.heap.objs.size = dx at f1 f2 ne I2
  generalize eX : dx + 1 = ax at f2 ne I2
  have f2' : upd H1 dx (.own ax) ax = none := by rw [upd_ne ne]; exact f2
  have l1 : Le μ M H1 μ M (upd H1 dx (.own ax)) := Le.fresh f1
  have r1 : Hrel G μ M (upd H1 dx (.own ax)) h := r.fresh f1
  have l2 : Le μ M (upd H1 dx (.own ax)) (μ ++ [some ax]) (fun b => M b ∨ b = ax) (upd (upd H1 dx (.own ax)) ax (.ins C dx [])) := Le.alloc f2'
  have r2 : Hrel G (μ ++ [some ax]) (fun b => M b ∨ b = ax) (upd (upd H1 dx (.own ax)) ax (.ins C dx [])) (h ++ [.ins c []]) := r1.alloc f2' ⟨C, dx, [], upd_same, ⟨cl, ec, CO.at_⟩, rfl, Reps.nil⟩
  have self : Rep G (μ ++ [some ax]) (fun b => M b ∨ b = ax) (upd (upd H1 dx (.own ax)) ax (.ins C dx [])) (.ref h.length) (.ref ax) := by
    rw [rep_ref]
    exact ⟨ax, rfl, .inl (by rw [← r.len, List.getElem?_append_right (Nat.le_refl _), Nat.sub_self]; rfl)⟩
  have args : Reps G (μ ++ [some ax]) (fun b => M b ∨ b = ax) (upd (upd H1 dx (.own ax)) ax (.ins C dx [])) (.ref h.length :: ds) (.ref ax :: xs) := Reps.cons self (Reps.le r (l1.trans l2) _ _ q3)
  have hl : (PyI.D.ref h.length :: ds).length = np := by
    by_cases hl : (PyI.D.ref h.length :: ds).length = np
    · exact hl
    · rw [ar _ (h ++ [MO.ins c []]) hl] at p3; exact p3.elim
  have sp : spF G np (cf cl.ini) (.ref ax :: xs) (upd (upd H1 dx (.own ax)) ax (.ins C dx [])) (fun v H2 => v = .non ∧ Q (.ref ax) H2) (WE W σ) := by
    refine ⟨by rw [args.length]; exact hl, _, _, _, _, r2, args, ?_⟩
    have p4 := Post.le p3 (l1.trans l2)
    revert p4
    cases cf cl.ini (.ref h.length :: ds) (h ++ [MO.ins c []]) with
    | no => exact fun z => z
    | err ec h3 => exact fun z => z
    | ok d h3 =>
      cases d with
      | non =>
        intro p4 v μ' M' H' l r' rv
        rw [rep_non] at rv
        exact ⟨rv, p4 (.ref ax) μ' M' H' l r' (Rep.le r2 l _ _ self)⟩
      | _ => exact fun z => z.elim
  have rr2 : Vals (V.ref ax :: xs) (Value.ref ax :: us) := .cons rfl rr
  have n1 : (Value.ref ax :: us).length = ps.length := by rw [← rr2.length]; exact ok'.len _ _ _ _ sp
  have n1' : ((Value.ref ax :: us) ++ []).length = ps.length := by rw [List.append_nil]; exact n1
  have b1 := (by rw [g.K]; exact bd : Binds X.K fd ps []) { s1 with heap := (s1.heap.push PySem.W.emptyDict).push (PySem.W.instObj C dx) } (Value.ref ax :: us) I2.kIn n1'
  rw [List.append_nil] at b1
  refine wpAny_call (make_map (f := fi) I1.kIn (by rw [g.K]; exact mk.makes) (by rw [g.K]; exact mk.init) (beq_iff_eq.mp (by rw [g.K]; exact mk.fn)) ?_)
  rw [eD, eX]
  have room : Room n (X.A.under (.builtin "type.__call__" ⟨.ref C :: us, []⟩)) := (g.room.mono (show n + 1 ≤ _ by omega)).make C us []
  refine codeAny_mono (ok'.run _ X.stack _ _ ⟨Value.ref ax :: us, []⟩ (Value.ref ax :: us) _ _ (WE W σ) room (guards_make g.gd) (I2.env0.make C us []) b1 rr2 sp) ?_
  intro z s3 cc
  match z, cc with
  | .error z, cc => exact passAt tk σ pins _ _ z s3 I2 cc
  | .ok (.ret u), cc =>
    obtain ⟨v, H', I3, rv, ev, q5⟩ := I2.after cc
    subst ev
    exact ⟨rv, ⟨V.ref ax, H', I3, rfl, q5⟩⟩
  | .ok .next, cc => exact cc.elim
  | .ok .brk, cc => exact cc.elim
  | .ok .cont, cc => exact cc.elim
end
end PyI
set_option Elab.async false
set_option linter.all false
set_option maxRecDepth 100000
set_option maxHeartbeats 2000000
namespace PyI
namespace ZS
open PySem PySem.Spec PyProof.Rows L2
open PySem.Sem (wp)
section
variable {prog : Program} {w : World} {A : Around} {E : Value → Shared → Prop} {s : Shared}
theorem init_kw {T newId : String} {self : Value} {rest : List Value} {kw : List (Str × Value)} (hl : typeLookup (.type T) "__init__" = pure (some (.builtin "object.__init__")))
    (hm : Bind.madeBy (.type T) = pure (some newId)) (hne : (some newId != some "object.__new__") = true) :
    Meets (Builtin.«object.__init__» ⟨self :: rest, kw⟩) (fun _ R s => s.TypeIs self T ∧ R (.ok (.ret .none)) s) := by
  refine Meets.of_wp fun prog w A R s hs => ?_
  obtain ⟨hT, hq⟩ := hs
  cases rest with
  | nil =>
    cases kw with
    | nil => exact wpAny_pure ⟨_, rfl, hq⟩
    | cons a kw =>
      repeat (any_goals (first | assumption | wp_step))
      exact ⟨_, rfl, hq⟩
  | cons a rest =>
    repeat (any_goals (first | assumption | wp_step))
    exact ⟨_, rfl, hq⟩
theorem call_type_kw {T newId : String} {Bn : Builtin} {args : List Value} {kw : List (Str × Value)} {S : PySem.Spec} {Q : Value → Shared → Prop} (ft : TypeCalled T newId "object.__init__")
    (hne : (some newId != some "object.__new__") = true) (hct : checkTypeCall T ⟨args, kw⟩ = pure ()) (hcn : checkBuiltinCall newId ⟨.type T :: args, kw⟩ = pure ())
    (hok : ∀ obj, argsOk "object.__init__" ⟨obj :: args, kw⟩) (entryN : entryFor table newId = some Bn) (g : Meets (Bn ⟨.type T :: args, kw⟩) S)
    (h : S A.in1 (wants (fun obj s₁ => s₁.TypeIs obj T ∧ Q obj s₁) E) s) : wpAny (model prog w) A (call (.type T) args kw) Q E s := by
  obtain ⟨c, tl, hmro⟩ := ft.mro
  have hmade := ft.made
  have hsub := ft.sub
  refine wpAny_call (codeAny_of_tree ?_)
  show wpAny _ _ (callAny (.type T) _) _ _ _
  refine wpAny_pure ⟨Code.quiet_builtin _ (by decide +kernel), codeAny_builtin F.entry_type_call ?_⟩
  rw [Around.under_plain (weight_type_call_type T args kw) (units_type_call_type T args kw)]
  have h1 := ft.notType
  have h2 := ft.canCreate
  repeat (any_goals (first | assumption | wp_step))
  refine codeAny_mono (codeAny_call_builtin ft.plain entryN (wpAny_of_eq hcn (g prog w A.in1 _ s h))) fun r s₁ hr => ?_
  cases r with
  | error e => exact hr
  | ok fl =>
    cases fl with
    | ret obj =>
      obtain ⟨hT, hq⟩ := hr
      have hok' := hok obj
      have hli := ft.init.lookup
      have hbi := ft.init.bind obj
      have gi := init_kw (self := obj) (rest := args) (kw := kw) ft.init.lookup ft.made hne
      repeat (any_goals (first | assumption | wp_step))
      refine codeAny_mono (codeAny_call_builtin ft.init.plain F.entry_object_init (ft.init.check _ _ _ _ _ _ _ _ hT hok' (gi prog w A.in1 (wants (fun r s₂ => r = .none ∧ Q obj s₂) E) s₁ ⟨hT, rfl, hq⟩))) fun r₂ s₂ hr₂ => ?_
      cases r₂ with
      | error e => exact hr₂
      | ok fl₂ =>
        cases fl₂ with
        | ret r =>
          obtain ⟨rfl, hq⟩ := hr₂
          repeat (any_goals (first | assumption | wp_step))
        | _ => exact hr₂.elim
    | _ => exact hr.elim
end
abbrev IsZipS (h : Heap) (z TI TO : Addr) (f0 : Value) : Prop :=
  h.get? z = some { cls := .type "zip", dict := none, data := .fields #[f0, .bool false, .bool true, .ref TI, .ref TO], slots := #[] }
section
variable {prog : Program} {w : World} {A : Around} {E : Value → Shared → Prop} {s : Shared}
theorem nextOrEnd_item {it l : Addr} {i : Nat} {items} {x : Value} {Q : Option Value → Shared → Prop} (hit : s.heap.IsTupleIter it l i)
    (hl : s.heap.IsTuple l items) (hx : items[i]? = some x)
    (hQ : ∀ h', h'.IsTupleIter it l (i + 1) → Heap.SameBut it s.heap h' → Q (some x) { s with heap := h' }) :
    wpAny (model prog w) A (Builtin.SmallTypes.nextOrEnd (.ref it)) Q E s := by
  unfold Builtin.SmallTypes.nextOrEnd
  exact wpAny_bind (wpAny_attempt (RZ.nextOf_tuple_item hit hl hx fun h' a b => wpAny_pure (hQ h' a b)))
theorem nextOrEnd_end {it l : Addr} {i : Nat} {items} {Q : Option Value → Shared → Prop} (hh : A.handled = none)
    (hit : s.heap.IsTupleIter it l i) (hl : s.heap.IsTuple l items) (hx : items[i]? = none)
    (hQ : ∀ h', Heap.ExtBut it s.heap h' → Q none { s with heap := h' }) :
    wpAny (model prog w) A (Builtin.SmallTypes.nextOrEnd (.ref it)) Q E s := by
  unfold Builtin.SmallTypes.nextOrEnd
  refine wpAny_bind (wpAny_attempt (RZ.nextOf_tuple_end hh hit hl hx fun h' e hk he => ?_))
  obtain ⟨o, ho, hc⟩ := he
  refine wpAny_bind (wpAny_isInstance (T := "StopIteration") (b := true) ⟨o, ho, hc⟩ isSubtype_stop ?_)
  exact wpAny_pure (hQ _ hk)
theorem next_item {z TI TO i1 i2 l1 l2 : Addr} {k1 k2 : Nat} {xs ys : Array Value} {x y a b : Value} {Q : Value → Shared → Prop} (D : ZipApart z TI TO i1 i2 l1 l2)
    (hz : IsZipS s.heap z TI TO .none) (hTI : IsPair s.heap TI (.ref i1) (.ref i2)) (hTO : IsPair s.heap TO a b)
    (h1 : s.heap.IsTupleIter i1 l1 k1) (h2 : s.heap.IsTupleIter i2 l2 k2) (hl1 : s.heap.IsTuple l1 xs) (hl2 : s.heap.IsTuple l2 ys) (hx : xs[k1]? = some x) (hy : ys[k2]? = some y)
    (hQ : ∀ h', IsZipS h' z TI TO (rawInt s.heap.objs.size) → IsPair h' TO x y → h'.IsTupleIter i1 l1 (k1 + 1) → h'.IsTupleIter i2 l2 (k2 + 1) → IsPair h' s.heap.objs.size x y → h'.objs.size = s.heap.objs.size + 1 →
      (∀ c o, c ≠ z → c ≠ TO → c ≠ i1 → c ≠ i2 → s.heap.get? c = some o → h'.get? c = some o) → Q (.ref s.heap.objs.size) { s with heap := h' }) :
    wpAny (model prog w) A (Builtin.«zip.__next__» ⟨[.ref z], []⟩) (fun fin s' => ∃ v, fin = .done (.ret v) ∧ Q v s') E s := by
  show wpAny _ _ (field (.ref z) 2 >>= _) _ _ _
  refine wpAny_bind (wpAny_field hz rfl (x := .bool true) rfl ?_)
  show wpAny _ _ (field (.ref z) 3 >>= _) _ _ _
  refine wpAny_bind (wpAny_field hz rfl (x := .ref TI) rfl ?_)
  refine wpAny_bind (wpAny_seqItems hTI rfl ?_)
  show wpAny _ _ (Builtin.SmallTypes.ownedTupleIsFree (.ref z) >>= _) _ _ _
  refine wpAny_bind ?_
  unfold Builtin.SmallTypes.ownedTupleIsFree
  refine wpAny_bind (wpAny_field hz rfl (x := .none) rfl (wpAny_pure ?_))
  simp only [if_true]
  refine wpAny_bind (wpAny_rule ?_)
  refine wpAny_bind (wpAny_field hz rfl (x := .ref TO) rfl ?_)
  refine wpAny_bind (wpAny_setField_rec hz (by simp) fun h₁ hz₁ hs₁ => ?_)
  replace hz₁ : IsZipS h₁ z TI TO .ellipsis := hz₁
  refine wpAny_bind ?_
  simp only [List.zipIdx_cons, List.zipIdx_nil, List.forIn_cons, List.forIn_nil]
  refine wpAny_bind (wpAny_bind (wpAny_onRaise ?_))
  show wpAny _ _ (Builtin.SmallTypes.nextOrEnd (.ref i1)) _ _ _
  refine nextOrEnd_item (h1.extBut hs₁.extBut D.i1z) (hl1.extBut hs₁.extBut D.l1z) hx fun h₂ h1₂ hs₂ => ?_
  have hTO₂ : IsPair h₂ TO a b := hs₂.extBut _ _ D.TOi1 (hs₁.extBut _ _ D.TOz hTO)
  refine wpAny_bind (wpAny_seqItems hTO₂ rfl ?_)
  refine wpAny_bind (wpAny_updateSeq_pair hTO₂ fun h₃ hTO₃ hs₃ => ?_)
  replace hTO₃ : IsPair h₃ TO x b := hTO₃
  refine wpAny_bind (wpAny_letGo (wpAny_pure ?_))
  refine wpAny_bind (wpAny_bind (wpAny_onRaise ?_))
  show wpAny _ _ (Builtin.SmallTypes.nextOrEnd (.ref i2)) _ _ _
  refine nextOrEnd_item (((h2.extBut hs₁.extBut D.i2z).extBut hs₂.extBut D.i12.symm).extBut hs₃.extBut D.TOi2.symm)
    (((hl2.extBut hs₁.extBut D.l2z).extBut hs₂.extBut D.l2i1).extBut hs₃.extBut D.l2TO) hy fun h₄ h2₄ hs₄ => ?_
  have hTO₄ : IsPair h₄ TO x b := hs₄.extBut _ _ D.TOi2 hTO₃
  refine wpAny_bind (wpAny_seqItems hTO₄ rfl ?_)
  refine wpAny_bind (wpAny_updateSeq_pair hTO₄ fun h₅ hTO₅ hs₅ => ?_)
  replace hTO₅ : IsPair h₅ TO x y := hTO₅
  refine wpAny_bind (wpAny_letGo (wpAny_pure (wpAny_pure ?_)))
  refine wpAny_bind (wpAny_seqItems hTO₅ rfl ?_)
  refine wpAny_bind (wpAny_newTuple ?_)
  have hsz : h₅.objs.size = s.heap.objs.size := by rw [hs₅.1, hs₄.1, hs₃.1, hs₂.1, hs₁.1]
  have hz₅ : IsZipS h₅ z TI TO .ellipsis := hs₅.extBut _ _ D.TOz.symm (hs₄.extBut _ _ D.i2z.symm (hs₃.extBut _ _ D.TOz.symm (hs₂.extBut _ _ D.i1z.symm hz₁)))
  have hk₅ : ∀ c o, c ≠ z → c ≠ TO → c ≠ i1 → c ≠ i2 → s.heap.get? c = some o → h₅.get? c = some o := fun c o c1 c2 c3 c4 e =>
    hs₅.extBut _ _ c2 (hs₄.extBut _ _ c4 (hs₃.extBut _ _ c2 (hs₂.extBut _ _ c3 (hs₁.extBut _ _ c1 e))))
  have h1₅ : h₅.IsTupleIter i1 l1 (k1 + 1) := ((h1₂.extBut hs₃.extBut D.TOi1.symm).extBut hs₄.extBut D.i12).extBut hs₅.extBut D.TOi1.symm
  have h2₅ : h₅.IsTupleIter i2 l2 (k2 + 1) := h2₄.extBut hs₅.extBut D.TOi2.symm
  have hzlt : z < h₅.objs.size := Heap.lt_size hz₅
  show wpAny _ _ (Builtin.SmallTypes.ownedTupleHandOut (.ref z) (.ref h₅.objs.size) >>= _) _ _ _
  refine wpAny_bind ?_
  unfold Builtin.SmallTypes.ownedTupleHandOut
  have hz₆ : IsZipS (h₅.push { cls := .type "tuple", data := .seq #[x, y] }) z TI TO .ellipsis := Heap.get?_push_of_some _ hz₅
  refine wpAny_bind (wpAny_setField_rec hz₆ (by simp) fun h₇ hz₇ hs₇ => ?_)
  replace hz₇ : IsZipS h₇ z TI TO (rawInt h₅.objs.size) := hz₇
  refine wpAny_setField_rec hz₇ (by simp) fun h₈ hz₈ hs₈ => ?_
  replace hz₈ : IsZipS h₈ z TI TO (rawInt h₅.objs.size) := hz₈
  have up : ∀ c o, c ≠ z → h₅.get? c = some o → h₈.get? c = some o := fun c o c1 e => hs₈.extBut _ _ c1 (hs₇.extBut _ _ c1 (Heap.get?_push_of_some _ e))
  have hT₈ : IsPair h₈ h₅.objs.size x y := hs₈.extBut _ _ (Nat.ne_of_gt hzlt) (hs₇.extBut _ _ (Nat.ne_of_gt hzlt) (Heap.get?_push_size _ rfl))
  have hz8 : h₈.objs.size = h₅.objs.size + 1 := by rw [hs₈.1, hs₇.1, Heap.size_push]
  rw [hsz] at hz₈ hT₈ hz8
  refine wpAny_pure ⟨_, rfl, ?_⟩
  show Q (.ref h₅.objs.size) _
  rw [hsz]
  exact hQ h₈ hz₈ (up _ _ D.TOz hTO₅) (h1₅.at fun o e => up _ o D.i1z e) (h2₅.at fun o e => up _ o D.i2z e) hT₈ hz8 fun c o c1 c2 c3 c4 e => up c o c1 (hk₅ c o c1 c2 c3 c4 e)
theorem next_end {z TI TO i1 i2 l1 l2 : Addr} {k1 k2 : Nat} {xs ys : Array Value} {a b : Value} {Q : Fin → Shared → Prop} (hh : A.handled = none) (D : ZipApart z TI TO i1 i2 l1 l2)
    (hz : IsZipS s.heap z TI TO .none) (hTI : IsPair s.heap TI (.ref i1) (.ref i2)) (hTO : IsPair s.heap TO a b)
    (h1 : s.heap.IsTupleIter i1 l1 k1) (h2 : s.heap.IsTupleIter i2 l2 k2) (hl1 : s.heap.IsTuple l1 xs) (hl2 : s.heap.IsTuple l2 ys) (hx : xs[k1]? = none) (hy : ys[k2]? = none)
    (hE : ∀ h' e, (∀ c o, c ≠ z → c ≠ TO → c ≠ i1 → c ≠ i2 → s.heap.get? c = some o → h'.get? c = some o) → (∃ o, h'.get? e = some o ∧ o.cls = .type "StopIteration") → E (.ref e) { s with heap := h' }) :
    wpAny (model prog w) A (Builtin.«zip.__next__» ⟨[.ref z], []⟩) Q E s := by
  show wpAny _ _ (field (.ref z) 2 >>= _) _ _ _
  refine wpAny_bind (wpAny_field hz rfl (x := .bool true) rfl ?_)
  show wpAny _ _ (field (.ref z) 3 >>= _) _ _ _
  refine wpAny_bind (wpAny_field hz rfl (x := .ref TI) rfl ?_)
  refine wpAny_bind (wpAny_seqItems hTI rfl ?_)
  show wpAny _ _ (Builtin.SmallTypes.ownedTupleIsFree (.ref z) >>= _) _ _ _
  refine wpAny_bind ?_
  unfold Builtin.SmallTypes.ownedTupleIsFree
  refine wpAny_bind (wpAny_field hz rfl (x := .none) rfl (wpAny_pure ?_))
  simp only [if_true]
  refine wpAny_bind (wpAny_rule ?_)
  refine wpAny_bind (wpAny_field hz rfl (x := .ref TO) rfl ?_)
  refine wpAny_bind (wpAny_setField_rec hz (by simp) fun h₁ hz₁ hs₁ => ?_)
  replace hz₁ : IsZipS h₁ z TI TO .ellipsis := hz₁
  refine wpAny_bind ?_
  simp only [List.zipIdx_cons, List.zipIdx_nil, List.forIn_cons, List.forIn_nil]
  refine wpAny_bind (wpAny_bind (wpAny_onRaise ?_))
  show wpAny _ _ (Builtin.SmallTypes.nextOrEnd (.ref i1)) _ _ _
  refine nextOrEnd_end hh (h1.extBut hs₁.extBut D.i1z) (hl1.extBut hs₁.extBut D.l1z) hx fun h₂ hs₂ => ?_
  have hz₂ : IsZipS h₂ z TI TO .ellipsis := hs₂ _ _ D.i1z.symm hz₁
  refine wpAny_bind (wpAny_setField_rec hz₂ (by simp) fun h₃ hz₃ hs₃ => ?_)
  refine wpAny_bind (wpAny_bind ?_)
  refine wpAny_bind ?_
  show wpAny _ _ (Builtin.SmallTypes.nextOrEnd (.ref i2) >>= _) _ _ _
  have h2₃ := ((h2.extBut hs₁.extBut D.i2z).extBut hs₂ D.i12.symm).extBut hs₃.extBut D.i2z
  have hl2₃ := ((hl2.extBut hs₁.extBut D.l2z).extBut hs₂ D.l2i1).extBut hs₃.extBut D.l2z
  refine wpAny_bind (nextOrEnd_end hh h2₃ hl2₃ hy fun h₄ hs₄ => ?_)
  refine wpAny_pure ?_
  refine wpAny_pure ?_
  refine wpAny_bind (wpAny_rule ?_)
  show wpAny _ _ (newExc (.type "StopIteration") [] >>= _) _ _ _
  refine wpAny_bind ?_
  simp only [newExc, newTuple]
  refine wpAny_bind (wpAny_newObj_type ?_ (by size_fits))
  refine wpAny_bind (m := firstArgMember _ _) (wpAny_of_eq (a := Value.none) (by first | rfl | (simp only [firstArgMember]; rfl)) ?_)
  refine wpAny_newObj_type ?_ (by size_fits)
  simp only [raiseNew]
  refine wpAny_bind (wpAny_handled ?_)
  rw [hh]
  refine wpAny_bind (wpAny_pure (wpAny_throw ?_))
  refine hE _ _ (fun c o c1 c2 c3 c4 x => Heap.get?_push_of_some _ (Heap.get?_push_of_some _ (hs₄ _ _ c4 (hs₃.extBut _ _ c1 (hs₂ _ _ c3 (hs₁.extBut _ _ c1 x)))))) ⟨_, Heap.get?_push_size _ rfl, rfl⟩
end
theorem typeCall_s (a b : Value) : checkTypeCall "zip" ⟨[a, b], [("strict", .bool true)]⟩ = pure () := by kernel_rfl
theorem newCall_s (a b : Value) : checkBuiltinCall "zip.__new__" ⟨[.type "zip", a, b], [("strict", .bool true)]⟩ = pure () := by kernel_rfl
theorem args_init_s (a b c : Value) : argsOk "object.__init__" ⟨[a, b, c], [("strict", .bool true)]⟩ := by
  unfold argsOk; rw [signature?_of (id := "object.__init__") (n := ['_', '_', 't', 'i', 'n', 'i', '_', '_']) (o := ['t', 'c', 'e', 'j', 'b', 'o']) (by kernel_rfl) F.owner_object]; kernel_rfl
abbrev zS5 (h : Heap) (l1 l2 : Addr) : Heap := (RZ.zipTH4 h l1 l2).push { cls := .type "zip", data := .fields #[.none, .bool false, .bool true, .ref (RZ.zipTH2 h l1 l2).objs.size, .ref (RZ.zipTH3 h l1 l2).objs.size] }
theorem meets_new_s (l1 l2 : Addr) (xs ys : Array Value) :
    Meets (Builtin.«zip.__new__» ⟨[.type "zip", .ref l1, .ref l2], [("strict", .bool true)]⟩) (fun _ R s => s.heap.IsTuple l1 xs ∧ s.heap.IsTuple l2 ys ∧
      R (.ok (.ret (.ref (RZ.zipTH4 s.heap l1 l2).objs.size))) { s with heap := zS5 s.heap l1 l2 }) :=
  .of_wp fun prog w A R s h => by
    obtain ⟨hp, g, d, tk, os⟩ := s; obtain ⟨hl1, hl2, h⟩ := h
    have hsub := sub_zip
    have hL1 : Heap.IsTuple (Shared.heap ⟨hp, g, d, tk, os⟩) l1 xs := hl1
    have hL2 : Heap.IsTuple (Shared.heap ⟨hp.push { cls := .type "tuple_iterator", data := .fields #[.ref l1, .int 0 0] }, g, d, tk, os⟩) l2 ys := Heap.IsTuple.push hl2 _
    wp_walk using wpAny_pyIter_tuple hL1, wpAny_pyIter_tuple hL2
    exact ⟨_, rfl, h⟩
section
variable {prog : Program} {w : World} {A : Around} {E : Value → Shared → Prop} {s : Shared}
theorem call_s {l1 l2 : Addr} {xs ys : Array Value} {Q : Value → Shared → Prop} (hl1 : s.heap.IsTuple l1 xs) (hl2 : s.heap.IsTuple l2 ys)
    (h : ∀ h', IsZipS h' (s.heap.objs.size + 4) (s.heap.objs.size + 2) (s.heap.objs.size + 3) .none → IsPair h' (s.heap.objs.size + 2) (.ref s.heap.objs.size) (.ref (s.heap.objs.size + 1)) →
      IsPair h' (s.heap.objs.size + 3) .none .none → h'.IsTupleIter s.heap.objs.size l1 0 → h'.IsTupleIter (s.heap.objs.size + 1) l2 0 → h'.objs.size = s.heap.objs.size + 5 →
      (∀ c o, s.heap.get? c = some o → h'.get? c = some o) → Q (.ref (s.heap.objs.size + 4)) { s with heap := h' }) :
    wpAny (model prog w) A (call (.type "zip") [.ref l1, .ref l2] [("strict", .bool true)]) Q E s := by
  refine call_type_kw F.called_zip (by decide) (typeCall_s _ _) (newCall_s _ _) (fun obj => args_init_s obj _ _) F.entry_zip_new
    (meets_new_s l1 l2 xs ys) ⟨hl1, hl2, ?_⟩
  have z1 : (RZ.zipTH1 s.heap l1).objs.size = s.heap.objs.size + 1 := Heap.size_push ..
  have z2 : (RZ.zipTH2 s.heap l1 l2).objs.size = s.heap.objs.size + 2 := by rw [Heap.size_push, z1]
  have z3 : (RZ.zipTH3 s.heap l1 l2).objs.size = s.heap.objs.size + 3 := by rw [Heap.size_push, z2]
  have z4 : (RZ.zipTH4 s.heap l1 l2).objs.size = s.heap.objs.size + 4 := by rw [Heap.size_push, z3]
  have z5 : (zS5 s.heap l1 l2).objs.size = s.heap.objs.size + 5 := by rw [Heap.size_push, z4]
  have g5 : (zS5 s.heap l1 l2).get? (RZ.zipTH4 s.heap l1 l2).objs.size = some _ := Heap.get?_push_size _ rfl
  have g4 : (zS5 s.heap l1 l2).get? (RZ.zipTH3 s.heap l1 l2).objs.size = some _ := Heap.get?_push_of_some _ (Heap.get?_push_size _ rfl)
  have g3 : (zS5 s.heap l1 l2).get? (RZ.zipTH2 s.heap l1 l2).objs.size = some _ := Heap.get?_push_of_some _ (Heap.get?_push_of_some _ (Heap.get?_push_size _ rfl))
  have g2 : (zS5 s.heap l1 l2).get? (RZ.zipTH1 s.heap l1).objs.size = some _ := Heap.get?_push_of_some _ (Heap.get?_push_of_some _ (Heap.get?_push_of_some _ (Heap.get?_push_size _ rfl)))
  have g1 : (zS5 s.heap l1 l2).get? s.heap.objs.size = some _ := Heap.get?_push_of_some _ (Heap.get?_push_of_some _ (Heap.get?_push_of_some _ (Heap.get?_push_of_some _ (Heap.get?_push_size _ rfl))))
  show _ ∧ _
  rw [z2, z3, z4] at g5
  rw [z1, z2] at g3
  rw [z3] at g4
  rw [z1] at g2
  rw [z4]
  exact ⟨⟨_, g5, rfl⟩, h _ g5 g3 g4 ⟨_, g1, rfl, rfl⟩ ⟨_, g2, rfl, rfl⟩ z5 fun c o x =>
    Heap.get?_push_of_some _ (Heap.get?_push_of_some _ (Heap.get?_push_of_some _ (Heap.get?_push_of_some _ (Heap.get?_push_of_some _ x))))⟩
theorem letGo_s {elts : List Expr} {x1} {pos : Pos} {z TI TO T : Addr} {Q : Unit → Shared → Prop} (hz : IsZipS s.heap z TI TO (rawInt T))
    (hQ : ∀ h', IsZipS h' z TI TO .none → Heap.SameBut z s.heap h' → Q () { s with heap := h' }) :
    wpAny (model prog w) A (letOwnedTupleGo (.Tuple elts x1 pos) (.ref z) (.ref T)) Q E s := by
  unfold letOwnedTupleGo
  refine wpAny_bind (wpAny_load hz ?_)
  show wpAny _ _ (if (["enumerate", "zip", "dict_itemiterator", "dict_reverseitemiterator", "odict_iterator", "itertools.zip_longest", "itertools.pairwise"].contains "zip" &&
      (#[rawInt T, .bool false, .bool true, .ref TI, .ref TO] : Array Value)[0]? == some (rawInt T)) = true then _ else _) Q E s
  rw [if_pos (by simp)]
  refine wpAny_bind (wpAny_rule ?_)
  show wpAny _ _ (setField (.ref z) 0 .none) Q E s
  exact wpAny_setField_rec hz (by simp) fun h' hz' hs' => hQ h' hz' hs'
theorem pyIter_s {z TI TO : Addr} {f0 : Value} {Q : Value → Shared → Prop} (hz : IsZipS s.heap z TI TO f0) (h : Q (.ref z) s) : wpAny (model prog w) A (pyIter (.ref z)) Q E s := by
  have hT : s.TypeIs (.ref z) "zip" := ⟨_, hz, rfl⟩
  refine wpAny_pyIter_slot hT F.slot_zip_iter (wpAny_call_entry F.slot_zip_iter hT F.entry_zip_iter ?_ (F.args_zip_iter_1 _))
  show wpAny _ _ (ret (.ref z)) _ _ s
  exact wpAny_pure ⟨_, rfl, "zip", _, hT, F.slot_zip_next.lookup, h⟩
theorem pyNext_item {z TI TO i1 i2 l1 l2 : Addr} {k1 k2 : Nat} {xs ys : Array Value} {x y a b : Value} {Q : Option Value → Shared → Prop} (D : ZipApart z TI TO i1 i2 l1 l2)
    (hz : IsZipS s.heap z TI TO .none) (hTI : IsPair s.heap TI (.ref i1) (.ref i2)) (hTO : IsPair s.heap TO a b)
    (h1 : s.heap.IsTupleIter i1 l1 k1) (h2 : s.heap.IsTupleIter i2 l2 k2) (hl1 : s.heap.IsTuple l1 xs) (hl2 : s.heap.IsTuple l2 ys) (hx : xs[k1]? = some x) (hy : ys[k2]? = some y)
    (hQ : ∀ h', IsZipS h' z TI TO (rawInt s.heap.objs.size) → IsPair h' TO x y → h'.IsTupleIter i1 l1 (k1 + 1) → h'.IsTupleIter i2 l2 (k2 + 1) → IsPair h' s.heap.objs.size x y → h'.objs.size = s.heap.objs.size + 1 →
      (∀ c o, c ≠ z → c ≠ TO → c ≠ i1 → c ≠ i2 → s.heap.get? c = some o → h'.get? c = some o) → Q (some (.ref s.heap.objs.size)) { s with heap := h' }) :
    wpAny (model prog w) A (pyNext (.ref z)) Q E s := by
  have hT : s.TypeIs (.ref z) "zip" := ⟨_, hz, rfl⟩
  unfold pyNext
  exact wpAny_bind (wpAny_attempt (wpAny_callSpecial?_slot (name := Str.ofString "__next__") hT F.slot_zip_next
    (wpAny_call_entry F.slot_zip_next hT F.entry_zip_next
      (next_item D hz hTI hTO h1 h2 hl1 hl2 hx hy fun h' a1 a2 a3 a4 a5 a6 a7 => wpAny_pure (hQ h' a1 a2 a3 a4 a5 a6 a7)) (F.args_zip_next_1 _))))
theorem pyNext_end {z TI TO i1 i2 l1 l2 : Addr} {k1 k2 : Nat} {xs ys : Array Value} {a b : Value} {Q : Option Value → Shared → Prop} (hh : A.handled = none) (D : ZipApart z TI TO i1 i2 l1 l2)
    (hz : IsZipS s.heap z TI TO .none) (hTI : IsPair s.heap TI (.ref i1) (.ref i2)) (hTO : IsPair s.heap TO a b)
    (h1 : s.heap.IsTupleIter i1 l1 k1) (h2 : s.heap.IsTupleIter i2 l2 k2) (hl1 : s.heap.IsTuple l1 xs) (hl2 : s.heap.IsTuple l2 ys) (hx : xs[k1]? = none) (hy : ys[k2]? = none)
    (hQ : ∀ h', (∀ c o, c ≠ z → c ≠ TO → c ≠ i1 → c ≠ i2 → s.heap.get? c = some o → h'.get? c = some o) → Q none { s with heap := h' }) : wpAny (model prog w) A (pyNext (.ref z)) Q E s := by
  have hT : s.TypeIs (.ref z) "zip" := ⟨_, hz, rfl⟩
  unfold pyNext
  refine wpAny_bind (wpAny_attempt (wpAny_callSpecial?_slot (name := Str.ofString "__next__") hT F.slot_zip_next
    (wpAny_call_entry F.slot_zip_next hT F.entry_zip_next (next_end hh D hz hTI hTO h1 h2 hl1 hl2 hx hy fun h' e hk he => ?_) (F.args_zip_next_1 _))))
  obtain ⟨o, ho, hc⟩ := he
  refine wpAny_bind (wpAny_isInstance (T := "StopIteration") (b := true) ⟨o, ho, hc⟩ isSubtype_stop ?_)
  exact wpAny_pure (hQ _ hk)
end
/-- pairs of two tuples of one length -/
def ItS (K : PySem.W.Frag) (a b : Addr) : L2.It :=
  ⟨(RZ.ItzT K a b).go, (RZ.ItzT K a b).yld, fun i H => ∃ xs ys : List V, SqT K H a xs ∧ SqT K H b ys ∧ xs.length ≤ i ∧ ys.length ≤ i⟩
theorem turn_s {P : Program} {w : World} {K : PySem.W.Frag} {elts : List Expr} {kk : Nat} {tpos : Pos} {a b z TI TO i1 i2 : Addr} (D : ZipApart z TI TO i1 i2 a b) :
    Turn P w K (.Tuple elts kk tpos) (ItS K a b) [z, TI, TO, i1, i2] z (fun i h => IsZipS h z TI TO .none ∧ IsPair h TI (.ref i1) (.ref i2) ∧ (∃ x y, IsPair h TO x y) ∧ h.IsTupleIter i1 a i ∧ h.IsTupleIter i2 b i) where
  mem := by simp
  obj := fun i h st c hc => by
    obtain ⟨hz, hTI, ⟨x, y, hTO⟩, ⟨o1, e1, _, d1⟩, ⟨o2, e2, _, d2⟩⟩ := st
    have e' : c = z ∨ c = TI ∨ c = TO ∨ c = i1 ∨ c = i2 := by simpa using hc
    rcases e' with q | q | q | q | q
    · rw [q]; exact ⟨_, hz, fun v q => nomatch q⟩
    · rw [q]; exact ⟨_, hTI, fun v q => nomatch q⟩
    · rw [q]; exact ⟨_, hTO, fun v q => nomatch q⟩
    · rw [q]; exact ⟨o1, e1, fun v q => by rw [d1] at q; cases q⟩
    · rw [q]; exact ⟨o2, e2, fun v q => by rw [d2] at q; cases q⟩
  keep := fun i h h' st k => by
    obtain ⟨hz, hTI, ⟨x, y, hTO⟩, h1, h2⟩ := st
    exact ⟨k z (by simp) _ hz, k TI (by simp) _ hTI, ⟨x, y, k TO (by simp) _ hTO⟩, h1.at fun o q => k i1 (by simp) o q, h2.at fun o q => k i2 (by simp) o q⟩
  item := by
    intro X hP hw hK hc i pins s σ H E I hf st hg
    subst hP hw hK
    obtain ⟨hz, hTI, ⟨x0, y0, hTO⟩, h1, h2⟩ := st
    obtain ⟨xs, ys, x, y, hqx, hqy, hx, hy⟩ := hg
    obtain ⟨its, rv, p, _⟩ := I.tuple hqx
    obtain ⟨its2, rv2, p2, _⟩ := I.tuple hqy
    obtain ⟨u, hu, ru⟩ := rv.get hx
    obtain ⟨u2, hu2, ru2⟩ := rv2.get hy
    have hzl : z < s.heap.objs.size := Heap.lt_size hz
    refine pyNext_item D hz hTI hTO h1 h2 p p2 (x := u) (y := u2) (by simpa using hu) (by simpa using hu2) fun h' z' TO' h1' h2' hT hsz hk => ?_
    refine ⟨_, rfl, letGo_s (s := { s with heap := h' }) z' fun h'' z'' sb => ?_⟩
    have hT2 : h''.get? s.heap.objs.size = some { cls := .type "tuple", data := .seq #[u, u2] } := (sb.2 _ (Nat.ne_of_gt hzl)).trans hT
    have new : ObjOk X.prog X.w (upd H s.heap.objs.size (.tup [x, y])) h'' s.heap.objs.size (.tup [x, y]) :=
      ⟨by show 2 ≤ sizeLine; decide, [u, u2], .cons ru (.cons ru2 .nil), ⟨_, hT2, rfl, _, rfl⟩⟩
    have I1 : Inv X pins σ (upd H s.heap.objs.size (.tup [x, y])) { s with heap := h'' } :=
      I.turnedNew (t' := s.toks) (ch := [z, TI, TO, i1, i2]) (fun c o hb q => (sb.2 c (fun q' => hb (by simp [q']))).trans (hk c o (fun q' => hb (by simp [q'])) (fun q' => hb (by simp [q'])) (fun q' => hb (by simp [q'])) (fun q' => hb (by simp [q'])) q)) hf (Nat.le_refl _) new
    refine ⟨.ref s.heap.objs.size, _, I1, rfl, ⟨_, x, y, rfl, I.hok.fresh (Nat.le_refl _), rfl, fun l hl => by rw [I.tuple_inj hl hqx]; exact hx, fun l hl => by rw [I.tuple_inj hl hqy]; exact hy⟩, ⟨z'', ?_, ⟨u, u2, ?_⟩, ?_, ?_⟩, fun c hcm => ?_⟩
    · exact (sb.2 _ D.TIz).trans (hk _ _ D.TIz D.TITO D.TIi1 D.TIi2 hTI)
    · exact (sb.2 _ D.TOz).trans TO'
    · exact h1'.at fun o q => (sb.2 _ D.i1z).trans q
    · exact h2'.at fun o q => (sb.2 _ D.i2z).trans q
    · have hlt : c < s.heap.objs.size := by
        have e' : c = z ∨ c = TI ∨ c = TO ∨ c = i1 ∨ c = i2 := by simpa using hcm
        rcases e' with q | q | q | q | q
        · rw [q]; exact hzl
        · rw [q]; exact Heap.lt_size hTI
        · rw [q]; exact Heap.lt_size hTO
        · rw [q]; obtain ⟨_, e1, _⟩ := h1; exact Heap.lt_size e1
        · rw [q]; obtain ⟨_, e2, _⟩ := h2; exact Heap.lt_size e2
      rw [upd_ne (Nat.ne_of_lt hlt)]
      exact (hf c hcm).1
  done := by
    intro X hP hw hK hc i pins s σ H E I hf st hg
    subst hP hw hK
    obtain ⟨hz, hTI, ⟨x0, y0, hTO⟩, h1, h2⟩ := st
    obtain ⟨xs, ys, hqx, hqy, he1, he2⟩ := hg
    obtain ⟨its, rv, p, _⟩ := I.tuple hqx
    obtain ⟨its2, rv2, p2, _⟩ := I.tuple hqy
    have l1 := rv.length
    have l2 := rv2.length
    exact pyNext_end (I.ok.hd hc) D hz hTI hTO h1 h2 p p2 (by simp; omega) (by simp; omega) fun h' hk => ⟨rfl, I.turnedL (t' := s.toks) (ch := [z, TI, TO, i1, i2]) (fun c o hb q =>
      hk c o (fun q' => hb (by simp [q'])) (fun q' => hb (by simp [q'])) (fun q' => hb (by simp [q'])) (fun q' => hb (by simp [q'])) q) hf⟩
  self := fun A i s Q E st h => pyIter_s st.1 h
section
variable {M : Model} {A : Around} {E : Value → Shared → Prop} {s : Shared} {env : Env}
theorem callWith_tkw {pos : Pos} {T : String} {args : List (Bool × Sem Value)} {keywords : List (Option Str × Sem Value)} {Q : Value → Shared → Prop}
    (hplain : args.any (·.1) = false) (hkw : keywords.any (·.1.isNone) = false)
    (h : wpAny M A (evalArgs (.type T) true args keywords) (fun a s₁ => wpAny M A (call (.type T) a.pos a.kw) Q E s₁) E s) :
    wpAny M A (callWith pos (.type T) [] args keywords) Q E s := by
  unfold callWith
  refine wpAny_bind (wpAny_holding (wpAny_mono h (fun a s₁ h₁ => wpAny_bind (wpAny_standAt ?_)) fun _ _ x => x))
  simp only [hplain, hkw, Bool.or_false]
  refine wpAny_bind (wpAny_pure ?_)
  exact wpAny_bind (wpAny_mono h₁ (fun r s₂ hr => wpAny_bind (wpAny_holding (wpAny_point (wpAny_pure hr)))) fun _ _ x => x)
theorem Call_kw {func : Expr} {args : List Expr} {kws : List Keyword} {pos : Pos} {Q : Value → Shared → Prop}
    (h : wpAny M A (eval func env) (fun f s₁ => wpAny M A (callWith pos f [] (backTo pos (starEach args env)) (backToKw pos (keywordEach kws env))) Q E s₁) E s)
    (he : eval (.Call func args kws pos) env = (do callWith pos (← eval func env) [] (backTo pos (starEach args env)) (backToKw pos (keywordEach kws env))) := by rfl) :
    wpAny M A (eval (.Call func args kws pos) env) Q E s := by
  rw [he]; exact wpAny_bind h
end
end ZS
end PyI
set_option Elab.async false
set_option linter.all false
set_option maxRecDepth 100000
set_option maxHeartbeats 2000000
namespace PyI
namespace ZS
open PySem PySem.Spec PyProof.Rows L2
open PySem.Sem (wp)
section
variable {prog : Program} {w : World} {A : Around} {E : Value → Shared → Prop} {s : Shared}
theorem nextOrEnd_iteml {it l : Addr} {i : Nat} {items} {x : Value} {Q : Option Value → Shared → Prop} (hit : s.heap.IsListIter it l i)
    (hl : s.heap.IsList l items) (hx : items[i]? = some x)
    (hQ : ∀ h', h'.IsListIter it l (i + 1) → Heap.SameBut it s.heap h' → Q (some x) { s with heap := h' }) :
    wpAny (model prog w) A (Builtin.SmallTypes.nextOrEnd (.ref it)) Q E s := by
  unfold Builtin.SmallTypes.nextOrEnd
  exact wpAny_bind (wpAny_attempt (wpAny_nextOf_list_item hit hl hx fun h' a b => wpAny_pure (hQ h' a b)))
theorem nextOrEnd_endl {it l : Addr} {i : Nat} {items} {Q : Option Value → Shared → Prop} (hh : A.handled = none)
    (hit : s.heap.IsListIter it l i) (hl : s.heap.IsList l items) (hx : items[i]? = none)
    (hQ : ∀ h', Heap.ExtBut it s.heap h' → Q none { s with heap := h' }) :
    wpAny (model prog w) A (Builtin.SmallTypes.nextOrEnd (.ref it)) Q E s := by
  unfold Builtin.SmallTypes.nextOrEnd
  refine wpAny_bind (wpAny_attempt (wpAny_nextOf_list_end hh hit hl hx fun h' e hk he => ?_))
  obtain ⟨o, ho, hc⟩ := he
  refine wpAny_bind (wpAny_isInstance (T := "StopIteration") (b := true) ⟨o, ho, hc⟩ isSubtype_stop ?_)
  exact wpAny_pure (hQ _ hk)
theorem next_iteml {z TI TO i1 i2 l1 l2 : Addr} {k1 k2 : Nat} {xs ys : Array Value} {x y a b : Value} {Q : Value → Shared → Prop} (D : ZipApart z TI TO i1 i2 l1 l2)
    (hz : IsZipS s.heap z TI TO .none) (hTI : IsPair s.heap TI (.ref i1) (.ref i2)) (hTO : IsPair s.heap TO a b)
    (h1 : s.heap.IsListIter i1 l1 k1) (h2 : s.heap.IsListIter i2 l2 k2) (hl1 : s.heap.IsList l1 xs) (hl2 : s.heap.IsList l2 ys) (hx : xs[k1]? = some x) (hy : ys[k2]? = some y)
    (hQ : ∀ h', IsZipS h' z TI TO (rawInt s.heap.objs.size) → IsPair h' TO x y → h'.IsListIter i1 l1 (k1 + 1) → h'.IsListIter i2 l2 (k2 + 1) → IsPair h' s.heap.objs.size x y → h'.objs.size = s.heap.objs.size + 1 →
      (∀ c o, c ≠ z → c ≠ TO → c ≠ i1 → c ≠ i2 → s.heap.get? c = some o → h'.get? c = some o) → Q (.ref s.heap.objs.size) { s with heap := h' }) :
    wpAny (model prog w) A (Builtin.«zip.__next__» ⟨[.ref z], []⟩) (fun fin s' => ∃ v, fin = .done (.ret v) ∧ Q v s') E s := by
  show wpAny _ _ (field (.ref z) 2 >>= _) _ _ _
  refine wpAny_bind (wpAny_field hz rfl (x := .bool true) rfl ?_)
  show wpAny _ _ (field (.ref z) 3 >>= _) _ _ _
  refine wpAny_bind (wpAny_field hz rfl (x := .ref TI) rfl ?_)
  refine wpAny_bind (wpAny_seqItems hTI rfl ?_)
  show wpAny _ _ (Builtin.SmallTypes.ownedTupleIsFree (.ref z) >>= _) _ _ _
  refine wpAny_bind ?_
  unfold Builtin.SmallTypes.ownedTupleIsFree
  refine wpAny_bind (wpAny_field hz rfl (x := .none) rfl (wpAny_pure ?_))
  simp only [if_true]
  refine wpAny_bind (wpAny_rule ?_)
  refine wpAny_bind (wpAny_field hz rfl (x := .ref TO) rfl ?_)
  refine wpAny_bind (wpAny_setField_rec hz (by simp) fun h₁ hz₁ hs₁ => ?_)
  replace hz₁ : IsZipS h₁ z TI TO .ellipsis := hz₁
  refine wpAny_bind ?_
  simp only [List.zipIdx_cons, List.zipIdx_nil, List.forIn_cons, List.forIn_nil]
  refine wpAny_bind (wpAny_bind (wpAny_onRaise ?_))
  show wpAny _ _ (Builtin.SmallTypes.nextOrEnd (.ref i1)) _ _ _
  refine nextOrEnd_iteml (h1.extBut hs₁.extBut D.i1z) (hl1.extBut hs₁.extBut D.l1z) hx fun h₂ h1₂ hs₂ => ?_
  have hTO₂ : IsPair h₂ TO a b := hs₂.extBut _ _ D.TOi1 (hs₁.extBut _ _ D.TOz hTO)
  refine wpAny_bind (wpAny_seqItems hTO₂ rfl ?_)
  refine wpAny_bind (wpAny_updateSeq_pair hTO₂ fun h₃ hTO₃ hs₃ => ?_)
  replace hTO₃ : IsPair h₃ TO x b := hTO₃
  refine wpAny_bind (wpAny_letGo (wpAny_pure ?_))
  refine wpAny_bind (wpAny_bind (wpAny_onRaise ?_))
  show wpAny _ _ (Builtin.SmallTypes.nextOrEnd (.ref i2)) _ _ _
  refine nextOrEnd_iteml (((h2.extBut hs₁.extBut D.i2z).extBut hs₂.extBut D.i12.symm).extBut hs₃.extBut D.TOi2.symm)
    (((hl2.extBut hs₁.extBut D.l2z).extBut hs₂.extBut D.l2i1).extBut hs₃.extBut D.l2TO) hy fun h₄ h2₄ hs₄ => ?_
  have hTO₄ : IsPair h₄ TO x b := hs₄.extBut _ _ D.TOi2 hTO₃
  refine wpAny_bind (wpAny_seqItems hTO₄ rfl ?_)
  refine wpAny_bind (wpAny_updateSeq_pair hTO₄ fun h₅ hTO₅ hs₅ => ?_)
  replace hTO₅ : IsPair h₅ TO x y := hTO₅
  refine wpAny_bind (wpAny_letGo (wpAny_pure (wpAny_pure ?_)))
  refine wpAny_bind (wpAny_seqItems hTO₅ rfl ?_)
  refine wpAny_bind (wpAny_newTuple ?_)
  have hsz : h₅.objs.size = s.heap.objs.size := by rw [hs₅.1, hs₄.1, hs₃.1, hs₂.1, hs₁.1]
  have hz₅ : IsZipS h₅ z TI TO .ellipsis := hs₅.extBut _ _ D.TOz.symm (hs₄.extBut _ _ D.i2z.symm (hs₃.extBut _ _ D.TOz.symm (hs₂.extBut _ _ D.i1z.symm hz₁)))
  have hk₅ : ∀ c o, c ≠ z → c ≠ TO → c ≠ i1 → c ≠ i2 → s.heap.get? c = some o → h₅.get? c = some o := fun c o c1 c2 c3 c4 e =>
    hs₅.extBut _ _ c2 (hs₄.extBut _ _ c4 (hs₃.extBut _ _ c2 (hs₂.extBut _ _ c3 (hs₁.extBut _ _ c1 e))))
  have h1₅ : h₅.IsListIter i1 l1 (k1 + 1) := ((h1₂.extBut hs₃.extBut D.TOi1.symm).extBut hs₄.extBut D.i12).extBut hs₅.extBut D.TOi1.symm
  have h2₅ : h₅.IsListIter i2 l2 (k2 + 1) := h2₄.extBut hs₅.extBut D.TOi2.symm
  have hzlt : z < h₅.objs.size := Heap.lt_size hz₅
  show wpAny _ _ (Builtin.SmallTypes.ownedTupleHandOut (.ref z) (.ref h₅.objs.size) >>= _) _ _ _
  refine wpAny_bind ?_
  unfold Builtin.SmallTypes.ownedTupleHandOut
  have hz₆ : IsZipS (h₅.push { cls := .type "tuple", data := .seq #[x, y] }) z TI TO .ellipsis := Heap.get?_push_of_some _ hz₅
  refine wpAny_bind (wpAny_setField_rec hz₆ (by simp) fun h₇ hz₇ hs₇ => ?_)
  replace hz₇ : IsZipS h₇ z TI TO (rawInt h₅.objs.size) := hz₇
  refine wpAny_setField_rec hz₇ (by simp) fun h₈ hz₈ hs₈ => ?_
  replace hz₈ : IsZipS h₈ z TI TO (rawInt h₅.objs.size) := hz₈
  have up : ∀ c o, c ≠ z → h₅.get? c = some o → h₈.get? c = some o := fun c o c1 e => hs₈.extBut _ _ c1 (hs₇.extBut _ _ c1 (Heap.get?_push_of_some _ e))
  have hT₈ : IsPair h₈ h₅.objs.size x y := hs₈.extBut _ _ (Nat.ne_of_gt hzlt) (hs₇.extBut _ _ (Nat.ne_of_gt hzlt) (Heap.get?_push_size _ rfl))
  have hz8 : h₈.objs.size = h₅.objs.size + 1 := by rw [hs₈.1, hs₇.1, Heap.size_push]
  rw [hsz] at hz₈ hT₈ hz8
  refine wpAny_pure ⟨_, rfl, ?_⟩
  show Q (.ref h₅.objs.size) _
  rw [hsz]
  exact hQ h₈ hz₈ (up _ _ D.TOz hTO₅) (h1₅.at fun o e => up _ o D.i1z e) (h2₅.at fun o e => up _ o D.i2z e) hT₈ hz8 fun c o c1 c2 c3 c4 e => up c o c1 (hk₅ c o c1 c2 c3 c4 e)
theorem next_endl {z TI TO i1 i2 l1 l2 : Addr} {k1 k2 : Nat} {xs ys : Array Value} {a b : Value} {Q : Fin → Shared → Prop} (hh : A.handled = none) (D : ZipApart z TI TO i1 i2 l1 l2)
    (hz : IsZipS s.heap z TI TO .none) (hTI : IsPair s.heap TI (.ref i1) (.ref i2)) (hTO : IsPair s.heap TO a b)
    (h1 : s.heap.IsListIter i1 l1 k1) (h2 : s.heap.IsListIter i2 l2 k2) (hl1 : s.heap.IsList l1 xs) (hl2 : s.heap.IsList l2 ys) (hx : xs[k1]? = none) (hy : ys[k2]? = none)
    (hE : ∀ h' e, (∀ c o, c ≠ z → c ≠ TO → c ≠ i1 → c ≠ i2 → s.heap.get? c = some o → h'.get? c = some o) → (∃ o, h'.get? e = some o ∧ o.cls = .type "StopIteration") → E (.ref e) { s with heap := h' }) :
    wpAny (model prog w) A (Builtin.«zip.__next__» ⟨[.ref z], []⟩) Q E s := by
  show wpAny _ _ (field (.ref z) 2 >>= _) _ _ _
  refine wpAny_bind (wpAny_field hz rfl (x := .bool true) rfl ?_)
  show wpAny _ _ (field (.ref z) 3 >>= _) _ _ _
  refine wpAny_bind (wpAny_field hz rfl (x := .ref TI) rfl ?_)
  refine wpAny_bind (wpAny_seqItems hTI rfl ?_)
  show wpAny _ _ (Builtin.SmallTypes.ownedTupleIsFree (.ref z) >>= _) _ _ _
  refine wpAny_bind ?_
  unfold Builtin.SmallTypes.ownedTupleIsFree
  refine wpAny_bind (wpAny_field hz rfl (x := .none) rfl (wpAny_pure ?_))
  simp only [if_true]
  refine wpAny_bind (wpAny_rule ?_)
  refine wpAny_bind (wpAny_field hz rfl (x := .ref TO) rfl ?_)
  refine wpAny_bind (wpAny_setField_rec hz (by simp) fun h₁ hz₁ hs₁ => ?_)
  replace hz₁ : IsZipS h₁ z TI TO .ellipsis := hz₁
  refine wpAny_bind ?_
  simp only [List.zipIdx_cons, List.zipIdx_nil, List.forIn_cons, List.forIn_nil]
  refine wpAny_bind (wpAny_bind (wpAny_onRaise ?_))
  show wpAny _ _ (Builtin.SmallTypes.nextOrEnd (.ref i1)) _ _ _
  refine nextOrEnd_endl hh (h1.extBut hs₁.extBut D.i1z) (hl1.extBut hs₁.extBut D.l1z) hx fun h₂ hs₂ => ?_
  have hz₂ : IsZipS h₂ z TI TO .ellipsis := hs₂ _ _ D.i1z.symm hz₁
  refine wpAny_bind (wpAny_setField_rec hz₂ (by simp) fun h₃ hz₃ hs₃ => ?_)
  refine wpAny_bind (wpAny_bind ?_)
  refine wpAny_bind ?_
  show wpAny _ _ (Builtin.SmallTypes.nextOrEnd (.ref i2) >>= _) _ _ _
  have h2₃ := ((h2.extBut hs₁.extBut D.i2z).extBut hs₂ D.i12.symm).extBut hs₃.extBut D.i2z
  have hl2₃ := ((hl2.extBut hs₁.extBut D.l2z).extBut hs₂ D.l2i1).extBut hs₃.extBut D.l2z
  refine wpAny_bind (nextOrEnd_endl hh h2₃ hl2₃ hy fun h₄ hs₄ => ?_)
  refine wpAny_pure ?_
  refine wpAny_pure ?_
  refine wpAny_bind (wpAny_rule ?_)
  show wpAny _ _ (newExc (.type "StopIteration") [] >>= _) _ _ _
  refine wpAny_bind ?_
  simp only [newExc, newTuple]
  refine wpAny_bind (wpAny_newObj_type ?_ (by size_fits))
  refine wpAny_bind (m := firstArgMember _ _) (wpAny_of_eq (a := Value.none) (by first | rfl | (simp only [firstArgMember]; rfl)) ?_)
  refine wpAny_newObj_type ?_ (by size_fits)
  simp only [raiseNew]
  refine wpAny_bind (wpAny_handled ?_)
  rw [hh]
  refine wpAny_bind (wpAny_pure (wpAny_throw ?_))
  refine hE _ _ (fun c o c1 c2 c3 c4 x => Heap.get?_push_of_some _ (Heap.get?_push_of_some _ (hs₄ _ _ c4 (hs₃.extBut _ _ c1 (hs₂ _ _ c3 (hs₁.extBut _ _ c1 x)))))) ⟨_, Heap.get?_push_size _ rfl, rfl⟩
end
abbrev zL5 (h : Heap) (l1 l2 : Addr) : Heap := (zipH4 h l1 l2).push { cls := .type "zip", data := .fields #[.none, .bool false, .bool true, .ref (zipH2 h l1 l2).objs.size, .ref (zipH3 h l1 l2).objs.size] }
theorem meets_new_sl (l1 l2 : Addr) (xs ys : Array Value) :
    Meets (Builtin.«zip.__new__» ⟨[.type "zip", .ref l1, .ref l2], [("strict", .bool true)]⟩) (fun _ R s => s.heap.IsList l1 xs ∧ s.heap.IsList l2 ys ∧
      R (.ok (.ret (.ref (zipH4 s.heap l1 l2).objs.size))) { s with heap := zL5 s.heap l1 l2 }) :=
  .of_wp fun prog w A R s h => by
    obtain ⟨hp, g, d, tk, os⟩ := s; obtain ⟨hl1, hl2, h⟩ := h
    have hsub := sub_zip
    have hL1 : Heap.IsList (Shared.heap ⟨hp, g, d, tk, os⟩) l1 xs := hl1
    have hL2 : Heap.IsList (Shared.heap ⟨hp.push { cls := .type "list_iterator", data := .fields #[.ref l1, .int 0 0] }, g, d, tk, os⟩) l2 ys := Heap.IsList.push hl2 _
    wp_walk using wpAny_pyIter_list hL1, wpAny_pyIter_list hL2
    exact ⟨_, rfl, h⟩
section
variable {prog : Program} {w : World} {A : Around} {E : Value → Shared → Prop} {s : Shared}
theorem call_sl {l1 l2 : Addr} {xs ys : Array Value} {Q : Value → Shared → Prop} (hl1 : s.heap.IsList l1 xs) (hl2 : s.heap.IsList l2 ys)
    (h : ∀ h', IsZipS h' (s.heap.objs.size + 4) (s.heap.objs.size + 2) (s.heap.objs.size + 3) .none → IsPair h' (s.heap.objs.size + 2) (.ref s.heap.objs.size) (.ref (s.heap.objs.size + 1)) →
      IsPair h' (s.heap.objs.size + 3) .none .none → h'.IsListIter s.heap.objs.size l1 0 → h'.IsListIter (s.heap.objs.size + 1) l2 0 → h'.objs.size = s.heap.objs.size + 5 →
      (∀ c o, s.heap.get? c = some o → h'.get? c = some o) → Q (.ref (s.heap.objs.size + 4)) { s with heap := h' }) :
    wpAny (model prog w) A (call (.type "zip") [.ref l1, .ref l2] [("strict", .bool true)]) Q E s := by
  refine call_type_kw F.called_zip (by decide) (typeCall_s _ _) (newCall_s _ _) (fun obj => args_init_s obj _ _) F.entry_zip_new
    (meets_new_sl l1 l2 xs ys) ⟨hl1, hl2, ?_⟩
  have z1 : (zipH1 s.heap l1).objs.size = s.heap.objs.size + 1 := Heap.size_push ..
  have z2 : (zipH2 s.heap l1 l2).objs.size = s.heap.objs.size + 2 := by rw [Heap.size_push, z1]
  have z3 : (zipH3 s.heap l1 l2).objs.size = s.heap.objs.size + 3 := by rw [Heap.size_push, z2]
  have z4 : (zipH4 s.heap l1 l2).objs.size = s.heap.objs.size + 4 := by rw [Heap.size_push, z3]
  have z5 : (zL5 s.heap l1 l2).objs.size = s.heap.objs.size + 5 := by rw [Heap.size_push, z4]
  have g5 : (zL5 s.heap l1 l2).get? (zipH4 s.heap l1 l2).objs.size = some _ := Heap.get?_push_size _ rfl
  have g4 : (zL5 s.heap l1 l2).get? (zipH3 s.heap l1 l2).objs.size = some _ := Heap.get?_push_of_some _ (Heap.get?_push_size _ rfl)
  have g3 : (zL5 s.heap l1 l2).get? (zipH2 s.heap l1 l2).objs.size = some _ := Heap.get?_push_of_some _ (Heap.get?_push_of_some _ (Heap.get?_push_size _ rfl))
  have g2 : (zL5 s.heap l1 l2).get? (zipH1 s.heap l1).objs.size = some _ := Heap.get?_push_of_some _ (Heap.get?_push_of_some _ (Heap.get?_push_of_some _ (Heap.get?_push_size _ rfl)))
  have g1 : (zL5 s.heap l1 l2).get? s.heap.objs.size = some _ := Heap.get?_push_of_some _ (Heap.get?_push_of_some _ (Heap.get?_push_of_some _ (Heap.get?_push_of_some _ (Heap.get?_push_size _ rfl))))
  show _ ∧ _
  rw [z2, z3, z4] at g5
  rw [z1, z2] at g3
  rw [z3] at g4
  rw [z1] at g2
  rw [z4]
  exact ⟨⟨_, g5, rfl⟩, h _ g5 g3 g4 ⟨_, g1, rfl, rfl⟩ ⟨_, g2, rfl, rfl⟩ z5 fun c o x =>
    Heap.get?_push_of_some _ (Heap.get?_push_of_some _ (Heap.get?_push_of_some _ (Heap.get?_push_of_some _ (Heap.get?_push_of_some _ x))))⟩
theorem pyNext_iteml {z TI TO i1 i2 l1 l2 : Addr} {k1 k2 : Nat} {xs ys : Array Value} {x y a b : Value} {Q : Option Value → Shared → Prop} (D : ZipApart z TI TO i1 i2 l1 l2)
    (hz : IsZipS s.heap z TI TO .none) (hTI : IsPair s.heap TI (.ref i1) (.ref i2)) (hTO : IsPair s.heap TO a b)
    (h1 : s.heap.IsListIter i1 l1 k1) (h2 : s.heap.IsListIter i2 l2 k2) (hl1 : s.heap.IsList l1 xs) (hl2 : s.heap.IsList l2 ys) (hx : xs[k1]? = some x) (hy : ys[k2]? = some y)
    (hQ : ∀ h', IsZipS h' z TI TO (rawInt s.heap.objs.size) → IsPair h' TO x y → h'.IsListIter i1 l1 (k1 + 1) → h'.IsListIter i2 l2 (k2 + 1) → IsPair h' s.heap.objs.size x y → h'.objs.size = s.heap.objs.size + 1 →
      (∀ c o, c ≠ z → c ≠ TO → c ≠ i1 → c ≠ i2 → s.heap.get? c = some o → h'.get? c = some o) → Q (some (.ref s.heap.objs.size)) { s with heap := h' }) :
    wpAny (model prog w) A (pyNext (.ref z)) Q E s := by
  have hT : s.TypeIs (.ref z) "zip" := ⟨_, hz, rfl⟩
  unfold pyNext
  exact wpAny_bind (wpAny_attempt (wpAny_callSpecial?_slot (name := Str.ofString "__next__") hT F.slot_zip_next
    (wpAny_call_entry F.slot_zip_next hT F.entry_zip_next
      (next_iteml D hz hTI hTO h1 h2 hl1 hl2 hx hy fun h' a1 a2 a3 a4 a5 a6 a7 => wpAny_pure (hQ h' a1 a2 a3 a4 a5 a6 a7)) (F.args_zip_next_1 _))))
theorem pyNext_endl {z TI TO i1 i2 l1 l2 : Addr} {k1 k2 : Nat} {xs ys : Array Value} {a b : Value} {Q : Option Value → Shared → Prop} (hh : A.handled = none) (D : ZipApart z TI TO i1 i2 l1 l2)
    (hz : IsZipS s.heap z TI TO .none) (hTI : IsPair s.heap TI (.ref i1) (.ref i2)) (hTO : IsPair s.heap TO a b)
    (h1 : s.heap.IsListIter i1 l1 k1) (h2 : s.heap.IsListIter i2 l2 k2) (hl1 : s.heap.IsList l1 xs) (hl2 : s.heap.IsList l2 ys) (hx : xs[k1]? = none) (hy : ys[k2]? = none)
    (hQ : ∀ h', (∀ c o, c ≠ z → c ≠ TO → c ≠ i1 → c ≠ i2 → s.heap.get? c = some o → h'.get? c = some o) → Q none { s with heap := h' }) : wpAny (model prog w) A (pyNext (.ref z)) Q E s := by
  have hT : s.TypeIs (.ref z) "zip" := ⟨_, hz, rfl⟩
  unfold pyNext
  refine wpAny_bind (wpAny_attempt (wpAny_callSpecial?_slot (name := Str.ofString "__next__") hT F.slot_zip_next
    (wpAny_call_entry F.slot_zip_next hT F.entry_zip_next (next_endl hh D hz hTI hTO h1 h2 hl1 hl2 hx hy fun h' e hk he => ?_) (F.args_zip_next_1 _))))
  obtain ⟨o, ho, hc⟩ := he
  refine wpAny_bind (wpAny_isInstance (T := "StopIteration") (b := true) ⟨o, ho, hc⟩ isSubtype_stop ?_)
  exact wpAny_pure (hQ _ hk)
end
/-- pairs of two tuples of one length -/
def ItSL (K : PySem.W.Frag) (a b : Addr) : L2.It :=
  ⟨(Itz K a b).go, (Itz K a b).yld, fun i H => ∃ xs ys : List V, SqL K H a xs ∧ SqL K H b ys ∧ xs.length ≤ i ∧ ys.length ≤ i⟩
theorem turn_sl {P : Program} {w : World} {K : PySem.W.Frag} {elts : List Expr} {kk : Nat} {tpos : Pos} {a b z TI TO i1 i2 : Addr} (D : ZipApart z TI TO i1 i2 a b) :
    Turn P w K (.Tuple elts kk tpos) (ItSL K a b) [z, TI, TO, i1, i2] z (fun i h => IsZipS h z TI TO .none ∧ IsPair h TI (.ref i1) (.ref i2) ∧ (∃ x y, IsPair h TO x y) ∧ h.IsListIter i1 a i ∧ h.IsListIter i2 b i) where
  mem := by simp
  obj := fun i h st c hc => by
    obtain ⟨hz, hTI, ⟨x, y, hTO⟩, ⟨o1, e1, _, d1⟩, ⟨o2, e2, _, d2⟩⟩ := st
    have e' : c = z ∨ c = TI ∨ c = TO ∨ c = i1 ∨ c = i2 := by simpa using hc
    rcases e' with q | q | q | q | q
    · rw [q]; exact ⟨_, hz, fun v q => nomatch q⟩
    · rw [q]; exact ⟨_, hTI, fun v q => nomatch q⟩
    · rw [q]; exact ⟨_, hTO, fun v q => nomatch q⟩
    · rw [q]; exact ⟨o1, e1, fun v q => by rw [d1] at q; cases q⟩
    · rw [q]; exact ⟨o2, e2, fun v q => by rw [d2] at q; cases q⟩
  keep := fun i h h' st k => by
    obtain ⟨hz, hTI, ⟨x, y, hTO⟩, h1, h2⟩ := st
    exact ⟨k z (by simp) _ hz, k TI (by simp) _ hTI, ⟨x, y, k TO (by simp) _ hTO⟩, h1.at fun o q => k i1 (by simp) o q, h2.at fun o q => k i2 (by simp) o q⟩
  item := by
    intro X hP hw hK hc i pins s σ H E I hf st hg
    subst hP hw hK
    obtain ⟨hz, hTI, ⟨x0, y0, hTO⟩, h1, h2⟩ := st
    obtain ⟨xs, ys, x, y, hqx, hqy, hx, hy⟩ := hg
    obtain ⟨its, rv, p, _⟩ := I.list hqx
    obtain ⟨its2, rv2, p2, _⟩ := I.list hqy
    obtain ⟨u, hu, ru⟩ := rv.get hx
    obtain ⟨u2, hu2, ru2⟩ := rv2.get hy
    have hzl : z < s.heap.objs.size := Heap.lt_size hz
    refine pyNext_iteml D hz hTI hTO h1 h2 p.isList p2.isList (x := u) (y := u2) (by simpa using hu) (by simpa using hu2) fun h' z' TO' h1' h2' hT hsz hk => ?_
    refine ⟨_, rfl, letGo_s (s := { s with heap := h' }) z' fun h'' z'' sb => ?_⟩
    have hT2 : h''.get? s.heap.objs.size = some { cls := .type "tuple", data := .seq #[u, u2] } := (sb.2 _ (Nat.ne_of_gt hzl)).trans hT
    have new : ObjOk X.prog X.w (upd H s.heap.objs.size (.tup [x, y])) h'' s.heap.objs.size (.tup [x, y]) :=
      ⟨by show 2 ≤ sizeLine; decide, [u, u2], .cons ru (.cons ru2 .nil), ⟨_, hT2, rfl, _, rfl⟩⟩
    have I1 : Inv X pins σ (upd H s.heap.objs.size (.tup [x, y])) { s with heap := h'' } :=
      I.turnedNew (t' := s.toks) (ch := [z, TI, TO, i1, i2]) (fun c o hb q => (sb.2 c (fun q' => hb (by simp [q']))).trans (hk c o (fun q' => hb (by simp [q'])) (fun q' => hb (by simp [q'])) (fun q' => hb (by simp [q'])) (fun q' => hb (by simp [q'])) q)) hf (Nat.le_refl _) new
    refine ⟨.ref s.heap.objs.size, _, I1, rfl, ⟨_, x, y, rfl, I.hok.fresh (Nat.le_refl _), rfl, fun l hl => by rw [I.list_inj hl hqx]; exact hx, fun l hl => by rw [I.list_inj hl hqy]; exact hy⟩, ⟨z'', ?_, ⟨u, u2, ?_⟩, ?_, ?_⟩, fun c hcm => ?_⟩
    · exact (sb.2 _ D.TIz).trans (hk _ _ D.TIz D.TITO D.TIi1 D.TIi2 hTI)
    · exact (sb.2 _ D.TOz).trans TO'
    · exact h1'.at fun o q => (sb.2 _ D.i1z).trans q
    · exact h2'.at fun o q => (sb.2 _ D.i2z).trans q
    · have hlt : c < s.heap.objs.size := by
        have e' : c = z ∨ c = TI ∨ c = TO ∨ c = i1 ∨ c = i2 := by simpa using hcm
        rcases e' with q | q | q | q | q
        · rw [q]; exact hzl
        · rw [q]; exact Heap.lt_size hTI
        · rw [q]; exact Heap.lt_size hTO
        · rw [q]; obtain ⟨_, e1, _⟩ := h1; exact Heap.lt_size e1
        · rw [q]; obtain ⟨_, e2, _⟩ := h2; exact Heap.lt_size e2
      rw [upd_ne (Nat.ne_of_lt hlt)]
      exact (hf c hcm).1
  done := by
    intro X hP hw hK hc i pins s σ H E I hf st hg
    subst hP hw hK
    obtain ⟨hz, hTI, ⟨x0, y0, hTO⟩, h1, h2⟩ := st
    obtain ⟨xs, ys, hqx, hqy, he1, he2⟩ := hg
    obtain ⟨its, rv, p, _⟩ := I.list hqx
    obtain ⟨its2, rv2, p2, _⟩ := I.list hqy
    have l1 := rv.length
    have l2 := rv2.length
    exact pyNext_endl (I.ok.hd hc) D hz hTI hTO h1 h2 p.isList p2.isList (by simp; omega) (by simp; omega) fun h' hk => ⟨rfl, I.turnedL (t' := s.toks) (ch := [z, TI, TO, i1, i2]) (fun c o hb q =>
      hk c o (fun q' => hb (by simp [q'])) (fun q' => hb (by simp [q'])) (fun q' => hb (by simp [q'])) (fun q' => hb (by simp [q'])) q) hf⟩
  self := fun A i s Q E st h => pyIter_s st.1 h
/-- zip(a, b, strict=True) of two lists, of two tuples -/
def iZipSA (K : PySem.W.Frag) (ta : TA) : L2.TI := fun σ H R => ta σ H fun vs H1 => ∃ a b xs ys, vs = [.ref a, .ref b] ∧ ((SqL K H1 a xs ∧ SqL K H1 b ys ∧ R (ItSL K a b) H1) ∨ (SqT K H1 a xs ∧ SqT K H1 b ys ∧ R (ItS K a b) H1))
theorem pi_zipSA {X : Cx} {e e2 : Expr} {ta : TA} {p pos tpos kp cp : Pos} {elts : List Expr} {kk ck : Nat} (hg : Gl X "zip") (hm : X.mg "zip" = none) (ha : PA X [e, e2] ta)
    (hs : starEach [e, e2] X.env = (false, eval e X.env) :: starEach [e2] X.env := by rfl) (hpl : (backTo pos (starEach [e2] X.env)).any (·.1) = false := by rfl) :
    PI X (.Tuple elts kk tpos) (.Call (.Name "zip" p) [e, e2] [⟨some "strict", .Constant (.bool true) ck cp, kp⟩] pos) (iZipSA X.K ta) := by
  refine ⟨fun pins s σ H R I h => ?_⟩
  refine Call_kw (ld_blt I hg hm PyProof.Rows.boot_zip ?_)
  have hs' : backTo pos (starEach [e, e2] X.env) = (false, eval e X.env) :: backTo pos (starEach [e2] X.env) := by rw [hs]; rfl
  refine callWith_tkw (by rw [hs']; show (false || (backTo pos (starEach [e2] X.env)).any (·.1)) = false; rw [hpl]; rfl) rfl ?_
  rw [hs']
  refine evalArgs_kwB rfl ?_
  rw [← hs']
  refine thn (ha.run pos pins s σ H _ I h) fun us s1 ⟨vs, H1, I1, r1, q1⟩ => ?_
  refine kws_cons ?_
  show wpAny _ _ (pure (Value.bool true)) _ _ _
  refine wpAny_pure (kws_nil ?_)
  show wpAny _ _ (call (.type "zip") us [("strict", .bool true)]) _ _ _
  obtain ⟨a, b, xs, ys, ex, q1⟩ := q1
  subst ex
  cases r1 with
  | cons r rr =>
    cases rr with
    | cons r' rr =>
      cases rr
      cases r
      cases r'
      have fresh5 : ∀ c, c ∈ [s1.heap.objs.size + 4, s1.heap.objs.size + 2, s1.heap.objs.size + 3, s1.heap.objs.size, s1.heap.objs.size + 1] → FpOk X pins H1 c := fun c hcm => by
        have e' : c = s1.heap.objs.size + 4 ∨ c = s1.heap.objs.size + 2 ∨ c = s1.heap.objs.size + 3 ∨ c = s1.heap.objs.size ∨ c = s1.heap.objs.size + 1 := by simpa using hcm
        have hle : s1.heap.objs.size ≤ c := by
          rcases e' with z | z | z | z | z
          · rw [z]; exact Nat.le_add_right _ _
          · rw [z]; exact Nat.le_add_right _ _
          · rw [z]; exact Nat.le_add_right _ _
          · rw [z]; exact Nat.le_refl _
          · rw [z]; exact Nat.le_add_right _ _
        exact I1.fpOk hle (I1.hok.fresh hle)
      rcases q1 with ⟨hqx, hqy, q⟩ | ⟨hqx, hqy, q⟩
      · obtain ⟨its, rv, p1, _⟩ := I1.list hqx
        obtain ⟨its2, rv2, p2, _⟩ := I1.list hqy
        refine call_sl p1.isList p2.isList fun h' hz hTI hTO h1 h2 hsz hk => pyIter_s hz ?_
        have I2 : Inv X pins σ H1 { s1 with heap := h' } := I1.kept (t' := s1.toks) hk
        exact ⟨s1.heap.objs.size + 4, [s1.heap.objs.size + 4, s1.heap.objs.size + 2, s1.heap.objs.size + 3, s1.heap.objs.size, s1.heap.objs.size + 1], _, _, H1, rfl, I2, turn_sl (PySem.W.ktu_apart s1.heap.objs.size a b p1.lt p2.lt), ⟨hz, hTI, ⟨_, _, hTO⟩, h1, h2⟩, fresh5, q⟩
      · obtain ⟨its, rv, p1, _⟩ := I1.tuple hqx
        obtain ⟨its2, rv2, p2, _⟩ := I1.tuple hqy
        obtain ⟨o1, ho1, _⟩ := id p1
        obtain ⟨o2, ho2, _⟩ := id p2
        refine call_s (show s1.heap.IsTuple a its.toArray from p1) (show s1.heap.IsTuple b its2.toArray from p2) fun h' hz hTI hTO h1 h2 hsz hk => pyIter_s hz ?_
        have I2 : Inv X pins σ H1 { s1 with heap := h' } := I1.kept (t' := s1.toks) hk
        exact ⟨s1.heap.objs.size + 4, [s1.heap.objs.size + 4, s1.heap.objs.size + 2, s1.heap.objs.size + 3, s1.heap.objs.size, s1.heap.objs.size + 1], _, _, H1, rfl, I2, turn_s (PySem.W.ktu_apart s1.heap.objs.size a b (Heap.lt_size ho1) (Heap.lt_size ho2)), ⟨hz, hTI, ⟨_, _, hTO⟩, h1, h2⟩, fresh5, q⟩
end ZS
end PyI
set_option Elab.async false
set_option linter.all false
set_option maxRecDepth 100000
set_option maxHeartbeats 2000000
namespace PyI
open PySem PySem.Spec PyProof.Rows L2
theorem dTurn2_out (kx vx t0 i0 t1 i1 : Expr) (ifs0 ifs1 : List Expr) (scope : Scope) (pos : Pos) (it : Value) (D : Addr) (env : Env) :
    compTurn (.DictComp kx vx [⟨t0, i0, ifs0, 0⟩, ⟨t1, i1, ifs1, 0⟩] scope pos) 0 it (.ref D) env = (do
      standAt i0.pos
      match ← pyNext it with
      | none => pure (.done .next)
      | some v =>
        letOwnedTupleGo t0 it v
        assign t0 env v
        let mut ok := true
        for c in ifs0 do
          if ok then ok ← isTrue c env (eval c env)
        if ok then
          let x ← eval i1 env
          standAt i1.pos
          let x ← foldedSetIterable i1 env x
          let _ ← runOwn (.compStart (.DictComp kx vx [⟨t0, i0, ifs0, 0⟩, ⟨t1, i1, ifs1, 0⟩] scope pos) 1 (← holding [x] (pyIter x)) (.ref D) env) env
        again (.compLoop (.DictComp kx vx [⟨t0, i0, ifs0, 0⟩, ⟨t1, i1, ifs1, 0⟩] scope pos) 0 it (.ref D) env)) := by rfl
theorem dTurn2_in (kx vx t0 i0 t1 i1 : Expr) (ifs0 ifs1 : List Expr) (scope : Scope) (pos : Pos) (it : Value) (D : Addr) (env : Env) :
    compTurn (.DictComp kx vx [⟨t0, i0, ifs0, 0⟩, ⟨t1, i1, ifs1, 0⟩] scope pos) 1 it (.ref D) env = (do
      standAt i1.pos
      match ← pyNext it with
      | none => pure (.done .next)
      | some v =>
        letOwnedTupleGo t1 it v
        assign t1 env v
        let mut ok := true
        for c in ifs1 do
          if ok then ok ← isTrue c env (eval c env)
        if ok then
          (do
            let kv ← eval kx env
            let vv ← holding [kv] (eval vx env)
            standAt { kx.pos with endLine := vx.pos.endLine, endCol := vx.pos.endCol }
            holding [kv, vv] (dictSet D kv vv))
        again (.compLoop (.DictComp kx vx [⟨t0, i0, ifs0, 0⟩, ⟨t1, i1, ifs1, 0⟩] scope pos) 1 it (.ref D) env)) := by rfl
section
variable {prog : Program} {w : World} {A : Around} {R : Result → Shared → Prop} {s : Shared} {kx vx t0 i0 t1 i1 : Expr} {ifs0 ifs1 : List Expr} {scope : Scope} {pos : Pos} {it : Value} {D : Addr} {env : Env}
theorem dLoop2_out (hs : ∀ x, foldedSetIterable i1 env x = pure x) (I : Nat → Shared → Prop)
    (turn : ∀ n s, I n s → wpAny (model prog w) A (pyNext it) (fun r s₁ => match r with
      | none => R (.ok .next) s₁
      | some v => wpAny (model prog w) A (letOwnedTupleGo t0 it v) (fun _ s₁' => wpAny (model prog w) A (assign t0 env v) (fun _ s₂ =>
          wpAny (model prog w) A (forIn ifs0 true fun c r => if r = true then do let ok ← isTrue c env (eval c env); pure (ForInStep.yield ok) else pure (ForInStep.yield r)) (fun ok s₃ =>
            if ok = true then wpAny (model prog w) A (eval i1 env) (fun x s₄ => wpAny (model prog w) A (pyIter x) (fun it1 s₅ =>
              codeAny (model prog w) A (.compStart (.DictComp kx vx [⟨t0, i0, ifs0, 0⟩, ⟨t1, i1, ifs1, 0⟩] scope pos) 1 it1 (.ref D) env) (fun r s' => match r with
                | .ok _ => ∃ m, m < n ∧ I m s'
                | .error _ => False) s₅) (notedBy (model prog w) A env fun e s' => R (.error e) s') s₄) (notedBy (model prog w) A env fun e s' => R (.error e) s') s₃
            else ∃ m, m < n ∧ I m s₃) (notedBy (model prog w) A env fun e s' => R (.error e) s') s₂) (notedBy (model prog w) A env fun e s' => R (.error e) s') s₁') (notedBy (model prog w) A env fun e s' => R (.error e) s') s₁) (notedBy (model prog w) A env fun e s' => R (.error e) s') s)
    (n : Nat) (h : I n s) :
    codeAny (model prog w) A (.compLoop (.DictComp kx vx [⟨t0, i0, ifs0, 0⟩, ⟨t1, i1, ifs1, 0⟩] scope pos) 0 it (.ref D) env) R s := by
  refine codeAny_loop rfl I (fun n s hI => ?_) n h
  show wpAny _ A ((compTurn (.DictComp kx vx [⟨t0, i0, ifs0, 0⟩, ⟨t1, i1, ifs1, 0⟩] scope pos) 0 it (.ref D) env).onRaise (fun x => do noteFrame x env; theTreesLotGoes x)) _ _ s
  refine wpAny_noted ?_
  rw [dTurn2_out]
  refine wpAny_bind (wpAny_standAt (wpAny_bind (wpAny_mono (turn n s hI) (fun r s₁ h₁ => ?_) fun _ _ h' => h')))
  cases r with
  | none => exact wpAny_pure h₁
  | some v =>
    refine wpAny_bind (wpAny_mono h₁ (fun _ s₁' h₁' => ?_) fun _ _ h' => h')
    refine wpAny_bind (wpAny_mono h₁' (fun _ s₂ h₂ => wpAny_bind (wpAny_mono h₂ (fun ok s₃ h₃ => ?_) fun _ _ h' => h')) fun _ _ h' => h')
    cases ok with
    | false => exact wpAny_pure ⟨rfl, h₃⟩
    | true =>
      refine wpAny_bind (wpAny_mono h₃ (fun x s₄ h₄ => ?_) fun _ _ h' => h')
      refine wpAny_bind (wpAny_standAt (wpAny_bind (wpAny_of_eq (hs x) (wpAny_bind (wpAny_holding (wpAny_mono h₄ (fun it1 s₅ h₅ => ?_) fun _ _ h' => h'))))))
      refine wpAny_bind (wpAny_runOwn ?_)
      rw [Around.mark_none]
      refine codeAny_mono h₅ fun r s' hr => ?_
      cases r with
      | ok f =>
        first
          | exact wpAny_pure ⟨rfl, hr⟩
          | exact wpAny_bind (wpAny_pure (wpAny_pure ⟨rfl, hr⟩))
      | error e => exact hr.elim
theorem dLoop2_in (I : Nat → Shared → Prop)
    (turn : ∀ n s, I n s → wpAny (model prog w) A (pyNext it) (fun r s₁ => match r with
      | none => R (.ok .next) s₁
      | some v => wpAny (model prog w) A (letOwnedTupleGo t1 it v) (fun _ s₁' => wpAny (model prog w) A (assign t1 env v) (fun _ s₂ =>
          wpAny (model prog w) A (forIn ifs1 true fun c r => if r = true then do let ok ← isTrue c env (eval c env); pure (ForInStep.yield ok) else pure (ForInStep.yield r)) (fun ok s₃ =>
            if ok = true then wpAny (model prog w) A (eval kx env) (fun kv s₄ => wpAny (model prog w) A (eval vx env) (fun vv s₅ =>
              wpAny (model prog w) A (dictSet D kv vv) (fun _ s₆ => ∃ m, m < n ∧ I m s₆) (notedBy (model prog w) A env fun e s' => R (.error e) s') s₅) (notedBy (model prog w) A env fun e s' => R (.error e) s') s₄) (notedBy (model prog w) A env fun e s' => R (.error e) s') s₃
            else ∃ m, m < n ∧ I m s₃) (notedBy (model prog w) A env fun e s' => R (.error e) s') s₂) (notedBy (model prog w) A env fun e s' => R (.error e) s') s₁') (notedBy (model prog w) A env fun e s' => R (.error e) s') s₁) (notedBy (model prog w) A env fun e s' => R (.error e) s') s)
    (n : Nat) (h : I n s) :
    codeAny (model prog w) A (.compLoop (.DictComp kx vx [⟨t0, i0, ifs0, 0⟩, ⟨t1, i1, ifs1, 0⟩] scope pos) 1 it (.ref D) env) R s := by
  refine codeAny_loop rfl I (fun n s hI => ?_) n h
  show wpAny _ A ((compTurn (.DictComp kx vx [⟨t0, i0, ifs0, 0⟩, ⟨t1, i1, ifs1, 0⟩] scope pos) 1 it (.ref D) env).onRaise (fun x => do noteFrame x env; theTreesLotGoes x)) _ _ s
  refine wpAny_noted ?_
  rw [dTurn2_in]
  refine wpAny_bind (wpAny_standAt (wpAny_bind (wpAny_mono (turn n s hI) (fun r s₁ h₁ => ?_) fun _ _ h' => h')))
  cases r with
  | none => exact wpAny_pure h₁
  | some v =>
    refine wpAny_bind (wpAny_mono h₁ (fun _ s₁' h₁' => ?_) fun _ _ h' => h')
    refine wpAny_bind (wpAny_mono h₁' (fun _ s₂ h₂ => wpAny_bind (wpAny_mono h₂ (fun ok s₃ h₃ => ?_) fun _ _ h' => h')) fun _ _ h' => h')
    cases ok with
    | false => exact wpAny_pure ⟨rfl, h₃⟩
    | true =>
      exact wpAny_bind (wpAny_bind (wpAny_mono h₃ (fun kv s₄ h₄ => wpAny_bind (wpAny_holding (wpAny_mono h₄ (fun vv s₅ h₅ => wpAny_bind (wpAny_standAt (wpAny_holding (wpAny_mono h₅ (fun _ s₆ h₆ => wpAny_pure ⟨rfl, h₆⟩) fun _ _ h' => h')))) fun _ _ h' => h'))) fun _ _ h' => h'))
theorem dStart1 (h0 : codeAny (model prog w) A (.compLoop (.DictComp kx vx [⟨t0, i0, ifs0, 0⟩, ⟨t1, i1, ifs1, 0⟩] scope pos) 1 it (.ref D) env) R s)
    (h : wpAny (model prog w) A (pyIter it) (fun it' s' => codeAny (model prog w) A (.compLoop (.DictComp kx vx [⟨t0, i0, ifs0, 0⟩, ⟨t1, i1, ifs1, 0⟩] scope pos) 1 it' (.ref D) env) R s')
      (notedBy (model prog w) A env fun x s' => R (.error x) s') s) :
    codeAny (model prog w) A (.compStart (.DictComp kx vx [⟨t0, i0, ifs0, 0⟩, ⟨t1, i1, ifs1, 0⟩] scope pos) 1 it (.ref D) env) R s := by
  refine codeAny_of_tree ?_
  show wpAny _ _ ((compStart (.DictComp kx vx [⟨t0, i0, ifs0, 0⟩, ⟨t1, i1, ifs1, 0⟩] scope pos) 1 it (.ref D) env).onRaise (fun x => do noteFrame x env; standAt theWindowsPlace)) _ _ s
  refine wpAny_notedAt ?_
  unfold compStart
  show wpAny _ _ (ask >>= _) _ _ s
  refine wpAny_bind (wpAny_askSetting (wpAny_ite ?_))
  split
  · first
      | exact wpAny_bind (wpAny_pure (wpAny_pure (And.intro rfl h0)))
      | exact wpAny_pure (And.intro rfl h0)
  · first
      | exact wpAny_bind (wpAny_rule (wpAny_bind (wpAny_standAt (wpAny_bind (wpAny_mono h (fun it' s' h' => wpAny_pure (And.intro rfl h')) fun _ _ x => x)))))
      | (refine wpAny_bind (wpAny_rule ?_); show wpAny _ _ (standAt i1.pos >>= _) _ _ s; exact wpAny_bind (wpAny_standAt (wpAny_bind (wpAny_mono h (fun it' s' h' => wpAny_pure (And.intro rfl h')) fun _ _ x => x))))
end
/-- {k: v for tg in iter for tg1 in iter1 if ..} -/
def tDc2 (o0 : HO) (wi : TI) (g : TG) (wi1 : TI) (g1 : TG) (tt1 : TT) (tk tv : TE) (vs vs1 : List Nat) : TE := fun σ H Q => wi σ H fun J H1 => ∀ D, H1 D = none → ∃ W : Nat → Nat → Hp → Prop, (∃ m, W 0 m (upd H1 D o0)) ∧ ∀ i m G, W i m G →
  (J.stop i G ∧ Q (.ref D) G) ∨ (J.go i G ∧ ∃ Nx : Hp → Prop, (∀ G', Nx G' → ∃ m', m' < m ∧ W (i + 1) m' G') ∧ ∀ x G', J.yld i G x G' → g x (L2.wipe σ vs) G' fun σ2 G2 => L2.wipe σ2 vs = L2.wipe σ vs ∧
    wi1 σ2 G2 fun J1 H4 => ∃ W1 : Nat → Nat → Hp → Prop, (∃ m, W1 0 m H4) ∧ ∀ j k H, W1 j k H →
      (J1.stop j H ∧ Nx H) ∨ (J1.go j H ∧ ∃ Nx1 : Hp → Prop, (∀ H', Nx1 H' → ∃ k', k' < k ∧ W1 (j + 1) k' H') ∧ ∀ x H', J1.yld j H x H' → g1 x (L2.wipe σ2 vs1) H' fun σ3 H5 => L2.wipe σ3 vs1 = L2.wipe σ2 vs1 ∧ tt1 σ3 H5 fun b H6 =>
        if b = true then tk σ3 H6 fun y H7 => tv σ3 H7 fun z H8 => ∃ H9, DPut H8 D y z H9 ∧ Nx1 H9 else Nx1 H6))
section
variable {X : Cx}
abbrev BlkI (X : Cx) (scope : Scope) (t i : Expr) (w : TI) : Prop := ∀ (s : Shared) (H : Hp) (C : Addr) (cl : List (Str × Addr)) (fp : List Addr), PI (X.blk s H scope (compEnvC scope cl C X.env) fp) t i w
theorem dc2_core {o0 : HO} {pins : List (Addr × Obj)} {s : Shared} {σ : L2.St} {H : Hp} {Q : VK} {kx vx tg iter tg1 iter1 : Expr} {ifs1 : List Expr} {scope : Scope} {own : List (Str × Nat)} {vs1 : List Nat} {pos pos' : Pos} {wi wi1 : TI} {g g1 : TG} {tt1 : TT} {tk tv : TE} {use : Option (Value → Sem Unit)} {Qf : Value → Shared → Prop}
    (e00 : ∀ (h : Heap) (H : Hp), sysModules < h.objs.size → ObjOk X.prog X.w H (h.push { cls := .type "dict", data := .dict #[] }) h.objs.size o0) (hu : X.A.units < cLine) (calm : X.calm = true) (nd : X.N.Nodup) (I : Inv X pins σ H s) (hi : PI X tg iter wi) (ok : BlkOk X.N X.env.scope scope own) (hv : ∀ i ∈ vs1, i ∈ own.map (·.2))
    (hg : BlkG X scope tg g) (hi1 : BlkI X scope tg1 iter1 wi1) (hg1 : BlkG X scope tg1 g1) (ht1 : BlkT X scope ifs1 tt1) (hk : BlkE X scope kx tk) (he : BlkE X scope vx tv) (hs : ∀ x, foldedSetIterable iter X.env x = pure x) (hs1 : ∀ env x, foldedSetIterable iter1 env x = pure x) (h : tDc2 o0 wi g wi1 g1 tt1 tk tv (own.map (·.2)) vs1 σ H Q)
    (hRR : ∀ D C s' m H', Inv X pins σ H' s' → Q (.ref D) H' → s'.heap.Ns C m → FpOk X pins H' C → compPost (model X.prog X.w) X.A X.xe use Qf (.ref D) C (.ok .next) s') :
    wpAny (model X.prog X.w) X.A (comprehension (.DictComp kx vx [⟨tg, iter, [], 0⟩, ⟨tg1, iter1, ifs1, 0⟩] scope pos) scope X.env pos' newDict false (eval iter X.env) use) Qf X.xe s := by
  have free : ∀ y ∈ scope.names, y.2 = .free → ∃ c, X.env.cells.lookup y.1 = some c := fun y hy e => I.ok.has _ (ok.free y hy e)
  refine wpAny_comprehension_free (use := use) rfl hs (closure_ok free) ok.kind (fun y hy e => by rw [ok.uniq y hy, e]) ?_
  refine thn (hi.run pins s σ H _ I h) fun xv t1 hx => thn hx fun itv t2 w2 => ?_
  obtain ⟨it, fp, tn, J, G2, e, J2, T, b2, f2, q⟩ := w2
  subst e
  refine wpAny_newObj_type (newEnv_comp ?_)
  generalize eD : t2.heap.objs.size = D
  have freshD : G2 D = none := J2.hok.fresh (Nat.le_of_eq eD)
  obtain ⟨W, ⟨m0, w0⟩, turn⟩ := q D freshD
  generalize et3 : ({ t2 with heap := t2.heap.push { cls := .type "dict", data := .dict #[] } } : Shared) = t3
  have J3 : Inv X pins σ (upd G2 D o0) t3 := by
    rw [← et3]
    refine J2.laid (t' := t2.toks) (fun b o e => Heap.get?_push_of_some _ e) (Nat.le_of_eq eD) ?_
    rw [← eD]; exact e00 t2.heap _ J2.big
  have q3 : t3.heap = t2.heap.push { cls := .type "dict", data := .dict #[] } := by rw [← et3]
  have f3 : ∀ b ∈ fp, FpOk X pins (upd G2 D o0) b ∧ b < t3.heap.objs.size := fun b hb => by
    have lt : b < t2.heap.objs.size := let ⟨_, eo, _⟩ := T.obj _ _ b2 b hb; Heap.lt_size eo
    refine ⟨⟨?_, (f2 b hb).2⟩, by rw [q3, Heap.size_push]; exact Nat.lt_succ_of_lt lt⟩
    rw [upd_ne (by rw [← eD]; exact Nat.ne_of_lt lt)]; exact (f2 b hb).1
  have b3 : tn 0 t3.heap := T.keep _ _ _ b2 fun b _ o e => by rw [q3]; exact Heap.get?_push_of_some _ e
  have J4 := block_start J3 ok nd f3
  generalize ecl : cellsFrom (t3.heap.objs.size + 1) scope.names (cloFrom X.env.cells scope.names []) = cl at J4
  have pg := hg t3 (upd G2 D o0) t3.heap.objs.size cl fp
  have pi1 := hi1 t3 (upd G2 D o0) t3.heap.objs.size cl fp
  have pg1 := hg1 t3 (upd G2 D o0) t3.heap.objs.size cl fp
  have pt1 := ht1 t3 (upd G2 D o0) t3.heap.objs.size cl fp
  have pk := hk t3 (upd G2 D o0) t3.heap.objs.size cl fp
  have pe := he t3 (upd G2 D o0) t3.heap.objs.size cl fp
  show codeAny _ _ (.compStart (.DictComp kx vx [⟨tg, iter, [], 0⟩, ⟨tg1, iter1, ifs1, 0⟩] scope pos) 0 (.ref it) (.ref D) (compEnvC scope cl t3.heap.objs.size X.env)) (compPost (model X.prog X.w) X.A X.xe use Qf (.ref D) t3.heap.objs.size) { t3 with heap := pushCells (t3.heap.push { cls := .type "dict", data := .dict #[] }) scope.names }
  have nfp : ∀ b ∈ fp, (upd G2 D o0) b = none := fun b hb => (f3 b hb).1.1
  generalize ece : compEnvC scope cl t3.heap.objs.size X.env = ce at J4 pg pi1 pg1 pt1 pk pe ⊢
  have cL : ce.locals = t3.heap.objs.size := by subst ece; rfl
  generalize eG3 : upd G2 D o0 = G3 at J3 J4 pg pi1 pg1 pt1 pk pe w0 nfp f3
  generalize et4 : ({ t3 with heap := pushCells (t3.heap.push { cls := .type "dict", data := .dict #[] }) scope.names } : Shared) = t4 at J4 ⊢
  have b4 : tn 0 t4.heap := T.keep _ _ _ b3 fun b _ o e => by rw [← et4]; exact pushCells_keeps _ _ _ _ (Heap.get?_push_of_some _ e)
  have stay : ∀ {σ' : L2.St} {H' : Hp} {s' : Shared}, Inv (X.blk t3 G3 scope ce fp) [] σ' H' s' → (∀ b ∈ fp, H' b = none) → ∀ b ∈ fp, FpOk (X.blk t3 G3 scope ce fp) [] H' b := fun {σ' H' s'} Iz hn b hb =>
    ⟨hn b hb, (Iz.ok.exf b hb).1, Iz.ok.exfs b hb, .inl hb, fun x c e => (Iz.ok.exf b hb).2 x c e, fun p hp => absurd (show p ∈ ([] : List (Addr × Obj)) ++ [] from hp) (by simp)⟩
  have loop : codeAny (model X.prog X.w) X.A (.compLoop (.DictComp kx vx [⟨tg, iter, [], 0⟩, ⟨tg1, iter1, ifs1, 0⟩] scope pos) 0 (.ref it) (.ref D) ce) (compPost (model X.prog X.w) X.A X.xe use Qf (.ref D) t3.heap.objs.size) t4 := by
    refine dLoop2_out (hs1 ce) (fun n z => ∃ i G, Inv (X.blk t3 G3 scope ce fp) [] (L2.wipe σ (own.map (·.2))) G z ∧ tn i z.heap ∧ (∀ b ∈ fp, G b = none) ∧ W i n G) ?_ m0 ⟨0, G3, J4, b4, nfp, w0⟩
    rintro n t5 ⟨i, G5, J5, b5, n5, w5⟩
    rcases turn i n G5 w5 with ⟨stop, qq⟩ | ⟨go, Nx, hNx, step⟩
    · refine thnF (T.done (X.blk t3 G3 scope ce fp) rfl rfl rfl calm i [] t5 _ G5 (fun _ _ => False) J5 (stay J5 n5) b5 stop) fun r t6 ⟨hr, J6⟩ => ?_
      subst hr
      have J7 : Inv X pins σ G5 t6 := J3.call' (ch := fp) J6.os J6.base J6.hok J6.bare fun b hb => let f := (f3 b hb).1; ⟨f.2.2.2.1, f.2.1, f.2.2.2.2.1, f.2.2.2.2.2⟩
      have nC : G5 t3.heap.objs.size = none := by
        have z : G5 ce.locals = none := J6.free
        rw [cL] at z; exact z
      obtain ⟨m, hn, _⟩ := J6.loc
      have hn : t6.heap.Ns ce.locals m := hn
      rw [cL] at hn
      exact hRR D t3.heap.objs.size t6 m G5 J7 qq hn (J3.fpOk (Nat.le_refl _) nC)
    · refine thnF (T.item (X.blk t3 G3 scope ce fp) rfl rfl rfl calm i [] t5 _ G5 (fun _ _ => False) J5 (stay J5 n5) b5 go) fun r t6 ⟨u, hr, w6⟩ => ?_
      subst hr
      refine thnF w6 fun _ t7 ⟨x, G7, J7, r7, y7, b7, n7⟩ => ?_
      refine thnF (pg.run _ t7 _ G7 x u _ (J7.pinned (stay J7 n7) (T.obj _ _ b7)) r7 (step x G7 y7)) fun _ t8 ⟨σ8, G8, J8, hw8, q8⟩ => ?_
      have fin : ∀ {σ9 : L2.St} {s' : Shared} {H' : Hp}, Inv (X.blk t3 G3 scope ce fp) ([] ++ pinsAt fp t7.heap) σ9 H' s' → (L2.wipe σ (own.map (·.2))).length = σ9.length → (∀ (j : Nat) v, (L2.wipe σ (own.map (·.2)))[j]? = some (some v) → σ9[j]? = some (some v)) → Nx H' →
          ∃ m, m < n ∧ ∃ i G, Inv (X.blk t3 G3 scope ce fp) [] (L2.wipe σ (own.map (·.2))) G s' ∧ tn i s'.heap ∧ (∀ b ∈ fp, G b = none) ∧ W i m G := fun {σ9 s' H'} Iz hl hkp nx => by
        obtain ⟨m', hm, w'⟩ := hNx H' nx
        have pin : ∀ b ∈ fp, ∀ o, t7.heap.get? b = some o → s'.heap.get? b = some o ∧ H' b = none := fun b hb o e => by
          have z := Iz.pin (b, o) (List.mem_append_right _ (List.mem_append_right _ (mem_pinsAt hb e)))
          exact ⟨z.1, z.2.1⟩
        refine ⟨m', hm, i + 1, H', (Iz.unpinned (pins := [])).weak hl hkp, T.keep _ _ _ b7 fun b hb o e => (pin b hb o e).1, fun b hb => ?_, w'⟩
        obtain ⟨o, e, _⟩ := T.obj _ _ b7 b hb
        exact (pin b hb o e).2
      have hl8 : (L2.wipe σ (own.map (·.2))).length = σ8.length := by rw [← hw8, wipe_length]
      have hk9 : ∀ (j : Nat) v, (L2.wipe σ (own.map (·.2)))[j]? = some (some v) → (L2.wipe σ8 vs1)[j]? = some (some v) := fun j v e => by
        rw [← hw8] at e
        obtain ⟨e1, e2⟩ := wipe_some e
        rw [wipe_out fun z => e2 (hv j z)]
        exact e1
      show wpAny _ _ (forIn ([] : List Expr) true _) _ _ _
      refine wpAny_pure ?_
      rw [if_pos rfl]
      refine thnF (pi1.run _ t8 σ8 G8 _ J8 q8) fun xv s10 hx => thnF hx fun itv s11 h11 => ?_
      obtain ⟨it1, fp1, tn1, J1, H11, e1, I11, T1, st11, f11, W1, ⟨m1, w1⟩, turn1⟩ := h11
      subst e1
      have stat1 : ∀ {H' : Hp}, (∀ b ∈ fp1, H' b = none) → ∀ b ∈ fp1, FpOk (X.blk t3 G3 scope ce fp) ([] ++ pinsAt fp t7.heap) H' b := fun hn b hb => ⟨hn b hb, (f11 b hb).2⟩
      have loop1 : codeAny (model X.prog X.w) X.A (.compLoop (.DictComp kx vx [⟨tg, iter, [], 0⟩, ⟨tg1, iter1, ifs1, 0⟩] scope pos) 1 (.ref it1) (.ref D) ce)
          (fun r s' => match r with
            | .ok _ => ∃ m, m < n ∧ ∃ i H', Inv (X.blk t3 G3 scope ce fp) [] (L2.wipe σ (own.map (·.2))) H' s' ∧ tn i s'.heap ∧ (∀ b ∈ fp, H' b = none) ∧ W i m H'
            | .error _ => False) s11 := by
        refine dLoop2_in (fun k s' => ∃ j H', Inv (X.blk t3 G3 scope ce fp) ([] ++ pinsAt fp t7.heap) (L2.wipe σ8 vs1) H' s' ∧ tn1 j s'.heap ∧ (∀ b ∈ fp1, H' b = none) ∧ W1 j k H') ?_ m1 ⟨0, H11, I11.weak (wipe_length _ _) (fun j v e => (wipe_some e).1), st11, fun b hb => (f11 b hb).1, w1⟩
        rintro k s12 ⟨j, H12, I12, st12, n12, w12⟩
        rcases turn1 j k H12 w12 with ⟨stop1, nx1⟩ | ⟨go1, Nx1, hNx1, step1⟩
        · refine thnF (T1.done (X.blk t3 G3 scope ce fp) rfl rfl rfl calm j _ s12 (L2.wipe σ8 vs1) H12 (fun _ _ => False) I12 (stat1 n12) st12 stop1) fun r s13 ⟨hr, I13⟩ => ?_
          subst hr
          exact fin I13 (hl8.trans (wipe_length σ8 vs1).symm) hk9 nx1
        · refine thnF (T1.item (X.blk t3 G3 scope ce fp) rfl rfl rfl calm j _ s12 (L2.wipe σ8 vs1) H12 (fun _ _ => False) I12 (stat1 n12) st12 go1) fun r s13 ⟨u1, hr, h13⟩ => ?_
          subst hr
          refine thnF h13 fun _ s14 ⟨x1, H14, I14, r14, y14, st14, n14⟩ => ?_
          have I14' := I14.pinned (stat1 n14) (T1.obj _ _ st14)
          refine thnF (pg1.run _ s14 (L2.wipe σ8 vs1) H14 x1 u1 _ I14' r14 (step1 x1 H14 y14)) fun _ s15 ⟨σ15, H15, I15, hw15, q15⟩ => ?_
          refine thnF (pt1.run _ s15 σ15 H15 _ I15 q15) fun b1 s16 ⟨H16, I16, q16⟩ => ?_
          have fin1 : ∀ {s' : Shared} {H' : Hp}, Inv (X.blk t3 G3 scope ce fp) (([] ++ pinsAt fp t7.heap) ++ pinsAt fp1 s14.heap) σ15 H' s' → Nx1 H' → ∃ m, m < k ∧ ∃ j H', Inv (X.blk t3 G3 scope ce fp) ([] ++ pinsAt fp t7.heap) (L2.wipe σ8 vs1) H' s' ∧ tn1 j s'.heap ∧ (∀ b ∈ fp1, H' b = none) ∧ W1 j m H' := fun {s' H'} I' nx => by
            obtain ⟨m', hm, w'⟩ := hNx1 H' nx
            have pin' : ∀ b ∈ fp1, ∀ o, s14.heap.get? b = some o → s'.heap.get? b = some o ∧ H' b = none := fun b hb o e =>
              let z := I'.pin (b, o) (List.mem_append_right _ (List.mem_append_right _ (mem_pinsAt hb e)))
              ⟨z.1, z.2.1⟩
            refine ⟨m', hm, j + 1, H', I'.unpinned.weak (by rw [← hw15, wipe_length]) (fun j v e => by rw [← hw15] at e; exact (wipe_some e).1), T1.keep _ _ _ st14 fun b hb o e => (pin' b hb o e).1, fun b hb => ?_, w'⟩
            obtain ⟨o, e, _⟩ := T1.obj _ _ st14 b hb
            exact (pin' b hb o e).2
          cases b1 with
          | false =>
            rw [if_neg Bool.false_ne_true] at q16
            rw [if_neg Bool.false_ne_true]
            exact fin1 I16 q16
          | true =>
            rw [if_pos rfl] at q16
            rw [if_pos rfl]
            refine thnF (pk.run _ s16 σ15 H16 _ I16 q16) fun z t17 ⟨yk, H17, I17, r17, q17⟩ => ?_
            refine thnF (pe.run _ t17 σ15 H17 _ I17 q17) fun z2 t18 ⟨yv, H18, I18, r18, H19, dp, nx⟩ => ?_
            exact d_setC (X := X.blk t3 G3 scope ce fp) hu I18 dp r17 r18 fun t19 I19 => fin1 I19 nx
      exact dStart1 loop1 (T1.self X.A 0 _ _ _ st11 loop1)
  exact codeAny_compStart_dict loop (T.self X.A 0 _ _ _ b4 loop)
variable {o0 : HO} {kx vx tg iter tg1 iter1 : Expr} {ifs1 : List Expr} {scope : Scope} {own : List (Str × Nat)} {vs1 : List Nat} {pos : Pos} {wi wi1 : TI} {g g1 : TG} {tt1 : TT} {tk tv : TE}
theorem pe_dc2 (e00 : ∀ (h : Heap) (H : Hp), sysModules < h.objs.size → ObjOk X.prog X.w H (h.push { cls := .type "dict", data := .dict #[] }) h.objs.size o0) (hu : X.A.units < cLine) (calm : X.calm = true) (nd : X.N.Nodup) (hi : PI X tg iter wi) (ok : BlkOk X.N X.env.scope scope own) (hv : ∀ i ∈ vs1, i ∈ own.map (·.2))
    (hg : BlkG X scope tg g) (hi1 : BlkI X scope tg1 iter1 wi1) (hg1 : BlkG X scope tg1 g1) (ht1 : BlkT X scope ifs1 tt1) (hk : BlkE X scope kx tk) (he : BlkE X scope vx tv) (hs : ∀ x, foldedSetIterable iter X.env x = pure x) (hs1 : ∀ env x, foldedSetIterable iter1 env x = pure x) :
    PE X (.DictComp kx vx [⟨tg, iter, [], 0⟩, ⟨tg1, iter1, ifs1, 0⟩] scope pos) (tDc2 o0 wi g wi1 g1 tt1 tk tv (own.map (·.2)) vs1) := by
  constructor
  intro pins s σ H Q I h
  rw [arm_eval_DictComp]
  refine dc2_core e00 hu calm nd I hi ok hv hg hi1 hg1 ht1 hk he hs hs1 h ?_
  intro D C s' m H' J q hn f
  refine ⟨m, hn, fun h2 sb => ?_⟩
  obtain ⟨f0, f1, f2, f3, f4, f5⟩ := f
  exact ⟨.ref D, H', J.turned (t' := s'.toks) (fun b o hb e => (sb.2 b hb).trans e) f0 f1 f3 f4 f5, rfl, q⟩
theorem ps_setDc2 {i : Nat} {y : Str} {py spos : Pos} (e00 : ∀ (h : Heap) (H : Hp), sysModules < h.objs.size → ObjOk X.prog X.w H (h.push { cls := .type "dict", data := .dict #[] }) h.objs.size o0) (hu : X.A.units < cLine) (calm : X.calm = true) (nd : X.N.Nodup) (hy : X.N[i]? = some y)
    (hyl : X.env.scope.names.lookup y = some .local) (hsw : swapsWith (.DictComp kx vx [⟨tg, iter, [], 0⟩, ⟨tg1, iter1, ifs1, 0⟩] scope pos) (some (.Name y py)) spos.line X.env = pure true) (hi : PI X tg iter wi) (ok : BlkOk X.N X.env.scope scope own) (hv : ∀ i ∈ vs1, i ∈ own.map (·.2))
    (hg : BlkG X scope tg g) (hi1 : BlkI X scope tg1 iter1 wi1) (hg1 : BlkG X scope tg1 g1) (ht1 : BlkT X scope ifs1 tt1) (hk : BlkE X scope kx tk) (he : BlkE X scope vx tv) (hs : ∀ x, foldedSetIterable iter X.env x = pure x) (hs1 : ∀ env x, foldedSetIterable iter1 env x = pure x) :
    PS X (.Assign [.Name y py] (.DictComp kx vx [⟨tg, iter, [], 0⟩, ⟨tg1, iter1, ifs1, 0⟩] scope pos) spos) (tAsg (tDc2 o0 wi g wi1 g1 tt1 tk tv (own.map (·.2)) vs1) (gName i)) := by
  constructor
  intro pins s σ H D I h
  rw [exec_Assign_Name_used _ _ _ _ hsw]
  refine wpAny_bind (wpAny_standAt (wpAny_bind ?_))
  show wpAny _ X.A (do let _ ← comprehension (.DictComp kx vx [⟨tg, iter, [], 0⟩, ⟨tg1, iter1, ifs1, 0⟩] scope pos) scope X.env (firstIterPos [⟨tg, iter, [], 0⟩, ⟨tg1, iter1, ifs1, 0⟩] pos) newDict false (eval iter X.env) (some (assign (.Name y py) X.env))) _ _ s
  have h : tDc2 o0 wi g wi1 g1 tt1 tk tv (own.map (·.2)) vs1 σ H (fun x H1 => gName i x σ H1 D.nx) := h
  refine wpAny_bind (thn (dc2_core (Qf := fun _ s' => SP X pins D .next s') e00 hu calm nd I hi ok hv hg hi1 hg1 ht1 hk he hs hs1 h ?_) fun _ s' hq => wpAny_pure (wpAny_pure hq))
  intro L C s' m H' J q hn f
  show wpAny _ _ (assign (.Name y py) X.env (.ref L)) _ _ _
  refine wpAny_assign_Name (store_ok2 (v := V.ref L) J nd hy (.inl hyl) rfl (fun s2 J2 ⟨a, sb, ha⟩ => ?_) (.inr hyl))
  obtain ⟨f0, f1, f2, f3, f4, f5⟩ := f
  have ne : C ≠ a := by
    rcases ha with z | z
    · rw [z]; exact f1
    · exact fun e => f4 y a z e.symm
  refine ⟨m, hn.sameBut sb ne, fun h3 sb3 => ?_⟩
  exact ⟨_, H', J2.turned (t' := s2.toks) (fun b o hb e => (sb3.2 b hb).trans e) f0 f1 f3 f4 f5, q⟩
end
end PyI
set_option Elab.async false
set_option linter.all false
set_option maxRecDepth 100000
set_option maxHeartbeats 2000000
namespace PyI
namespace ET
open PySem PySem.Spec PyProof.Rows L2
open PySem.Sem (wp)
def ItE (K : PySem.W.Frag) (a : Addr) : L2.It :=
  ⟨fun i H => ∃ (xs : List V) (x : V), SqT K H a xs ∧ xs[i]? = some x, fun i H v H' => ∃ T x, v = .ref T ∧ H T = none ∧ H' = upd H T (.tup [.int (i : Nat), x]) ∧ ∀ xs, SqT K H a xs → xs[i]? = some x, fun i H => ∃ xs : List V, SqT K H a xs ∧ xs.length ≤ i⟩
section
variable {prog : Program} {w : World} {A : Around} {E : Value → Shared → Prop} {s : Shared}
theorem next_endT {e it l : Addr} {i : Nat} {items : Array Value} {old : Value} {Q : Option Value → Shared → Prop} (hh : A.handled = none)
    (he : IsEnum s.heap e it i old) (hit : s.heap.IsTupleIter it l i) (hl : s.heap.IsTuple l items) (hx : items[i]? = none)
    (hQ : ∀ h', Heap.ExtBut it s.heap h' → Q none { s with heap := h' }) : wpAny (model prog w) A (pyNext (.ref e)) Q E s := by
  have hT : s.TypeIs (.ref e) "enumerate" := ⟨_, he, rfl⟩
  unfold pyNext
  refine wpAny_bind (wpAny_attempt (wpAny_callSpecial?_slot (name := Str.ofString "__next__") hT F.slot_enumerate_next
    (wpAny_call_entry F.slot_enumerate_next hT F.entry_enumerate_next ?_ (F.args_enumerate_next_1 _))))
  show wpAny _ _ (field (.ref e) 2 >>= _) _ _ _
  refine wpAny_bind (wpAny_field he rfl (x := .ref it) rfl ?_)
  refine wpAny_bind (RZ.nextOf_tuple_end hh hit hl hx fun h' x he' hx' => ?_)
  obtain ⟨o, ho, hc⟩ := hx'
  refine wpAny_bind (wpAny_isInstance (T := "StopIteration") (b := true) ⟨o, ho, hc⟩ isSubtype_stop ?_)
  exact wpAny_pure (hQ _ he')
theorem drawsT (hh : A.handled = none) (it l : Addr) (hne : l ≠ it) (items : Array Value) : Draws prog w A it [it, l] items.size (fun i v => items[i]? = some v) (fun i h => h.IsTupleIter it l i ∧ h.IsTuple l items) where
  live := fun _ _ st => ⟨st.1.choose, st.1.choose_spec.1⟩
  frame := fun _ _ _ st hk => ⟨st.1.at fun o e => hk it (by simp) o e, st.2.at fun o e => hk l (by simp) o e⟩
  item := fun i s Q E hi st hQ => RZ.nextOf_tuple_item st.1 st.2 (x := items[i]) (by simp [hi]) fun h' hit' hs' => hQ _ h' s.toks (by simp [hi]) ⟨hit', st.2.extBut hs'.extBut hne⟩ hs'
  done := fun s Q E st hE => RZ.nextOf_tuple_end hh st.1 st.2 (by simp) hE
theorem next_itemT {e it l : Addr} {i : Nat} {items : Array Value} {x old : Value} {Q : Option Value → Shared → Prop} (hh : A.handled = none)
    (he : IsEnum s.heap e it (i : Int) old) (hit : s.heap.IsTupleIter it l i) (hl : s.heap.IsTuple l items) (hx : items[i]? = some x) (hne : e ≠ it) (hle : l ≠ e) (hli : l ≠ it)
    (hQ : ∀ h' tk, s.toks ≤ tk + 1 → IsEnumOut h' e it ((i : Int) + 1) x s.heap.objs.size → h'.IsTupleIter it l (i + 1) →
      h'.get? s.heap.objs.size = some { cls := .type "tuple", data := .seq #[.int i tk, x] } → h'.objs.size = s.heap.objs.size + 1 →
      (∀ b o, b ≠ e → b ≠ it → s.heap.get? b = some o → h'.get? b = some o) → Q (some (.ref s.heap.objs.size)) { s with heap := h', toks := tk + 1 }) :
    wpAny (model prog w) A (pyNext (.ref e)) Q E s := by
  have lt : i < items.size := (Array.getElem?_eq_some_iff.mp hx).1
  refine wpAny_with_toks (n := s.toks) (Nat.le_refl _) ?_
  refine wpAny_pyNext_enum_itemD (drawsT (A := A.in1) (show A.in1.handled = none from hh) it l hli items) he ⟨hit, hl⟩ lt hne (by simp; exact ⟨hne, fun z => hle z.symm⟩) fun y h' tk hy a b c d k => ?_
  have : y = x := by
    have hy : items[i]? = some y := hy
    rw [hx] at hy; injection hy with hy; exact hy.symm
  subst this
  exact fun htk => hQ h' tk htk a b.1 c d k
end
theorem meets_newT (l : Addr) (items : Array Value) :
    Meets (Builtin.«enumerate.__new__» ⟨[.type "enumerate", .ref l], []⟩) (fun _ R s => s.heap.IsTuple l items ∧
      R (.ok (.ret (.ref (s.heap.push { cls := .type "tuple_iterator", data := .fields #[.ref l, .int 0 0] }).objs.size)))
        { s with heap := (s.heap.push { cls := .type "tuple_iterator", data := .fields #[.ref l, .int 0 0] }).push { cls := .type "enumerate", data := .fields #[.none, .bool false, .ref s.heap.objs.size, rawInt 0, .none, .none] } }) :=
  .of_wp fun prog w A R s h => by
    obtain ⟨hp, g, d, tk, os⟩ := s; obtain ⟨hl, h⟩ := h
    have hsub := sub_enumerate
    have hL : Heap.IsTuple (Shared.heap ⟨hp, g, d, tk, os⟩) l items := hl
    wp_walk using wpAny_pyIter_tuple hL
    refine wpAny_stack_any fun st => wpAny_pure ?_
    split
    · rename_i c _ _ _ _ _
      cases (c == Value.type "enumerate")
      · wp_walk using wpAny_pyIter_tuple hL
        exact ⟨_, rfl, h⟩
      · wp_walk using wpAny_pyIter_tuple hL
        exact ⟨_, rfl, h⟩
    · wp_walk using wpAny_pyIter_tuple hL
      exact ⟨_, rfl, h⟩
section
variable {prog : Program} {w : World} {A : Around} {E : Value → Shared → Prop} {s : Shared}
theorem call_enumT {l : Addr} {items : Array Value} {Q : Value → Shared → Prop} (hL : s.heap.IsTuple l items)
    (h : ∀ h', IsEnum h' (s.heap.objs.size + 1) s.heap.objs.size 0 .none → h'.IsTupleIter s.heap.objs.size l 0 → h'.objs.size = s.heap.objs.size + 2 →
      (∀ b o, s.heap.get? b = some o → h'.get? b = some o) → Q (.ref (s.heap.objs.size + 1)) { s with heap := h' }) :
    wpAny (model prog w) A (call (.type "enumerate") [.ref l]) Q E s := by
  refine callType_new F.called_enumerate (by decide) (F.typeCall_enumerate_1 _) (F.newCall_enumerate_1 _) (fun obj => F.args_object_init_2 obj _) F.entry_enumerate_new
    (meets_newT l items) ⟨hL, ?_⟩
  have hz : (s.heap.push { cls := .type "tuple_iterator", data := .fields #[.ref l, .int 0 0] }).objs.size = s.heap.objs.size + 1 := Heap.size_push ..
  show _ ∧ _
  rw [hz]
  have he : IsEnum ((s.heap.push { cls := .type "tuple_iterator", data := .fields #[.ref l, .int 0 0] }).push
      { cls := .type "enumerate", data := .fields #[.none, .bool false, .ref s.heap.objs.size, rawInt 0, .none, .none] }) (s.heap.objs.size + 1) s.heap.objs.size 0 .none := by
    have := Heap.get?_push_size (s.heap.push { cls := .type "tuple_iterator", data := .fields #[.ref l, .int 0 0] })
      (o := { cls := .type "enumerate", data := .fields #[.none, .bool false, .ref s.heap.objs.size, rawInt 0, .none, .none] }) rfl
    rw [hz] at this; exact this
  refine ⟨⟨_, he, rfl⟩, h _ he ⟨_, Heap.get?_push_of_some _ (Heap.get?_push_size _ rfl), rfl, rfl⟩ (by rw [Heap.size_push, hz]) fun b o x => Heap.get?_push_of_some _ (Heap.get?_push_of_some _ x)⟩
end
theorem turn_enumT {P : Program} {w : World} {K : PySem.W.Frag} {elts : List Expr} {kk : Nat} {tpos : Pos} (a e it : Addr) (hae : a ≠ e) (hai : a ≠ it) :
    Turn P w K (.Tuple elts kk tpos) (ItE K a) [e, it] e (fun i h => (∃ old, IsEnum h e it ((i : Nat) : Int) old) ∧ h.IsTupleIter it a i ∧ e ≠ it) where
  mem := by simp
  obj := fun i h st b hb => by
    obtain ⟨⟨old, he⟩, ⟨o, ho, hc, hd⟩, _⟩ := st
    have e' : b = e ∨ b = it := by simpa using hb
    rcases e' with z | z
    · rw [z]; exact ⟨_, he, fun v q => nomatch q⟩
    · rw [z]; exact ⟨o, ho, fun v q => by rw [hd] at q; cases q⟩
  keep := fun i h h' st k => let ⟨⟨old, he⟩, hi, hne⟩ := st; ⟨⟨old, k e (by simp) _ he⟩, hi.at fun o q => k it (by simp) o q, hne⟩
  item := by
    intro X hP hw hK hc i pins s σ H E I hf st hg
    subst hP hw hK
    obtain ⟨⟨old, he⟩, hit, hne⟩ := st
    obtain ⟨xs, x, hq, hx⟩ := hg
    obtain ⟨its, rv, p, _⟩ := I.tuple hq
    obtain ⟨u, hu, ru⟩ := rv.get hx
    have hel : e < s.heap.objs.size := Heap.lt_size he
    have hil : it < s.heap.objs.size := by obtain ⟨_, q, _⟩ := hit; exact Heap.lt_size q
    refine next_itemT (I.ok.hd hc) he hit p (x := u) (by simpa using hu) hne hae hai fun h' tk htk ho hit' hT hsz hk => ?_
    refine ⟨_, rfl, wpAny_letOwnedTupleGo_enum (s := { s with heap := h', toks := tk + 1 }) ho fun h'' he' sb => ?_⟩
    have hT2 : h''.get? s.heap.objs.size = some { cls := .type "tuple", data := .seq #[.int i tk, u] } := (sb.2 _ (Nat.ne_of_gt hel)).trans hT
    have new : ObjOk X.prog X.w (upd H s.heap.objs.size (.tup [.int (i : Nat), x])) h'' s.heap.objs.size (.tup [.int (i : Nat), x]) :=
      ⟨by show 2 ≤ sizeLine; decide, [.int i tk, u], .cons ⟨_, rfl⟩ (.cons ru .nil), ⟨_, hT2, rfl, _, rfl⟩⟩
    have I1 : Inv X pins σ (upd H s.heap.objs.size (.tup [.int (i : Nat), x])) { s with heap := h'', toks := tk + 1 } :=
      I.turnedNew (ch := [e, it]) (fun b ob hb q => (sb.2 b (fun z => hb (by simp [z]))).trans (hk b ob (fun z => hb (by simp [z])) (fun z => hb (by simp [z])) q)) hf (Nat.le_refl _) new
    refine ⟨.ref s.heap.objs.size, _, I1, rfl, ⟨_, x, rfl, I.hok.fresh (Nat.le_refl _), rfl, fun ys hy => by rw [I.tuple_inj hy hq]; exact hx⟩, ⟨⟨u, ?_⟩, hit'.at fun o q => (sb.2 it (Ne.symm hne)).trans q, hne⟩, fun b hb => ?_⟩
    · have e1 : ((i + 1 : Nat) : Int) = (i : Int) + 1 := by omega
      rw [e1]; exact he'
    · have hb' : b < s.heap.objs.size := by
        have e' : b = e ∨ b = it := by simpa using hb
        rcases e' with z | z
        · rw [z]; exact hel
        · rw [z]; exact hil
      rw [upd_ne (Nat.ne_of_lt hb')]
      exact (hf b hb).1
  done := by
    intro X hP hw hK hc i pins s σ H E I hf st hg
    subst hP hw hK
    obtain ⟨⟨old, he⟩, hit, hne⟩ := st
    obtain ⟨xs, hq, hx⟩ := hg
    obtain ⟨its, rv, p, _⟩ := I.tuple hq
    obtain ⟨f0, f1, f2, f3, f4, f5⟩ := hf it (by simp)
    have hl := rv.length
    exact next_endT (I.ok.hd hc) he hit p (by simp; omega) fun h' eb => ⟨rfl, I.turned (t' := s.toks) (fun b o hb q => eb b o hb q) f0 f1 f3 f4 f5⟩
  self := fun A i s Q E st h => let ⟨⟨_, he⟩, _⟩ := st; wpAny_pyIter_enum he h
def iEnumT (K : PySem.W.Frag) (ta : TA) : L2.TI := fun σ H R => ta σ H fun vs H1 => ∃ a xs, vs = [.ref a] ∧ SqT K H1 a xs ∧ R (ItE K a) H1
theorem pi_enumT {X : Cx} {e : Expr} {ta : TA} {p pos tpos : Pos} {elts : List Expr} {kk : Nat} (hg : Gl X "enumerate") (hm : X.mg "enumerate" = none) (ha : PA X [e] ta) (hs : starEach [e] X.env = [(false, eval e X.env)] := by rfl) :
    PI X (.Tuple elts kk tpos) (.Call (.Name "enumerate" p) [e] [] pos) (iEnumT X.K ta) := by
  refine ⟨fun pins s σ H R I h => ?_⟩
  refine Call_ (ld_blt I hg hm boot_enumerate (PyProof.Rows.callWith_type1 (thn (ha.run pos pins s σ H _ I h) fun us s1 ⟨vs, H1, I1, r1, q1⟩ => ?_) hs rfl))
  obtain ⟨a, xs, ex, hq, q⟩ := q1
  subst ex
  cases r1 with
  | cons r rr =>
    cases rr
    cases r
    obtain ⟨its, rv, p', _⟩ := I1.tuple hq
    obtain ⟨o1, ho1, _⟩ := id p'
    have la := Heap.lt_size ho1
    refine call_enumT (show s1.heap.IsTuple a its.toArray from p') fun h' he hit hsz hk => wpAny_pyIter_enum he ?_
    have I2 : Inv X pins σ H1 { s1 with heap := h' } := I1.kept (t' := s1.toks) hk
    refine ⟨s1.heap.objs.size + 1, [s1.heap.objs.size + 1, s1.heap.objs.size], _, _, H1, rfl, I2, turn_enumT a (s1.heap.objs.size + 1) s1.heap.objs.size (Nat.ne_of_lt (Nat.lt_succ_of_lt la)) (Nat.ne_of_lt la), ⟨⟨.none, he⟩, hit, Nat.succ_ne_self _⟩, fun b hb => ?_, q⟩
    have e' : b = s1.heap.objs.size + 1 ∨ b = s1.heap.objs.size := by simpa using hb
    have hle : s1.heap.objs.size ≤ b := by
      rcases e' with z | z
      · rw [z]; exact Nat.le_add_right _ _
      · rw [z]; exact Nat.le_refl _
    exact I1.fpOk hle (I1.hok.fresh hle)
end ET
end PyI
set_option Elab.async false
set_option linter.all false
set_option maxRecDepth 100000
set_option maxHeartbeats 2000000
namespace PyI
open PySem PySem.Spec PyProof.Rows L2
section
variable {G : Glb} {μ : Mu} {M : Mk} {H : Hp} {h : Hea}
theorem zipD_len2 : ∀ (xs ys : List D) (i : Nat), xs.length = ys.length → (zipD xs ys).length ≤ i → xs.length ≤ i ∧ ys.length ≤ i
  | [], [], i, _, _ => ⟨Nat.zero_le _, Nat.zero_le _⟩
  | [], _ :: _, _, e, _ => by simp at e
  | _ :: _, [], _, e, _ => by simp at e
  | x :: xs, y :: ys, i, e, hl => by
    unfold zipD at hl
    rw [List.length_cons] at hl
    obtain ⟨a, b⟩ := zipD_len2 xs ys (i - 1) (by simpa using e) (by omega)
    rw [List.length_cons, List.length_cons]
    omega
theorem walk_zipS (r : Hrel G μ M H h) {d d2 : D} {a a2 : Addr} {ds ds2 : List D} (p : Rep G μ M H d (.ref a)) (e : tupV d = some ds) (p2 : Rep G μ M H d2 (.ref a2)) (e2 : tupV d2 = some ds2) (el : ds.length = ds2.length) : Walks G (ZS.ItS G.K a a2) (zipD ds ds2) μ M H := by
  intro μ' M' H' h' l r' i
  obtain ⟨b, xs, eb, sq, t⟩ := tup_rep (Rep.lw r l.toLw0 _ _ p) e
  cases eb
  obtain ⟨b, ys, eb, sq2, t2⟩ := tup_rep (Rep.lw r l.toLw0 _ _ p2) e2
  cases eb
  refine ⟨fun d ed => ?_, fun hl => ?_⟩
  · obtain ⟨y, z, ey, ez, rfl⟩ := zipD_get ds ds2 i d ed
    obtain ⟨x, ex, rx⟩ := t.get ey
    obtain ⟨x2, ex2, rx2⟩ := t2.get ez
    refine ⟨⟨xs, ys, x, x2, sq, sq2, ex, ex2⟩, fun y H2 q => ?_⟩
    obtain ⟨T, x', x2', rfl, hT, rfl, q, q2⟩ := q
    have q' := q xs sq
    rw [ex] at q'
    cases q'
    have q' := q2 ys sq2
    rw [ex2] at q'
    cases q'
    exact newPair r' hT rx rx2
  · obtain ⟨l1, l2⟩ := zipD_len2 ds ds2 i el hl
    exact ⟨xs, ys, sq, sq2, by rw [t.length]; exact l1, by rw [t2.length]; exact l2⟩
theorem walk_zipSL (r : Hrel G μ M H h) {d d2 : D} {a a2 : Addr} {ds ds2 : List D} (p : Rep G μ M H d (.ref a)) (e : lsV d = some ds) (p2 : Rep G μ M H d2 (.ref a2)) (e2 : lsV d2 = some ds2) (el : ds.length = ds2.length) : Walks G (ZS.ItSL G.K a a2) (zipD ds ds2) μ M H := by
  intro μ' M' H' h' l r' i
  have key : ∀ {d : D} {ds : List D}, lsV d = some ds → lstV h' d = some ds := fun {d ds} e => by
    unfold lsV at e
    split at e
    · cases e; rfl
    · cases e; rfl
    · cases e
  obtain ⟨b, xs, eb, sq, t⟩ := lst_rep r' (Rep.lw r l.toLw0 _ _ p) (key e)
  cases eb
  obtain ⟨b, ys, eb, sq2, t2⟩ := lst_rep r' (Rep.lw r l.toLw0 _ _ p2) (key e2)
  cases eb
  refine ⟨fun d ed => ?_, fun hl => ?_⟩
  · obtain ⟨y, z, ey, ez, rfl⟩ := zipD_get ds ds2 i d ed
    obtain ⟨x, ex, rx⟩ := t.get ey
    obtain ⟨x2, ex2, rx2⟩ := t2.get ez
    refine ⟨⟨xs, ys, x, x2, sq, sq2, ex, ex2⟩, fun y H2 q => ?_⟩
    obtain ⟨T, x', x2', rfl, hT, rfl, q, q2⟩ := q
    have q' := q xs sq
    rw [ex] at q'
    cases q'
    have q' := q2 ys sq2
    rw [ex2] at q'
    cases q'
    exact newPair r' hT rx rx2
  · obtain ⟨l1, l2⟩ := zipD_len2 ds ds2 i el hl
    exact ⟨xs, ys, sq, sq2, by rw [t.length]; exact l1, by rw [t2.length]; exact l2⟩
theorem walk_enumT (r : Hrel G μ M H h) {d : D} {a : Addr} {ds : List D} (p : Rep G μ M H d (.ref a)) (e : tupV d = some ds) : Walks G (ET.ItE G.K a) (enumD 0 ds) μ M H := by
  intro μ' M' H' h' l r' i
  obtain ⟨b, xs, eb, sq, t⟩ := tup_rep (Rep.lw r l.toLw0 _ _ p) e
  cases eb
  refine ⟨fun d ed => ?_, fun hl => ⟨xs, sq, by rw [enumD_len] at hl; rw [t.length]; exact hl⟩⟩
  obtain ⟨y, ey, rfl⟩ := enumD_get ds 0 i d ed
  obtain ⟨x, ex, rx⟩ := t.get ey
  refine ⟨⟨xs, x, sq, ex⟩, fun y H2 q => ?_⟩
  obtain ⟨T, x', rfl, hT, rfl, q⟩ := q
  have := q xs sq
  rw [ex] at this
  cases this
  exact newPair r' hT (by rw [rep_int]; simp) rx
end
section
variable {P : Program} {w : World} {base : Heap} {G : Glb} {cf : Nat → List D → Hea → Res D} {n : Nat} {N : List Str} {sc : Scope} {fo : Fo} {X : Cx} {W : WX}
variable {a b tg : Expr} {fa fb : Loc → Hea → Res D} {pos p kp cp : Pos} {ck : Nat}
theorem si_zipS (F : Facts P w base G cf n) (g : Good P w base G n N sc fo X) {x : Str} {elts : List Expr} {kk : Nat} {tpos : Pos} (ex : x = "zip") (k : glB sc x = true) (ha : PE X a (tE G W fa)) (hb : PE X b (tE G W fb)) (hs : starEach [a, b] X.env = (false, eval a X.env) :: starEach [b] X.env)
    (hs2 : starEach [b] X.env = (false, eval b X.env) :: starEach [] X.env) :
    PI X (.Tuple elts kk tpos) (.Call (.Name x p) [a, b] [⟨some "strict", .Constant (.bool true) ck cp, kp⟩] pos) (tIr G W fun ρ h => (fa ρ h).bind fun x h1 => (fb ρ h1).bind fun y h2 => match lsV x with
      | some xs => need (lsV y) fun ys => if xs.length = ys.length then .ok (zipD xs ys) h2 else .no
      | none => need (tupV x) fun xs => need (tupV y) fun ys => if xs.length = ys.length then .ok (zipD xs ys) h2 else .no) := by
  subst ex
  refine imI (ZS.pi_zipSA (g.gl k) (by rw [g.mg]; exact F.blt _ (by decide +kernel)) (pa_cons ha (pa_cons hb pa_nil hs2) hs) hs (by rw [hs2]; rfl)) fun σ H Q q => ?_
  refine tG.mono (tE.b2 q) ?_
  exact fun v H1 z => z.mono fun u H2 ⟨d, d2, μ, M, ρ, h, e, r, pa, pb, p⟩ => by
    split at p
    · rename_i xs ex
      obtain ⟨ys, ey, p⟩ := p.need
      obtain ⟨el, p⟩ := p.ite
      obtain ⟨a1, zs, rfl, sq, t⟩ := lst_rep r pa (lsV_lstV ex)
      obtain ⟨a2, us, rfl, sq2, t2⟩ := lst_rep r pb (lsV_lstV ey)
      exact ⟨a1, a2, zs, us, rfl, .inl ⟨by rw [g.K]; exact sq, by rw [g.K]; exact sq2, by rw [g.K]; exact p.here r (walk_zipSL r pa ex pb ey el)⟩⟩
    · obtain ⟨xs, ex, p⟩ := p.need
      obtain ⟨ys, ey, p⟩ := p.need
      obtain ⟨el, p⟩ := p.ite
      obtain ⟨a1, zs, rfl, sq, t⟩ := tup_rep pa ex
      obtain ⟨a2, us, rfl, sq2, t2⟩ := tup_rep pb ey
      exact ⟨a1, a2, zs, us, rfl, .inr ⟨by rw [g.K]; exact sq, by rw [g.K]; exact sq2, by rw [g.K]; exact p.here r (walk_zipS r pa ex pb ey el)⟩⟩
theorem si_enumT (F : Facts P w base G cf n) (g : Good P w base G n N sc fo X) {x : Str} {elts : List Expr} {kk : Nat} {tpos : Pos} (ex : x = "enumerate") (k : glB sc x = true) (ha : PE X a (tE G W fa)) (hs : starEach [a] X.env = (false, eval a X.env) :: starEach [] X.env) :
    PI X (.Tuple elts kk tpos) (.Call (.Name x p) [a] [] pos) (tIr G W fun ρ h => (fa ρ h).bind fun x h1 => need (tupV x) fun xs => .ok (enumD 0 xs) h1) := by
  subst ex
  refine imI (ET.pi_enumT (g.gl k) (by rw [g.mg]; exact F.blt _ (by decide +kernel)) (pa_cons ha pa_nil hs) hs) fun σ H Q q => ?_
  refine tG.mono (tE.b1 q) ?_
  rintro v H1 ⟨d, μ, M, ρ, h, e, r, pa, p⟩
  obtain ⟨xs, ex, p⟩ := p.need
  obtain ⟨a', ys, rfl, sq, t⟩ := tup_rep pa ex
  exact ⟨a', ys, rfl, by rw [g.K]; exact sq, by rw [g.K]; exact p.here r (walk_enumT r pa ex)⟩
end
def dc2In (own own2 : List Nat) (tg tg2 : Tg) (fi2 : Loc → Hea → Res (List D)) (fc : Loc → Hea → Res Bool) (fk fe : Loc → Hea → Res D) (ρ : Loc) (x : D) (o : MO) (h2 : Hea) : Res MO :=
  (need (evG tg (wipeD ρ own) x) fun ρ1 => (fi2 ρ1 h2).bind fun xs2 h4 => dcLoop (dcTurn own2 tg2 fc fk fe ρ1) xs2 o h4).noErr
def dc2F (t m : Bool) (own own2 : List Nat) (tg tg2 : Tg) (fi fi2 : Loc → Hea → Res (List D)) (fc : Loc → Hea → Res Bool) (fk fe : Loc → Hea → Res D) (ρ : Loc) (h : Hea) : Res D :=
  (fi ρ h).bind fun xs h1 => (dc2Loop (dc2In own own2 tg tg2 fi2 fc fk fe ρ) xs (di0 t) h1).bind fun o h6 => mkDi m o h6
theorem dc2Loop_ne {inner : D → MO → Hea → Res MO} (n : ∀ x o h c k, inner x o h ≠ .err c k) : ∀ (xs : List D) (o : MO) (h : Hea) (c : Nat) (k : Hea), dc2Loop inner xs o h ≠ .err c k
  | [], o, h, c, k, e => by cases e
  | x :: r, o, h, c, k, e => by
    unfold dc2Loop at e
    cases et : inner x o h with
    | no => rw [et] at e; cases e
    | err c' k' => exact n x o h c' k' et
    | ok y h1 =>
      rw [et, Res.bind_ok] at e
      exact dc2Loop_ne n r y h1 c k e
section
variable {G : Glb} {W : WX} {σ : L2.St} {H : Hp} {own own2 : List Nat} {tg tg2 : Tg} {fi fi2 : Loc → Hea → Res (List D)} {fc : Loc → Hea → Res Bool} {fk fe : Loc → Hea → Res D}
theorem dc2_read {t m0 : Bool} {Q : VK} (q : tE G W (dc2F t m0 own own2 tg tg2 fi fi2 fc fk fe) σ H Q) : tDc2 (if t then .dT [] else .dK []) (tIr G W fi) (tGt G own tg) (tIr G W0 fi2) (tGt G own2 tg2) (tT G W0 fc) (tE G W0 fk) (tE G W0 fe) own own2 σ H Q := by
  obtain ⟨μ, M, ρ, h, e, r, p⟩ := q.out
  unfold dc2F at p
  refine tG.mono (tG.thn (R := RW G) (f := fi) e r p) ?_
  rintro J H1 ⟨xs, μ1, M1, h1, l1, e1, r1, wk, p1⟩
  intro L e0
  obtain ⟨oF, hF, eF⟩ : ∃ oF hF, dc2Loop (dc2In own own2 tg tg2 fi2 fc fk fe ρ) xs (di0 t) h1 = .ok oF hF := by
    revert p1
    cases ec : dc2Loop (dc2In own own2 tg tg2 fi2 fc fk fe ρ) xs (di0 t) h1 with
    | ok ys hF => exact fun _ => ⟨ys, hF, rfl⟩
    | err c k => exact absurd ec (dc2Loop_ne (fun x o h c k => noErr_ne) xs _ h1 c k)
    | no => exact fun z => z.elim
  rw [eF, Res.bind_ok] at p1
  refine ⟨fun i m H => i + m = xs.length ∧ ∃ μ M h o, DcS G L μ1 M1 H1 μ M H h o ∧ Envi G μ M H ρ σ ∧ Lw μ1 M1 H1 μ M H ∧ dc2Loop (dc2In own own2 tg tg2 fi2 fc fk fe ρ) (xs.drop i) o h = .ok oF hF,
    ⟨xs.length, by omega, μ1, _, h1, di0 t, DcS.start t r1 e0, e1.le r1 (DcS.start t r1 e0).le, (DcS.start t r1 e0).le.lw r1, by rw [List.drop_zero]; exact eF⟩, ?_⟩
  rintro i m H2 ⟨hi, μ2, M2, h2, o, s, en, lw, el⟩
  have wk2 := wk μ2 M2 H2 h2 lw s.rel i
  by_cases hd : i < xs.length
  · refine .inr ?_
    have ex : xs[i]? = some xs[i] := List.getElem?_eq_getElem hd
    rw [List.drop_eq_getElem_cons hd] at el
    obtain ⟨o1, h3, et, el⟩ := bind_okE (show (dc2In own own2 tg tg2 fi2 fc fk fe ρ xs[i] o h2).bind (fun o1 h1 => dc2Loop (dc2In own own2 tg tg2 fi2 fc fk fe ρ) (xs.drop (i + 1)) o1 h1) = .ok oF hF from el)
    obtain ⟨go, yl⟩ := wk2.1 _ ex
    refine ⟨go, fun H' => (i + 1) + (m - 1) = xs.length ∧ ∃ μ M h o, DcS G L μ1 M1 H1 μ M H' h o ∧ Envi G μ M H' ρ σ ∧ Lw μ1 M1 H1 μ M H' ∧ dc2Loop (dc2In own own2 tg tg2 fi2 fc fk fe ρ) (xs.drop (i + 1)) o h = .ok oF hF, fun H' z => ⟨m - 1, by omega, z⟩, ?_⟩
    intro v H3 yd
    obtain ⟨l3, r3, rv⟩ := yl v H3 yd
    have s3 := s.step l3 r3
    have en3 := en.le s.rel l3
    obtain ⟨ρ1, e1', et⟩ := need_okE (noErr_ok.mp et)
    obtain ⟨xs2, h4, e2', et⟩ := bind_okE et
    refine ⟨μ2, M2, wipeD ρ own, xs[i], ρ1, en3.wipe own, rv, e1', fun σ2 en2 w2 => ⟨w2.trans (wipe_idem σ own), ?_⟩⟩
    show tIr G W0 fi2 σ2 H3 _
    refine ⟨μ2, M2, ρ1, h2, en2, r3, ?_⟩
    rw [e2']
    intro J1 μ4 M4 H4 l4 r4 wkI
    have s4 := s3.step l4 r4
    refine ⟨fun j k H => j + k = xs2.length ∧ ∃ μ M h ob, DcS G L μ1 M1 H1 μ M H h ob ∧ Envi G μ M H ρ1 σ2 ∧ Envi G μ M H ρ σ ∧ Lw μ1 M1 H1 μ M H ∧ Lw μ4 M4 H4 μ M H ∧ dcLoop (dcTurn own2 tg2 fc fk fe ρ1) (xs2.drop j) ob h = .ok o1 h3,
      ⟨xs2.length, by omega, μ4, M4, h4, o, s4, en2.le r3 l4, en3.le r3 l4, (lw.trans (l3.lw s.rel)).trans (l4.lw r3), Lw.refl, by rw [List.drop_zero]; exact et⟩, ?_⟩
    rintro j k H5 ⟨hj, μ5, M5, h5, ob, s5, en5, en5', lw5, lw5', el5⟩
    have wk5 := wkI μ5 M5 H5 h5 lw5' s5.rel j
    by_cases hd5 : j < xs2.length
    · refine .inr ?_
      have ex5 : xs2[j]? = some xs2[j] := List.getElem?_eq_getElem hd5
      rw [List.drop_eq_getElem_cons hd5] at el5
      obtain ⟨y, h6, et5, el6⟩ := dcLoop_cons el5
      obtain ⟨go5, yl5⟩ := wk5.1 _ ex5
      refine ⟨go5, fun H' => (j + 1) + (k - 1) = xs2.length ∧ ∃ μ M h ob, DcS G L μ1 M1 H1 μ M H' h ob ∧ Envi G μ M H' ρ1 σ2 ∧ Envi G μ M H' ρ σ ∧ Lw μ1 M1 H1 μ M H' ∧ Lw μ4 M4 H4 μ M H' ∧ dcLoop (dcTurn own2 tg2 fc fk fe ρ1) (xs2.drop (j + 1)) ob h = .ok o1 h3, fun H' z => ⟨k - 1, by omega, z⟩, ?_⟩
      intro v5 H6 yd5
      obtain ⟨l6, r6, rv6⟩ := yl5 v5 H6 yd5
      have s6 := s5.step l6 r6
      refine dc_turn e0 s6 (en5.le s5.rel l6) rv6 et5 ?_ ?_
      · intro μ' M' H' o' hy s' en' lw'
        have lw6 := (l6.lw s5.rel).trans lw'
        refine ⟨by omega, μ', M', h6, o', s', en', en5'.lw s5.rel lw6.toLw0, lw5.trans lw6, lw5'.trans lw6, ?_⟩
        rcases el6 with ⟨z, o2, rfl, hz, el6⟩ | ⟨rfl, el6⟩
        · have hy : putMO ob z.1 z.2 = some o' := hy
          rw [hz] at hy; cases hy; exact el6
        · have hy : o' = ob := hy
          rw [hy]; exact el6
      · intro z ez
        rcases el6 with ⟨z', o2, e', hz, _⟩ | ⟨e, _⟩
        · rw [e'] at ez; cases ez; exact ⟨o2, hz⟩
        · rw [e] at ez; cases ez
    · refine .inl ⟨wk5.2 (Nat.le_of_not_lt hd5), ?_⟩
      rw [List.drop_eq_nil_of_le (Nat.le_of_not_lt hd5)] at el5
      obtain ⟨q1, q2⟩ : ob = o1 ∧ h5 = h3 := by
        have q : Res.ok ob h5 = Res.ok o1 h3 := el5
        injection q with q1 q2
        exact ⟨q1, q2⟩
      rw [q1, q2] at s5
      exact ⟨by omega, μ5, M5, h3, o1, s5, en5', lw5, el⟩
  · refine .inl ⟨wk2.2 (Nat.le_of_not_lt hd), ?_⟩
    rw [List.drop_eq_nil_of_le (Nat.le_of_not_lt hd)] at el
    cases (show Res.ok o h2 = Res.ok oF hF from el)
    cases m0 with
    | false =>
      obtain ⟨f1, f2, f3⟩ := s.fin e0
      obtain ⟨d, ed⟩ : ∃ d, mkDi false oF hF = .ok d hF := by
        have := s.di
        cases oF <;> first | exact ⟨_, rfl⟩ | exact Bool.noConfusion this
      rw [ed] at p1
      exact p1 (.ref L) μ2 _ H2 f1 f2 (f3 d ed)
    | true =>
      obtain ⟨f1, f2, f3⟩ := s.live e0
      exact p1 (.ref L) _ M2 H2 f1 f2 f3
end
end PyI
set_option Elab.async false
set_option linter.all false
set_option maxRecDepth 100000
set_option maxHeartbeats 2000000
namespace PyI
namespace LZ
open PySem PySem.Spec PyProof.Rows L2
open PySem.Sem (wp)
/-- a zip's record: f0, f1 tell of the tuple that was given out -/
abbrev ZO (h : Heap) (z TI TO : Addr) (f0 : Value) (f1 st : Bool) : Prop :=
  h.get? z = some { cls := .type "zip", dict := none, data := .fields #[f0, .bool f1, .bool st, .ref TI, .ref TO], slots := #[] }
section
variable {prog : Program} {w : World} {A : Around} {E : Value → Shared → Prop} {s : Shared}
theorem alive {a : Addr} {o : Obj} {Q : Option Obj → Shared → Prop} (ho : s.heap.get? a = some o) (h : Q (some o) s) : wpAny (model prog w) A (loadIfAlive a) Q E s := by
  have h' : Q (s.heap.get? a) s := by rw [ho]; exact h
  exact fun _ _ _ => h'
theorem free_held {z TI TO T : Addr} {f st : Bool} {oT : Obj} {Q : Bool → Shared → Prop} (hz : ZO s.heap z TI TO (rawInt T) f st) (hT : s.heap.get? T = some oT)
    (h : ∀ h', ZO h' z TI TO (rawInt T) true st → Heap.SameBut z s.heap h' → Q false { s with heap := h' }) : wpAny (model prog w) A (Builtin.SmallTypes.ownedTupleIsFree (.ref z)) Q E s := by
  unfold Builtin.SmallTypes.ownedTupleIsFree
  refine wpAny_bind (wpAny_field hz rfl (x := rawInt T) rfl ?_)
  show wpAny _ _ (loadIfAlive ((T : Int).toNat) >>= _) _ _ _
  rw [Int.toNat_natCast]
  refine wpAny_bind (alive hT ?_)
  simp only [Option.isNone_some, Bool.false_eq_true, if_false]
  refine wpAny_bind (wpAny_field hz rfl (x := .bool f) rfl ?_)
  cases f with
  | true =>
    rw [if_neg (show ¬ ((Value.bool true != Value.bool true) = true) from Bool.false_ne_true)]
    exact wpAny_pure (h s.heap hz (Heap.SameBut.refl _ _))
  | false =>
    rw [if_pos (show (Value.bool false != Value.bool true) = true from rfl)]
    exact wpAny_bind (wpAny_setField_rec hz (by simp) fun h₁ hz₁ hs₁ => wpAny_pure (h h₁ hz₁ hs₁))
/-- next, the tuple given out before still there -/
theorem next_held {z TI TO T i1 i2 l1 l2 : Addr} {f st : Bool} {oT : Obj} {k1 k2 : Nat} {xs ys : Array Value} {x y : Value} {Q : Value → Shared → Prop} (D : ZipApart z TI TO i1 i2 l1 l2)
    (hz : ZO s.heap z TI TO (rawInt T) f st) (hT : s.heap.get? T = some oT) (hTI : IsPair s.heap TI (.ref i1) (.ref i2))
    (h1 : s.heap.IsTupleIter i1 l1 k1) (h2 : s.heap.IsTupleIter i2 l2 k2) (hl1 : s.heap.IsTuple l1 xs) (hl2 : s.heap.IsTuple l2 ys) (hx : xs[k1]? = some x) (hy : ys[k2]? = some y)
    (hQ : ∀ h', ZO h' z TI TO (rawInt T) true st → h'.IsTupleIter i1 l1 (k1 + 1) → h'.IsTupleIter i2 l2 (k2 + 1) → IsPair h' s.heap.objs.size x y → h'.objs.size = s.heap.objs.size + 1 →
      (∀ c o, c ≠ z → c ≠ i1 → c ≠ i2 → s.heap.get? c = some o → h'.get? c = some o) → Q (.ref s.heap.objs.size) { s with heap := h' }) :
    wpAny (model prog w) A (Builtin.«zip.__next__» ⟨[.ref z], []⟩) (fun fin s' => ∃ v, fin = .done (.ret v) ∧ Q v s') E s := by
  show wpAny _ _ (field (.ref z) 2 >>= _) _ _ _
  refine wpAny_bind (wpAny_field hz rfl (x := .bool st) rfl ?_)
  show wpAny _ _ (field (.ref z) 3 >>= _) _ _ _
  refine wpAny_bind (wpAny_field hz rfl (x := .ref TI) rfl ?_)
  refine wpAny_bind (wpAny_seqItems hTI rfl ?_)
  show wpAny _ _ (Builtin.SmallTypes.ownedTupleIsFree (.ref z) >>= _) _ _ _
  refine wpAny_bind (free_held hz hT fun h₁ hz₁ hs₁ => ?_)
  simp only [Bool.false_eq_true, if_false]
  refine wpAny_bind ?_
  rw [← Array.forIn_toList]
  simp only [List.forIn_cons, List.forIn_nil]
  refine wpAny_bind (wpAny_bind (wpAny_holding ?_))
  have rest : ∀ h₃ : Heap, h₃.objs.size = s.heap.objs.size → ZO h₃ z TI TO (rawInt T) true st → (∀ c o, c ≠ z → c ≠ i1 → c ≠ i2 → s.heap.get? c = some o → h₃.get? c = some o) → h₃.IsTupleIter i1 l1 (k1 + 1) → h₃.IsTupleIter i2 l2 (k2 + 1) →
      wpAny (model prog w) A (newTuple [x, y]) (fun a s₁ => wpAny (model prog w) A (ret a) (fun fin s' => ∃ v, fin = .done (.ret v) ∧ Q v s') E s₁) E { s with heap := h₃ } := fun h₃ hsz hz₃ hk h1₃ h2₃ => by
    refine wpAny_newTuple (wpAny_pure ⟨_, rfl, ?_⟩)
    show Q (.ref h₃.objs.size) _
    have hp : IsPair (h₃.push { cls := .type "tuple", data := .seq #[x, y] }) h₃.objs.size x y := Heap.get?_push_size _ rfl
    have hz4 : (h₃.push { cls := .type "tuple", data := .seq #[x, y] }).objs.size = h₃.objs.size + 1 := Heap.size_push ..
    rw [hsz] at hp hz4 ⊢
    exact hQ _ (Heap.get?_push_of_some _ hz₃) (h1₃.at fun o e => Heap.get?_push_of_some _ e) (h2₃.at fun o e => Heap.get?_push_of_some _ e) hp hz4 fun c o c1 c2 c3 e => Heap.get?_push_of_some _ (hk c o c1 c2 c3 e)
  cases st with
  | true =>
    show wpAny _ _ (Builtin.SmallTypes.nextOrEnd (.ref i1)) _ _ _
    refine ZS.nextOrEnd_item (s := { s with heap := h₁ }) (h1.extBut hs₁.extBut D.i1z) (hl1.extBut hs₁.extBut D.l1z) hx fun h₂ h1₂ hs₂ => ?_
    refine wpAny_pure ?_
    refine wpAny_bind (wpAny_bind (wpAny_holding ?_))
    show wpAny _ _ (Builtin.SmallTypes.nextOrEnd (.ref i2)) _ _ _
    refine ZS.nextOrEnd_item (s := { s with heap := h₂ }) ((h2.extBut hs₁.extBut D.i2z).extBut hs₂.extBut D.i12.symm) ((hl2.extBut hs₁.extBut D.l2z).extBut hs₂.extBut D.l2i1) hy fun h₃ h2₃ hs₃ => ?_
    refine wpAny_pure (wpAny_pure ?_)
    show wpAny _ _ (newTuple [x, y] >>= _) _ _ _
    exact wpAny_bind (rest h₃ (by rw [hs₃.1, hs₂.1, hs₁.1]) (hs₃.extBut _ _ D.i2z.symm (hs₂.extBut _ _ D.i1z.symm hz₁)) (fun c o c1 c2 c3 e => hs₃.extBut _ _ c3 (hs₂.extBut _ _ c2 (hs₁.extBut _ _ c1 e))) (h1₂.extBut hs₃.extBut D.i12) h2₃)
  | false =>
    show wpAny _ _ (Builtin.SmallTypes.nextOf (.ref i1) >>= _) _ _ _
    refine wpAny_bind (RZ.nextOf_tuple_item (s := { s with heap := h₁ }) (h1.extBut hs₁.extBut D.i1z) (hl1.extBut hs₁.extBut D.l1z) hx fun h₂ h1₂ hs₂ => wpAny_pure ?_)
    refine wpAny_pure ?_
    refine wpAny_bind (wpAny_bind (wpAny_holding ?_))
    show wpAny _ _ (Builtin.SmallTypes.nextOf (.ref i2) >>= _) _ _ _
    refine wpAny_bind (RZ.nextOf_tuple_item (s := { s with heap := h₂ }) ((h2.extBut hs₁.extBut D.i2z).extBut hs₂.extBut D.i12.symm) ((hl2.extBut hs₁.extBut D.l2z).extBut hs₂.extBut D.l2i1) hy fun h₃ h2₃ hs₃ => wpAny_pure ?_)
    refine wpAny_pure (wpAny_pure ?_)
    show wpAny _ _ (newTuple [x, y] >>= _) _ _ _
    exact wpAny_bind (rest h₃ (by rw [hs₃.1, hs₂.1, hs₁.1]) (hs₃.extBut _ _ D.i2z.symm (hs₂.extBut _ _ D.i1z.symm hz₁)) (fun c o c1 c2 c3 e => hs₃.extBut _ _ c3 (hs₂.extBut _ _ c2 (hs₁.extBut _ _ c1 e))) (h1₂.extBut hs₃.extBut D.i12) h2₃)
/-- the end, a tuple still out; strict: both end at once -/
theorem end_held {z TI TO T i1 i2 l1 l2 : Addr} {f st : Bool} {oT : Obj} {k1 k2 : Nat} {xs ys : Array Value} {Q : Fin → Shared → Prop} (hh : A.handled = none) (D : ZipApart z TI TO i1 i2 l1 l2)
    (hz : ZO s.heap z TI TO (rawInt T) f st) (hT : s.heap.get? T = some oT) (hTI : IsPair s.heap TI (.ref i1) (.ref i2))
    (h1 : s.heap.IsTupleIter i1 l1 k1) (h2 : s.heap.IsTupleIter i2 l2 k2) (hl1 : s.heap.IsTuple l1 xs) (hl2 : s.heap.IsTuple l2 ys) (hend : if st = true then xs[k1]? = none ∧ ys[k2]? = none else xs[k1]? = none ∨ ys[k2]? = none)
    (hE : ∀ h' e, (∀ c o, c ≠ z → c ≠ i1 → c ≠ i2 → s.heap.get? c = some o → h'.get? c = some o) → (∃ o, h'.get? e = some o ∧ o.cls = .type "StopIteration") → E (.ref e) { s with heap := h' }) :
    wpAny (model prog w) A (Builtin.«zip.__next__» ⟨[.ref z], []⟩) Q E s := by
  show wpAny _ _ (field (.ref z) 2 >>= _) _ _ _
  refine wpAny_bind (wpAny_field hz rfl (x := .bool st) rfl ?_)
  show wpAny _ _ (field (.ref z) 3 >>= _) _ _ _
  refine wpAny_bind (wpAny_field hz rfl (x := .ref TI) rfl ?_)
  refine wpAny_bind (wpAny_seqItems hTI rfl ?_)
  show wpAny _ _ (Builtin.SmallTypes.ownedTupleIsFree (.ref z) >>= _) _ _ _
  refine wpAny_bind (free_held hz hT fun h₁ hz₁ hs₁ => ?_)
  simp only [Bool.false_eq_true, if_false]
  refine wpAny_bind ?_
  rw [← Array.forIn_toList]
  simp only [List.forIn_cons, List.forIn_nil]
  refine wpAny_bind (wpAny_bind (wpAny_holding ?_))
  cases st with
  | true =>
    obtain ⟨hx, hy⟩ := hend
    show wpAny _ _ (Builtin.SmallTypes.nextOrEnd (.ref i1)) _ _ _
    refine ZS.nextOrEnd_end (s := { s with heap := h₁ }) hh (h1.extBut hs₁.extBut D.i1z) (hl1.extBut hs₁.extBut D.l1z) hx fun h₂ hs₂ => ?_
    refine wpAny_bind (wpAny_bind ?_)
    refine wpAny_bind ?_
    show wpAny _ _ (Builtin.SmallTypes.nextOrEnd (.ref i2) >>= _) _ _ _
    refine wpAny_bind (ZS.nextOrEnd_end (s := { s with heap := h₂ }) hh ((h2.extBut hs₁.extBut D.i2z).extBut hs₂ D.i12.symm) ((hl2.extBut hs₁.extBut D.l2z).extBut hs₂ D.l2i1) hy fun h₄ hs₄ => ?_)
    refine wpAny_pure ?_
    refine wpAny_pure ?_
    refine wpAny_bind (wpAny_rule ?_)
    show wpAny _ _ (newExc (.type "StopIteration") [] >>= _) _ _ _
    refine wpAny_bind ?_
    simp only [newExc, newTuple]
    refine wpAny_bind (wpAny_newObj_type ?_ (by size_fits))
    refine wpAny_bind (m := firstArgMember _ _) (wpAny_of_eq (a := Value.none) (by first | rfl | (simp only [firstArgMember]; rfl)) ?_)
    refine wpAny_newObj_type ?_ (by size_fits)
    simp only [raiseNew]
    refine wpAny_bind (wpAny_handled ?_)
    rw [hh]
    refine wpAny_bind (wpAny_pure (wpAny_throw ?_))
    refine hE _ _ (fun c o c1 c2 c3 x => Heap.get?_push_of_some _ (Heap.get?_push_of_some _ (hs₄ _ _ c3 (hs₂ _ _ c2 (hs₁.extBut _ _ c1 x))))) ⟨_, Heap.get?_push_size _ rfl, rfl⟩
  | false =>
    show wpAny _ _ (Builtin.SmallTypes.nextOf (.ref i1) >>= _) _ _ _
    cases hx : xs[k1]? with
    | none =>
      refine wpAny_bind (RZ.nextOf_tuple_end (s := { s with heap := h₁ }) hh (h1.extBut hs₁.extBut D.i1z) (hl1.extBut hs₁.extBut D.l1z) hx fun h₂ e hs₂ he => ?_)
      exact hE h₂ e (fun c o c1 c2 _ x => hs₂ _ _ c2 (hs₁.extBut _ _ c1 x)) he
    | some x =>
      have hy : ys[k2]? = none := by rcases hend with h | h; rw [hx] at h; cases h; exact h
      refine wpAny_bind (RZ.nextOf_tuple_item (s := { s with heap := h₁ }) (h1.extBut hs₁.extBut D.i1z) (hl1.extBut hs₁.extBut D.l1z) hx fun h₂ h1₂ hs₂ => wpAny_pure ?_)
      refine wpAny_pure ?_
      refine wpAny_bind (wpAny_bind (wpAny_holding ?_))
      show wpAny _ _ (Builtin.SmallTypes.nextOf (.ref i2) >>= _) _ _ _
      refine wpAny_bind (RZ.nextOf_tuple_end (s := { s with heap := h₂ }) hh ((h2.extBut hs₁.extBut D.i2z).extBut hs₂.extBut D.i12.symm) ((hl2.extBut hs₁.extBut D.l2z).extBut hs₂.extBut D.l2i1) hy fun h₃ e hs₃ he => ?_)
      exact hE h₃ e (fun c o c1 c2 c3 x => hs₃ _ _ c3 (hs₂.extBut _ _ c2 (hs₁.extBut _ _ c1 x))) he
theorem pyNext_held {z TI TO T i1 i2 l1 l2 : Addr} {f st : Bool} {oT : Obj} {k1 k2 : Nat} {xs ys : Array Value} {x y : Value} {Q : Option Value → Shared → Prop} (D : ZipApart z TI TO i1 i2 l1 l2)
    (hz : ZO s.heap z TI TO (rawInt T) f st) (hT : s.heap.get? T = some oT) (hTI : IsPair s.heap TI (.ref i1) (.ref i2))
    (h1 : s.heap.IsTupleIter i1 l1 k1) (h2 : s.heap.IsTupleIter i2 l2 k2) (hl1 : s.heap.IsTuple l1 xs) (hl2 : s.heap.IsTuple l2 ys) (hx : xs[k1]? = some x) (hy : ys[k2]? = some y)
    (hQ : ∀ h', ZO h' z TI TO (rawInt T) true st → h'.IsTupleIter i1 l1 (k1 + 1) → h'.IsTupleIter i2 l2 (k2 + 1) → IsPair h' s.heap.objs.size x y → h'.objs.size = s.heap.objs.size + 1 →
      (∀ c o, c ≠ z → c ≠ i1 → c ≠ i2 → s.heap.get? c = some o → h'.get? c = some o) → Q (some (.ref s.heap.objs.size)) { s with heap := h' }) :
    wpAny (model prog w) A (pyNext (.ref z)) Q E s := by
  have hTy : s.TypeIs (.ref z) "zip" := ⟨_, hz, rfl⟩
  unfold pyNext
  exact wpAny_bind (wpAny_attempt (wpAny_callSpecial?_slot (name := Str.ofString "__next__") hTy F.slot_zip_next
    (wpAny_call_entry F.slot_zip_next hTy F.entry_zip_next
      (next_held D hz hT hTI h1 h2 hl1 hl2 hx hy fun h' a1 a2 a3 a4 a5 a6 => wpAny_pure (hQ h' a1 a2 a3 a4 a5 a6)) (F.args_zip_next_1 _))))
theorem pyNext_endH {z TI TO T i1 i2 l1 l2 : Addr} {f st : Bool} {oT : Obj} {k1 k2 : Nat} {xs ys : Array Value} {Q : Option Value → Shared → Prop} (hh : A.handled = none) (D : ZipApart z TI TO i1 i2 l1 l2)
    (hz : ZO s.heap z TI TO (rawInt T) f st) (hT : s.heap.get? T = some oT) (hTI : IsPair s.heap TI (.ref i1) (.ref i2))
    (h1 : s.heap.IsTupleIter i1 l1 k1) (h2 : s.heap.IsTupleIter i2 l2 k2) (hl1 : s.heap.IsTuple l1 xs) (hl2 : s.heap.IsTuple l2 ys) (hend : if st = true then xs[k1]? = none ∧ ys[k2]? = none else xs[k1]? = none ∨ ys[k2]? = none)
    (hQ : ∀ h', (∀ c o, c ≠ z → c ≠ i1 → c ≠ i2 → s.heap.get? c = some o → h'.get? c = some o) → Q none { s with heap := h' }) : wpAny (model prog w) A (pyNext (.ref z)) Q E s := by
  have hTy : s.TypeIs (.ref z) "zip" := ⟨_, hz, rfl⟩
  unfold pyNext
  refine wpAny_bind (wpAny_attempt (wpAny_callSpecial?_slot (name := Str.ofString "__next__") hTy F.slot_zip_next
    (wpAny_call_entry F.slot_zip_next hTy F.entry_zip_next (end_held hh D hz hT hTI h1 h2 hl1 hl2 hend fun h' e hk he => ?_) (F.args_zip_next_1 _))))
  obtain ⟨o, ho, hc⟩ := he
  refine wpAny_bind (wpAny_isInstance (T := "StopIteration") (b := true) ⟨o, ho, hc⟩ isSubtype_stop ?_)
  exact wpAny_pure (hQ _ hk)
end
/-- a zip behind i draws; S: the list that is filled -/
structure LZ (st : Bool) (z TI TO i1 i2 a b S : Addr) (xs ys : Array Value) (i : Nat) (h : Heap) : Prop where
  zz : (ZO h z TI TO .none false st ∧ ∃ x y, IsPair h TO x y) ∨ ∃ (T : Addr) (f : Bool) (oT : Obj), ZO h z TI TO (rawInt T) f st ∧ h.get? T = some oT ∧ T ≠ S ∧ T ≠ z ∧ T ≠ i1 ∧ T ≠ i2
  ti : IsPair h TI (.ref i1) (.ref i2)
  a1 : h.IsTupleIter i1 a i
  a2 : h.IsTupleIter i2 b i
  l1 : h.IsTuple a xs
  l2 : h.IsTuple b ys
theorem LZ.keep {st : Bool} {z TI TO i1 i2 a b S : Addr} {xs ys : Array Value} {i : Nat} {h h' : Heap} (Z : LZ st z TI TO i1 i2 a b S xs ys i h) (k : ∀ c o, c ≠ S → h.get? c = some o → h'.get? c = some o) (n : z ≠ S ∧ TI ≠ S ∧ TO ≠ S ∧ i1 ≠ S ∧ i2 ≠ S ∧ a ≠ S ∧ b ≠ S) : LZ st z TI TO i1 i2 a b S xs ys i h' where
  zz := by
    rcases Z.zz with ⟨q, x, y, p⟩ | ⟨T, f, oT, q, p, r⟩
    · exact .inl ⟨k _ _ n.1 q, x, y, k _ _ n.2.2.1 p⟩
    · exact .inr ⟨T, f, oT, k _ _ n.1 q, k _ _ r.1 p, r⟩
  ti := k _ _ n.2.1 Z.ti
  a1 := Z.a1.at fun o e => k _ o n.2.2.2.1 e
  a2 := Z.a2.at fun o e => k _ o n.2.2.2.2.1 e
  l1 := Z.l1.at fun o e => k _ o n.2.2.2.2.2.1 e
  l2 := Z.l2.at fun o e => k _ o n.2.2.2.2.2.2 e
section
variable {prog : Program} {w : World} {A : Around} {E : Value → Shared → Prop} {s : Shared}
theorem lz_item {st : Bool} {z TI TO i1 i2 a b S : Addr} {xs ys : Array Value} {i : Nat} {x y : Value} {oS : Obj} {Q : Option Value → Shared → Prop} (D : ZipApart z TI TO i1 i2 a b) (Z : LZ st z TI TO i1 i2 a b S xs ys i s.heap) (hS : s.heap.get? S = some oS)
    (hx : xs[i]? = some x) (hy : ys[i]? = some y)
    (hQ : ∀ h', LZ st z TI TO i1 i2 a b S xs ys (i + 1) h' → IsPair h' s.heap.objs.size x y → h'.objs.size = s.heap.objs.size + 1 → (∀ c o, c ≠ z → c ≠ TO → c ≠ i1 → c ≠ i2 → s.heap.get? c = some o → h'.get? c = some o) → Q (some (.ref s.heap.objs.size)) { s with heap := h' }) :
    wpAny (model prog w) A (pyNext (.ref z)) Q E s := by
  have lS : S < s.heap.objs.size := Heap.lt_size hS
  have li1 : i1 < s.heap.objs.size := let ⟨_, e, _⟩ := Z.a1; Heap.lt_size e
  have li2 : i2 < s.heap.objs.size := let ⟨_, e, _⟩ := Z.a2; Heap.lt_size e
  rcases Z.zz with ⟨hz, p, q, hTO⟩ | ⟨T, f, oT, hz, hT, n1, n2, n3, n4⟩
  · have lz : z < s.heap.objs.size := Heap.lt_size hz
    have fin : ∀ h', ZO h' z TI TO (rawInt s.heap.objs.size) false st → IsPair h' TO x y → h'.IsTupleIter i1 a (i + 1) → h'.IsTupleIter i2 b (i + 1) → IsPair h' s.heap.objs.size x y → h'.objs.size = s.heap.objs.size + 1 →
        (∀ c o, c ≠ z → c ≠ TO → c ≠ i1 → c ≠ i2 → s.heap.get? c = some o → h'.get? c = some o) → Q (some (.ref s.heap.objs.size)) { s with heap := h' } := fun h' z' _ a1 a2 hp hs hk =>
      hQ h' ⟨.inr ⟨_, false, _, z', hp, Nat.ne_of_gt lS, Nat.ne_of_gt lz, Nat.ne_of_gt li1, Nat.ne_of_gt li2⟩, hk _ _ D.TIz D.TITO D.TIi1 D.TIi2 Z.ti, a1, a2, Z.l1.at fun o e => hk _ o D.l1z D.l1TO D.l1i1 D.l1i2 e, Z.l2.at fun o e => hk _ o D.l2z D.l2TO D.l2i1 D.l2i2 e⟩ hp hs hk
    cases st with
    | true => exact ZS.pyNext_item D hz Z.ti hTO Z.a1 Z.a2 Z.l1 Z.l2 hx hy fin
    | false => exact RZ.pyNext_zipT_item D hz Z.ti hTO Z.a1 Z.a2 Z.l1 Z.l2 hx hy fin
  · refine pyNext_held D hz hT Z.ti Z.a1 Z.a2 Z.l1 Z.l2 hx hy fun h' z' a1 a2 hp hs hk => ?_
    exact hQ h' ⟨.inr ⟨T, true, oT, z', hk _ _ n2 n3 n4 hT, n1, n2, n3, n4⟩, hk _ _ D.TIz D.TIi1 D.TIi2 Z.ti, a1, a2, Z.l1.at fun o e => hk _ o D.l1z D.l1i1 D.l1i2 e, Z.l2.at fun o e => hk _ o D.l2z D.l2i1 D.l2i2 e⟩ hp hs fun c o c1 _ c3 c4 e => hk c o c1 c3 c4 e
theorem lz_done {st : Bool} {z TI TO i1 i2 a b S : Addr} {xs ys : Array Value} {i : Nat} {Q : Option Value → Shared → Prop} (hh : A.handled = none) (D : ZipApart z TI TO i1 i2 a b) (Z : LZ st z TI TO i1 i2 a b S xs ys i s.heap)
    (hx : xs[i]? = none) (hy : ys[i]? = none) (hQ : ∀ h', (∀ c o, c ≠ z → c ≠ TO → c ≠ i1 → c ≠ i2 → s.heap.get? c = some o → h'.get? c = some o) → Q none { s with heap := h' }) : wpAny (model prog w) A (pyNext (.ref z)) Q E s := by
  rcases Z.zz with ⟨hz, p, q, hTO⟩ | ⟨T, f, oT, hz, hT, n1, n2, n3, n4⟩
  · cases st with
    | true => exact ZS.pyNext_end hh D hz Z.ti hTO Z.a1 Z.a2 Z.l1 Z.l2 hx hy hQ
    | false => exact RZ.pyNext_zipT_end hh D hz Z.ti hTO Z.a1 Z.a2 Z.l1 Z.l2 (.inl hx) hQ
  · refine pyNext_endH hh D hz hT Z.ti Z.a1 Z.a2 Z.l1 Z.l2 ?_ fun h' hk => hQ h' fun c o c1 _ c3 c4 e => hk c o c1 c3 c4 e
    cases st with
    | true => exact ⟨hx, hy⟩
    | false => exact .inl hx
end
theorem nhi {a lo z : Addr} (h : lo < a) (l : z ≤ lo) : a ≠ z := Nat.ne_of_gt (Nat.lt_of_le_of_lt l h)
/-- the pairs, one behind another -/
structure PG (xs ys : Array Value) (lo : Addr) (h : Heap) (as : List Addr) : Prop where
  rise : as.Pairwise (· < ·)
  above : ∀ a ∈ as, lo < a
  pairs : ∀ (j : Nat) (a : Addr), as[j]? = some a → ∃ x y, xs[j]? = some x ∧ ys[j]? = some y ∧ IsPair h a x y
theorem PG.there {xs ys : Array Value} {lo : Addr} {h : Heap} {as : List Addr} (g : PG xs ys lo h as) {a : Addr} (ha : a ∈ as) : a < h.objs.size := by
  obtain ⟨j, hj⟩ := List.mem_iff_getElem?.mp ha
  obtain ⟨_, _, _, _, e⟩ := g.pairs j a hj
  exact Heap.lt_size e
section
variable {prog : Program} {w : World} {A : Around} {s : Shared} {R : Result → Shared → Prop}
theorem lz_loop {st : Bool} {S z TI TO i1 i2 a b lo : Addr} {xs ys : Array Value} (hh : A.handled = none) (D : ZipApart z TI TO i1 i2 a b) (n : z ≠ S ∧ TI ≠ S ∧ TO ≠ S ∧ i1 ≠ S ∧ i2 ≠ S ∧ a ≠ S ∧ b ≠ S) (lz : z ≤ lo ∧ TO ≤ lo ∧ i1 ≤ lo ∧ i2 ≤ lo ∧ S ≤ lo)
    (el : xs.size = ys.size) (hn : xs.size ≤ sizeLine) (res : Value) {h₁ : Heap}
    (hR : ∀ h' tk acc c as, (∀ b o, b ≠ S → b ≠ z → b ≠ TO → b ≠ i1 → b ≠ i2 → h₁.get? b = some o → h'.get? b = some o) → h'.get? S = some { cls := .type "list", dict := none, data := .seq acc c, slots := #[] } → as.length = xs.size → PG xs ys lo h' as →
      acc.toList = as.map Value.ref → R (.ok (.ret res)) { s with heap := h', toks := tk }) :
    ∀ (k i : Nat) (h : Heap) (tk c : Nat) (acc : Array Value) (as : List Addr), xs.size - i = k → i ≤ xs.size → LZ st z TI TO i1 i2 a b S xs ys i h → (∀ b o, b ≠ S → b ≠ z → b ≠ TO → b ≠ i1 → b ≠ i2 → h₁.get? b = some o → h.get? b = some o) →
      h.get? S = some { cls := .type "list", dict := none, data := .seq acc c, slots := #[] } → acc.toList = as.map Value.ref → as.length = i → PG xs ys lo h as → lo < h.objs.size →
      codeAny (model prog w) A (.builtin "list.extend.loop" ⟨[.ref S, .ref z, res], []⟩) R { s with heap := h, toks := tk } := by
  intro k
  induction k with
  | zero =>
    intro i h tk c acc as hk hi Z hkeep hS hacc hal hG hIs
    refine codeAny_builtin PySem.F.entry_extend_loop ?_
    rw [Around.under_plainId PySem.F.plain_extend_loop _]
    show wpAny _ A.in1 (pyNext (.ref z) >>= _) _ _ _
    refine wpAny_bind (lz_done (s := { s with heap := h, toks := tk }) (A := A.in1) hh D Z (Array.getElem?_eq_none (by omega)) (Array.getElem?_eq_none (by omega)) fun h' he => ?_)
    refine wpAny_pure (hR h' tk acc c as (fun b o h1 h2 h3 h4 h5 e => he b o h2 h3 h4 h5 (hkeep b o h1 h2 h3 h4 h5 e)) (he S _ n.1.symm n.2.2.1.symm n.2.2.2.1.symm n.2.2.2.2.1.symm hS) (by omega) ⟨hG.rise, hG.above, fun j a hj => ?_⟩ hacc)
    obtain ⟨x, y, e1, e2, e3⟩ := hG.pairs j a hj
    have up := hG.above a (List.mem_of_getElem? hj)
    exact ⟨x, y, e1, e2, he a _ (nhi up lz.1) (nhi up lz.2.1) (nhi up lz.2.2.1) (nhi up lz.2.2.2.1) e3⟩
  | succ k ih =>
    intro i h tk c acc as hk hi Z hkeep hS hacc hal hG hIs
    have hlt : i < xs.size := by omega
    have hlt2 : i < ys.size := by omega
    have hx : xs[i]? = some xs[i] := Array.getElem?_eq_getElem hlt
    have hy : ys[i]? = some ys[i] := Array.getElem?_eq_getElem hlt2
    have hsz : acc.size = i := by rw [← Array.length_toList, hacc, List.length_map, hal]
    refine codeAny_builtin PySem.F.entry_extend_loop ?_
    rw [Around.under_plainId PySem.F.plain_extend_loop _]
    show wpAny _ A.in1 (pyNext (.ref z) >>= _) _ _ _
    refine wpAny_bind (lz_item (s := { s with heap := h, toks := tk }) D Z hS hx hy fun h' Z' ht hz hkp => ?_)
    dsimp only at ht hz hkp ⊢
    have hS' := hkp S _ n.1.symm n.2.2.1.symm n.2.2.2.1.symm n.2.2.2.2.1.symm hS
    have up : ∀ b o, b ≠ S → h'.get? b = some o → (h'.update S (Obj.mapSeq (·.push (Value.ref h.objs.size)))).get? b = some o := fun b o hb e => (Heap.get?_update_other _ _ (Ne.symm hb)).trans e
    have hSl : S < h.objs.size := Heap.lt_size hS
    show wpAny _ A.in1 (updateSeq S (·.push (Value.ref h.objs.size)) >>= _) _ _ _
    refine wpAny_bind ?_
    refine wpAny_updateSeq hS' rfl (wpAny_pure ⟨plainId_quiet PySem.F.plain_extend_loop _, ih (i + 1) _ tk _ (acc.push (Value.ref h.objs.size)) (as ++ [h.objs.size]) (by omega) hlt (Z'.keep up n)
      (fun b o h1 h2 h3 h4 h5 e => up b o h1 (hkp b o h2 h3 h4 h5 (hkeep b o h1 h2 h3 h4 h5 e))) (Heap.get?_update_self _ hS' rfl) (by rw [Array.toList_push, hacc, List.map_append]; rfl) (by rw [List.length_append, hal]; rfl) ⟨?_, ?_, ?_⟩ ?_⟩) (by rw [hsz]; omega) (by show (acc.push (Value.ref h.objs.size)).size ≤ sizeLine + 1; rw [Array.size_push, hsz]; omega)
    · refine List.pairwise_append.mpr ⟨hG.rise, List.pairwise_singleton _ _, fun a ha b hb => ?_⟩
      rw [List.mem_singleton.mp hb]
      exact hG.there ha
    · intro a ha
      rcases List.mem_append.mp ha with ha | ha
      · exact hG.above a ha
      · rw [List.mem_singleton.mp ha]; exact hIs
    · intro j b hj
      rcases Nat.lt_trichotomy j as.length with h1 | h1 | h1
      · rw [List.getElem?_append_left h1] at hj
        obtain ⟨x, y, e1, e2, e3⟩ := hG.pairs j b hj
        have hb := hG.above b (List.mem_of_getElem? hj)
        exact ⟨x, y, e1, e2, up b _ (nhi hb lz.2.2.2.2) (hkp b _ (nhi hb lz.1) (nhi hb lz.2.1) (nhi hb lz.2.2.1) (nhi hb lz.2.2.2.1) e3)⟩
      · subst h1
        have hb : h.objs.size = b := by simpa using hj
        subst hb
        exact ⟨_, _, by rw [hal]; exact hx, by rw [hal]; exact hy, up _ _ (Nat.ne_of_gt hSl) ht⟩
      · have hnone : (as ++ [h.objs.size])[j]? = none := List.getElem?_eq_none (by rw [List.length_append, List.length_singleton]; omega)
        rw [hnone] at hj; cases hj
    · have e : (h'.update S (Obj.mapSeq (·.push (Value.ref h.objs.size)))).get? h.objs.size = _ := up _ _ (Nat.ne_of_gt hSl) ht
      exact Nat.lt_trans hIs (Heap.lt_size e)
theorem zip_no_len : typeLookup (.type "zip") "__len__" = pure none := by rw [typeLookup_type, builtinLookup_eq_fast]; kernel_rfl
theorem zip_no_hint : typeLookup (.type "zip") "__length_hint__" = pure none := by rw [typeLookup_type, builtinLookup_eq_fast]; kernel_rfl
theorem iter_self {E : Value → Shared → Prop} {z TI TO : Addr} {f0 : Value} {f1 st : Bool} {Q : Value → Shared → Prop} (hz : ZO s.heap z TI TO f0 f1 st) (h : Q (.ref z) s) : wpAny (model prog w) A (pyIter (.ref z)) Q E s := by
  have hT : s.TypeIs (.ref z) "zip" := ⟨_, hz, rfl⟩
  refine wpAny_pyIter_slot hT F.slot_zip_iter (wpAny_call_entry F.slot_zip_iter hT F.entry_zip_iter ?_ (F.args_zip_iter_1 _))
  show wpAny _ _ (ret (.ref z)) _ _ s
  exact wpAny_pure ⟨_, rfl, "zip", _, hT, F.slot_zip_next.lookup, h⟩
/-- list(z): a zip that is new -/
theorem lz_call {E : Value → Shared → Prop} {st : Bool} {z TI TO i1 i2 a b : Addr} {xs ys : Array Value} {p q : Value} {Q : Value → Shared → Prop} (hh : A.handled = none) (D : ZipApart z TI TO i1 i2 a b) (hz : ZO s.heap z TI TO .none false st) (hTI : IsPair s.heap TI (.ref i1) (.ref i2)) (hTO : IsPair s.heap TO p q)
    (h1 : s.heap.IsTupleIter i1 a 0) (h2 : s.heap.IsTupleIter i2 b 0) (l1 : s.heap.IsTuple a xs) (l2 : s.heap.IsTuple b ys) (el : xs.size = ys.size) (hn : xs.size ≤ sizeLine)
    (hQ : ∀ h' tk acc c as, (∀ b o, b ≠ z → b ≠ TO → b ≠ i1 → b ≠ i2 → s.heap.get? b = some o → h'.get? b = some o) → h'.get? s.heap.objs.size = some { cls := .type "list", dict := none, data := .seq acc c, slots := #[] } → as.length = xs.size → PG xs ys s.heap.objs.size h' as →
      acc.toList = as.map Value.ref → Q (.ref s.heap.objs.size) { s with heap := h', toks := tk }) :
    wpAny (model prog w) A (call (.type "list") [.ref z]) Q E s := by
  have lt : ∀ {c : Addr} {o : Obj}, s.heap.get? c = some o → c < s.heap.objs.size := fun e => Heap.lt_size e
  have lz := lt hz
  have lTI := lt hTI
  have lTO := lt hTO
  have li1 : i1 < s.heap.objs.size := let ⟨_, e, _⟩ := h1; lt e
  have li2 : i2 < s.heap.objs.size := let ⟨_, e, _⟩ := h2; lt e
  have la : a < s.heap.objs.size := let ⟨_, e, _⟩ := l1; lt e
  have lb : b < s.heap.objs.size := let ⟨_, e, _⟩ := l2; lt e
  refine callType_codes (Q₁ := fun obj s₁ => obj = .ref s.heap.objs.size ∧ s₁ = { s with heap := s.heap.push { cls := .type "list", data := .seq #[] } }) PySem.F.called_list (PySem.F.typeCall_list_1 _) PySem.F.entry_list_init
    (code_list_new _ ⟨rfl, rfl⟩) fun obj s₁ e₁ => ?_
  obtain ⟨rfl, rfl⟩ := e₁
  have hS : (s.heap.push { cls := .type "list", data := .seq #[] }).get? s.heap.objs.size = some { cls := .type "list", data := .seq #[] } := Heap.get?_push_size _ rfl
  have pu : ∀ c o, s.heap.get? c = some o → (s.heap.push { cls := .type "list", data := .seq #[] }).get? c = some o := fun c o e => Heap.get?_push_of_some _ e
  have Z0 : LZ st z TI TO i1 i2 a b s.heap.objs.size xs ys 0 s.heap := ⟨.inl ⟨hz, p, q, hTO⟩, hTI, h1, h2, l1, l2⟩
  have ns : z ≠ s.heap.objs.size ∧ TI ≠ s.heap.objs.size ∧ TO ≠ s.heap.objs.size ∧ i1 ≠ s.heap.objs.size ∧ i2 ≠ s.heap.objs.size ∧ a ≠ s.heap.objs.size ∧ b ≠ s.heap.objs.size := ⟨Nat.ne_of_lt lz, Nat.ne_of_lt lTI, Nat.ne_of_lt lTO, Nat.ne_of_lt li1, Nat.ne_of_lt li2, Nat.ne_of_lt la, Nat.ne_of_lt lb⟩
  refine ⟨⟨_, hS, rfl⟩, PySem.F.args_list_init_2 _ _, ?_⟩
  generalize hSe : s.heap.objs.size = S at *
  show wpAny _ _ (do let old ← Builtin.List.listItems (.ref S); Builtin.List.listUpdate (.ref S) (fun _ => #[]); letGo old.toList.reverse; Builtin.List.listExtendWith (.ref S) (.ref z) .none) _ _ _
  refine wpAny_bind ?_
  unfold Builtin.List.listItems
  refine wpAny_bind (wpAny_seqItems hS rfl (wpAny_pure ?_))
  show wpAny _ _ (updateSeq S (fun _ => #[]) >>= fun _ => letGo (#[] : Array Value).toList.reverse >>= fun _ => Builtin.List.listExtendWith (.ref S) (.ref z) .none) _ _ _
  refine wpAny_bind (wpAny_updateSeq hS rfl ?_)
  have hS₂ := Heap.get?_update_self (Obj.mapSeq (fun _ => (#[] : Array Value))) hS rfl
  have oth : ∀ b o, b ≠ S → s.heap.get? b = some o → ((s.heap.push { cls := .type "list", data := .seq #[] }).update S (Obj.mapSeq (fun _ => (#[] : Array Value)))).get? b = some o :=
    fun b o hb e => (Heap.get?_update_other _ _ (Ne.symm hb)).trans (pu b o e)
  refine wpAny_bind (wpAny_letGo ?_)
  have hz2 := oth z _ ns.1 hz
  unfold Builtin.List.listExtendWith
  refine wpAny_bind (wpAny_typeOf (T := "zip") ⟨_, hz2, rfl⟩ ?_)
  have n1 : Builtin.List.listSameRef (.ref S) (.ref z) = false := by simp [Builtin.List.listSameRef, Ne.symm ns.1]
  have n2 : (Value.type "zip" == Value.type "list") = false := by decide
  have n3 : (Value.type "zip" == Value.type "tuple") = false := by decide
  simp only [n1, n2, n3, Bool.or_false, Bool.false_eq_true, if_false]
  refine wpAny_bind (iter_self hz2 ?_)
  refine wpAny_bind (wpAny_holding ?_)
  unfold Builtin.List.listLengthHint
  refine wpAny_bind (wpAny_specialOf (T := "zip") ⟨_, hz2, rfl⟩ zip_no_len ?_)
  show wpAny _ _ (specialOf (Value.ref z) (Str.ofString "__length_hint__") >>= _) _ _ _
  refine wpAny_bind (wpAny_specialOf (T := "zip") ⟨_, hz2, rfl⟩ zip_no_hint ?_)
  refine wpAny_pure ?_
  show wpAny _ _ (rule "list.extend.makes-room" >>= fun _ => Builtin.List.listTouch (.ref S) >>= fun _ =>
    again (.builtin "list.extend.loop" ⟨[.ref S, .ref z, .none], []⟩)) _ _ _
  refine wpAny_bind (wpAny_rule ?_)
  refine wpAny_bind ?_
  show wpAny _ _ (updateSeq S (·.push .none) >>= fun _ => updateSeq S (·.pop)) _ _ _
  refine wpAny_bind (wpAny_updateSeq hS₂ rfl ?_)
  have hS₃ := Heap.get?_update_self (Obj.mapSeq (·.push Value.none)) hS₂ rfl
  refine wpAny_updateSeq (hz := by seq_fits) hS₃ rfl ?_
  have hS₄ := Heap.get?_update_self (Obj.mapSeq (·.pop)) hS₃ rfl
  have oth4 : ∀ b o, b ≠ S → s.heap.get? b = some o → ((((s.heap.push { cls := .type "list", data := .seq #[] }).update S (Obj.mapSeq (fun _ => (#[] : Array Value)))).update S (Obj.mapSeq (·.push Value.none))).update S (Obj.mapSeq (·.pop))).get? b = some o :=
    fun b o hb e => (Heap.get?_update_other _ _ (Ne.symm hb)).trans ((Heap.get?_update_other _ _ (Ne.symm hb)).trans (oth b o hb e))
  refine wpAny_pure ⟨plainId_quiet PySem.F.plain_extend_loop _, lz_loop (A := A.in1) (s := s) (st := st) (lo := S) (h₁ := s.heap) hh D ns ⟨Nat.le_of_lt lz, Nat.le_of_lt lTO, Nat.le_of_lt li1, Nat.le_of_lt li2, Nat.le_refl _⟩ el hn .none (fun h' tk acc c as hk hS' hl hG hacc => ?_)
    xs.size 0 _ _ _ #[] [] (Nat.sub_zero _) (Nat.zero_le _) (Z0.keep oth4 ns) (fun b o hb _ _ _ _ e => oth4 b o hb e) hS₄ rfl rfl ⟨List.Pairwise.nil, (fun _ ha => nomatch ha), (fun j a hj => by simp at hj)⟩ (Heap.lt_size hS₄)⟩
  exact ⟨rfl, hQ h' tk acc c as (fun b o n1 n2 n3 n4 e => hk b o (Nat.ne_of_lt (lt e)) n1 n2 n3 n4 e) hS' hl hG hacc⟩
end
/-- pairs laid one behind another -/
inductive Grow : Hp → Hp → List Addr → List (V × V) → Prop
  | nil (H : Hp) : Grow H H [] []
  | cons {H H' : Hp} {ps : List Addr} {vs : List (V × V)} {p : Addr} {x y : V} : H p = none → Grow (upd H p (.tup [x, y])) H' ps vs → Grow H H' (p :: ps) ((x, y) :: vs)
/-- a record of ours that nobody tracks gets tracked -/
theorem track {X : Cx} {pins : List (Addr × Obj)} {σ : L2.St} {H : Hp} {s : Shared} {T : Addr} {ob : HO} (I : Inv X pins σ H s) (hf : FpOk X pins H T) (new : ObjOk X.prog X.w (upd H T ob) s.heap T ob) : Inv X pins σ (upd H T ob) s := by
  have hn : H T = none := hf.1
  refine I.step (g' := s.gens) (d' := s.drawn) (t' := s.toks) (h' := s.heap) (ch := [T]) (fun b hb => ?_) (fun b o _ _ hc e _ => e) (fun b o _ _ hc e _ => ⟨o.slots, e⟩)
    (fun b o hc e n => ?_) (fun b o hc e => ⟨o, e⟩) (fun b xs e => ?_) (fun b o u e => ?_) (fun b ps e => ⟨#[], ?_⟩) (fun m hm => hm) (fun b u e => ?_) I.bare
  · have e : b = T := by simpa using hb
    subst e
    exact ⟨hf.2.2.2.1, hf.2.1, hf.2.2.2.2.1, hf.2.2.2.2.2⟩
  · rw [upd_ne (fun z => hc (by simp [z]))]; exact n
  · rw [upd_ne (ne_of_none e hn)]; exact e
  · rw [upd_ne (ne_of_none e hn)]; exact e
  · rw [upd_ne (ne_of_none e hn), e]; simp
  · by_cases hb : b = T
    · subst hb
      rw [upd_same] at e
      cases e
      exact new
    · rw [upd_ne hb] at e
      exact (I.hok b u e).stay (fun c v hc q => q) (fun c q => by rw [upd_ne (ne_of_none q hn)]; exact q) fun c xs q => by rw [upd_ne (ne_of_none q hn)]; exact q
theorem tracks {X : Cx} {pins : List (Addr × Obj)} {σ : L2.St} {s : Shared} : ∀ (as : List Addr) (vs : List (V × V)) (H : Hp), Inv X pins σ H s → as.Nodup → (∀ a ∈ as, FpOk X pins H a) → as.length = vs.length →
    (∀ (j : Nat) (a : Addr) (v : V × V), as[j]? = some a → vs[j]? = some v → ∃ u u2, IsPair s.heap a u u2 ∧ RelV v.1 u ∧ RelV v.2 u2) → ∃ H', Inv X pins σ H' s ∧ Grow H H' as vs ∧ ∀ b, b ∉ as → H' b = H b
  | [], [], H, I, _, _, _, _ => ⟨H, I, .nil H, fun _ _ => rfl⟩
  | [], _ :: _, _, _, _, _, e, _ => by simp at e
  | _ :: _, [], _, _, _, _, e, _ => by simp at e
  | a :: as, (x, y) :: vs, H, I, nd, hf, el, hp => by
    obtain ⟨n1, n2⟩ := List.nodup_cons.mp nd
    obtain ⟨u, u2, ht, r1, r2⟩ := hp 0 a (x, y) rfl rfl
    have fa := hf a List.mem_cons_self
    have new : ObjOk X.prog X.w (upd H a (.tup [x, y])) s.heap a (.tup [x, y]) :=
      ⟨by show 2 ≤ sizeLine; decide, [u, u2], .cons r1 (.cons r2 .nil), ⟨_, ht, rfl, _, rfl⟩⟩
    obtain ⟨H', I', g, o⟩ := tracks as vs (upd H a (.tup [x, y])) (track I fa new) n2 (fun b hb => by
      have f := hf b (List.mem_cons_of_mem _ hb)
      refine ⟨?_, f.2⟩
      rw [upd_ne (fun z => n1 (by rw [← z]; exact hb))]; exact f.1) (by simpa using el) fun j b v h1 h2 => hp (j + 1) b v (by simpa using h1) (by simpa using h2)
    refine ⟨H', I', .cons fa.1 g, fun b hb => ?_⟩
    rw [o b fun z => hb (List.mem_cons_of_mem _ z), upd_ne (fun z => hb (by rw [z]; exact List.mem_cons_self))]
/-- what list(zip(..)) wants -/
def tLz (K : PySem.W.Frag) (ta : TA) : TE := fun σ H Q => ta σ H fun vs H1 => ∃ a b xs ys, vs = [.ref a, .ref b] ∧ SqT K H1 a xs ∧ SqT K H1 b ys ∧ xs.length = ys.length ∧
  ∀ (as : List Addr) (Hm : Hp) (S : Addr), Grow H1 Hm as (xs.zip ys) → Hm S = none → Q (.ref S) (upd Hm S (.lst (as.map V.ref)))
theorem vals_refs : ∀ as : List Addr, Vals (as.map V.ref) (as.map Value.ref)
  | [] => .nil
  | a :: as => .cons rfl (vals_refs as)
theorem lz_fin {X : Cx} {pins : List (Addr × Obj)} {σ : L2.St} {H1 : Hp} {s1 : Shared} {E : Value → Shared → Prop} {st : Bool} {a b : Addr} {xs ys : List V} {Q : VK} (hc : X.calm = true) (I1 : Inv X pins σ H1 s1) (hqx : SqT X.K H1 a xs) (hqy : SqT X.K H1 b ys) (el : xs.length = ys.length)
    (q : ∀ (as : List Addr) (Hm : Hp) (S : Addr), Grow H1 Hm as (xs.zip ys) → Hm S = none → Q (.ref S) (upd Hm S (.lst (as.map V.ref)))) {h' : Heap} (hz : ZO h' (s1.heap.objs.size + 4) (s1.heap.objs.size + 2) (s1.heap.objs.size + 3) .none false st)
    (hTI : IsPair h' (s1.heap.objs.size + 2) (.ref s1.heap.objs.size) (.ref (s1.heap.objs.size + 1))) (hTO : IsPair h' (s1.heap.objs.size + 3) .none .none) (h1 : h'.IsTupleIter s1.heap.objs.size a 0) (h2 : h'.IsTupleIter (s1.heap.objs.size + 1) b 0) (hsz : h'.objs.size = s1.heap.objs.size + 5)
    (hk : ∀ c o, s1.heap.get? c = some o → h'.get? c = some o) : wpAny (model X.prog X.w) X.A (call (.type "list") [.ref (s1.heap.objs.size + 4)]) (EP X pins σ Q) E { s1 with heap := h' } := by
  obtain ⟨its, rv, p1, z1⟩ := I1.tuple hqx
  obtain ⟨its2, rv2, p2, z2⟩ := I1.tuple hqy
  obtain ⟨o1, ho1, k1⟩ := id p1
  obtain ⟨o2, ho2, k2⟩ := id p2
  have e1 := rv.length
  have e2 := rv2.length
  refine lz_call (s := { s1 with heap := h' }) (st := st) (xs := its.toArray) (ys := its2.toArray) (I1.ok.hd hc) (PySem.W.ktu_apart s1.heap.objs.size a b (Heap.lt_size ho1) (Heap.lt_size ho2)) hz hTI hTO h1 h2 ⟨o1, hk _ _ ho1, k1⟩ ⟨o2, hk _ _ ho2, k2⟩ (by simp; omega) (by simp; omega)
    fun h'' tk acc c as hk2 hS hl hG hacc => ?_
  show EP X pins σ Q (.ref h'.objs.size) _
  have hS : h''.get? h'.objs.size = some { cls := .type "list", dict := none, data := .seq acc c, slots := #[] } := hS
  have hG : PG its.toArray its2.toArray h'.objs.size h'' as := hG
  have hkk : ∀ c o, s1.heap.get? c = some o → h''.get? c = some o := fun c o e => by
    have l := Heap.lt_size e
    exact hk2 c o (Nat.ne_of_lt (Nat.lt_of_lt_of_le l (Nat.le_add_right _ _))) (Nat.ne_of_lt (Nat.lt_of_lt_of_le l (Nat.le_add_right _ _))) (Nat.ne_of_lt l) (Nat.ne_of_lt (Nat.lt_of_lt_of_le l (Nat.le_add_right _ _))) (hk c o e)
  have I2 : Inv X pins σ H1 { s1 with heap := h'', toks := tk } := I1.kept (t' := tk) hkk
  have fr : ∀ c, s1.heap.objs.size ≤ c → FpOk X pins H1 c := fun c hc => I1.fpOk hc (I1.hok.fresh hc)
  have hle : s1.heap.objs.size ≤ h'.objs.size := by rw [hsz]; exact Nat.le_add_right _ _
  have lo : ∀ c ∈ as, s1.heap.objs.size ≤ c ∧ c ≠ h'.objs.size := fun c hc => ⟨Nat.le_trans hle (Nat.le_of_lt (hG.above c hc)), Nat.ne_of_gt (hG.above c hc)⟩
  obtain ⟨Hm, I3, g, oth⟩ := tracks as (xs.zip ys) H1 I2 (hG.rise.imp fun h => Nat.ne_of_lt h) (fun c hc => fr c (lo c hc).1) (by rw [hl, List.length_zip, ← el]; simp; omega) (fun j c v hj hv => by
    obtain ⟨x, y, ex, ey, hp⟩ := hG.pairs j c hj
    rw [List.getElem?_zip_eq_some] at hv
    obtain ⟨u, hu, ru⟩ := rv.get hv.1
    obtain ⟨u2, hu2, ru2⟩ := rv2.get hv.2
    have ex : its[j]? = some x := by simpa using ex
    have ey : its2[j]? = some y := by simpa using ey
    rw [hu] at ex; rw [hu2] at ey
    cases ex; cases ey
    exact ⟨x, y, hp, ru, ru2⟩)
  have hSn : Hm h'.objs.size = none := by
    rw [oth _ fun z => (lo _ z).2 rfl]
    exact I1.hok.fresh hle
  have fS := fr h'.objs.size hle
  have new : ObjOk X.prog X.w (upd Hm h'.objs.size (.lst (as.map V.ref))) h'' h'.objs.size (.lst (as.map V.ref)) := by
    refine ⟨by rw [List.length_map, hl]; simp; omega, as.map Value.ref, c, vals_refs as, ?_⟩
    rw [← hacc, Array.toArray_toList]; exact hS
  exact ⟨.ref h'.objs.size, _, track I3 ⟨hSn, fS.2⟩ new, rfl, q as Hm _ g hSn⟩
theorem pe_lz {X : Cx} {e e2 : Expr} {ta : TA} {p p2 pos pos2 : Pos} (hc : X.calm = true) (hg : Gl X "list") (hm : X.mg "list" = none) (hgz : Gl X "zip") (hmz : X.mg "zip" = none) (ha : PA X [e, e2] ta)
    (hs : starEach [e, e2] X.env = (false, eval e X.env) :: starEach [e2] X.env := by rfl) (hpl : (backTo pos2 (starEach [e2] X.env)).any (·.1) = false := by rfl) :
    PE X (.Call (.Name "list" p) [.Call (.Name "zip" p2) [e, e2] [] pos2] [] pos) (tLz X.K ta) := by
  refine ⟨fun pins s σ H Q I h => ?_⟩
  refine Call_ (ld_blt I hg hm boot_list (PyProof.Rows.callWith_type1 (args_cons (thn (Q := fun v s1 => wpAny (model X.prog X.w) X.A (call (.type "list") [v]) (EP X pins σ Q) X.xe s1) ?_ fun x s1 hx => args_nil hx) (by rfl)) (by rfl)))
  refine Call_ (ld_blt I hgz hmz PyProof.Rows.boot_zip (PyProof.Rows.callWith_type1 (thn (ha.run pos2 pins s σ H _ I h) fun us s1 ⟨vs, H1, I1, r1, q1⟩ => ?_) hs hpl))
  obtain ⟨a, b, xs, ys, ex, hqx, hqy, el, q⟩ := q1
  subst ex
  cases r1 with
  | cons r rr =>
    cases rr with
    | cons r' rr =>
      cases rr
      cases r
      cases r'
      obtain ⟨its, rv, p1, _⟩ := I1.tuple hqx
      obtain ⟨its2, rv2, p2, _⟩ := I1.tuple hqy
      exact RZ.call_zipT (show s1.heap.IsTuple a its.toArray from p1) (show s1.heap.IsTuple b its2.toArray from p2) fun h' hz hTI hTO h1 h2 hsz hk => lz_fin hc I1 hqx hqy el q hz hTI hTO h1 h2 hsz hk
theorem pe_lzS {X : Cx} {e e2 : Expr} {ta : TA} {p p2 pos pos2 kp cp : Pos} {ck : Nat} (hc : X.calm = true) (hg : Gl X "list") (hm : X.mg "list" = none) (hgz : Gl X "zip") (hmz : X.mg "zip" = none) (ha : PA X [e, e2] ta)
    (hs : starEach [e, e2] X.env = (false, eval e X.env) :: starEach [e2] X.env := by rfl) (hpl : (backTo pos2 (starEach [e2] X.env)).any (·.1) = false := by rfl) :
    PE X (.Call (.Name "list" p) [.Call (.Name "zip" p2) [e, e2] [⟨some "strict", .Constant (.bool true) ck cp, kp⟩] pos2] [] pos) (tLz X.K ta) := by
  refine ⟨fun pins s σ H Q I h => ?_⟩
  refine Call_ (ld_blt I hg hm boot_list (PyProof.Rows.callWith_type1 (args_cons (thn (Q := fun v s1 => wpAny (model X.prog X.w) X.A (call (.type "list") [v]) (EP X pins σ Q) X.xe s1) ?_ fun x s1 hx => args_nil hx) (by rfl)) (by rfl)))
  refine ZS.Call_kw (ld_blt I hgz hmz PyProof.Rows.boot_zip ?_)
  have hs' : backTo pos2 (starEach [e, e2] X.env) = (false, eval e X.env) :: backTo pos2 (starEach [e2] X.env) := by rw [hs]; rfl
  refine ZS.callWith_tkw (by rw [hs']; show (false || (backTo pos2 (starEach [e2] X.env)).any (·.1)) = false; rw [hpl]; rfl) rfl ?_
  rw [hs']
  refine evalArgs_kwB rfl ?_
  rw [← hs']
  refine thn (ha.run pos2 pins s σ H _ I h) fun us s1 ⟨vs, H1, I1, r1, q1⟩ => ?_
  refine kws_cons ?_
  show wpAny _ _ (pure (Value.bool true)) _ _ _
  refine wpAny_pure (kws_nil ?_)
  show wpAny _ _ (call (.type "zip") us [("strict", .bool true)]) _ _ _
  obtain ⟨a, b, xs, ys, ex, hqx, hqy, el, q⟩ := q1
  subst ex
  cases r1 with
  | cons r rr =>
    cases rr with
    | cons r' rr =>
      cases rr
      cases r
      cases r'
      obtain ⟨its, rv, p1, _⟩ := I1.tuple hqx
      obtain ⟨its2, rv2, p2, _⟩ := I1.tuple hqy
      exact ZS.call_s (show s1.heap.IsTuple a its.toArray from p1) (show s1.heap.IsTuple b its2.toArray from p2) fun h' hz hTI hTO h1 h2 hsz hk => lz_fin hc I1 hqx hqy el q hz hTI hTO h1 h2 hsz hk
theorem grow_reps {G : Glb} {μ : Mu} {M : Mk} {h : Hea} {H H' : Hp} {as : List Addr} {vs : List (V × V)} (g : Grow H H' as vs) : ∀ {ds es : List D} {xs ys : List V}, vs = xs.zip ys → xs.length = ys.length → Hrel G μ M H h → Reps G μ M H ds xs → Reps G μ M H es ys →
    Hrel G μ M H' h ∧ Le μ M H μ M H' ∧ Reps G μ M H' (zipD ds es) (as.map V.ref) := by
  induction g with
  | nil H =>
    intro ds es xs ys ev el r p q
    refine ⟨r, Le.refl, ?_⟩
    cases xs with
    | nil =>
      have : ds = [] := by have := p.length; exact List.length_eq_zero_iff.mp (by simpa using this.symm)
      subst this
      unfold zipD
      exact Reps.nil
    | cons x xs =>
      cases ys with
      | nil => simp at el
      | cons y ys => simp at ev
  | @cons H H' ps vs p x y hp g ih =>
    intro ds es xs ys ev el r pd qd
    cases xs with
    | nil => simp at ev
    | cons x' xs =>
      cases ys with
      | nil => simp at el
      | cons y' ys =>
        rw [List.zip_cons_cons] at ev
        injection ev with e1 e2
        injection e1 with e3 e4
        subst e3; subst e4
        cases ds with
        | nil => have := pd.length; simp at this
        | cons d ds =>
          cases es with
          | nil => have := qd.length; simp at this
          | cons e es =>
            have pd' := pd
            have qd' := qd
            unfold Reps at pd' qd'
            obtain ⟨x1, t1, q1, rx, rt⟩ := pd'
            obtain ⟨y1, t2, q2, ry, ru⟩ := qd'
            injection q1 with f1 f2
            injection q2 with f3 f4
            subst f1; subst f2; subst f3; subst f4
            have l1 : Le μ M H μ M (upd H p (.tup [x, y])) := Le.fresh hp
            have r1 := r.fresh (o := .tup [x, y]) hp
            obtain ⟨r2, l2, t⟩ := ih e2 (by simpa using el) r1 (Reps.le r l1 _ _ rt) (Reps.le r l1 _ _ ru)
            refine ⟨r2, l1.trans l2, ?_⟩
            have hd : Rep G μ M (upd H p (.tup [x, y])) (.plc [d, e]) (.ref p) := Rep.newPlc r hp ⟨x, [y], rfl, rx, ⟨y, [], rfl, ry, Reps.nil⟩⟩
            unfold zipD
            rw [List.map_cons]
            exact ⟨_, _, rfl, Rep.le r1 l2 _ _ hd, t⟩
section
variable {P : Program} {w : World} {base : Heap} {G : Glb} {cf : Nat → List D → Hea → Res D} {n : Nat} {N : List Str} {sc : Scope} {fo : Fo} {X : Cx} {W : WX}
variable {a b : Expr} {fa fb : Loc → Hea → Res D} {pos pos2 p p2 kp cp : Pos} {ck : Nat}
theorem lz_want (g : Good P w base G n N sc fo X) {σ : L2.St} {v u : V} {d d2 : D} {μ : Mu} {M : Mk} {h : Hea} {H2 : Hp} {Q : VK} (r : Hrel G μ M H2 h) (pa : Rep G μ M H2 d v) (pb : Rep G μ M H2 d2 u)
    (p : Post G (Rep G) (fun c H' => W c none σ H') μ M H2 (need (tupV d) fun xs => need (tupV d2) fun ys => if xs.length = ys.length then .ok (.lst (zipD xs ys)) h else .no) Q) :
    ∃ a b xs ys, [v, u] = [V.ref a, V.ref b] ∧ SqT X.K H2 a xs ∧ SqT X.K H2 b ys ∧ xs.length = ys.length ∧ ∀ (as : List Addr) (Hm : Hp) (S : Addr), Grow H2 Hm as (xs.zip ys) → Hm S = none → Q (.ref S) (upd Hm S (.lst (as.map V.ref))) := by
  obtain ⟨xs, ex, p⟩ := p.need
  obtain ⟨ys, ey, p⟩ := p.need
  obtain ⟨el, p⟩ := p.ite
  obtain ⟨a1, zs, rfl, sq, t⟩ := tup_rep pa ex
  obtain ⟨a2, us, rfl, sq2, t2⟩ := tup_rep pb ey
  refine ⟨a1, a2, zs, us, rfl, by rw [g.K]; exact sq, by rw [g.K]; exact sq2, by rw [t.length, t2.length]; exact el, fun as Hm S gr hS => ?_⟩
  obtain ⟨r2, l2, tt⟩ := grow_reps gr rfl (by rw [t.length, t2.length]; exact el) r t t2
  exact p (.ref S) μ M _ (l2.trans (Le.fresh hS)) (r2.fresh hS) (Rep.newLst r2 hS tt)
theorem sv_lzp (F : Facts P w base G cf n) (g : Good P w base G n N sc fo X) {x y : Str} (ex : x = "list") (kx : glB sc x = true) (ey : y = "zip") (ky : glB sc y = true) (ha : PE X a (tE G W fa)) (hb : PE X b (tE G W fb)) (hs : starEach [a, b] X.env = (false, eval a X.env) :: starEach [b] X.env)
    (hs2 : starEach [b] X.env = (false, eval b X.env) :: starEach [] X.env) :
    PE X (.Call (.Name x p) [.Call (.Name y p2) [a, b] [] pos2] [] pos) (tE G W fun ρ h => (fa ρ h).bind fun x h1 => (fb ρ h1).bind fun y h2 => need (tupV x) fun xs => need (tupV y) fun ys => if xs.length = ys.length then .ok (.lst (zipD xs ys)) h2 else .no) := by
  subst ex
  subst ey
  refine imE (pe_lz g.calm (g.gl kx) (by rw [g.mg]; exact F.blt _ (by decide +kernel)) (g.gl ky) (by rw [g.mg]; exact F.blt _ (by decide +kernel)) (pa_cons ha (pa_cons hb pa_nil hs2) hs) hs (by rw [hs2]; rfl)) fun σ H Q q => ?_
  refine tG.mono (tE.b2 q) ?_
  exact fun v H1 z => z.mono fun u H2 ⟨d, d2, μ, M, ρ, h, e, r, pa, pb, p⟩ => lz_want g r pa pb p
theorem sv_lzpS (F : Facts P w base G cf n) (g : Good P w base G n N sc fo X) {x y : Str} (ex : x = "list") (kx : glB sc x = true) (ey : y = "zip") (ky : glB sc y = true) (ha : PE X a (tE G W fa)) (hb : PE X b (tE G W fb)) (hs : starEach [a, b] X.env = (false, eval a X.env) :: starEach [b] X.env)
    (hs2 : starEach [b] X.env = (false, eval b X.env) :: starEach [] X.env) :
    PE X (.Call (.Name x p) [.Call (.Name y p2) [a, b] [⟨some "strict", .Constant (.bool true) ck cp, kp⟩] pos2] [] pos) (tE G W fun ρ h => (fa ρ h).bind fun x h1 => (fb ρ h1).bind fun y h2 => need (tupV x) fun xs => need (tupV y) fun ys => if xs.length = ys.length then .ok (.lst (zipD xs ys)) h2 else .no) := by
  subst ex
  subst ey
  refine imE (pe_lzS g.calm (g.gl kx) (by rw [g.mg]; exact F.blt _ (by decide +kernel)) (g.gl ky) (by rw [g.mg]; exact F.blt _ (by decide +kernel)) (pa_cons ha (pa_cons hb pa_nil hs2) hs) hs (by rw [hs2]; rfl)) fun σ H Q q => ?_
  refine tG.mono (tE.b2 q) ?_
  exact fun v H1 z => z.mono fun u H2 ⟨d, d2, μ, M, ρ, h, e, r, pa, pb, p⟩ => lz_want g r pa pb p
end
end LZ
end PyI
set_option Elab.async false
set_option linter.all false
set_option maxRecDepth 100000
set_option maxHeartbeats 2000000
namespace PyI
open PySem PySem.Spec PyProof.Rows L2
section
variable {X : Cx}
/-- X(e), e a text -/
theorem pe_excT {C : Addr} {bmB : List Value} {B newId initId : String} {x : Str} {e : Expr} {ta : TE} {p pos : Pos} (F : ExcBaseFacts B newId initId bmB) (q : PySem.W.excIn X.K C bmB newId = true) (gC : X.mg x = some (.ref C)) (kC : PySem.W.keepIn X.K (.ref C) = true) (hg : Gl X x)
    (he : PE X e ta) (hs : starEach [e] X.env = (false, eval e X.env) :: starEach [] X.env) (hdb : (x == ("__debug__" : Str)) = false) :
    PE X (.Call (.Name x p) [e] [] pos) (fun σ H Q => ta σ H fun v H1 => ∃ y, v = .str y ∧ ∀ a t, H1 t = none → upd H1 t (.tup [.str y]) a = none → Q (.ref a) (upd (upd H1 t (.tup [.str y])) a (ExT C (some t) a))) := by
  refine ⟨fun pins s σ H Q I h => ?_⟩
  refine wpAny_Call_Name_kw (ld_glob I hg gC ?_ hdb)
  refine PySem.W.callWith_K (h₀ := X.base) I.ok.mod.kin kC ?_ hs (by rfl)
  rw [hs]
  show wpAny _ _ (spliced ((false, eval e X.env) :: backTo pos (starEach [] X.env))) _ _ s
  refine Calls.spliced_cons (thn (he.run pins s σ H _ I h) fun u s1 ⟨v, H1, I1, r1, y, ev, q1⟩ => ?_)
  subst ev
  obtain ⟨tk, rfl⟩ := r1
  refine Calls.spliced_nil ⟨I1.kIn, ?_⟩
  show wpAny _ _ (call (.ref C) [.str y tk]) _ _ _
  obtain ⟨bm, N, nm, qn, bs, hdct, sn, sub, ab, col, dd, k0, k1, k2, k3, k5, mN, hC, hN, hni, T⟩ := exc_obj I1.kIn q
  refine wpAny_call_exc_subT F T hC hN hni (fun h' a hm => ?_) (by show 1 ≤ sizeLine; rw [sizeLine_eq]; omega)
  obtain ⟨t, ht, htn, htt⟩ := hm.there
  have na : H1 a = none := I1.hok.gone hm.new
  have nt : H1 t = none := I1.hok.gone htn
  have ne : a ≠ t := by
    intro z
    rw [z, htt] at ht
    cases ht
  have na2 : upd H1 t (.tup [.str y]) a = none := by rw [upd_ne ne]; exact na
  have J : Inv X pins σ (upd H1 t (.tup [.str y])) { s1 with heap := h' } :=
    I1.laidN hm.keeps htn nt ⟨by show 1 ≤ sizeLine; rw [sizeLine_eq]; omega, [.str y tk], .cons ⟨tk, rfl⟩ .nil, ⟨_, htt, rfl, _, rfl⟩⟩
  have J2 := PyI.Inv.track (a := a) (u := ExT C (some t) a) (sI := s1) I1 hm.new J na2 (exT_ok ht ⟨rfl, rfl⟩ rfl fun t' z => by cases z; rfl)
  exact ⟨.ref a, _, J2, rfl, q1 a t nt na2⟩
/-- isinstance(e, c), e an exception as a value -/
theorem call_isX : CallR X (.builtin "isinstance") (fun xs H Q => ∃ a C t0 c cv b, xs = [.ref a, c] ∧ (∀ u, RelV c u → u = cv) ∧ H a = some (ExT C t0 a) ∧ L2.ExcC X.K C ∧ PySem.W.kitOne X.K (.ref C) cv = some b ∧ Q (.bl b) H) := by
  intro pins s σ H xs us Q I r h
  obtain ⟨a, C, t0, c, cv, b, rfl, hcv, ha, hc, e, q⟩ := h
  obtain ⟨u1, u2, rfl, r1, r2⟩ := vals2 r
  cases (show u1 = Value.ref a from r1)
  have ec := hcv _ r2
  subst ec
  obtain ⟨⟨oe, vs, ho, hz, hd, _⟩, _, _⟩ := I.hok a _ ha
  have J : PySem.W.InstAt s.heap a oe C none := by
    obtain ⟨oc, od, oda, osl⟩ := oe
    obtain ⟨h1, h2⟩ := hz
    dsimp only at h1 h2 hd
    subst h1 h2 hd
    exact ⟨ho, rfl, rfl, trivial⟩
  exact PySem.W.kia_one (PySem.W.handS_kitx_exc hc.hg hc.hk hc.hs hc.hd hc.ha hc.hn hc.ht hc.hm) I.kIn J e (fun z => nomatch z) fun tk => ⟨.bl b, H, I.tok tk, rfl, q⟩
/-- str(e) -/
theorem call_strX (hu : X.A.units + 65 < cLine) : CallR X (.type "str") (fun xs H Q => ∃ a C t y, xs = [.ref a] ∧ H a = some (ExT C (some t) a) ∧ H t = some (.tup [.str y]) ∧
    PySem.W.findIn X.K (.ref C) "__str__" = some (some (.builtin "BaseException.__str__")) ∧ PySem.W.subIn X.K (.ref C) (.type "BaseException") = some true ∧ Q (.str y) H) := by
  intro pins s σ H xs us Q I r h
  obtain ⟨a, C, t, y, rfl, ha, ht, hs, hB, q⟩ := h
  obtain ⟨u1, rfl, r1⟩ := vals1 r
  cases (show u1 = Value.ref a from r1)
  obtain ⟨⟨oe, vs, ho, hz, hd, k⟩, _, _⟩ := I.hok a _ ha
  obtain ⟨_, its, rv, o, h1, h2, n, h3⟩ := (show ObjOk X.prog X.w H s.heap t (.tup [.str y]) from I.hok t _ ht)
  cases rv with
  | cons ru rr =>
    cases rr
    obtain ⟨tk, rfl⟩ := ru
    exact PySem.P.str_of_C_one (by omega) ⟨I.kIn, oe, vs, ho, hz.1, hd, k t rfl⟩ ⟨o, n, h1, h2, h3⟩ hs hB ⟨.str y, H, I, ⟨_, rfl⟩, q⟩
end
section
variable {P : Program} {w : World} {base : Heap} {G : Glb} {cf : Nat → List D → Hea → Res D} {n : Nat} {N : List Str} {sc : Scope} {fo : Fo} {X : Cx} {W : WX}
variable {a : Expr} {fa : Loc → Hea → Res PyI.D} {pos p p2 : Pos} {x z : Str}
theorem sv_exn (F : Facts P w base G cf n) (g : Good P w base G n N sc fo X) {c : Nat} (ec : G.T.ex c = some x) (k : glB sc x = true) (ha : PE X a (tE G W fa)) (hs : starEach [a] X.env = (false, eval a X.env) :: starEach [] X.env) :
    PE X (.Call (.Name x p) [a] [] pos) (tE G W fun ρ h => (fa ρ h).bind fun v h1 => match v with | .str y => if G.T.xvs = true then need (G.T.ex c) fun _ => .ok (.exn c (some y)) h1 else .no | _ => .no) := by
  obtain ⟨C, B, newId, initId, bmB, hf, hi, hm, hk, _, _⟩ := F.exs c x ec
  refine imE (pe_excT (X := X) hf (by rw [g.K]; exact hi) (by rw [g.mg]; exact hm) (by rw [g.K]; exact hk) (g.gl k) ha hs (glB_gl k).2.1) fun σ H Q q => ?_
  refine tG.mono (tE.b1 q) ?_
  rintro v H1 ⟨d, μ, M, ρ, h, e, r, pa, pp⟩
  split at pp
  · rename_i y
    rw [rep_str] at pa
    obtain ⟨_, pp⟩ := pp.ite
    obtain ⟨_, _, pp⟩ := pp.need
    refine ⟨y, pa, fun b t ht hb => ?_⟩
    have r1 := r.fresh (o := .tup [.str y]) ht
    refine pp (.ref b) μ M _ ((Le.fresh ht).trans (Le.fresh hb)) (r1.fresh hb) ?_
    rw [rep_exn]
    refine ⟨b, C, x, some t, rfl, ec, hm, upd_same, fun y' ey => ?_⟩
    cases ey
    exact ⟨t, rfl, by rw [upd_ne (fun z => by rw [← z, upd_same] at hb; cases hb), upd_same]⟩
  · exact pp.elim
theorem kitOne_own (F : Facts P w base G cf n) {c d : Nat} {y z : Str} {C E : Addr} (e1 : G.T.ex c = some y) (e2 : G.T.ex d = some z) (m1 : G.mg y = some (.ref C)) (m2 : G.mg z = some (.ref E)) : PySem.W.kitOne G.K (.ref C) (.ref E) = some (subX c d) := by
  have h := F.sub c d y z C E e1 e2 m1 m2
  have h0 := F.sub c c y y C C e1 e1 m1 m1
  unfold PySem.W.kitOne
  by_cases q : C = E
  · subst q
    rw [if_pos (beq_self_eq_true _)]
    rw [h0] at h
    have : subX c c = true := by unfold subX; simp
    rw [this] at h
    exact h
  · rw [if_neg (by intro z; exact q (Value.ref.inj (beq_iff_eq.mp z)))]
    unfold PySem.W.exmOne at h
    split at h
    · exact h
    · cases h
theorem sv_isx (F : Facts P w base G cf n) (g : Good P w base G n N sc fo X) {k : XT} (ex : x = "isinstance") (kx : glB sc x = true) (kz : glB sc z = true) (hz : match k with | .own d => G.T.ex d = some z | .val => z = "ValueError" | .look => z = "LookupError")
    (ha : PE X a (tE G W fa)) (hs : starEach [a, .Name z p2] X.env = (false, eval a X.env) :: starEach [.Name z p2] X.env) :
    PE X (.Call (.Name x p) [a, .Name z p2] [] pos) (tE G W fun ρ h => (fa ρ h).bind fun v h1 => match v with | .exn c _ => if G.T.xvs = true then need (xtR G.T k c) fun b => .ok (.bl b) h1 else .no | _ => .no) := by
  have hm : X.mg x = none := by rw [g.mg, ex]; exact F.blt _ (by decide +kernel)
  have hv : bootBuiltins x = some (.builtin "isinstance") := by rw [ex]; decide +kernel
  have key : ∃ v cv, PE X (.Name z p2) (tC v) ∧ (∀ u, RelV v u → u = cv) ∧ ∀ c C y b, xtR G.T k c = some b → G.T.xvs = true → G.T.ex c = some y → G.mg y = some (.ref C) → PySem.W.kitOne G.K (.ref C) cv = some b := by
    cases k with
    | own d =>
      obtain ⟨E, _, _, _, _, _, _, hmz, _⟩ := F.exs d z hz
      refine ⟨.ref E, .ref E, pe_glob (g.gl kz) (by rw [g.mg]; exact hmz) rfl (glB_gl kz).2.1, fun u r => r, fun c C y b e _ e1 m1 => ?_⟩
      have hz' : G.T.ex d = some z := hz
      have e' : (G.T.ex d).map (fun _ => subX c d) = some b := e
      rw [hz'] at e'
      cases e'
      exact kitOne_own F e1 hz' m1 hmz
    | val =>
      cases hz
      refine ⟨.ty "ValueError", .type "ValueError", pe_bltn (g.gl kz) (by rw [g.mg]; exact F.blt _ (by decide +kernel)) (by decide +kernel) rfl (glB_gl kz).2.2 (glB_gl kz).2.1, fun u r => r, fun c C y b e xv e1 m1 => ?_⟩
      cases e
      obtain ⟨C', m2, o⟩ := F.xv xv c y e1
      rw [m1] at m2; cases m2
      exact o.v
    | look =>
      cases hz
      refine ⟨.ty "LookupError", .type "LookupError", pe_bltn (g.gl kz) (by rw [g.mg]; exact F.blt _ (by decide +kernel)) (by decide +kernel) rfl (glB_gl kz).2.2 (glB_gl kz).2.1, fun u r => r, fun c C y b e xv e1 m1 => ?_⟩
      cases e
      obtain ⟨C', m2, o⟩ := F.xv xv c y e1
      rw [m1] at m2; cases m2
      exact o.l
  obtain ⟨vz, cv, h2, hcv, hk⟩ := key
  have ar : PA X [a, .Name z p2] (tCons (tE G W fa) (tCons (tC vz) tNil)) := pa_cons ha (pa_cons h2 pa_nil rfl) hs
  refine imE (pe_callB call_isX (g.gl kx) hm hv ar (glB_gl kx).2.2 (glB_gl kx).2.1 hs rfl) fun σ H Q q => ?_
  refine tG.mono (tE.b1 q) ?_
  rintro v H1 ⟨d, μ, M, ρ, h, e, r, pa, pp⟩
  split at pp
  · rename_i c t
    rw [rep_exn] at pa
    obtain ⟨b, C, nm, t0, rfl, e1, m1, s1, _⟩ := pa
    obtain ⟨xv, pp⟩ := pp.ite
    obtain ⟨kk, ek, pp⟩ := pp.need
    obtain ⟨C', m2, o⟩ := F.xv xv c nm e1
    rw [m1] at m2; cases m2
    exact ⟨b, C, t0, vz, cv, kk, rfl, hcv, s1, by rw [g.K]; exact o.c, by rw [g.K]; exact hk c C nm kk ek xv e1 m1, pp.here r (by rw [rep_bl])⟩
  · exact pp.elim
theorem sv_strx (F : Facts P w base G cf n) (g : Good P w base G n N sc fo X) (ex : x = "str") (kx : glB sc x = true) (ha : PE X a (tE G W fa)) (hs : starEach [a] X.env = (false, eval a X.env) :: starEach [] X.env) :
    PE X (.Call (.Name x p) [a] [] pos) (tE G W fun ρ h => (fa ρ h).bind fun v h1 => match v with | .exn _ (some y) => if G.T.xvs = true then .ok (.str y) h1 else .no | _ => .no) := by
  have hm : X.mg x = none := by rw [g.mg, ex]; exact F.blt _ (by decide +kernel)
  have hv : bootBuiltins x = some (.type "str") := by rw [ex]; decide +kernel
  refine imE (pe_callTy (call_strX g.hu) (g.gl kx) hm hv (pa_cons ha pa_nil hs) (glB_gl kx).2.2 (glB_gl kx).2.1 hs rfl) fun σ H Q q => ?_
  refine tG.mono (tE.b1 q) ?_
  rintro v H1 ⟨d, μ, M, ρ, h, e, r, pa, pp⟩
  split at pp
  · rename_i c y
    rw [rep_exn] at pa
    obtain ⟨b, C, nm, t0, rfl, e1, m1, s1, s2⟩ := pa
    obtain ⟨xv, pp⟩ := pp.ite
    obtain ⟨C', m2, o⟩ := F.xv xv c nm e1
    rw [m1] at m2; cases m2
    obtain ⟨t, rfl, st⟩ := s2 y rfl
    exact ⟨b, C, t, y, rfl, s1, st, by rw [g.K]; exact o.s, by rw [g.K]; exact o.c.hs, pp.here r (by rw [rep_str])⟩
  · exact pp.elim
end
end PyI
set_option Elab.async false
set_option linter.all false
set_option maxRecDepth 100000
namespace PyI
open PySem L2
section
variable {P : Program} {w : World} {base : Heap} {G : Glb} {cf : Nat → List D → Hea → Res D} {n : Nat} {N : List Str}
theorem both {X : Cx} {W : WX} {sc : Scope} {fo : Fo} {a : Expr} {f : Loc → Hea → Res D} (g : Good P w base G n N sc fo X) (pl : plainB a = true) (p : PE X a (tE G W f)) :
    PE X a (tE G W (Ev.of f).val) ∧ PT X a (tT G W (Ev.of f).tst) := ⟨p, st_plain g pl p⟩
theorem pw_of {X : Cx} {op : PySem.BoolOp} {xs : List Expr} {pos : Pos} {t : TT} (p : PT X (.BoolOp op xs pos) t) : PW X (.BoolOp op xs pos) t := ⟨fun _ pins s σ H Q I h => p.run pins s σ H Q I h⟩
theorem Good.blk {X : Cx} {sc : Scope} {fo : Fo} (g : Good P w base G n N sc fo X) (s : Shared) (H : Hp) (C : Addr) (scope : Scope) (cl : List (Str × Addr)) (fp : List Addr) :
    Good P w base G n N (relS scope sc) ⟨fun x => scope.names.lookup x == some .cell, fo.lv⟩ (X.blk s H scope (compEnvC scope cl C X.env) fp) where
  prog := g.prog
  w := g.w
  K := g.K
  mg := g.mg
  base := g.base
  N := g.N
  nd := g.nd
  calm := g.calm
  room := g.room
  gd := g.gd
  sc := by rw [← g.sc]; rfl
  fn := rfl
  lam := g.lam
theorem ckEs_star {T : Tab} {sc : Scope} {fo : Fo} (env : Env) : ∀ {es : Es} {as : List Expr}, ckEs T N sc fo es as = true → (starEach as env).any (·.1) = false
  | .nil, as, h => by cases as <;> first | rfl | exact Bool.noConfusion h
  | .cons e es, as, h => by
    cases as with
    | nil => exact Bool.noConfusion h
    | cons a as =>
      have h' : (ckE T N sc fo e a && ckEs T N sc fo es as) = true := h
      rw [Bool.and_eq_true] at h'
      rw [ck_star h'.1, List.any_cons, ckEs_star env h'.2]; rfl
theorem star_back {ts : List (Bool × Sem Value)} {pos : Pos} (h : ts.any (·.1) = false) : (backTo pos ts).any (·.1) = false := by rw [plain_to h]; exact h
theorem sp_nil {X : Cx} {W : WX} : PTs X [] (tT G W fun _ h => .ok true h) := ⟨fun pins s σ H Q I q => pts_nil.run pins s σ H Q I (by
  obtain ⟨μ, M, ρ, h, e, r, p⟩ := q.out
  exact p.here r rfl)⟩
theorem own_ix (own : List Nat) : (ownOf N own).map (·.2) = own := by
  unfold ownOf
  rw [List.map_map]
  exact List.map_id _
theorem ckI_folded {T : Tab} {sc : Scope} {fo : Fo} {it : It} {t i : Expr} (h : ckI T N sc fo it t i = true) (env : Env) (x : Value) : foldedSetIterable i env x = pure x := by
  cases i <;> first | rfl | skip
  cases it with
  | seq e => exact (ck_set e h).elim
  | keys e => exact (ck_set e h).elim
  | _ => exact Bool.noConfusion h
theorem ckO_cons {T : Tab} {sc : Scope} {fo : Fo} {e : E} {es : Es} {a : Expr} (h : ckO T N sc fo (.cons e es) (some a) = true) : ckE T N sc fo e a = true ∧ es = .nil := by
  cases es with
  | nil =>
    have h' : (ckE T N sc fo e a && true) = true := h
    rw [Bool.and_true] at h'
    exact ⟨h', rfl⟩
  | cons _ _ =>
    have h' : (ckE T N sc fo e a && false) = true := h
    rw [Bool.and_false] at h'; cases h'
theorem ckC_cons {T : Tab} {sc : Scope} {fo : Fo} {e : E} {es : Es} {a : Expr} (h : ckC T N sc fo (.cons e es) [a] = true) : ckE T N sc fo e a = true := by
  cases es with
  | nil =>
    have h' : (ckE T N sc fo e a && true) = true := h
    rw [Bool.and_true] at h'
    exact h'
  | cons _ _ =>
    have h' : (ckE T N sc fo e a && false) = true := h
    rw [Bool.and_false] at h'; cases h'
/-- each of them -/
def AllP (G : Glb) (cf : Nat → List D → Hea → Res D) (X : Cx) (W : WX) : Es → List Expr → Prop
  | .nil, [] => True
  | .cons e es, a :: as => PE X a (tE G W (ev G.T cf e).val) ∧ AllP G cf X W es as
  | _, _ => False
theorem di_empty {prog : Program} {w : World} (t : Bool) : ∀ (h : Heap) (H : Hp), sysModules < h.objs.size → ObjOk prog w H (h.push { cls := .type "dict", data := .dict #[] }) h.objs.size (if t then .dT [] else .dK []) := by
  intro h H lo
  cases t with
  | true => exact dt_empty h lo
  | false => exact dk_empty h lo
variable (F : Facts P w base G cf n)
include F
mutual
theorem sndE : ∀ (e : E) (a : Expr) (X : Cx) (W : WX) (sc : Scope) (fo : Fo), ckE G.T N sc fo e a = true → Good P w base G n N sc fo X → Takes X W →
    PE X a (tE G W (ev G.T cf e).val) ∧ PT X a (tT G W (ev G.T cf e).tst)
  | .non, a, X, W, sc, fo, h, g, tk => by
    cases a <;> first | exact Bool.noConfusion h | skip
    rename_i c j pos
    cases c <;> first | exact Bool.noConfusion h | skip
    exact both g rfl (sv_const pe_non fun μ M H => by rw [rep_non])
  | .bl b, a, X, W, sc, fo, h, g, tk => by
    cases a <;> first | exact Bool.noConfusion h | skip
    rename_i c j pos
    cases c <;> first | exact Bool.noConfusion h | skip
    rename_i b'
    have e : b = b' := by simpa using (show (b == b') = true from h)
    subst e
    exact both g rfl (sv_const pe_bl fun μ M H => by rw [rep_bl])
  | .int i, a, X, W, sc, fo, h, g, tk => by
    cases a <;> first | exact Bool.noConfusion h | skip
    rename_i c j pos
    cases c <;> first | exact Bool.noConfusion h | skip
    rename_i b'
    have e : i = b' := of_decide_eq_true (show decide (i = b') = true from h)
    subst e
    exact both g rfl (sv_const pe_int fun μ M H => by rw [rep_int])
  | .str i, a, X, W, sc, fo, h, g, tk => by
    cases a <;> first | exact Bool.noConfusion h | skip
    rename_i c j pos
    cases c <;> first | exact Bool.noConfusion h | skip
    rename_i b'
    have e : i = b' := of_decide_eq_true (show decide (i = b') = true from h)
    subst e
    exact both g rfl (sv_const pe_str fun μ M H => by rw [rep_str])
  | .v i, a, X, W, sc, fo, h, g, tk => by
    cases a <;> first | exact Bool.noConfusion h | skip
    exact both g rfl (sv_v g h)
  | .gc i, a, X, W, sc, fo, h, g, tk => by
    cases a <;> first | exact Bool.noConfusion h | skip
    rename_i x pos
    have h' : (glB sc x && (match G.T.cn i with | some p => decide (p.1 = x) | none => false)) = true := h
    rw [Bool.and_eq_true] at h'
    obtain ⟨h1, h2⟩ := h'
    split at h2
    · rename_i p e
      exact both g rfl (sv_gc F g e (of_decide_eq_true h2) h1)
    · cases h2
  | .gf i, a, X, W, sc, fo, h, g, tk => by
    cases a <;> first | exact Bool.noConfusion h | skip
    rename_i x pos
    have h' : (glB sc x && (match G.T.fn i with | some p => decide (p.name = x) | none => false)) = true := h
    rw [Bool.and_eq_true] at h'
    obtain ⟨h1, h2⟩ := h'
    split at h2
    · rename_i p e
      exact both g rfl (sv_gf F g e (of_decide_eq_true h2) h1)
    · cases h2
  | .bin o a1 b1, a, X, W, sc, fo, h, g, tk => by
    cases a <;> first | exact Bool.noConfusion h | skip
    rename_i l op r pos
    have h' : (decide (op = o.op) && ckE G.T N sc fo a1 l && ckE G.T N sc fo b1 r) = true := h
    simp only [Bool.and_eq_true, decide_eq_true_eq] at h'
    obtain ⟨⟨rfl, h1⟩, h2⟩ := h'
    exact both g rfl (sv_bin g (sndE a1 l X W sc fo h1 g tk).1 (sndE b1 r X W sc fo h2 g tk).1)
  | .neg a1, a, X, W, sc, fo, h, g, tk => by
    cases a <;> first | exact Bool.noConfusion h | skip
    rename_i op l pos
    cases op <;> first | exact Bool.noConfusion h | skip
    exact both g rfl (sv_neg (sndE a1 l X W sc fo h g tk).1)
  | .nt a1, a, X, W, sc, fo, h, g, tk => by
    cases a <;> first | exact Bool.noConfusion h | skip
    rename_i op l pos
    cases op <;> first | exact Bool.noConfusion h | skip
    have ih := sndE a1 l X W sc fo h g tk
    exact ⟨sv_nt g ih.1, st_nt ih.2⟩
  | .cmp o a1 b1, a, X, W, sc, fo, h, g, tk => by
    cases a <;> first | exact Bool.noConfusion h | skip
    rename_i l ops rs pos
    match ops, rs, h with
    | [op], [r], h =>
      have h' : (decide (op = o.op) && ckE G.T N sc fo a1 l && ckE G.T N sc fo b1 r) = true := h
      simp only [Bool.and_eq_true, decide_eq_true_eq] at h'
      obtain ⟨⟨rfl, h1⟩, h2⟩ := h'
      have i1 := (sndE a1 l X W sc fo h1 g tk).1
      have i2 := (sndE b1 r X W sc fo h2 g tk).1
      exact ⟨sv_cmp g i1 i2 (ck_mark h2 _), st_cmp g i1 i2 (ck_mark h2 _)⟩
    | [], _, h => exact Bool.noConfusion h
    | [_], [], h => exact Bool.noConfusion h
    | [_], _ :: _ :: _, h => exact Bool.noConfusion h
    | _ :: _ :: _, _, h => exact Bool.noConfusion h
  | .chn o p a1 b1 c1, a, X, W, sc, fo, h, g, tk => by
    cases a <;> first | exact Bool.noConfusion h | skip
    rename_i l ops rs pos
    match ops, rs, h with
    | [op, op'], [m, r], h =>
      have h' : (decide (op = o.op) && decide (op' = p.op) && ckE G.T N sc fo a1 l && ckE G.T N sc fo b1 m && ckE G.T N sc fo c1 r) = true := h
      simp only [Bool.and_eq_true, decide_eq_true_eq] at h'
      obtain ⟨⟨⟨⟨rfl, rfl⟩, h1⟩, h2⟩, h3⟩ := h'
      have i1 := (sndE a1 l X W sc fo h1 g tk).1
      have i2 := (sndE b1 m X W sc fo h2 g tk).1
      have i3 := (sndE c1 r X W sc fo h3 g tk).1
      exact ⟨sv_chn g i1 i2 i3 (ck_mark h3 _), st_chn g i1 i2 i3 (ck_mark h3 _)⟩
    | [], _, h => exact Bool.noConfusion h
    | [_], _, h => exact Bool.noConfusion h
    | [_, _], [], h => exact Bool.noConfusion h
    | [_, _], [_], h => exact Bool.noConfusion h
    | [_, _], _ :: _ :: _ :: _, h => exact Bool.noConfusion h
    | _ :: _ :: _ :: _, _, h => exact Bool.noConfusion h
  | .and a1 b1, a, X, W, sc, fo, h, g, tk => by
    cases a <;> first | exact Bool.noConfusion h | skip
    rename_i op xs pos
    cases op <;> first | exact Bool.noConfusion h | skip
    match xs, h with
    | [], h => exact Bool.noConfusion h
    | [_], h => exact Bool.noConfusion h
    | [x, y], h =>
      have h' : (ckE G.T N sc fo a1 x && ckE G.T N sc fo b1 y) = true := h
      rw [Bool.and_eq_true] at h'
      have i1 := sndE a1 x X W sc fo h'.1 g tk
      have i2 := sndE b1 y X W sc fo h'.2 g tk
      exact ⟨sv_and g i1.1 (pe_one i2.1), (st_and i1.2 (pw_and1 i2.2)).pt⟩
    | x :: y :: z :: r, h =>
      have h' : (ckE G.T N sc fo a1 x && ckE G.T N sc fo b1 (.BoolOp .And (y :: z :: r) pos)) = true := h
      rw [Bool.and_eq_true] at h'
      have i1 := sndE a1 x X W sc fo h'.1 g tk
      have i2 := sndE b1 _ X W sc fo h'.2 g tk
      exact ⟨sv_and g i1.1 i2.1, (st_and i1.2 (pw_of i2.2)).pt⟩
  | .or a1 b1, a, X, W, sc, fo, h, g, tk => by
    cases a <;> first | exact Bool.noConfusion h | skip
    rename_i op xs pos
    cases op <;> first | exact Bool.noConfusion h | skip
    match xs, h with
    | [], h => exact Bool.noConfusion h
    | [_], h => exact Bool.noConfusion h
    | [x, y], h =>
      have h' : (ckE G.T N sc fo a1 x && ckE G.T N sc fo b1 y) = true := h
      rw [Bool.and_eq_true] at h'
      have i1 := sndE a1 x X W sc fo h'.1 g tk
      have i2 := sndE b1 y X W sc fo h'.2 g tk
      exact ⟨sv_or g i1.1 (pe_one i2.1), (st_or i1.2 (pw_or1 i2.2)).pt⟩
    | x :: y :: z :: r, h =>
      have h' : (ckE G.T N sc fo a1 x && ckE G.T N sc fo b1 (.BoolOp .Or (y :: z :: r) pos)) = true := h
      rw [Bool.and_eq_true] at h'
      have i1 := sndE a1 x X W sc fo h'.1 g tk
      have i2 := sndE b1 _ X W sc fo h'.2 g tk
      exact ⟨sv_or g i1.1 i2.1, (st_or i1.2 (pw_of i2.2)).pt⟩
  | .ite c1 a1 b1, a, X, W, sc, fo, h, g, tk => by
    cases a <;> first | exact Bool.noConfusion h | skip
    rename_i t x y pos
    have h' : (ckE G.T N sc fo c1 t && ckE G.T N sc fo a1 x && ckE G.T N sc fo b1 y) = true := h
    simp only [Bool.and_eq_true] at h'
    obtain ⟨⟨h1, h2⟩, h3⟩ := h'
    have i1 := sndE c1 t X W sc fo h1 g tk
    have i2 := sndE a1 x X W sc fo h2 g tk
    have i3 := sndE b1 y X W sc fo h3 g tk
    exact ⟨sv_ite i1.2 i2.1 i3.1, st_ite i1.2 i2.2 i3.2⟩
  | .tup es, a, X, W, sc, fo, h, g, tk => by
    cases a <;> first | exact Bool.noConfusion h | skip
    rename_i xs k pos
    exact both g rfl (sv_tup (sndEs es xs X W sc fo h g tk).1)
  | .tupK es, a, X, W, sc, fo, h, g, tk => by
    cases a <;> first | exact Bool.noConfusion h | skip
    rename_i xs k pos
    exact both g rfl (sv_tupK (sndEs es xs X W sc fo h g tk).1)
  | .lst es, a, X, W, sc, fo, h, g, tk => by
    cases a <;> first | exact Bool.noConfusion h | skip
    rename_i xs pos
    exact both g rfl (sv_lst (sndEs es xs X W sc fo h g tk).1)
  | .lstM es, a, X, W, sc, fo, h, g, tk => by
    cases a <;> first | exact Bool.noConfusion h | skip
    rename_i xs pos
    exact both g rfl (sv_lstM (sndEs es xs X W sc fo h g tk).1)
  | .dnewK, a, X, W, sc, fo, h, g, tk => by
    cases a <;> first | exact Bool.noConfusion h | skip
    rename_i ks vs pos
    match ks, vs, h with
    | [], [], h => exact both g rfl sv_dnewK
    | [], _ :: _, h => exact Bool.noConfusion h
    | _ :: _, _, h => exact Bool.noConfusion h
  | .dnewT, a, X, W, sc, fo, h, g, tk => by
    cases a <;> first | exact Bool.noConfusion h | skip
    rename_i ks vs pos
    match ks, vs, h with
    | [], [], h => exact both g rfl sv_dnewT
    | [], _ :: _, h => exact Bool.noConfusion h
    | _ :: _, _, h => exact Bool.noConfusion h
  | .sub a1 i1, a, X, W, sc, fo, h, g, tk => by
    cases a <;> first | exact Bool.noConfusion h | skip
    rename_i l r pos
    have h' : (ckE G.T N sc fo a1 l && ckE G.T N sc fo i1 r) = true := h
    rw [Bool.and_eq_true] at h'
    exact both g rfl (sv_sub g (sndE a1 l X W sc fo h'.1 g tk).1 (sndE i1 r X W sc fo h'.2 g tk).1 (ck_ix h'.2))
  | .slc a1 lo hi, a, X, W, sc, fo, h, g, tk => by
    cases a <;> first | exact Bool.noConfusion h | skip
    rename_i l r pos
    cases r <;> first | exact Bool.noConfusion h | skip
    rename_i x y z p2
    cases z with
    | some _ => exact Bool.noConfusion h
    | none =>
      have h' : (ckE G.T N sc fo a1 l && ckO G.T N sc fo lo x && ckO G.T N sc fo hi y) = true := h
      simp only [Bool.and_eq_true] at h'
      obtain ⟨⟨h1, h2⟩, h3⟩ := h'
      exact both g rfl (sv_slc g (sndE a1 l X W sc fo h1 g tk).1 (sndO lo x X W sc fo h2 g tk) (sndO hi y X W sc fo h3 g tk))
  | .call f es, a, X, W, sc, fo, h, g, tk => by
    cases a <;> first | exact Bool.noConfusion h | skip
    rename_i fn xs kws pos
    cases fn <;> first | exact Bool.noConfusion h | skip
    rename_i x p
    match xs, kws, h with
    | y :: ys, [], h =>
      have h' : (glB sc x && (match G.T.fn f with | some p => decide (p.name = x) | none => false) && ckEs G.T N sc fo es (y :: ys)) = true := h
      simp only [Bool.and_eq_true] at h'
      obtain ⟨⟨h1, h2⟩, h3⟩ := h'
      have st := ckEs_star X.env h3
      split at h2
      · rename_i fd e
        refine both g rfl (snd_call F g tk e (of_decide_eq_true h2) h1 (sndEs es (y :: ys) X W sc fo h3 g tk).1 ?_ (star_back ?_))
        · cases es with
          | nil => exact Bool.noConfusion h3
          | cons e es =>
            have h4 : (ckE G.T N sc fo e y && ckEs G.T N sc fo es ys) = true := h3
            rw [Bool.and_eq_true] at h4
            exact ck_star h4.1 ys X.env
        · cases es with
          | nil => exact Bool.noConfusion h3
          | cons e es =>
            have h4 : (ckE G.T N sc fo e y && ckEs G.T N sc fo es ys) = true := h3
            rw [Bool.and_eq_true] at h4
            exact ckEs_star X.env h4.2
      · cases h2
    | [], _, h => exact Bool.noConfusion h
    | _ :: _, _ :: _, h => exact Bool.noConfusion h
  | .callP f es, a, X, W, sc, fo, h, g, tk => by
    cases a <;> first | exact Bool.noConfusion h | skip
    rename_i fn xs kws pos
    cases fn <;> first | exact Bool.noConfusion h | skip
    rename_i x p
    match xs, kws, h with
    | y :: ys, [], h =>
      have h' : (glB sc x && (match G.T.fn f with | some p => decide (p.name = x) | none => false) && ckEs G.T N sc fo es (y :: ys)) = true := h
      simp only [Bool.and_eq_true] at h'
      obtain ⟨⟨h1, h2⟩, h3⟩ := h'
      split at h2
      · rename_i fd e
        refine both g rfl (snd_callP F g tk e (of_decide_eq_true h2) h1 (sndEs es (y :: ys) X W sc fo h3 g tk).1 ?_ (star_back ?_))
        · cases es with
          | nil => exact Bool.noConfusion h3
          | cons e es =>
            have h4 : (ckE G.T N sc fo e y && ckEs G.T N sc fo es ys) = true := h3
            rw [Bool.and_eq_true] at h4
            exact ck_star h4.1 ys X.env
        · cases es with
          | nil => exact Bool.noConfusion h3
          | cons e es =>
            have h4 : (ckE G.T N sc fo e y && ckEs G.T N sc fo es ys) = true := h3
            rw [Bool.and_eq_true] at h4
            exact ckEs_star X.env h4.2
      · cases h2
    | [], _, h => exact Bool.noConfusion h
    | _ :: _, _ :: _, h => exact Bool.noConfusion h
  | .bi b1 a1, a, X, W, sc, fo, h, g, tk => by
    cases a <;> first | exact Bool.noConfusion h | skip
    rename_i fn xs kws pos
    cases fn <;> first | exact Bool.noConfusion h | skip
    rename_i x p
    match xs, h with
    | [y], h =>
      have h' : (glB sc x && decide (x = b1.nm) && kwB sc b1 kws && ckE G.T N sc fo a1 y) = true := h
      simp only [Bool.and_eq_true, decide_eq_true_eq] at h'
      obtain ⟨⟨⟨h1, h2⟩, h0⟩, h3⟩ := h'
      rcases kwB_cases h0 with ⟨rfl, h4⟩ | ⟨z, zp, kp, rfl, rfl, h6, h7⟩
      · exact both g rfl (sv_bi F g h4 h2 h1 (sndE a1 y X W sc fo h3 g tk).1 (ck_star h3 [] X.env))
      · exact both g rfl (sv_sortL F g h2 h1 h7 h6 (sndE a1 y X W sc fo h3 g tk).1 (ck_star h3 [] X.env))
    | [], h => exact Bool.noConfusion h
    | _ :: _ :: _, h => exact Bool.noConfusion h
  | .isi a1 t, a, X, W, sc, fo, h, g, tk => by
    cases a <;> first | exact Bool.noConfusion h | skip
    rename_i fn xs kws pos
    cases fn <;> first | exact Bool.noConfusion h | skip
    rename_i x p
    match xs, kws, h with
    | [y, z], [], h =>
      cases z <;> first | exact Bool.noConfusion h | skip
      rename_i z p2
      have h' : (glB sc x && decide (x = "isinstance") && glB sc z && decide (z = t.nmS) && ckE G.T N sc fo a1 y) = true := h
      simp only [Bool.and_eq_true, decide_eq_true_eq] at h'
      obtain ⟨⟨⟨⟨h1, h2⟩, h3⟩, h4⟩, h5⟩ := h'
      exact both g rfl (sv_isi F g h2 h1 h4 h3 (sndE a1 y X W sc fo h5 g tk).1 (ck_star h5 _ X.env))
    | [], _, h => exact Bool.noConfusion h
    | [_], _, h => exact Bool.noConfusion h
    | [_, z], _ :: _, h => cases z <;> exact Bool.noConfusion h
    | _ :: z :: _ :: _, _, h => cases z <;> exact Bool.noConfusion h
  | .mt m o es, a, X, W, sc, fo, h, g, tk => by
    cases a <;> first | exact Bool.noConfusion h | skip
    rename_i fn xs kws pos
    cases fn <;> first | exact Bool.noConfusion h | skip
    rename_i l at_ apos
    cases kws with
    | cons _ _ => exact Bool.noConfusion h
    | nil =>
      have h' : (decide (at_ = m.nm) && (apos.endLine == pos.line) && ckE G.T N sc fo o l && ckEs G.T N sc fo es xs && mtA m es) = true := h
      simp only [Bool.and_eq_true, decide_eq_true_eq] at h'
      obtain ⟨⟨⟨⟨h1, h2⟩, h3⟩, h4⟩, h5⟩ := h'
      have io := (sndE o l X W sc fo h3 g tk).1
      have hb := ck_base h3 at_ X.env (eval l X.env)
      have ie := sndEs es xs X W sc fo h4 g tk
      clear h
      match m, es, h1, h4, h5, ie with
      | .append, .cons e .nil, h1, h4, h5, ie =>
        match xs, h4, ie with
        | [], h4, _ => exact Bool.noConfusion h4
        | [x], h4, ie =>
          have h6 : (ckE G.T N sc fo e x && true) = true := h4
          rw [Bool.and_true] at h6
          exact both g rfl (sv_append g h1 io ie.1 hb h2 (ck_star h6 [] X.env))
        | x :: y :: r, h4, _ =>
          have h6 : (ckE G.T N sc fo e x && false) = true := h4
          rw [Bool.and_false] at h6; cases h6
      | .update, .cons e .nil, h1, h4, h5, ie =>
        match xs, h4, ie with
        | [], h4, _ => exact Bool.noConfusion h4
        | [x], h4, ie =>
          have h6 : (ckE G.T N sc fo e x && true) = true := h4
          rw [Bool.and_true] at h6
          exact both g rfl (sv_update g h1 io ie.2.1 hb h2 (ck_star h6 [] X.env))
        | x :: y :: r, h4, _ =>
          have h6 : (ckE G.T N sc fo e x && false) = true := h4
          rw [Bool.and_false] at h6; cases h6
      | .popAt, .cons e .nil, h1, h4, h5, ie =>
        match xs, h4, ie with
        | [], h4, _ => exact Bool.noConfusion h4
        | [x], h4, ie =>
          have h6 : (ckE G.T N sc fo e x && true) = true := h4
          rw [Bool.and_true] at h6
          exact both g rfl (sv_popAt g h1 io ie.1 hb h2 (ck_star h6 [] X.env))
        | x :: y :: r, h4, _ =>
          have h6 : (ckE G.T N sc fo e x && false) = true := h4
          rw [Bool.and_false] at h6; cases h6
      | .pop, .nil, h1, h4, h5, ie =>
        match xs, h4 with
        | [], h4 => exact both g rfl (sv_pop g h1 io hb h2)
        | _ :: _, h4 => exact Bool.noConfusion h4
      | .get2, .cons e1 (.cons e2 .nil), h1, h4, h5, ie =>
        match xs, h4, ie with
        | [], h4, _ => exact Bool.noConfusion h4
        | [x], h4, _ =>
          have h6 : (ckE G.T N sc fo e1 x && false) = true := h4
          rw [Bool.and_false] at h6; cases h6
        | [x, y], h4, ie =>
          have h6 : (ckE G.T N sc fo e1 x && (ckE G.T N sc fo e2 y && true)) = true := h4
          rw [Bool.and_true, Bool.and_eq_true] at h6
          refine both g rfl (sv_get2 g h1 io ie.2.1 ie.2.2.1 hb h2 ?_)
          rw [ck_star h6.1, ck_star h6.2]; rfl
        | x :: y :: z :: r, h4, _ =>
          have h6 : (ckE G.T N sc fo e1 x && (ckE G.T N sc fo e2 y && false)) = true := h4
          rw [Bool.and_false, Bool.and_false] at h6; cases h6
  | .lc m own tg it c e, a, X, W, sc, fo, h, g, tk => by
    cases a <;> first | exact Bool.noConfusion h | skip
    rename_i el gens scope pos
    match gens, h with
    | [], h => exact Bool.noConfusion h
    | ⟨_, _, _, _⟩ :: _ :: _, h => exact Bool.noConfusion h
    | [⟨t, i, ifs, k⟩], h =>
      have h' : (decide (k = 0) && blkC N sc scope (ownOf N own) && ckI G.T N sc fo it t i && ckG N (relS scope sc) ⟨fun x => scope.names.lookup x == some .cell, fo.lv⟩ own tg t &&
        ckC G.T N (relS scope sc) ⟨fun x => scope.names.lookup x == some .cell, fo.lv⟩ c ifs && ckE G.T N (relS scope sc) ⟨fun x => scope.names.lookup x == some .cell, fo.lv⟩ e el) = true := h
      simp only [Bool.and_eq_true, decide_eq_true_eq] at h'
      obtain ⟨⟨⟨⟨⟨rfl, h1⟩, h2⟩, h3⟩, h4⟩, h5⟩ := h'
      refine both g rfl (imE (pe_lc g.calm g.nd (sndI it t i X W sc fo h2 g tk) (blkOk_by (by rw [g.N, g.sc]; exact h1))
        (fun s H C cl fp => snd_G (g.blk s H C scope cl fp) tg t h3) (fun s H C cl fp => sndC c ifs _ W0 _ _ h4 (g.blk s H C scope cl fp) takes0)
        (fun s H C cl fp => (sndE e el _ W0 _ _ h5 (g.blk s H C scope cl fp) takes0).1) (fun x => ckI_folded h2 X.env x)) fun σ H Q q => ?_)
      rw [own_ix]
      exact lc_read q
  | .lc2 m own own2 tg it tg2 it2 c e, a, X, W, sc, fo, h, g, tk => by
    cases a <;> first | exact Bool.noConfusion h | skip
    rename_i el gens scope pos
    match gens, h with
    | [], h => exact Bool.noConfusion h
    | [⟨_, _, [], _⟩], h => exact Bool.noConfusion h
    | [⟨_, _, _ :: _, _⟩], h => exact Bool.noConfusion h
    | ⟨_, _, [], _⟩ :: ⟨_, _, _, _⟩ :: _ :: _, h => exact Bool.noConfusion h
    | ⟨_, _, _ :: _, _⟩ :: _ :: _, h => exact Bool.noConfusion h
    | [⟨t, i, [], k⟩, ⟨t2, i2, ifs, k2⟩], h =>
      have h' : (decide (k = 0) && decide (k2 = 0) && blkC N sc scope (ownOf N own) && ckI G.T N sc fo it t i && ckG N (relS scope sc) ⟨fun x => scope.names.lookup x == some .cell, fo.lv⟩ own tg t &&
        ckI G.T N (relS scope sc) ⟨fun x => scope.names.lookup x == some .cell, fo.lv⟩ it2 t2 i2 && own2.all (fun i => own.contains i) && ckG N (relS scope sc) ⟨fun x => scope.names.lookup x == some .cell, fo.lv⟩ own2 tg2 t2 &&
        ckC G.T N (relS scope sc) ⟨fun x => scope.names.lookup x == some .cell, fo.lv⟩ c ifs && ckE G.T N (relS scope sc) ⟨fun x => scope.names.lookup x == some .cell, fo.lv⟩ e el) = true := h
      simp only [Bool.and_eq_true, decide_eq_true_eq] at h'
      obtain ⟨⟨⟨⟨⟨⟨⟨⟨⟨rfl, rfl⟩, h1⟩, h2⟩, h3⟩, h4⟩, h5⟩, h6⟩, h7⟩, h8⟩ := h'
      refine both g rfl (imE (pe_lc2 (vs1 := own2) g.calm g.nd (sndI it t i X W sc fo h2 g tk) (blkOk_by (by rw [g.N, g.sc]; exact h1)) (by
          rw [own_ix]; intro j hj; have := List.all_eq_true.mp h5 j hj; simpa using this)
        (fun s H C cl fp => snd_G (g.blk s H C scope cl fp) tg t h3) (fun s H C cl fp => pts_nil)
        (fun s H C cl fp => sndI it2 t2 i2 _ W0 _ _ h4 (g.blk s H C scope cl fp) takes0)
        (fun s H C cl fp => snd_G (g.blk s H C scope cl fp) tg2 t2 h6) (fun s H C cl fp => sndC c ifs _ W0 _ _ h7 (g.blk s H C scope cl fp) takes0)
        (fun s H C cl fp => (sndE e el _ W0 _ _ h8 (g.blk s H C scope cl fp) takes0).1) (fun x => ckI_folded h2 X.env x) (fun env x => ckI_folded h4 env x)) fun σ H Q q => ?_)
      rw [own_ix]
      exact lc2_read q
  | .dcm t m own tg it c k e, a, X, W, sc, fo, h, g, tk => by
    cases a <;> first | exact Bool.noConfusion h | skip
    rename_i kx vx gens scope pos
    match gens, h with
    | [], h => exact Bool.noConfusion h
    | ⟨_, _, _, _⟩ :: _ :: _, h => exact Bool.noConfusion h
    | [⟨tg2, i, ifs, z⟩], h =>
      have h' : (decide (z = 0) && blkC N sc scope (ownOf N own) && ckI G.T N sc fo it tg2 i && ckG N (relS scope sc) ⟨fun x => scope.names.lookup x == some .cell, fo.lv⟩ own tg tg2 &&
        ckC G.T N (relS scope sc) ⟨fun x => scope.names.lookup x == some .cell, fo.lv⟩ c ifs && (ckE G.T N (relS scope sc) ⟨fun x => scope.names.lookup x == some .cell, fo.lv⟩ k kx && ckE G.T N (relS scope sc) ⟨fun x => scope.names.lookup x == some .cell, fo.lv⟩ e vx)) = true := h
      simp only [Bool.and_eq_true, decide_eq_true_eq] at h'
      obtain ⟨⟨⟨⟨⟨rfl, h1⟩, h2⟩, h3⟩, h4⟩, h5, h6⟩ := h'
      refine both g rfl (imE (pe_dcG (o0 := if t then .dT [] else .dK []) (di_empty t) (by have := g.hu; omega) g.calm g.nd (sndI it tg2 i X W sc fo h2 g tk) (blkOk_by (by rw [g.N, g.sc]; exact h1))
        (fun s H C cl fp => snd_G (g.blk s H C scope cl fp) tg tg2 h3) (fun s H C cl fp => sndC c ifs _ W0 _ _ h4 (g.blk s H C scope cl fp) takes0)
        (fun s H C cl fp => (sndE k kx _ W0 _ _ h5 (g.blk s H C scope cl fp) takes0).1) (fun s H C cl fp => (sndE e vx _ W0 _ _ h6 (g.blk s H C scope cl fp) takes0).1) (fun x => ckI_folded h2 X.env x)) fun σ H Q q => ?_)
      rw [own_ix]
      exact dc_read (m0 := m) q
  | .dcm2 t m own own2 tg it tg2 it2 c k e, a, X, W, sc, fo, h, g, tk => by
    cases a <;> first | exact Bool.noConfusion h | skip
    rename_i kx vx gens scope pos
    match gens, h with
    | [], h => exact Bool.noConfusion h
    | [⟨_, _, [], _⟩], h => exact Bool.noConfusion h
    | [⟨_, _, _ :: _, _⟩], h => exact Bool.noConfusion h
    | ⟨_, _, [], _⟩ :: ⟨_, _, _, _⟩ :: _ :: _, h => exact Bool.noConfusion h
    | ⟨_, _, _ :: _, _⟩ :: _ :: _, h => exact Bool.noConfusion h
    | [⟨t1, i, [], z⟩, ⟨t2, i2, ifs, z2⟩], h =>
      have h' : (decide (z = 0) && decide (z2 = 0) && blkC N sc scope (ownOf N own) && ckI G.T N sc fo it t1 i && ckG N (relS scope sc) ⟨fun x => scope.names.lookup x == some .cell, fo.lv⟩ own tg t1 &&
        ckI G.T N (relS scope sc) ⟨fun x => scope.names.lookup x == some .cell, fo.lv⟩ it2 t2 i2 && own2.all (fun i => own.contains i) && ckG N (relS scope sc) ⟨fun x => scope.names.lookup x == some .cell, fo.lv⟩ own2 tg2 t2 &&
        ckC G.T N (relS scope sc) ⟨fun x => scope.names.lookup x == some .cell, fo.lv⟩ c ifs && (ckE G.T N (relS scope sc) ⟨fun x => scope.names.lookup x == some .cell, fo.lv⟩ k kx && ckE G.T N (relS scope sc) ⟨fun x => scope.names.lookup x == some .cell, fo.lv⟩ e vx)) = true := h
      simp only [Bool.and_eq_true, decide_eq_true_eq] at h'
      obtain ⟨⟨⟨⟨⟨⟨⟨⟨⟨rfl, rfl⟩, h1⟩, h2⟩, h3⟩, h4⟩, h5⟩, h6⟩, h7⟩, h8, h9⟩ := h'
      refine both g rfl (imE (pe_dc2 (vs1 := own2) (o0 := if t then .dT [] else .dK []) (di_empty t) (by have := g.hu; omega) g.calm g.nd (sndI it t1 i X W sc fo h2 g tk) (blkOk_by (by rw [g.N, g.sc]; exact h1)) (by
          rw [own_ix]; intro j hj; have := List.all_eq_true.mp h5 j hj; simpa using this)
        (fun s H C cl fp => snd_G (g.blk s H C scope cl fp) tg t1 h3)
        (fun s H C cl fp => sndI it2 t2 i2 _ W0 _ _ h4 (g.blk s H C scope cl fp) takes0)
        (fun s H C cl fp => snd_G (g.blk s H C scope cl fp) tg2 t2 h6) (fun s H C cl fp => sndC c ifs _ W0 _ _ h7 (g.blk s H C scope cl fp) takes0)
        (fun s H C cl fp => (sndE k kx _ W0 _ _ h8 (g.blk s H C scope cl fp) takes0).1) (fun s H C cl fp => (sndE e vx _ W0 _ _ h9 (g.blk s H C scope cl fp) takes0).1) (fun x => ckI_folded h2 X.env x) (fun env x => ckI_folded h4 env x)) fun σ H Q q => ?_)
      rw [own_ix]
      exact dc2_read (m0 := m) q
  | .lcL m own tg v c e, a, X, W, sc, fo, h, g, tk => by
    unfold ckE at h
    split at h
    · rename_i el t x p ifs k scope pos
      simp only [Bool.and_eq_true, decide_eq_true_eq] at h
      obtain ⟨⟨⟨⟨⟨rfl, h1⟩, h2⟩, h3⟩, h4⟩, h5⟩ := h
      refine both g rfl (imE (pe_lc g.calm g.nd (pi_list (sv_v (W := W) g h2)) (blkOk_by (by rw [g.N, g.sc]; exact h1))
        (fun s H C cl fp => snd_G (g.blk s H C scope cl fp) tg t h3) (fun s H C cl fp => sndC c ifs _ W0 _ _ h4 (g.blk s H C scope cl fp) takes0)
        (fun s H C cl fp => (sndE e el _ W0 _ _ h5 (g.blk s H C scope cl fp) takes0).1) (fun x => rfl)) fun σ H Q q => ?_)
      rw [own_ix, g.K]
      exact lc_readL q
    · exact Bool.noConfusion h
  | .dpr t a1, a, X, W, sc, fo, h, g, tk => by
    cases a <;> first | exact Bool.noConfusion h | skip
    rename_i fn xs kws pos
    cases fn <;> first | exact Bool.noConfusion h | skip
    rename_i x p
    match xs, kws, h with
    | [y], [], h =>
      have h' : (glB sc x && decide (x = "dict") && ckE G.T N sc fo a1 y) = true := h
      simp only [Bool.and_eq_true, decide_eq_true_eq] at h'
      obtain ⟨⟨h1, h2⟩, h3⟩ := h'
      exact both g rfl (sv_dpr F g h2 h1 (sndE a1 y X W sc fo h3 g tk).1 (ck_star h3 [] X.env))
    | [], _, h => exact Bool.noConfusion h
    | [_], _ :: _, h => exact Bool.noConfusion h
    | _ :: _ :: _, _, h => exact Bool.noConfusion h
  | .frz a1, a, X, W, sc, fo, h, g, tk => by
    have h' : (plainB a && ckE G.T N sc fo a1 a) = true := h
    rw [Bool.and_eq_true] at h'
    exact both g h'.1 (sv_frz (sndE a1 a X W sc fo h'.2 g tk).1)
  | .lam f b, a, X, W, sc, fo, h, g, tk => by
    cases a <;> first | exact Bool.noConfusion h | skip
    rename_i fn xs kws pos
    cases fn <;> first | exact Bool.noConfusion h | skip
    rename_i x p
    match xs, kws, h with
    | [y], [], h =>
      cases y <;> first | exact Bool.noConfusion h | skip
      rename_i ps el scope lpos
      have h' : (glB sc x && (match G.T.tf f with | some t => decide (t.name = x) | none => false) && decide (fo.lv ≠ 0) && noParB ps && LamX.lamSB sc scope && ckE G.T N scope ⟨fun _ => false, 0⟩ b el) = true := h
      simp only [Bool.and_eq_true] at h'
      obtain ⟨⟨⟨⟨⟨h1, h2⟩, h3⟩, h4⟩, h5⟩, h6⟩ := h'
      split at h2
      · rename_i t e
        refine both g rfl ?_
        show PE X _ (tE G W fun ρ h => match G.T.tf f with | some t => t.run ((ev G.T cf b).val ρ h) | none => .no)
        rw [e]
        exact snd_lam F g tk e (of_decide_eq_true h2) h1 (of_decide_eq_true h3) h4 h5 (fun X' W' g' tk' => (sndE b el X' W' scope _ h6 g' tk').1)
      · cases h2
    | [], _, h => exact Bool.noConfusion h
    | [y], _ :: _, h => cases y <;> exact Bool.noConfusion h
    | y :: _ :: _, _, h => cases y <;> exact Bool.noConfusion h
  | .lckE m y1, a, X, W, sc, fo, h, g, tk => by
    have h' : (plainB a && (match N[m]? with | some _ => true | none => false) && ckE G.T N sc fo y1 a) = true := h
    simp only [Bool.and_eq_true] at h'
    exact both g h'.1.1 (sv_lck (sndE y1 a X W sc fo h'.2 g tk).1)
  | .callV i es, a, X, W, sc, fo, h, g, tk => by
    cases a <;> first | exact Bool.noConfusion h | skip
    rename_i fn xs kws pos
    cases fn <;> first | exact Bool.noConfusion h | skip
    rename_i x p
    match xs, kws, h with
    | y :: ys, [], h =>
      have h' : (varB N sc i x && ckEs G.T N sc fo es (y :: ys)) = true := h
      rw [Bool.and_eq_true] at h'
      obtain ⟨h1, h3⟩ := h'
      refine both g rfl (snd_callV F g tk h1 (sndEs es (y :: ys) X W sc fo h3 g tk).1 ?_ (star_back ?_))
      · cases es with
        | nil => exact Bool.noConfusion h3
        | cons e es =>
          have h4 : (ckE G.T N sc fo e y && ckEs G.T N sc fo es ys) = true := h3
          rw [Bool.and_eq_true] at h4
          exact ck_star h4.1 ys X.env
      · cases es with
        | nil => exact Bool.noConfusion h3
        | cons e es =>
          have h4 : (ckE G.T N sc fo e y && ckEs G.T N sc fo es ys) = true := h3
          rw [Bool.and_eq_true] at h4
          exact ckEs_star X.env h4.2
    | [], _, h => exact Bool.noConfusion h
    | _ :: _, _ :: _, h => exact Bool.noConfusion h
  | .lrg m a1, a, X, W, sc, fo, h, g, tk => by
    cases a <;> first | exact Bool.noConfusion h | skip
    rename_i fn xs kws pos
    cases fn <;> first | exact Bool.noConfusion h | skip
    rename_i x p
    cases xs with
    | nil => exact Bool.noConfusion h
    | cons y ys =>
      cases y <;> first | (cases ys <;> cases kws <;> exact Bool.noConfusion h) | skip
      rename_i fn2 zs kws2 pos2
      cases fn2 <;> first | (cases zs <;> cases kws2 <;> cases ys <;> cases kws <;> exact Bool.noConfusion h) | skip
      rename_i y q
      match zs, kws2, ys, kws, h with
      | [z], [], [], [], h =>
        have h' : (glB sc x && decide (x = "list") && (glB sc y && decide (y = "range") && ckE G.T N sc fo a1 z)) = true := h
        simp only [Bool.and_eq_true, decide_eq_true_eq] at h'
        obtain ⟨⟨h1, h2⟩, ⟨h3, h4⟩, h5⟩ := h'
        exact both g rfl (sv_lrg F g h2 h1 h4 h3 (sndE a1 z X W sc fo h5 g tk).1 (ck_star h5 [] X.env))
      | [], _, _, _, h => exact Bool.noConfusion h
      | _ :: _ :: _, _, _, _, h => exact Bool.noConfusion h
      | [_], _ :: _, _, _, h => exact Bool.noConfusion h
      | [_], [], _ :: _, _, h => exact Bool.noConfusion h
      | [_], [], [], _ :: _, h => exact Bool.noConfusion h
  | .lzp a1 b1, a, X, W, sc, fo, h, g, tk => by
    unfold ckE at h
    split at h
    · rename_i x p1 y p2 c d p3 p4
      simp only [Bool.and_eq_true, decide_eq_true_eq] at h
      obtain ⟨⟨⟨⟨h1, h2⟩, h3, h4⟩, h5⟩, h6⟩ := h
      exact both g rfl (LZ.sv_lzp F g h2 h1 h4 h3 (sndE a1 c X W sc fo h5 g tk).1 (sndE b1 d X W sc fo h6 g tk).1 (ck_star h5 _ X.env) (ck_star h6 [] X.env))
    · exact Bool.noConfusion h
  | .lzpS a1 b1, a, X, W, sc, fo, h, g, tk => by
    unfold ckE at h
    split at h
    · rename_i x p1 y p2 c d k k1 k2 k3 p3 p4
      simp only [Bool.and_eq_true, decide_eq_true_eq] at h
      obtain ⟨⟨⟨⟨⟨h1, h2⟩, h3, h4⟩, h0⟩, h5⟩, h6⟩ := h
      subst h0
      exact both g rfl (LZ.sv_lzpS F g h2 h1 h4 h3 (sndE a1 c X W sc fo h5 g tk).1 (sndE b1 d X W sc fo h6 g tk).1 (ck_star h5 _ X.env) (ck_star h6 [] X.env))
    · exact Bool.noConfusion h
  | .exn c a1, a, X, W, sc, fo, h, g, tk => by
    unfold ckE at h
    split at h
    · rename_i x p1 y p2
      simp only [Bool.and_eq_true, decide_eq_true_eq] at h
      obtain ⟨⟨h1, h2⟩, h3⟩ := h
      exact both g rfl (sv_exn F g h2 h1 (sndE a1 y X W sc fo h3 g tk).1 (ck_star h3 [] X.env))
    · exact Bool.noConfusion h
  | .isx k a1, a, X, W, sc, fo, h, g, tk => by
    unfold ckE at h
    split at h
    · rename_i x p1 y z p2 p3
      simp only [Bool.and_eq_true, decide_eq_true_eq] at h
      obtain ⟨⟨⟨⟨h1, h2⟩, h3⟩, h4⟩, h5⟩ := h
      refine both g rfl (sv_isx F g h2 h1 h3 ?_ (sndE a1 y X W sc fo h5 g tk).1 (ck_star h5 _ X.env))
      unfold xtB at h4
      cases k with
      | own d => exact of_decide_eq_true h4
      | val => exact of_decide_eq_true h4
      | look => exact of_decide_eq_true h4
    · exact Bool.noConfusion h
  | .strx a1, a, X, W, sc, fo, h, g, tk => by
    unfold ckE at h
    split at h
    · rename_i x p1 y p2
      simp only [Bool.and_eq_true, decide_eq_true_eq] at h
      obtain ⟨⟨h1, h2⟩, h3⟩ := h
      exact both g rfl (sv_strx F g h2 h1 (sndE a1 y X W sc fo h3 g tk).1 (ck_star h3 [] X.env))
    · exact Bool.noConfusion h
  | .rev a1, a, X, W, sc, fo, h, g, tk => by
    unfold ckE at h
    split at h
    · exact both g rfl (sv_rev g (sndE a1 _ X W sc fo h g tk).1)
    · exact Bool.noConfusion h
  | .call0 f, a, X, W, sc, fo, h, g, tk => by
    cases a <;> first | exact Bool.noConfusion h | skip
    rename_i fn xs kws pos
    cases fn <;> first | exact Bool.noConfusion h | skip
    rename_i x p
    match xs, kws, h with
    | [], [], h =>
      have h' : (glB sc x && (match G.T.fn f with | some p => decide (p.name = x) | none => false) && (x != ("super" : Str))) = true := h
      simp only [Bool.and_eq_true] at h'
      obtain ⟨⟨h1, h2⟩, _⟩ := h'
      split at h2
      · rename_i fd e
        exact both g rfl (snd_call0 F g tk e (of_decide_eq_true h2) h1)
      · cases h2
    | [], _ :: _, h => exact Bool.noConfusion h
    | _ :: _, _, h => exact Bool.noConfusion h
  | .fld a1 f, a, X, W, sc, fo, h, g, tk => by
    cases a <;> first | exact Bool.noConfusion h | skip
    rename_i l x pos
    have h' : (decide (x = f) && ckE G.T N sc fo a1 l) = true := h
    simp only [Bool.and_eq_true, decide_eq_true_eq] at h'
    obtain ⟨rfl, h2⟩ := h'
    exact both g rfl (sv_fld F g (sndE a1 l X W sc fo h2 g tk).1 (ck_base h2 _ _ _))
  | .mk c es, a, X, W, sc, fo, h, g, tk => by
    cases a <;> first | exact Bool.noConfusion h | skip
    rename_i fn xs kws pos
    cases fn <;> first | exact Bool.noConfusion h | skip
    rename_i x p
    match xs, kws, h with
    | y :: ys, [], h =>
      have h' : (glB sc x && (match G.T.cl c with | some p => decide (p.name = x) | none => false) && ckEs G.T N sc fo es (y :: ys)) = true := h
      simp only [Bool.and_eq_true] at h'
      obtain ⟨⟨h1, h2⟩, h3⟩ := h'
      split at h2
      · rename_i cl e
        refine both g rfl (sv_mk F g tk e (of_decide_eq_true h2) h1 (sndEs es (y :: ys) X W sc fo h3 g tk).1 ?_ (star_back ?_))
        · cases es with
          | nil => exact Bool.noConfusion h3
          | cons e es =>
            have h4 : (ckE G.T N sc fo e y && ckEs G.T N sc fo es ys) = true := h3
            rw [Bool.and_eq_true] at h4
            exact ck_star h4.1 ys X.env
        · cases es with
          | nil => exact Bool.noConfusion h3
          | cons e es =>
            have h4 : (ckE G.T N sc fo e y && ckEs G.T N sc fo es ys) = true := h3
            rw [Bool.and_eq_true] at h4
            exact ckEs_star X.env h4.2
      · cases h2
    | [], _, h => exact Bool.noConfusion h
    | _ :: _, _ :: _, h => exact Bool.noConfusion h
  | .meth m o es, a, X, W, sc, fo, h, g, tk => by
    cases a <;> first | exact Bool.noConfusion h | skip
    rename_i fn ys kws pos
    cases fn <;> first | exact Bool.noConfusion h | skip
    rename_i l x apos
    cases kws with
    | cons _ _ => exact Bool.noConfusion h
    | nil =>
      have h' : (decide (x = m) && (apos.endLine == pos.line) && decide (ys.length < 29) && ckE G.T N sc fo o l && ckEs G.T N sc fo es ys) = true := h
      simp only [Bool.and_eq_true, decide_eq_true_eq] at h'
      obtain ⟨⟨⟨⟨rfl, h1⟩, h2⟩, h3⟩, h4⟩ := h'
      refine both g rfl (sv_meth F g tk (sndE o l X W sc fo h3 g tk).1 (ck_base h3 _ _ _) h1 h2 (sndEs es ys X W sc fo h4 g tk).1 (star_back (ckEs_star X.env h4)) ?_ ?_)
      · intro e ρ h
        subst e
        cases es with
        | nil => rfl
        | cons _ _ => exact Bool.noConfusion h4
      · intro y r e
        subst e
        cases es with
        | nil => exact Bool.noConfusion h4
        | cons e es =>
          have h5 : (ckE G.T N sc fo e y && ckEs G.T N sc fo es r) = true := h4
          rw [Bool.and_eq_true] at h5
          exact ⟨ck_star h5.1 r X.env, star_back (ckEs_star X.env h5.2)⟩
  | .callI c1 i j es, a, X, W, sc, fo, h, g, tk => by
    unfold ckE at h
    split at h
    · rename_i t x p1 y p2 ipos z zs pos
      simp only [Bool.and_eq_true] at h
      obtain ⟨⟨⟨h1, h2, h3⟩, h4, h5⟩, h6⟩ := h
      split at h3
      · rename_i fi ei
        split at h5
        · rename_i fj ej
          refine both g rfl (sv_callI F g tk (sndE c1 t X W sc fo h1 g tk).2 ei (of_decide_eq_true h3) h2 ej (of_decide_eq_true h5) h4 (sndEs es (z :: zs) X W sc fo h6 g tk).1 ?_ (star_back ?_))
          · cases es with
            | nil => exact Bool.noConfusion h6
            | cons e es =>
              have h7 : (ckE G.T N sc fo e z && ckEs G.T N sc fo es zs) = true := h6
              rw [Bool.and_eq_true] at h7
              exact ck_star h7.1 zs X.env
          · cases es with
            | nil => exact Bool.noConfusion h6
            | cons e es =>
              have h7 : (ckE G.T N sc fo e z && ckEs G.T N sc fo es zs) = true := h6
              rw [Bool.and_eq_true] at h7
              exact ckEs_star X.env h7.2
        · cases h5
      · cases h3
    · exact Bool.noConfusion h
  | .dlit t m k v, a, X, W, sc, fo, h, g, tk => by
    unfold ckE at h
    split at h
    · rename_i x y pos
      simp only [Bool.and_eq_true] at h
      exact both g rfl (sv_dlit g (sndE k x X W0 sc fo h.1 g takes0).1 (sndE v y X W0 sc fo h.2 g takes0).1)
    · exact Bool.noConfusion h
  | .updT o e, a, X, W, sc, fo, h, g, tk => by
    unfold ckE at h
    split at h
    · rename_i l x apos y pos
      simp only [Bool.and_eq_true, decide_eq_true_eq] at h
      obtain ⟨⟨⟨h1, h2⟩, h3⟩, h4⟩ := h
      exact both g rfl (sv_updT g h1 (sndE o l X W sc fo h3 g tk).1 (sndE e y X W sc fo h4 g tk).1 (ck_base h3 _ _ _) h2 (ck_star h4 [] X.env))
    · exact Bool.noConfusion h
theorem sndEs : ∀ (es : Es) (as : List Expr) (X : Cx) (W : WX) (sc : Scope) (fo : Fo), ckEs G.T N sc fo es as = true → Good P w base G n N sc fo X → Takes X W → PA X as (tAr G W (evs G.T cf es)) ∧ AllP G cf X W es as
  | .nil, as, X, W, sc, fo, h, g, tk => by
    cases as <;> first | exact Bool.noConfusion h | skip
    exact ⟨sv_nil, trivial⟩
  | .cons e es, as, X, W, sc, fo, h, g, tk => by
    cases as with
    | nil => exact Bool.noConfusion h
    | cons a as =>
      have h' : (ckE G.T N sc fo e a && ckEs G.T N sc fo es as) = true := h
      rw [Bool.and_eq_true] at h'
      have i1 := (sndE e a X W sc fo h'.1 g tk).1
      have i2 := sndEs es as X W sc fo h'.2 g tk
      exact ⟨sv_cons i1 i2.1 (ck_star h'.1 as X.env), i1, i2.2⟩
theorem sndO : ∀ (es : Es) (x : Option Expr) (X : Cx) (W : WX) (sc : Scope) (fo : Fo), ckO G.T N sc fo es x = true → Good P w base G n N sc fo X → Takes X W → PO X x (tPa G W (evs G.T cf es))
  | .nil, x, X, W, sc, fo, h, g, tk => by
    cases x with
    | none => exact sv_ono
    | some _ => exact Bool.noConfusion h
  | .cons e es, x, X, W, sc, fo, h, g, tk => by
    cases x with
    | none => exact Bool.noConfusion h
    | some a =>
      have ie := (sndE e a X W sc fo (ckO_cons h).1 g tk).1
      rw [(ckO_cons h).2]
      exact sv_osome ie
theorem sndC : ∀ (es : Es) (as : List Expr) (X : Cx) (W : WX) (sc : Scope) (fo : Fo), ckC G.T N sc fo es as = true → Good P w base G n N sc fo X → Takes X W → PTs X as (tT G W (evC G.T cf es))
  | .nil, as, X, W, sc, fo, h, g, tk => by
    cases as <;> first | exact Bool.noConfusion h | skip
    exact sp_nil
  | .cons e es, as, X, W, sc, fo, h, g, tk => by
    match as, h with
    | [], h => exact Bool.noConfusion h
    | _ :: _ :: _, h => exact Bool.noConfusion h
    | [a], h =>
      exact pts_one (sndE e a X W sc fo (ckC_cons h) g tk).2
theorem sndI : ∀ (it : It) (t a : Expr) (X : Cx) (W : WX) (sc : Scope) (fo : Fo), ckI G.T N sc fo it t a = true → Good P w base G n N sc fo X → Takes X W → PI X t a (tIr G W (evI G.T cf it))
  | .seq e, t, a, X, W, sc, fo, h, g, tk => si_seq g (sndE e a X W sc fo h g tk).1
  | .rng1 e, t, a, X, W, sc, fo, h, g, tk => by
    cases a <;> first | exact Bool.noConfusion h | skip
    rename_i fn xs kws pos
    cases fn <;> first | exact Bool.noConfusion h | skip
    rename_i x p
    match xs, kws, h with
    | [y], [], h =>
      have h' : (glB sc x && decide (x = "range") && ckE G.T N sc fo e y) = true := h
      simp only [Bool.and_eq_true, decide_eq_true_eq] at h'
      obtain ⟨⟨h1, h2⟩, h3⟩ := h'
      exact si_rng1 F g h2 h1 (sndE e y X W sc fo h3 g tk).1 (ck_star h3 [] X.env)
    | [], _, h => exact Bool.noConfusion h
    | [_], _ :: _, h => exact Bool.noConfusion h
    | _ :: _ :: _, _, h => exact Bool.noConfusion h
  | .rng2 e e2, t, a, X, W, sc, fo, h, g, tk => by
    cases a <;> first | exact Bool.noConfusion h | skip
    rename_i fn xs kws pos
    cases fn <;> first | exact Bool.noConfusion h | skip
    rename_i x p
    match xs, kws, h with
    | [y, z], [], h =>
      have h' : (glB sc x && decide (x = "range") && ckE G.T N sc fo e y && ckE G.T N sc fo e2 z) = true := h
      simp only [Bool.and_eq_true, decide_eq_true_eq] at h'
      obtain ⟨⟨⟨h1, h2⟩, h3⟩, h4⟩ := h'
      exact si_rng2 F g h2 h1 (sndE e y X W sc fo h3 g tk).1 (sndE e2 z X W sc fo h4 g tk).1 (ck_star h3 _ X.env) (ck_star h4 [] X.env)
    | [], _, h => exact Bool.noConfusion h
    | [_], _, h => exact Bool.noConfusion h
    | [_, _], _ :: _, h => exact Bool.noConfusion h
    | _ :: _ :: _ :: _, _, h => exact Bool.noConfusion h
  | .keys e, t, a, X, W, sc, fo, h, g, tk => si_keys g (sndE e a X W sc fo h g tk).1
  | .enum e, t, a, X, W, sc, fo, h, g, tk => by
    cases a <;> first | exact Bool.noConfusion h | skip
    rename_i fn xs kws pos
    cases fn <;> first | exact Bool.noConfusion h | skip
    rename_i x p
    match xs, kws, h with
    | [y], [], h =>
      cases t <;> first | exact Bool.noConfusion h | skip
      have h' : (glB sc x && decide (x = "enumerate") && ckE G.T N sc fo e y) = true := h
      simp only [Bool.and_eq_true, decide_eq_true_eq] at h'
      obtain ⟨⟨h1, h2⟩, h3⟩ := h'
      exact si_enum F g h2 h1 (sndE e y X W sc fo h3 g tk).1 (ck_star h3 [] X.env)
    | [], _, h => exact Bool.noConfusion h
    | [_], _ :: _, h => exact Bool.noConfusion h
    | _ :: _ :: _, _, h => exact Bool.noConfusion h
  | .zip e e2, t, a, X, W, sc, fo, h, g, tk => by
    cases a <;> first | exact Bool.noConfusion h | skip
    rename_i fn xs kws pos
    cases fn <;> first | exact Bool.noConfusion h | skip
    rename_i x p
    match xs, kws, h with
    | [y, z], [], h =>
      cases t <;> first | exact Bool.noConfusion h | skip
      have h' : (glB sc x && decide (x = "zip") && ckE G.T N sc fo e y && ckE G.T N sc fo e2 z) = true := h
      simp only [Bool.and_eq_true, decide_eq_true_eq] at h'
      obtain ⟨⟨⟨h1, h2⟩, h3⟩, h4⟩ := h'
      exact si_zip F g h2 h1 (sndE e y X W sc fo h3 g tk).1 (sndE e2 z X W sc fo h4 g tk).1 (ck_star h3 _ X.env) (ck_star h4 [] X.env)
    | [], _, h => exact Bool.noConfusion h
    | [_], _, h => exact Bool.noConfusion h
    | [_, _], _ :: _, h => exact Bool.noConfusion h
    | _ :: _ :: _ :: _, _, h => exact Bool.noConfusion h
  | .zipS e e2, t, a, X, W, sc, fo, h, g, tk => by
    unfold ckI at h
    split at h
    · rename_i x p y z y2 k1 k2 k3 pos elts k4 k5
      simp only [Bool.and_eq_true, decide_eq_true_eq] at h
      obtain ⟨⟨⟨⟨h1, h2⟩, h0⟩, h3⟩, h4⟩ := h
      subst h0
      exact si_zipS F g h2 h1 (sndE e y X W sc fo h3 g tk).1 (sndE e2 z X W sc fo h4 g tk).1 (ck_star h3 _ X.env) (ck_star h4 [] X.env)
    · exact Bool.noConfusion h
  | .enumT e, t, a, X, W, sc, fo, h, g, tk => by
    cases a <;> first | exact Bool.noConfusion h | skip
    rename_i fn xs kws pos
    cases fn <;> first | exact Bool.noConfusion h | skip
    rename_i x p
    match xs, kws, h with
    | [y], [], h =>
      cases t <;> first | exact Bool.noConfusion h | skip
      have h' : (glB sc x && decide (x = "enumerate") && ckE G.T N sc fo e y) = true := h
      simp only [Bool.and_eq_true, decide_eq_true_eq] at h'
      obtain ⟨⟨h1, h2⟩, h3⟩ := h'
      exact si_enumT F g h2 h1 (sndE e y X W sc fo h3 g tk).1 (ck_star h3 [] X.env)
    | [], _, h => exact Bool.noConfusion h
    | [_], _ :: _, h => exact Bool.noConfusion h
    | _ :: _ :: _, _, h => exact Bool.noConfusion h
end
end
end PyI
set_option Elab.async false
set_option linter.all false
set_option maxRecDepth 100000
namespace PyI
open PySem L2
/-- the flow's own promise -/
def FlQ (G : Glb) (D : Ends) (μ : Mu) (M : Mk) (H : Hp) (σ : St) : Fl → Prop
  | .nx => D.nx σ H
  | .brk => D.bk σ H
  | .cont => D.ct σ H
  | .ret d => ∀ v, Rep G μ M H d v → D.rt v H
def PostS (G : Glb) (W : WX) (D : Ends) (μ : Mu) (M : Mk) (H : Hp) (r : SR) : Prop :=
  match r with
  | .ok fl ρ' h' => ∀ σ' μ' M' H', Le μ M H μ' M' H' → Hrel G μ' M' H' h' → Envi G μ' M' H' ρ' σ' → FlQ G D μ' M' H' σ' fl
  | .err c ρ' h' => ∀ C σ' μ' M' H', exN G c C → Le μ M H μ' M' H' → Hrel G μ' M' H' h' → Envi G μ' M' H' ρ' σ' → W (.ref C) none σ' H'
  | .no => False
/-- a statement by the evaluator -/
def tS (G : Glb) (W : WX) (f : Loc → Hea → SR) : TS := fun D σ H => ∃ μ M ρ h, Envi G μ M H ρ σ ∧ Hrel G μ M H h ∧ PostS G W D μ M H (f ρ h)
section
variable {α β : Type} {G : Glb} {μ μ' : Mu} {M M' : Mk} {H H' : Hp} {h : Hea} {W : WX} {σ : St} {D D' : Ends} {R : Mu → Mk → Hp → α → β → Prop} {ρ : Loc}
theorem PostS.le {r : SR} (p : PostS G W D μ M H r) (l : Le μ M H μ' M' H') : PostS G W D μ' M' H' r := by
  cases r with
  | ok fl ρ' h' => exact fun σ' μ2 M2 H2 k => p σ' μ2 M2 H2 (l.trans k)
  | err c ρ' h' => exact fun C σ' μ2 M2 H2 e k => p C σ' μ2 M2 H2 e (l.trans k)
  | no => exact p
theorem tS.out {f : Loc → Hea → SR} (q : tS G W f D σ H) : ∃ μ M ρ h, Envi G μ M H ρ σ ∧ Hrel G μ M H h ∧ PostS G W D μ M H (f ρ h) := q
theorem tS.of {f : Loc → Hea → SR} (e : Envi G μ M H ρ σ) (r : Hrel G μ M H h) (p : PostS G W D μ M H (f ρ h)) : tS G W f D σ H := ⟨μ, M, ρ, h, e, r, p⟩
theorem PostS.here {fl : Fl} (p : PostS G W D μ M H (.ok fl ρ h)) (r : Hrel G μ M H h) (e : Envi G μ M H ρ σ) : FlQ G D μ M H σ fl := p σ μ M H Le.refl r e
/-- an expression, and the rest -/
theorem PostS.thn {f : Loc → Hea → Res α} {g : α → Hea → SR} (e : Envi G μ M H ρ σ) (r : Hrel G μ M H h) (p : PostS G W D μ M H ((f ρ h).st ρ g)) :
    tG G W R f σ H (fun b H1 => ∃ a μ1 M1 h1, Le μ M H μ1 M1 H1 ∧ Envi G μ1 M1 H1 ρ σ ∧ Hrel G μ1 M1 H1 h1 ∧ R μ1 M1 H1 a b ∧ PostS G W D μ1 M1 H1 (g a h1)) := by
  refine ⟨μ, M, ρ, h, e, r, ?_⟩
  cases q : f ρ h with
  | no => rw [q] at p; exact p
  | err c k => rw [q] at p; exact fun C μ1 M1 H1 ex l r1 => p C σ μ1 M1 H1 ex l r1 (e.le r l)
  | ok a h1 =>
    rw [q, Res.st_ok] at p
    exact fun b μ1 M1 H1 l r1 q1 => ⟨a, μ1, M1, h1, l, e.le r l, r1, q1, PostS.le p l⟩
theorem tS.st {f : Loc → Hea → Res α} {g : Loc → α → Hea → SR} (q : tS G W (fun ρ h => (f ρ h).st ρ (g ρ)) D σ H) :
    tG G W R f σ H (fun b H1 => ∃ a μ M ρ h, Envi G μ M H1 ρ σ ∧ Hrel G μ M H1 h ∧ R μ M H1 a b ∧ PostS G W D μ M H1 (g ρ a h)) := by
  obtain ⟨μ, M, ρ, h, e, r, p⟩ := q.out
  exact (PostS.thn (R := R) e r p).mono fun b H1 ⟨a, μ1, M1, h1, _, e1, r1, q1, p1⟩ => ⟨a, μ1, M1, ρ, h1, e1, r1, q1, p1⟩
theorem imS {X : Cx} {st : Stmt} {t t' : TS} (p : PS X st t) (i : ∀ D σ H, t' D σ H → t D σ H) : PS X st t' := ⟨fun pins s σ H D I q => p.run pins s σ H D I (i D σ H q)⟩
theorem imSs {X : Cx} {st : List Stmt} {t t' : TS} (p : PSs X st t) (i : ∀ D σ H, t' D σ H → t D σ H) : PSs X st t' := ⟨fun pins s σ H D I q => p.run pins s σ H D I (i D σ H q)⟩
end
section
variable {P : Program} {w : World} {base : Heap} {G : Glb} {cf : Nat → List D → Hea → Res D} {n : Nat} {N : List Str} {sc : Scope} {fo : Fo} {X : Cx} {W : WX}
variable {a b c : Expr} {fa fb fc : Loc → Hea → Res D} {pos p : Pos}
/-- name = value -/
theorem set_read {i : Nat} {t : TE} (im : ∀ σ H Q, tE G W fa σ H Q → t σ H Q) {D : Ends} {σ : St} {H : Hp} (q : tS G W (fun ρ h => (fa ρ h).st ρ fun d h1 => .ok .nx (ρ.set i (some d)) h1) D σ H) : tAsg t (gName i) D σ H := by
  refine im σ H _ (tG.mono (tS.st (R := Rep G) q) ?_)
  rintro v H1 ⟨d, μ, M, ρ, h, e, r, pa, p⟩
  exact p.here r (e.set i pa)
theorem ss_set (g : Good P w base G n N sc fo X) {i : Nat} {x : Str} (hi : N[i]? = some x) (hx : locB sc fo x = true) (ha : PE X a (tE G W fa)) (hs : swapsWith a (some (.Name x p)) pos.line X.env = pure false) :
    PS X (.Assign [.Name x p] a pos) (tS G W fun ρ h => (fa ρ h).st ρ fun d h1 => .ok .nx (ρ.set i (some d)) h1) := by
  obtain ⟨l1, l2⟩ := locB_loc hx
  exact imS (ps_set g.nd (by rw [g.N]; exact hi) (by rw [g.sc]; exact l1) ha hs (by rw [g.fn, g.sc]; exact l2)) fun D σ H q => set_read (fun _ _ _ q => q) q
theorem ss_asg (g : Good P w base G n N sc fo X) {own : List Nat} {t : Tg} {tg : Expr} (ht : ckG N sc fo own t tg = true) (ha : PE X a (tE G W fa)) (hs : swapsWithSole [tg] a pos.line X.env = pure false) (hw : swappedStores [tg] a X.env = pure none) :
    PS X (.Assign [tg] a pos) (tS G W fun ρ h => (fa ρ h).st ρ fun d h1 => match evG t ρ d with | some ρ1 => .ok .nx ρ1 h1 | none => .no) := by
  refine imS (ps_asg ha (snd_G g t tg ht) hs hw (by rw [ckG_assign ht]; rfl)) fun D σ H q => ?_
  refine tG.mono (tS.st (R := Rep G) q) ?_
  rintro v H1 ⟨d, μ, M, ρ, h, e, r, pa, p⟩
  split at p
  · rename_i ρ1 ev
    exact ⟨μ, M, ρ, d, ρ1, e, pa, ev, fun σ' e' _ => p.here r e'⟩
  · exact p.elim
theorem setR_post {μ : Mu} {M : Mk} {H : Hp} {h h4 : Hea} {x y d : D} {o i v : V} (r : Hrel G μ M H h) (po : Rep G μ M H x o) (pi : Rep G μ M H y i) (pv : Rep G μ M H d v) (e : setR h x y d = some h4) {Q : Hp → Prop}
    (q : ∀ H', Le μ M H μ M H' → Hrel G μ M H' h4 → Q H') : rSetL o i v H Q ∨ rSetD o i v H Q := by
  unfold setR at e
  split at e
  · rename_i m
    split at e
    · rename_i xs ex
      obtain ⟨k, ek, e⟩ := Option.bind_eq_some_iff.mp e
      obtain ⟨j, ej, rfl⟩ := Option.map_eq_some_iff.mp e
      obtain ⟨a, rfl, hn, ys, s, t⟩ := r.at_ po ex (by intro z; cases z)
      have ei := int_rep pi ek
      subst ei
      refine .inl ⟨a, ys, k, j, rfl, rfl, s, by rw [t.length]; exact ej, ?_⟩
      exact q _ (Le.write hn s) (r.write hn s ⟨ys.set j v, upd_same, Reps.set (Rep.le r (Le.write hn s) _ _ pv) j (Reps.le r (Le.write hn s) _ _ t)⟩)
    · rename_i ks vs ex
      obtain ⟨k, ek, e⟩ := Option.bind_eq_some_iff.mp e
      split at e
      · rename_i hl
        cases e
        obtain ⟨a, rfl, hn, kvs, s, ekk, t⟩ := r.at_ po ex (by intro z; cases z)
        have ei := keyV_kV pi ek
        subst ei
        have hlen : kvs.length < sizeLine := by rw [← ekk, List.length_map] at hl; exact hl
        refine .inr ⟨a, _, rfl, .inl ⟨kvs, k, s, rfl, hlen, rfl⟩, ?_⟩
        have wr : Le μ M H μ M (upd H a (.dK (putK kvs k v))) := Le.write hn s
        obtain ⟨p1, p2⟩ := put_rep (x := k) (Rep.le r wr _ _ pv) ekk (Reps.le r wr _ _ t)
        exact q _ wr (r.write hn s ⟨_, upd_same, p1, p2⟩)
      · cases e
    · rename_i ks vs ex
      obtain ⟨k, ek, e⟩ := Option.bind_eq_some_iff.mp e
      split at e
      · rename_i hl
        cases e
        obtain ⟨a, rfl, hn, kvs, s, ekk, t⟩ := r.at_ po ex (by intro z; cases z)
        obtain ⟨b, rfl, hb⟩ := tkeyV_kV pi ek
        have hlen : kvs.length < sizeLine := by rw [← ekk, List.length_map] at hl; exact hl
        refine .inr ⟨a, _, rfl, .inr ⟨kvs, k, b, s, rfl, hb, hlen, rfl⟩, ?_⟩
        have wr : Le μ M H μ M (upd H a (.dT (putK kvs k v))) := Le.write hn s
        obtain ⟨p1, p2⟩ := put_rep (x := k) (Rep.le r wr _ _ pv) ekk (Reps.le r wr _ _ t)
        exact q _ wr (r.write hn s ⟨_, upd_same, p1, p2⟩)
      · cases e
    · cases e
  · cases e
theorem set_ld (hu : X.A.units + 1 < cLine) : PSet X (fun o i v H Q => rSetL o i v H Q ∨ rSetD o i v H Q) := by
  intro pins s σ H o i v ov iv u Q I ro ri rv q
  rcases q with q | q
  · exact set_list pins s σ H o i v ov iv u Q I ro ri rv q
  · exact set_dict hu pins s σ H o i v ov iv u Q I ro ri rv q
theorem ss_put (g : Good P w base G n N sc fo X) (ha : PE X a (tE G W fa)) (hb : PE X b (tE G W fb)) (hc : PE X c (tE G W fc)) (hs : swapsWithSole [.Subscript a b p] c pos.line X.env = pure false)
    (hb2 : ∀ v, assign (.Subscript a b p) X.env v = (do
      let ov ← holding [v] (eval a X.env)
      let iv ← holding [v, ov] (eval b X.env)
      standAt p
      holding [v, ov, iv] (setItem ov iv v)
      release [v, ov, iv] [])) :
    PS X (.Assign [.Subscript a b p] c pos) (tS G W fun ρ h => (fc ρ h).st ρ fun d h1 => (fa ρ h1).st ρ fun x h2 => (fb ρ h2).st ρ fun y h3 => match setR h3 x y d with | some h4 => .ok .nx ρ h4 | none => .no) := by
  refine imS (ps_asg hc (pg_sub ha hb (set_ld g.hu1) hb2) hs rfl) fun D σ H q => ?_
  obtain ⟨μ, M, ρ, h, e, r, p⟩ := q.out
  refine tG.mono (PostS.thn (R := Rep G) e r p) ?_
  rintro v H1 ⟨d, μ1, M1, h1, l1, e1, r1, pv, p1⟩
  refine tG.mono (PostS.thn (R := Rep G) (f := fa) e1 r1 p1) ?_
  rintro o H2 ⟨x, μ2, M2, h2, l2, e2, r2, po, p2⟩
  refine tG.mono (PostS.thn (R := Rep G) (f := fb) e2 r2 p2) ?_
  rintro i H3 ⟨y, μ3, M3, h3, l3, e3, r3, pi, p3⟩
  split at p3
  · rename_i h4 es
    exact setR_post r3 (Rep.le r2 l3 _ _ po) pi (Rep.le r1 (l2.trans l3) _ _ pv) es fun H' l r' => p3 σ μ3 M3 H' l r' (e3.le r3 l)
  · exact p3.elim
theorem ss_ex (ha : PE X a (tE G W fa)) (hs : swapsWith a none pos.line X.env = pure false) : PS X (.Expr a pos) (tS G W fun ρ h => (fa ρ h).st ρ fun _ h1 => .ok .nx ρ h1) := by
  refine imS (ps_expr ha hs) fun D σ H q => ?_
  refine tG.mono (tS.st (R := Rep G) q) ?_
  rintro v H1 ⟨d, μ, M, ρ, h, e, r, pa, p⟩
  exact p.here r e
theorem ss_ret (ha : PE X a (tE G W fa)) : PS X (.Return (some a) pos) (tS G W fun ρ h => (fa ρ h).st ρ fun d h1 => .ok (.ret d) ρ h1) := by
  refine imS (ps_ret ha) fun D σ H q => ?_
  refine tG.mono (tS.st (R := Rep G) q) ?_
  rintro v H1 ⟨d, μ, M, ρ, h, e, r, pa, p⟩
  exact p.here r e v pa
theorem ss_retN : PS X (.Return none pos) (tS G W fun ρ h => .ok (.ret .non) ρ h) := by
  refine imS ps_retN fun D σ H q => ?_
  obtain ⟨μ, M, ρ, h, e, r, p⟩ := q.out
  exact p.here r e .non (by rw [rep_non])
theorem ss_nx {st : Stmt} (ha : PS X st tNext) : PS X st (tS G W fun ρ h => .ok .nx ρ h) := by
  refine imS ha fun D σ H q => ?_
  obtain ⟨μ, M, ρ, h, e, r, p⟩ := q.out
  exact p.here r e
theorem ss_brk : PS X (.Break pos) (tS G W fun ρ h => .ok .brk ρ h) := by
  refine imS ps_break fun D σ H q => ?_
  obtain ⟨μ, M, ρ, h, e, r, p⟩ := q.out
  exact p.here r e
theorem ss_cont : PS X (.Continue pos) (tS G W fun ρ h => .ok .cont ρ h) := by
  refine imS ps_continue fun D σ H q => ?_
  obtain ⟨μ, M, ρ, h, e, r, p⟩ := q.out
  exact p.here r e
theorem ss_if {tc : Loc → Hea → Res Bool} {fx fy : Loc → Hea → SR} {xs ys : List Stmt} (hc : PT X c (tT G W tc)) (hx : PSs X xs (tS G W fx)) (hy : PSs X ys (tS G W fy)) :
    PS X (.If c xs ys pos) (tS G W fun ρ h => (tc ρ h).st ρ fun k h1 => if k then fx ρ h1 else fy ρ h1) := by
  refine imS (ps_if hc hx hy) fun D σ H q => ?_
  refine tG.mono (tS.st (R := fun _ _ _ a b => a = b) q) ?_
  rintro _ H1 ⟨k, μ, M, ρ, h, e, r, rfl, p⟩
  cases k with
  | true => exact tS.of e r p
  | false => exact tS.of e r p
theorem ss_nil : PSs X [] (tS G W fun ρ h => .ok .nx ρ h) := by
  refine imSs pss_nil fun D σ H q => ?_
  obtain ⟨μ, M, ρ, h, e, r, p⟩ := q.out
  exact p.here r e
theorem ss_cons {st : Stmt} {sts : List Stmt} {f g : Loc → Hea → SR} (h1 : PS X st (tS G W f)) (h2 : PSs X sts (tS G W g)) : PSs X (st :: sts) (tS G W fun ρ h => (f ρ h).thn g) := by
  refine imSs (pss_cons h1 h2) fun D σ H q => ?_
  obtain ⟨μ, M, ρ, h, e, r, p⟩ := q.out
  refine tS.of e r ?_
  cases ef : f ρ h with
  | no => rw [ef] at p; exact p
  | err c ρ1 h1 => rw [ef] at p; exact p
  | ok fl ρ1 h1 =>
    rw [ef] at p
    cases fl with
    | nx => exact fun σ' μ' M' H' l r' e' => tS.of e' r' (PostS.le (show PostS G W D μ M H (g ρ1 h1) from p) l)
    | brk => exact p
    | cont => exact p
    | ret d => exact p
theorem ss_while {tc : Loc → Hea → Res Bool} {f : Loc → Hea → SR} {body : List Stmt} (hp : PassesOwn (model X.prog X.w) X.A X.env X.xe) (hc : PT X c (tT G W tc)) (hb : PSs X body (tS G W f)) :
    PS X (.While c body [] pos) (tS G W fun ρ h => whR tc f ρ h) := by
  refine imS (ps_while hp hc hb) fun D σ H q => ?_
  refine ⟨fun m σ H => tS G W (fun ρ h => whLoop tc f m ρ h) D σ H, ?_, ?_⟩
  · obtain ⟨μ, M, ρ, h, e, r, p⟩ := q.out
    unfold whR at p
    split at p
    · rename_i ex
      exact ⟨Classical.choose ex, μ, M, ρ, h, e, r, p⟩
    · exact p.elim
  intro m σ H q
  cases m with
  | zero => obtain ⟨μ, M, ρ, h, e, r, p⟩ := q.out; exact p.elim
  | succ m =>
    refine tG.mono (tS.st (R := fun _ _ _ a b => a = b) (f := tc) (g := fun ρ k h1 => if k then
      (match f ρ h1 with
       | .ok .nx ρ1 h2 => whLoop tc f m ρ1 h2
       | .ok .cont ρ1 h2 => whLoop tc f m ρ1 h2
       | .ok .brk ρ1 h2 => .ok .nx ρ1 h2
       | r => r)
      else .ok .nx ρ h1) q) ?_
    rintro _ H1 ⟨k, μ, M, ρ, h, e, r, rfl, p⟩
    cases k with
    | false => exact p.here r e
    | true =>
      rw [if_pos rfl] at p
      rw [if_pos rfl]
      refine ⟨fun σ' H' => tS G W (fun ρ h => whLoop tc f m ρ h) D σ' H', fun σ' H' z => ⟨m, Nat.lt_succ_self m, z⟩, tS.of e r ?_⟩
      cases ef : f ρ h with
      | no => rw [ef] at p; exact p
      | err c ρ1 h1 => rw [ef] at p; exact p
      | ok fl ρ1 h1 =>
        rw [ef] at p
        cases fl with
        | nx => exact fun σ' μ' M' H' l r' e' => tS.of e' r' (PostS.le p l)
        | cont => exact fun σ' μ' M' H' l r' e' => tS.of e' r' (PostS.le p l)
        | brk => exact p
        | ret d => exact p
theorem ss_for {fi : Loc → Hea → Res (List D)} {f : Loc → Hea → SR} {body : List Stmt} {own : List Nat} {t : Tg} {tg : Expr} (g : Good P w base G n N sc fo X) (hp : PassesOwn (model X.prog X.w) X.A X.env X.xe) (ht : ckG N sc fo own t tg = true)
    (hi : PI X tg a (tIr G W fi)) (hb : PSs X body (tS G W f)) (hs : ∀ x, foldedSetIterable a X.env x = pure x) :
    PS X (.For tg a body [] pos) (tS G W fun ρ h => (fi ρ h).st ρ fun xs h1 => frLoop (fun x ρ h => match evG t ρ x with | some ρ1 => f ρ1 h | none => .no) xs ρ h1) := by
  refine imS (ps_for hp g.calm hi (snd_G g t tg ht) hb hs) fun D σ H q => ?_
  refine tG.mono (tS.st (R := RW G) q) ?_
  rintro J H1 ⟨xs, μ1, M1, ρ0, h1, e1, r1, wk, p1⟩
  refine ⟨fun i m σ H => i + m = xs.length ∧ ∃ μ M ρ h, Envi G μ M H ρ σ ∧ Hrel G μ M H h ∧ Lw μ1 M1 H1 μ M H ∧ PostS G W D μ M H (frLoop (fun x ρ h => match evG t ρ x with | some ρ1 => f ρ1 h | none => .no) (xs.drop i) ρ h),
    ⟨xs.length, by omega, μ1, M1, ρ0, h1, e1, r1, Lw.refl, by rw [List.drop_zero]; exact p1⟩, ?_⟩
  rintro i m σ H2 ⟨hi, μ2, M2, ρ2, h2, e2, r2, lw, p2⟩
  have wk2 := wk μ2 M2 H2 h2 lw r2 i
  by_cases hd : i < xs.length
  · refine .inr ?_
    have ex : xs[i]? = some xs[i] := List.getElem?_eq_getElem hd
    rw [List.drop_eq_getElem_cons hd] at p2
    obtain ⟨go, yl⟩ := wk2.1 _ ex
    refine ⟨go, fun σ H => (i + 1) + (m - 1) = xs.length ∧ ∃ μ M ρ h, Envi G μ M H ρ σ ∧ Hrel G μ M H h ∧ Lw μ1 M1 H1 μ M H ∧ PostS G W D μ M H (frLoop (fun x ρ h => match evG t ρ x with | some ρ1 => f ρ1 h | none => .no) (xs.drop (i + 1)) ρ h), fun σ' H' z => ⟨m - 1, by omega, z⟩, ?_⟩
    intro v H3 yd
    obtain ⟨l3, r3, rv⟩ := yl v H3 yd
    have e3 := e2.le r2 l3
    have p3 := PostS.le p2 l3
    unfold frLoop at p3
    cases ev : evG t ρ2 xs[i] with
    | none => rw [ev] at p3; exact p3.elim
    | some ρ3 =>
      simp only [ev] at p3
      refine ⟨μ2, M2, ρ2, xs[i], ρ3, e3, rv, ev, fun σ3 e4 _ => tS.of e4 r3 ?_⟩
      have next : ∀ {ρ4 h4}, PostS G W D μ2 M2 H3 (frLoop (fun x ρ h => match evG t ρ x with | some ρ1 => f ρ1 h | none => .no) (xs.drop (i + 1)) ρ4 h4) → ∀ σ' μ' M' H', Le μ2 M2 H3 μ' M' H' → Hrel G μ' M' H' h4 → Envi G μ' M' H' ρ4 σ' →
          (i + 1) + (m - 1) = xs.length ∧ ∃ μ M ρ h, Envi G μ M H' ρ σ' ∧ Hrel G μ M H' h ∧ Lw μ1 M1 H1 μ M H' ∧ PostS G W D μ M H' (frLoop (fun x ρ h => match evG t ρ x with | some ρ1 => f ρ1 h | none => .no) (xs.drop (i + 1)) ρ h) :=
        fun {ρ4 h4} pp σ' μ' M' H' l r' e' => ⟨by omega, μ', M', ρ4, h4, e', r', (lw.trans (l3.lw r2)).trans (l.lw r3), PostS.le pp l⟩
      cases ef : f ρ3 h2 with
      | no => rw [ef] at p3; exact p3
      | err c ρ4 h4 => rw [ef] at p3; exact p3
      | ok fl ρ4 h4 =>
        rw [ef] at p3
        cases fl with
        | nx => exact next p3
        | cont => exact next p3
        | brk => exact p3
        | ret d => exact p3
  · refine .inl ⟨wk2.2 (Nat.le_of_not_lt hd), ?_⟩
    rw [List.drop_eq_nil_of_le (Nat.le_of_not_lt hd)] at p2
    exact p2.here r2 e2
end
end PyI
set_option Elab.async false
set_option linter.all false
set_option maxRecDepth 100000
namespace PyI
open PySem L2
theorem sw_eq {el : Expr} {gs : List Comprehension} {scope : Scope} {lp p : Pos} {x : Str} {l : Nat} {env : Env} (hk : env.scope.kind = .function) :
    swapsWith (.ListComp el gs scope lp) (some (.Name x p)) l env = pure ((env.scope.names.lookup x == some .local) && (p.line == lp.line) && !(scope.names.any fun (n, k) => n == x && (k == .local || k == .cell))) := by
  have hb : env.blockKind = .function := by unfold Env.blockKind; rw [hk]; rfl
  unfold swapsWith
  simp only [hb, Expr.pos]
  rfl
theorem sw_eqD {k el : Expr} {gs : List Comprehension} {scope : Scope} {lp p : Pos} {x : Str} {l : Nat} {env : Env} (hk : env.scope.kind = .function) :
    swapsWith (.DictComp k el gs scope lp) (some (.Name x p)) l env = pure ((env.scope.names.lookup x == some .local) && (p.line == lp.line) && !(scope.names.any fun (n, k) => n == x && (k == .local || k == .cell))) := by
  have hb : env.blockKind = .function := by unfold Env.blockKind; rw [hk]; rfl
  unfold swapsWith
  simp only [hb, Expr.pos]
  rfl
/-- does name = value swap its stores -/
def swL (sc : Scope) (x : Str) (p : Pos) : Expr → Bool
  | .ListComp _ _ scope lp => (sc.names.lookup x == some .local) && (p.line == lp.line) && !(scope.names.any fun (n, k) => n == x && (k == .local || k == .cell))
  | .DictComp _ _ _ scope lp => (sc.names.lookup x == some .local) && (p.line == lp.line) && !(scope.names.any fun (n, k) => n == x && (k == .local || k == .cell))
  | _ => false
theorem sw_name {T : Tab} {N : List Str} {sc : Scope} {fo : Fo} {e : E} {a : Expr} (h : ckE T N sc fo e a = true) {p : Pos} {x : Str} {l : Nat} {env : Env} (hk : env.scope.kind = .function) (hsc : env.scope = sc) :
    swapsWith a (some (.Name x p)) l env = pure (swL sc x p a) := by
  subst hsc
  by_cases n : lcB a = true
  · cases a <;> first | exact Bool.noConfusion n | skip
    · exact sw_eq hk
    · exact sw_eqD hk
  · rw [ck_swap h (by simpa using n)]
    cases a <;> first | rfl | exact absurd rfl n
theorem sw_other {T : Tab} {N : List Str} {sc : Scope} {fo : Fo} {e : E} {a : Expr} (h : ckE T N sc fo e a = true) {t : Expr} (ht : ∀ x p, t ≠ .Name x p) {l : Nat} {env : Env} : swapsWithSole [t] a l env = pure false := by
  show swapsWith a (some t) l env = pure false
  by_cases n : lcB a = true
  · cases a <;> first | exact Bool.noConfusion n | skip
    all_goals (cases t <;> first | rfl | exact absurd rfl (ht _ _))
  · exact ck_swap h (by simpa using n) _ _ _
def starB : Expr → Bool
  | .Starred .. => true
  | _ => false
def nameAt (sc : Scope) (line : Nat) : Expr → Option Str
  | .Name id pos => if sc.names.lookup id == some .local && pos.line == line then some id else none
  | _ => none
/-- the swapped stores of (ts) = (vs); none: not told -/
def swC (sc : Scope) (ts vs : List Expr) : Option (Option (List Str)) :=
  if (!(ts.length == 2 || ts.length == 3) || vs.length != ts.length) = true then some none else
  if (vs.any starB) = true then some none else
  let names := ts.filterMap (nameAt sc ((ts.head?.map (·.pos.line)).getD 0))
  if (names.length != ts.length || names.eraseDups.length != names.length) = true then some none else
  if (vs.all (foldedForSure 8)) = true then some none else
  if (vs.all (constantsAlone 8)) = true then none else some (some names)
theorem any_star (f : Expr → Bool) (vs : List Expr) (h : ∀ e, f e = starB e) : vs.any f = vs.any starB := by rw [funext h]
theorem fm_name (f : Expr → Option Str) (sc : Scope) (line : Nat) (ts : List Expr) (h : ∀ e, f e = nameAt sc line e) : ts.filterMap f = ts.filterMap (nameAt sc line) := by rw [funext h]
theorem swC_eq {ts vs : List Expr} {k k2 p p2} {env : Env} (hk : env.scope.kind = .function) {r : Option (List Str)} (h : swC env.scope ts vs = some r) : swappedStores [.Tuple ts k p] (.Tuple vs k2 p2) env = pure r := by
  have hb : env.blockKind = .function := by unfold Env.blockKind; rw [hk]; rfl
  unfold swC at h
  unfold swappedStores
  simp only [hb]
  rw [any_star _ vs (by intro e; cases e <;> rfl), fm_name _ env.scope ((ts.head?.map (·.pos.line)).getD 0) ts (by intro e; cases e <;> rfl)]
  by_cases c1 : (!(ts.length == 2 || ts.length == 3) || vs.length != ts.length) = true
  · rw [if_pos c1] at h; cases h
    rw [if_pos (by rw [c1]; rfl)]
  · rw [if_neg c1] at h
    rw [if_neg (by rw [Bool.not_eq_true] at c1; rw [c1]; decide)]
    by_cases c2 : (vs.any starB) = true
    · rw [if_pos c2] at h; cases h
      rw [if_pos c2]
    · rw [if_neg c2] at h
      rw [if_neg c2]
      simp only at h
      by_cases c3 : ((ts.filterMap (nameAt env.scope ((ts.head?.map (·.pos.line)).getD 0))).length != ts.length || (ts.filterMap (nameAt env.scope ((ts.head?.map (·.pos.line)).getD 0))).eraseDups.length != (ts.filterMap (nameAt env.scope ((ts.head?.map (·.pos.line)).getD 0))).length) = true
      · rw [if_pos c3] at h; cases h
        rw [if_pos c3]
      · rw [if_neg c3] at h
        rw [if_neg c3]
        by_cases c4 : (vs.all (foldedForSure 8)) = true
        · rw [if_pos c4] at h; cases h
          rw [if_pos c4]
        · rw [if_neg c4] at h
          rw [if_neg c4]
          by_cases c5 : (vs.all (constantsAlone 8)) = true
          · rw [if_pos c5] at h; cases h
          · rw [if_neg c5] at h
            rw [if_neg c5]; cases h; rfl
theorem sw_notup {T : Tab} {N : List Str} {sc : Scope} {fo : Fo} {e : E} {a : Expr} (h : ckE T N sc fo e a = true) {t : Expr} {env : Env} (n : ∀ vs k p, a ≠ .Tuple vs k p) : swappedStores [t] a env = pure none := by
  cases a <;> first | exact absurd rfl (n _ _ _) | (cases t <;> rfl)
def lcE : E → Bool
  | .lc _ _ _ _ _ _ => true
  | .lc2 _ _ _ _ _ _ _ _ _ => true
  | .dcm _ _ _ _ _ _ _ _ => true
  | .dcm2 _ _ _ _ _ _ _ _ _ _ _ => true
  | .lcL _ _ _ _ _ _ => true
  | _ => false
def tupB : Expr → Bool
  | .Tuple _ _ _ => true
  | _ => false
def nmB (N : List Str) (sc : Scope) (v : Nat) : Expr → Bool
  | .Name x _ => varB N sc v x
  | _ => false
section
variable (T : Tab) (N : List Str)
def ckP2 (sc : Scope) (fo : Fo) (i j : Nat) (es : Es) (t1 t2 : Expr) (vs : List Expr) : Bool := match t1 with
  | .Name x px => (match t2 with
    | .Name y py => decide (vs.length = 2) && decide (swC sc [.Name x px, .Name y py] vs = some (some [x, y])) && decide (N[i]? = some x) && decide (N[j]? = some y) && decide (i ≠ j) && decide (sc.names.lookup x = some .local) && decide (sc.names.lookup y = some .local) && ckEs T N sc fo es vs
    | _ => false)
  | _ => false
def ckP3 (sc : Scope) (fo : Fo) (i j l : Nat) (es : Es) (t1 t2 t3 : Expr) (vs : List Expr) : Bool := match t1 with
  | .Name x px => (match t2 with
    | .Name y py => (match t3 with
      | .Name z pz => decide (vs.length = 3) && decide (swC sc [.Name x px, .Name y py, .Name z pz] vs = some (some [x, y, z])) && decide (N[i]? = some x) && decide (N[j]? = some y) && decide (N[l]? = some z) && decide (i ≠ j) && decide (i ≠ l) && decide (j ≠ l) &&
          decide (sc.names.lookup x = some .local) && decide (sc.names.lookup y = some .local) && decide (sc.names.lookup z = some .local) && ckEs T N sc fo es vs
      | _ => false)
    | _ => false)
  | _ => false
def ckPar (sc : Scope) (fo : Fo) (es : Es) (vs : List Expr) : List Nat → List Expr → Bool
  | [i, j], [t1, t2] => ckP2 T N sc fo i j es t1 t2 vs
  | [i, j, l], [t1, t2, t3] => ckP3 T N sc fo i j l es t1 t2 t3 vs
  | _, _ => false
def ckRais (sc : Scope) (c : Nat) : Expr → Bool
  | .Call f xs ks _ => (match f with
    | .Name x _ => (match xs, ks with
      | [.Constant (.str _) _ _], [] => glB sc x && decide (T.ex c = some x)
      | _, _ => false)
    | _ => false)
  | _ => false
/-- one target -/
def oneT : List Expr → Option Expr
  | [t] => some t
  | _ => none
theorem oneT_some {ts : List Expr} {t : Expr} (h : oneT ts = some t) : ts = [t] := by
  cases ts with
  | nil => cases h
  | cons a r =>
    cases r with
    | nil => cases h; rfl
    | cons _ _ => cases h
def ckSetT (sc : Scope) (fo : Fo) (i : Nat) (e : E) (v : Expr) : Option Expr → Bool
  | some (.Name x p) => decide (N[i]? = some x) && locB sc fo x && ckE T N sc fo e v && (!swL sc x p v || (decide (sc.names.lookup x = some .local) && lcE e))
  | _ => false
def asgV (sc : Scope) (ts : List Expr) : Expr → Bool
  | .Tuple vs _ _ => decide (swC sc ts vs = some none)
  | _ => true
def ckAsgT (sc : Scope) (fo : Fo) (t : Tg) (e : E) (v : Expr) : Option Expr → Bool
  | some (.Tuple ts k p) => ckG N sc fo (List.range N.length) t (.Tuple ts k p) && ckE T N sc fo e v && asgV sc ts v
  | _ => false
def ckSfT (sc : Scope) (fo : Fo) (o : E) (f : Str) (e : E) (v : Expr) : Option Expr → Bool
  | some (.Attribute a x _) => decide (x = f) && ckE T N sc fo o a && ckE T N sc fo e v
  | _ => false
def ckPutT (sc : Scope) (fo : Fo) (o i e : E) (v : Expr) : Option Expr → Bool
  | some (.Subscript a b _) => ckE T N sc fo o a && ckE T N sc fo i b && ckE T N sc fo e v
  | _ => false
def parV (sc : Scope) (fo : Fo) (is : List Nat) (es : Es) (ts : List Expr) : Expr → Bool
  | .Tuple vs _ _ => ckPar T N sc fo es vs is ts
  | _ => false
def ckParT (sc : Scope) (fo : Fo) (is : List Nat) (es : Es) (v : Expr) : Option Expr → Bool
  | some (.Tuple ts _ _) => parV T N sc fo is es ts v
  | _ => false
mutual
def ckS (sc : Scope) (fo : Fo) : S → Stmt → Bool
  | .set i e, st => match st with | .Assign ts v _ => ckSetT T N sc fo i e v (oneT ts) | _ => false
  | .asg t e, st => match st with | .Assign ts v _ => ckAsgT T N sc fo t e v (oneT ts) | _ => false
  | .put o i e, st => match st with | .Assign ts v _ => ckPutT T N sc fo o i e v (oneT ts) | _ => false
  | .par is es, st => match st with | .Assign ts v _ => ckParT T N sc fo is es v (oneT ts) | _ => false
  | .ex e, st => match st with | .Expr v _ => ckE T N sc fo e v && !lcB v | _ => false
  | .ret e, st => match st with | .Return (some v) _ => ckE T N sc fo e v | _ => false
  | .retN, st => match st with | .Return none _ => true | _ => false
  | .iff c a b, st => match st with | .If v xs ys _ => ckE T N sc fo c v && ckB sc fo a xs && ckB sc fo b ys | _ => false
  | .whl c b, st => match st with | .While v xs [] _ => ckE T N sc fo c v && ckB sc fo b xs | _ => false
  | .fr t it b, st => match st with | .For tg i xs [] _ => ckG N sc fo (List.range N.length) t tg && ckI T N sc fo it tg i && ckB sc fo b xs | _ => false
  | .pass, st => match st with | .Pass _ => true | _ => false
  | .brk, st => match st with | .Break _ => true | _ => false
  | .cont, st => match st with | .Continue _ => true | _ => false
  | .rais c, st => match st with
    | .Raise e none _ => (match e with | some e => ckRais T sc c e | none => false)
    | _ => false
  | .sfld o f e, st => match st with | .Assign ts v _ => ckSfT T N sc fo o f e v (oneT ts) | _ => false
  | .lckF m _ s, st => (match N[m]? with | some _ => true | none => false) && ckS sc fo s st
  | .frL t v b, st => match st with
    | .For tg i xs [] _ => nmB N sc v i && ckG N sc fo (List.range N.length) t tg && ckB sc fo b xs
    | _ => false
  | .lck m s, st => (match N[m]? with | some _ => true | none => false) && ckS sc fo s st
  | .tr b i hs, st => match st with | .Try body (h :: r) [] [] _ => (match N[i]? with | some nm => decide (sc.names.lookup nm = some .local) && hsB T sc nm hs (h :: r) && ckB sc fo b body | none => false) | _ => false
def ckB (sc : Scope) (fo : Fo) : Ss → List Stmt → Bool
  | .nil, sts => match sts with | [] => true | _ => false
  | .cons s ss, sts => match sts with | st :: r => ckS sc fo s st && ckB sc fo ss r | _ => false
end
end
section
variable {P : Program} {w : World} {base : Heap} {G : Glb} {cf : Nat → List D → Hea → Res D} {n : Nat} {N : List Str}
theorem ss_raise {X : Cx} {W : WX} {sc : Scope} {fo : Fo} (F : Facts P w base G cf n) (g : Good P w base G n N sc fo X) (tk : Takes X W) {c : Nat} {x m : Str} {j : Nat} {p p2 pos pos2 : Pos} (ex : G.T.ex c = some x) (k : glB sc x = true) :
    PS X (.Raise (some (.Call (.Name x p) [.Constant (.str m) j p2] [] pos)) none pos2) (tS G W fun ρ h => .err c ρ h) := by
  obtain ⟨C, B, newId, initId, bmB, h1, h2, h3, h4, h5, h6⟩ := F.exs c x ex
  refine imS (ps_raise g.calm tk (pmk_own h1 (by rw [g.K]; exact h2) (by rw [g.mg]; exact h3) (by rw [g.K]; exact h4) (raises_own (by rw [g.K]; exact h5) (by rw [g.K]; exact h6)) (g.gl k) (glB_gl k).2.1)) fun D σ H q => ?_
  obtain ⟨μ, M, ρ, h, e, r, q⟩ := q.out
  exact q C σ μ M H ⟨x, ex, h3⟩ Le.refl r e
theorem ss_par {X : Cx} {W : WX} {sc : Scope} {fo : Fo} (g : Good P w base G n N sc fo X) (hk : X.env.scope.kind = .function) {i j : Nat} {x y : Str} {a b : Expr} {fs : Loc → Hea → Res (List D)} {px py pt pos : Pos} {kt k2 pt2} (hi : N[i]? = some x) (hj : N[j]? = some y) (hij : i ≠ j)
    (hx : sc.names.lookup x = some .local) (hy : sc.names.lookup y = some .local) (ha : PA X [a, b] (tAr G W fs)) (hsw : swC sc [.Name x px, .Name y py] [a, b] = some (some [x, y])) :
    PS X (.Assign [.Tuple [.Name x px, .Name y py] kt pt] (.Tuple [a, b] k2 pt2) pos) (tS G W fun ρ h => (fs ρ h).st ρ fun ds h1 => match setAll ρ [i, j] ds with | some ρ1 => .ok .nx ρ1 h1 | none => .no) := by
  refine imS (ps_par g.calm g.nd (by rw [g.N]; exact hi) (by rw [g.N]; exact hj) hij (by rw [g.sc]; exact hx) (by rw [g.sc]; exact hy) ha (swC_eq hk (by rw [g.sc]; exact hsw)) rfl) fun D σ H q => ?_
  refine tG.mono (tS.st (R := Reps G) q) ?_
  rintro vs H1 ⟨ds, μ, M, ρ, h, e, r, pa, p⟩
  match ds, pa, p with
  | [d1, d2], pa, p =>
    unfold Reps at pa
    obtain ⟨v1, t1, rfl, q1, pa⟩ := pa
    unfold Reps at pa
    obtain ⟨v2, t2, rfl, q2, pa⟩ := pa
    unfold Reps at pa
    subst pa
    exact ⟨v1, v2, rfl, p.here r ((e.set i q1).set j q2)⟩
  | [], _, p => exact p.elim
  | [_], _, p => exact p.elim
  | _ :: _ :: _ :: _, _, p => exact p.elim
theorem ss_par3 {X : Cx} {W : WX} {sc : Scope} {fo : Fo} (g : Good P w base G n N sc fo X) (hk : X.env.scope.kind = .function) {i j l : Nat} {x y z : Str} {a b c : Expr} {fs : Loc → Hea → Res (List D)} {px py pz pt pos : Pos} {kt k2 pt2} (hi : N[i]? = some x) (hj : N[j]? = some y) (hl : N[l]? = some z) (hij : i ≠ j) (hil : i ≠ l) (hjl : j ≠ l)
    (hx : sc.names.lookup x = some .local) (hy : sc.names.lookup y = some .local) (hz : sc.names.lookup z = some .local) (ha : PA X [a, b, c] (tAr G W fs)) (hsw : swC sc [.Name x px, .Name y py, .Name z pz] [a, b, c] = some (some [x, y, z])) :
    PS X (.Assign [.Tuple [.Name x px, .Name y py, .Name z pz] kt pt] (.Tuple [a, b, c] k2 pt2) pos) (tS G W fun ρ h => (fs ρ h).st ρ fun ds h1 => match setAll ρ [i, j, l] ds with | some ρ1 => .ok .nx ρ1 h1 | none => .no) := by
  refine imS (ps_par3 g.calm g.nd (by rw [g.N]; exact hi) (by rw [g.N]; exact hj) (by rw [g.N]; exact hl) hij hil hjl (by rw [g.sc]; exact hx) (by rw [g.sc]; exact hy) (by rw [g.sc]; exact hz) ha (swC_eq hk (by rw [g.sc]; exact hsw)) rfl) fun D σ H q => ?_
  refine tG.mono (tS.st (R := Reps G) q) ?_
  rintro vs H1 ⟨ds, μ, M, ρ, h, e, r, pa, p⟩
  match ds, pa, p with
  | [d1, d2, d3], pa, p =>
    unfold Reps at pa
    obtain ⟨v1, t1, rfl, q1, pa⟩ := pa
    unfold Reps at pa
    obtain ⟨v2, t2, rfl, q2, pa⟩ := pa
    unfold Reps at pa
    obtain ⟨v3, t3, rfl, q3, pa⟩ := pa
    unfold Reps at pa
    subst pa
    exact ⟨v1, v2, v3, rfl, p.here r (((e.set i q1).set j q2).set l q3)⟩
  | [], _, p => exact p.elim
  | [_], _, p => exact p.elim
  | [_, _], _, p => exact p.elim
  | _ :: _ :: _ :: _ :: _, _, p => exact p.elim
theorem lc_set {X : Cx} {W : WX} {sc : Scope} {fo : Fo} (F : Facts P w base G cf n) (g : Good P w base G n N sc fo X) (tk : Takes X W) (hk : X.env.scope.kind = .function) {i : Nat} {x : Str} {p pos : Pos} (hi : N[i]? = some x) (hx : sc.names.lookup x = some .local) :
    ∀ (e : E) (a : Expr), ckE G.T N sc fo e a = true → swL sc x p a = true → lcE e = true → PS X (.Assign [.Name x p] a pos) (tS G W fun ρ h => ((ev G.T cf e).val ρ h).st ρ fun d h1 => .ok .nx (ρ.set i (some d)) h1)
  | .lc m own tg it c e, a, h, hsw, hl => by
    have hsw' := sw_name (T := G.T) (N := N) (fo := fo) h (p := p) (x := x) (l := pos.line) hk g.sc
    rw [hsw] at hsw'
    cases a <;> first | exact Bool.noConfusion h | skip
    rename_i el gens scope pos'
    match gens, h, hsw' with
    | [], h, _ => exact Bool.noConfusion h
    | ⟨_, _, _, _⟩ :: _ :: _, h, _ => exact Bool.noConfusion h
    | [⟨t, it', ifs, k⟩], h, hsw' =>
      have h' : (decide (k = 0) && blkC N sc scope (ownOf N own) && ckI G.T N sc fo it t it' && ckG N (relS scope sc) ⟨fun x => scope.names.lookup x == some .cell, fo.lv⟩ own tg t &&
        ckC G.T N (relS scope sc) ⟨fun x => scope.names.lookup x == some .cell, fo.lv⟩ c ifs && ckE G.T N (relS scope sc) ⟨fun x => scope.names.lookup x == some .cell, fo.lv⟩ e el) = true := h
      simp only [Bool.and_eq_true, decide_eq_true_eq] at h'
      obtain ⟨⟨⟨⟨⟨rfl, h1⟩, h2⟩, h3⟩, h4⟩, h5⟩ := h'
      refine imS (ps_setLc g.calm g.nd (by rw [g.N]; exact hi) (by rw [g.sc]; exact hx) hsw' (sndI F it t it' X W sc fo h2 g tk) (blkOk_by (by rw [g.N, g.sc]; exact h1))
        (fun s H C cl fp => snd_G (g.blk s H C scope cl fp) tg t h3) (fun s H C cl fp => sndC F c ifs _ W0 _ _ h4 (g.blk s H C scope cl fp) takes0)
        (fun s H C cl fp => (sndE F e el _ W0 _ _ h5 (g.blk s H C scope cl fp) takes0).1) (fun x => ckI_folded h2 X.env x)) fun D σ H q => ?_
      refine set_read (fun σ H Q q => ?_) q
      rw [own_ix]
      exact lc_read q
  | .lc2 m own own2 tg it tg2 it2 c e, a, h, hsw, hl => by
    have hsw' := sw_name (T := G.T) (N := N) (fo := fo) h (p := p) (x := x) (l := pos.line) hk g.sc
    rw [hsw] at hsw'
    cases a <;> first | exact Bool.noConfusion h | skip
    rename_i el gens scope pos'
    match gens, h, hsw' with
    | [], h, _ => exact Bool.noConfusion h
    | [⟨_, _, [], _⟩], h, _ => exact Bool.noConfusion h
    | [⟨_, _, _ :: _, _⟩], h, _ => exact Bool.noConfusion h
    | ⟨_, _, [], _⟩ :: ⟨_, _, _, _⟩ :: _ :: _, h, _ => exact Bool.noConfusion h
    | ⟨_, _, _ :: _, _⟩ :: _ :: _, h, _ => exact Bool.noConfusion h
    | [⟨t, it', [], k⟩, ⟨t2, i2, ifs, k2⟩], h, hsw' =>
      have h' : (decide (k = 0) && decide (k2 = 0) && blkC N sc scope (ownOf N own) && ckI G.T N sc fo it t it' && ckG N (relS scope sc) ⟨fun x => scope.names.lookup x == some .cell, fo.lv⟩ own tg t &&
        ckI G.T N (relS scope sc) ⟨fun x => scope.names.lookup x == some .cell, fo.lv⟩ it2 t2 i2 && own2.all (fun i => own.contains i) && ckG N (relS scope sc) ⟨fun x => scope.names.lookup x == some .cell, fo.lv⟩ own2 tg2 t2 &&
        ckC G.T N (relS scope sc) ⟨fun x => scope.names.lookup x == some .cell, fo.lv⟩ c ifs && ckE G.T N (relS scope sc) ⟨fun x => scope.names.lookup x == some .cell, fo.lv⟩ e el) = true := h
      simp only [Bool.and_eq_true, decide_eq_true_eq] at h'
      obtain ⟨⟨⟨⟨⟨⟨⟨⟨⟨rfl, rfl⟩, h1⟩, h2⟩, h3⟩, h4⟩, h5⟩, h6⟩, h7⟩, h8⟩ := h'
      refine imS (ps_setLc2 (vs1 := own2) g.calm g.nd (by rw [g.N]; exact hi) (by rw [g.sc]; exact hx) hsw' (sndI F it t it' X W sc fo h2 g tk) (blkOk_by (by rw [g.N, g.sc]; exact h1)) (by
          rw [own_ix]; intro j hj; have := List.all_eq_true.mp h5 j hj; simpa using this)
        (fun s H C cl fp => snd_G (g.blk s H C scope cl fp) tg t h3) (fun s H C cl fp => pts_nil)
        (fun s H C cl fp => sndI F it2 t2 i2 _ W0 _ _ h4 (g.blk s H C scope cl fp) takes0)
        (fun s H C cl fp => snd_G (g.blk s H C scope cl fp) tg2 t2 h6) (fun s H C cl fp => sndC F c ifs _ W0 _ _ h7 (g.blk s H C scope cl fp) takes0)
        (fun s H C cl fp => (sndE F e el _ W0 _ _ h8 (g.blk s H C scope cl fp) takes0).1) (fun x => ckI_folded h2 X.env x) (fun env x => ckI_folded h4 env x)) fun D σ H q => ?_
      refine set_read (fun σ H Q q => ?_) q
      rw [own_ix]
      exact lc2_read q
  | .dcm t m own tg it c k e, a, h, hsw, hl => by
    have hsw' := sw_name (T := G.T) (N := N) (fo := fo) h (p := p) (x := x) (l := pos.line) hk g.sc
    rw [hsw] at hsw'
    cases a <;> first | exact Bool.noConfusion h | skip
    rename_i kx vx gens scope pos'
    match gens, h, hsw' with
    | [], h, _ => exact Bool.noConfusion h
    | ⟨_, _, _, _⟩ :: _ :: _, h, _ => exact Bool.noConfusion h
    | [⟨tg2, it', ifs, z⟩], h, hsw' =>
      have h' : (decide (z = 0) && blkC N sc scope (ownOf N own) && ckI G.T N sc fo it tg2 it' && ckG N (relS scope sc) ⟨fun x => scope.names.lookup x == some .cell, fo.lv⟩ own tg tg2 &&
        ckC G.T N (relS scope sc) ⟨fun x => scope.names.lookup x == some .cell, fo.lv⟩ c ifs && (ckE G.T N (relS scope sc) ⟨fun x => scope.names.lookup x == some .cell, fo.lv⟩ k kx && ckE G.T N (relS scope sc) ⟨fun x => scope.names.lookup x == some .cell, fo.lv⟩ e vx)) = true := h
      simp only [Bool.and_eq_true, decide_eq_true_eq] at h'
      obtain ⟨⟨⟨⟨⟨rfl, h1⟩, h2⟩, h3⟩, h4⟩, h5, h6⟩ := h'
      refine imS (ps_setDcG (o0 := if t then .dT [] else .dK []) (di_empty t) (by have := g.hu; omega) g.calm g.nd (by rw [g.N]; exact hi) (by rw [g.sc]; exact hx) hsw' (sndI F it tg2 it' X W sc fo h2 g tk) (blkOk_by (by rw [g.N, g.sc]; exact h1))
        (fun s H C cl fp => snd_G (g.blk s H C scope cl fp) tg tg2 h3) (fun s H C cl fp => sndC F c ifs _ W0 _ _ h4 (g.blk s H C scope cl fp) takes0)
        (fun s H C cl fp => (sndE F k kx _ W0 _ _ h5 (g.blk s H C scope cl fp) takes0).1) (fun s H C cl fp => (sndE F e vx _ W0 _ _ h6 (g.blk s H C scope cl fp) takes0).1) (fun x => ckI_folded h2 X.env x)) fun D σ H q => ?_
      refine set_read (fun σ H Q q => ?_) q
      rw [own_ix]
      exact dc_read (m0 := m) q
  | .dcm2 t m own own2 tg it tg2 it2 c k e, a, h, hsw, hl => by
    have hsw' := sw_name (T := G.T) (N := N) (fo := fo) h (p := p) (x := x) (l := pos.line) hk g.sc
    rw [hsw] at hsw'
    cases a <;> first | exact Bool.noConfusion h | skip
    rename_i kx vx gens scope pos'
    match gens, h, hsw' with
    | [], h, _ => exact Bool.noConfusion h
    | [⟨_, _, [], _⟩], h, _ => exact Bool.noConfusion h
    | [⟨_, _, _ :: _, _⟩], h, _ => exact Bool.noConfusion h
    | ⟨_, _, [], _⟩ :: ⟨_, _, _, _⟩ :: _ :: _, h, _ => exact Bool.noConfusion h
    | ⟨_, _, _ :: _, _⟩ :: _ :: _, h, _ => exact Bool.noConfusion h
    | [⟨t1, it', [], z⟩, ⟨t2, i2, ifs, z2⟩], h, hsw' =>
      have h' : (decide (z = 0) && decide (z2 = 0) && blkC N sc scope (ownOf N own) && ckI G.T N sc fo it t1 it' && ckG N (relS scope sc) ⟨fun x => scope.names.lookup x == some .cell, fo.lv⟩ own tg t1 &&
        ckI G.T N (relS scope sc) ⟨fun x => scope.names.lookup x == some .cell, fo.lv⟩ it2 t2 i2 && own2.all (fun i => own.contains i) && ckG N (relS scope sc) ⟨fun x => scope.names.lookup x == some .cell, fo.lv⟩ own2 tg2 t2 &&
        ckC G.T N (relS scope sc) ⟨fun x => scope.names.lookup x == some .cell, fo.lv⟩ c ifs && (ckE G.T N (relS scope sc) ⟨fun x => scope.names.lookup x == some .cell, fo.lv⟩ k kx && ckE G.T N (relS scope sc) ⟨fun x => scope.names.lookup x == some .cell, fo.lv⟩ e vx)) = true := h
      simp only [Bool.and_eq_true, decide_eq_true_eq] at h'
      obtain ⟨⟨⟨⟨⟨⟨⟨⟨⟨rfl, rfl⟩, h1⟩, h2⟩, h3⟩, h4⟩, h5⟩, h6⟩, h7⟩, h8, h9⟩ := h'
      refine imS (ps_setDc2 (vs1 := own2) (o0 := if t then .dT [] else .dK []) (di_empty t) (by have := g.hu; omega) g.calm g.nd (by rw [g.N]; exact hi) (by rw [g.sc]; exact hx) hsw' (sndI F it t1 it' X W sc fo h2 g tk) (blkOk_by (by rw [g.N, g.sc]; exact h1)) (by
          rw [own_ix]; intro j hj; have := List.all_eq_true.mp h5 j hj; simpa using this)
        (fun s H C cl fp => snd_G (g.blk s H C scope cl fp) tg t1 h3)
        (fun s H C cl fp => sndI F it2 t2 i2 _ W0 _ _ h4 (g.blk s H C scope cl fp) takes0)
        (fun s H C cl fp => snd_G (g.blk s H C scope cl fp) tg2 t2 h6) (fun s H C cl fp => sndC F c ifs _ W0 _ _ h7 (g.blk s H C scope cl fp) takes0)
        (fun s H C cl fp => (sndE F k kx _ W0 _ _ h8 (g.blk s H C scope cl fp) takes0).1) (fun s H C cl fp => (sndE F e vx _ W0 _ _ h9 (g.blk s H C scope cl fp) takes0).1) (fun x => ckI_folded h2 X.env x) (fun env x => ckI_folded h4 env x)) fun D σ H q => ?_
      refine set_read (fun σ H Q q => ?_) q
      rw [own_ix]
      exact dc2_read (m0 := m) q
  | .lcL m own tg v c e, a, h, hsw, hl => by
    have hsw' := sw_name (T := G.T) (N := N) (fo := fo) h (p := p) (x := x) (l := pos.line) hk g.sc
    rw [hsw] at hsw'
    unfold ckE at h
    split at h
    · rename_i el t x' p' ifs k scope pos'
      simp only [Bool.and_eq_true, decide_eq_true_eq] at h
      obtain ⟨⟨⟨⟨⟨rfl, h1⟩, h2⟩, h3⟩, h4⟩, h5⟩ := h
      refine imS (ps_setLc g.calm g.nd (by rw [g.N]; exact hi) (by rw [g.sc]; exact hx) hsw' (pi_list (sv_v (W := W) g h2)) (blkOk_by (by rw [g.N, g.sc]; exact h1))
        (fun s H C cl fp => snd_G (g.blk s H C scope cl fp) tg t h3) (fun s H C cl fp => sndC F c ifs _ W0 _ _ h4 (g.blk s H C scope cl fp) takes0)
        (fun s H C cl fp => (sndE F e el _ W0 _ _ h5 (g.blk s H C scope cl fp) takes0).1) (fun x => rfl)) fun D σ H q => ?_
      refine set_read (fun σ H Q q => ?_) q
      rw [own_ix, g.K]
      exact lc_readL q
    · exact Bool.noConfusion h
  | .frz e, a, h, hsw, hl => by exact Bool.noConfusion hl
  | .non, a, h, hsw, hl | .bl _, a, h, hsw, hl | .int _, a, h, hsw, hl | .str _, a, h, hsw, hl | .v _, a, h, hsw, hl | .gc _, a, h, hsw, hl | .gf _, a, h, hsw, hl | .bin _ _ _, a, h, hsw, hl | .neg _, a, h, hsw, hl | .nt _, a, h, hsw, hl | .cmp _ _ _, a, h, hsw, hl | .chn _ _ _ _ _, a, h, hsw, hl
  | .and _ _, a, h, hsw, hl | .or _ _, a, h, hsw, hl | .ite _ _ _, a, h, hsw, hl | .tup _, a, h, hsw, hl | .tupK _, a, h, hsw, hl | .lst _, a, h, hsw, hl | .lstM _, a, h, hsw, hl | .dnewK, a, h, hsw, hl | .dnewT, a, h, hsw, hl | .sub _ _, a, h, hsw, hl | .slc _ _ _, a, h, hsw, hl
  | .call _ _, a, h, hsw, hl | .callP _ _, a, h, hsw, hl | .bi _ _, a, h, hsw, hl | .isi _ _, a, h, hsw, hl | .mt _ _ _, a, h, hsw, hl => by
    cases a <;> first | exact Bool.noConfusion hsw | exact Bool.noConfusion h
end
end PyI
set_option Elab.async false
set_option linter.all false
set_option maxRecDepth 100000
namespace PyI
open PySem L2
section
variable {P : Program} {w : World} {base : Heap} {G : Glb} {cf : Nat → List D → Hea → Res D} {n : Nat} {N : List Str}
variable (F : Facts P w base G cf n)
theorem put_eq {a b v : Expr} {p : Pos} {env : Env} {T : Tab} {sc : Scope} {fo : Fo} {e : E} (h : ckE T N sc fo e b = true) : ∀ v, assign (.Subscript a b p) env v = (do
      let ov ← holding [v] (eval a env)
      let iv ← holding [v, ov] (eval b env)
      standAt p
      holding [v, ov, iv] (setItem ov iv v)
      release [v, ov, iv] []) := by
  intro v
  cases b <;> first | rfl | exact (ck_slice e h).elim
/-- a def's own frame -/
def StdX (X : Cx) : Prop := X.stack = X.env :: X.outer ∧ X.env.frame = some X.env.locals
theorem ss_try (F : Facts P w base G cf n) {X : Cx} {W : WX} {sc : Scope} {fo : Fo} (g : Good P w base G n N sc fo X) (tk : Takes X W) (sx : StdX X) {b : Ss} {i : Nat} {nm : Str} {hs : List (Nat × D)} {body : List Stmt} {h0 : ExceptHandler} {r0 : List ExceptHandler} {pos : Pos}
    (hi : N[i]? = some nm) (hl : sc.names.lookup nm = some .local) (hh : hsB G.T sc nm hs (h0 :: r0) = true)
    (IH : ∀ (pn : List (Addr × Obj)) (xe : Value → Shared → Prop) (W' : WX), Good P w base G n N sc fo (X.tr pn xe) → Takes (X.tr pn xe) W' → PassesOwn (model X.prog X.w) X.A X.env xe → PSs (X.tr pn xe) body (tS G W' (exB G.T cf b))) :
    PS X (.Try body (h0 :: r0) [] [] pos) (tS G W fun ρ h => match exB G.T cf b ρ h with
      | .err c ρ1 h1 => match clauseOf c hs with | some d => .ok (.ret d) (ρ1.set i none) h1 | none => .err c ρ1 h1
      | r => r) := by
  have kn : X.env.kindOf nm = some .local := by
    unfold Env.kindOf
    rw [g.sc]; exact hl
  refine imS (ps_try_as_many (tb := fun W' => tS G W' (exB G.T cf b)) (l := clsOf G hs) sx.1 sx.2 g.nd (by rw [g.N]; exact hi) kn tk (fun W' pn xe tk' po => IH pn xe W' ⟨g.prog, g.w, g.K, g.mg, g.base, g.N, g.nd, g.calm, g.room, g.gd, g.sc, g.fn, g.lam⟩ tk' po)
    (hs_ok F g.K g.mg (by rw [g.sc]; exact hh))) fun D σ H q => ?_
  obtain ⟨μ, M, ρ, h, e, r, p⟩ := q.out
  refine tS.of e r ?_
  cases er : exB G.T cf b ρ h with
  | no => rw [er] at p; exact p
  | ok fl ρ1 h1 => rw [er] at p; exact p
  | err c ρ1 h1 =>
    rw [er] at p
    intro C σ' μ' M' H' exn l r' e'
    rw [g.K]
    refine wClauses_of F exn r' (hsB_ex hh) ?_
    cases cl : clauseOf c hs with
    | none =>
      simp only [cl] at p
      exact p C σ' μ' M' H' exn l r' e'
    | some dv =>
      simp only [cl] at p
      intro v μ2 M2 H2 l2 r2 rv
      exact p (σ'.set i none) μ2 M2 H2 (l.trans l2) r2 ((e'.le r' l2).unset i) v rv
/-- a loop over a list that may change -/
theorem ss_frL {X : Cx} {W : WX} {sc : Scope} {fo : Fo} {f : Loc → Hea → SR} {body : List Stmt} {own : List Nat} {t : Tg} {tg : Expr} {v : Nat} {x : Str} {p pos : Pos} (g : Good P w base G n N sc fo X) (hp : PassesOwn (model X.prog X.w) X.A X.env X.xe) (ht : ckG N sc fo own t tg = true)
    (k : varB N sc v x = true) (hb : PSs X body (tS G W f)) :
    PS X (.For tg (.Name x p) body [] pos) (tS G W fun ρ h => match ρ[v]? with
      | some (some (.ref n)) => match h[n]? with
        | some (.lst xs) => frLive (fun x ρ h => match evG t ρ x with | some ρ1 => f ρ1 h | none => .no) n (xs.length + 1) 0 ρ h
        | _ => .no
      | _ => .no) := by
  refine imS (ps_for hp g.calm (pi_list (sv_v (W := W) g k)) (snd_G g t tg ht) hb (fun x => rfl)) fun D σ H q => ?_
  obtain ⟨μ, M, ρ, h, e, r, q⟩ := q.out
  split at q
  · rename_i n er
    split at q
    · rename_i xs ez
      refine ⟨μ, M, ρ, h, e, r, ?_⟩
      have key : (match ρ[v]? with | some (some d) => Res.ok d h | _ => Res.no) = Res.ok (PyI.D.ref n) h := by rw [er]
      show Post G (Rep G) _ μ M H (match ρ[v]? with | some (some d) => Res.ok d h | _ => Res.no) _
      rw [key]
      intro u μ1 M1 H1 l1 r1 ru
      obtain ⟨b, rfl, hn, ys, s, t1⟩ := r1.at_ ru ez (by intro z; cases z)
      refine ⟨b, rfl, ⟨ys, .of s⟩, ?_⟩
      rw [g.K]
      refine ⟨fun i m σ H => ∃ μ M ρ h, Envi G μ M H ρ σ ∧ Hrel G μ M H h ∧ (μ[n]? = some (some b) ∨ μ[n]? = some none) ∧ PostS G W D μ M H (frLive (fun x ρ h => match evG t ρ x with | some ρ1 => f ρ1 h | none => .no) n m i ρ h),
        ⟨xs.length + 1, μ1, M1, ρ, h, e.le r l1, r1, .inl hn, PostS.le q l1⟩, ?_⟩
      rintro i m σ2 H2 ⟨μ2, M2, ρ2, h2, e2, r2, at2, p2⟩
      cases m with
      | zero => exact p2.elim
      | succ m =>
        unfold frLive at p2
        split at p2
        · rename_i zs eh
          have rep : Rep G μ2 M2 H2 (.ref n) (.ref b) := by rw [rep_ref]; exact ⟨b, rfl, at2⟩
          obtain ⟨b', eb, hn2, ws, s2, t2⟩ := r2.at_ rep eh (by intro z; cases z)
          cases eb
          split at p2
          · rename_i x0 ex
            obtain ⟨y, ey, ry⟩ := t2.get ex
            refine .inr ⟨⟨ws, y, .of s2, ey⟩, fun σ H => ∃ μ M ρ h, Envi G μ M H ρ σ ∧ Hrel G μ M H h ∧ (μ[n]? = some (some b) ∨ μ[n]? = some none) ∧ PostS G W D μ M H (frLive (fun x ρ h => match evG t ρ x with | some ρ1 => f ρ1 h | none => .no) n m (i + 1) ρ h),
              fun σ' H' z => ⟨m, Nat.lt_succ_self m, z⟩, ?_⟩
            intro u2 H3 yd
            obtain ⟨rfl, yd⟩ := yd
            have eu := yd ws (.of s2)
            rw [ey] at eu
            cases eu
            cases ev : evG t ρ2 x0 with
            | none => rw [ev] at p2; exact p2.elim
            | some ρ3 =>
              simp only [ev] at p2
              refine ⟨μ2, M2, ρ2, x0, ρ3, e2, ry, ev, fun σ3 e4 _ => tS.of e4 r2 ?_⟩
              have next : ∀ {ρ4 h4}, PostS G W D μ2 M2 H3 (frLive (fun x ρ h => match evG t ρ x with | some ρ1 => f ρ1 h | none => .no) n m (i + 1) ρ4 h4) → ∀ σ' μ' M' H', Le μ2 M2 H3 μ' M' H' → Hrel G μ' M' H' h4 → Envi G μ' M' H' ρ4 σ' →
                  ∃ μ M ρ h, Envi G μ M H' ρ σ' ∧ Hrel G μ M H' h ∧ (μ[n]? = some (some b) ∨ μ[n]? = some none) ∧ PostS G W D μ M H' (frLive (fun x ρ h => match evG t ρ x with | some ρ1 => f ρ1 h | none => .no) n m (i + 1) ρ h) :=
                fun {ρ4 h4} pp σ' μ' M' H' l r' e' => ⟨μ', M', ρ4, h4, e', r', (match at2 with | .inl z => l.old n b z | .inr z => .inr (l.dead n z)), PostS.le pp l⟩
              cases ef : f ρ3 h2 with
              | no => rw [ef] at p2; exact p2
              | err c ρ4 h4 => rw [ef] at p2; exact p2
              | ok fl ρ4 h4 =>
                rw [ef] at p2
                cases fl with
                | nx => exact next p2
                | cont => exact next p2
                | brk => exact p2
                | ret d => exact p2
          · rename_i ex
            refine .inl ⟨⟨ws, .of s2, ?_⟩, p2.here r2 e2⟩
            rw [t2.length]
            exact List.getElem?_eq_none_iff.mp ex
        · exact p2.elim
    · exact q.elim
  · exact q.elim
/-- a statement while a dict that a name holds is locked -/
theorem ss_lck {X : Cx} {W : WX} {a : Stmt} {fe : Loc → Hea → SR} {m : Nat} (ha : PS X a (tS G W fe)) :
    PS X a (tS G W fun ρ h => match ρ[m]? with
      | some (some (.ref n)) => match lckR h n with
        | some h1 => match fe ρ h1 with
          | .ok f ρ2 h2 => match unlR h2 n with | some h3 => .ok f ρ2 h3 | none => .no
          | _ => .no
        | none => .no
      | _ => .no) := by
  refine imS (ps_lock ha) fun D σ H q => ?_
  obtain ⟨μ, M, ρ, h, e, r, p⟩ := q.out
  split at p
  · rename_i n er
    split at p
    · rename_i h1 e1
      obtain ⟨v, hv, rv⟩ := e.at_ m _ er
      have core : ∀ {u : HO} {w w2 : MO} {d : Addr}, (∀ ob z, u ≠ .frz ob z) → Mut (some u) → H d = some u → μ[n]? = some (some d) → h1 = h.set n w → (∀ od, MRep G μ M (upd H d (.frz od u)) d w) →
          (∀ od μ' M' H' h2 h3, H' d = some (.frz od u) → Hrel G μ' M' H' h2 → μ'[n]? = some (some d) → unlR h2 n = some h3 → Hrel G μ' M' (upd H' d u) h3) →
          tLock (tS G W fe) D σ H := by
        intro u w w2 d nu mu hd hn eh mr back
        refine ⟨d, u, hd, mu, fun od => ?_⟩
        have l1 : Le μ M H μ M (upd H d (.frz od u)) := Le.write hn hd nu
        refine ⟨μ, M, ρ, h1, e.le r l1, by rw [eh]; exact r.write hn hd (mr od) nu, ?_⟩
        cases er2 : fe ρ h1 with
        | no => rw [er2] at p; exact p
        | err c ρ2 h2 => rw [er2] at p; exact p.elim
        | ok fl ρ2 h2 =>
          rw [er2] at p
          simp only at p
          split at p
          · rename_i h3 e3
            intro σ' μ' M' H' l r2 e2
            have fz : H' d = some (.frz od u) := l.frz d od u upd_same
            have live2 : μ'[n]? = some (some d) := by
              rcases l.old n d hn with z | z
              · exact z
              · exfalso
                obtain ⟨ks, vs, q1, _⟩ | ⟨ks, vs, q1, _⟩ := unlR_some e3
                · rcases r2.live n _ q1 with ⟨y, _⟩ | ⟨b, y, _⟩
                  · cases y
                  · rw [z] at y; cases y
                · rcases r2.live n _ q1 with ⟨y, _⟩ | ⟨b, y, _⟩
                  · cases y
                  · rw [z] at y; cases y
            have l3 : Le μ M H μ' M' (upd H' d u) := Le.unlock hd nu l hn
            have r3 : Hrel G μ' M' (upd H' d u) h3 := back od μ' M' H' h2 h3 fz r2 live2 e3
            have lw : Lw0 μ' M' H' μ' M' (upd H' d u) := Lw0.over (r2.mu n d live2)
            have e3' : Envi G μ' M' (upd H' d u) ρ2 σ' := e2.lw r2 lw
            have z := p σ' μ' M' (upd H' d u) l3 r3 e3'
            cases fl with
            | nx => exact ⟨fz, z⟩
            | brk => exact ⟨fz, z⟩
            | cont => exact ⟨fz, z⟩
            | ret d' => exact fun v rv => ⟨fz, z v (Rep.lw r2 lw _ _ rv)⟩
          · exact p.elim
      rcases lckR_some e1 with ⟨ks, vs, q1, rfl⟩ | ⟨ks, vs, q1, rfl⟩
      · obtain ⟨d, rfl, hn, kvs, s, ek, t⟩ := r.at_ rv q1 (by intro z; cases z)
        refine core (w := .lckK ks vs) (w2 := .dK ks vs) (u := .dK kvs) (by intro _ _ z; cases z) trivial s hn rfl (fun od => ⟨od, kvs, upd_same, ek, Reps.le r (Le.write hn s) _ _ t⟩) (fun od μ' M' H' h2 h3 fz r2 live2 e3 => ?_)
        obtain ⟨ks2, vs2, q2, rfl⟩ | ⟨ks2, vs2, q2, rfl⟩ := unlR_some e3
        · rcases r2.live n _ q2 with ⟨y, _⟩ | ⟨b, y, o, kvs2, s2, ek2, t2⟩
          · cases y
          · rw [live2] at y; cases y
            rw [fz] at s2; cases s2
            exact r2.over live2 ⟨kvs, upd_same, ek2, Reps.lw r2 (Lw0.over (r2.mu n d live2)) _ _ t2⟩
        · rcases r2.live n _ q2 with ⟨y, _⟩ | ⟨b, y, o, kvs2, s2, ek2, t2⟩
          · cases y
          · rw [live2] at y; cases y
            rw [fz] at s2; cases s2
      · obtain ⟨d, rfl, hn, kvs, s, ek, t⟩ := r.at_ rv q1 (by intro z; cases z)
        refine core (w := .lckT ks vs) (w2 := .dT ks vs) (u := .dT kvs) (by intro _ _ z; cases z) trivial s hn rfl (fun od => ⟨od, kvs, upd_same, ek, Reps.le r (Le.write hn s) _ _ t⟩) (fun od μ' M' H' h2 h3 fz r2 live2 e3 => ?_)
        obtain ⟨ks2, vs2, q2, rfl⟩ | ⟨ks2, vs2, q2, rfl⟩ := unlR_some e3
        · rcases r2.live n _ q2 with ⟨y, _⟩ | ⟨b, y, o, kvs2, s2, ek2, t2⟩
          · cases y
          · rw [live2] at y; cases y
            rw [fz] at s2; cases s2
        · rcases r2.live n _ q2 with ⟨y, _⟩ | ⟨b, y, o, kvs2, s2, ek2, t2⟩
          · cases y
          · rw [live2] at y; cases y
            rw [fz] at s2; cases s2
            exact r2.over live2 ⟨kvs, upd_same, ek2, Reps.lw r2 (Lw0.over (r2.mu n d live2)) _ _ t2⟩
    · exact p.elim
  · exact p.elim
/-- a statement while a dict that a field holds is locked -/
theorem ss_lckF (F : Facts P w base G cf n) {X : Cx} {W : WX} {a : Stmt} {fe : Loc → Hea → SR} {m : Nat} {fl0 : Str} (ha : PS X a (tS G W fe)) :
    PS X a (tS G W fun ρ h => match ρ[m]? with
      | some (some x) => match fldR G.T h x fl0 with
        | some (.ref n) => match lckR h n with
          | some h1 => match fe ρ h1 with
            | .ok f ρ2 h2 => match unlR h2 n with | some h3 => .ok f ρ2 h3 | none => .no
            | _ => .no
          | none => .no
        | _ => .no
      | _ => .no) := by
  refine imS (ps_lock ha) fun D σ H q => ?_
  obtain ⟨μ, M, ρ, h, e, r, p⟩ := q.out
  split at p
  · rename_i x0 er
    split at p
    · rename_i n ef0
      revert p
      cases hl0 : lckR h n with
      | none => exact fun p => p.elim
      | some h1 =>
      intro p
      have e1 := hl0
      simp only at p
      obtain ⟨v, hv, rv⟩ : ∃ v, True ∧ Rep G μ M H (.ref n) v := by
        obtain ⟨k, c, fs, cl, rfl, eh, ec, efl, el⟩ := fldR_some ef0
        obtain ⟨v0, hv0, rv0⟩ := e.at_ m _ er
        obtain ⟨ad, C, dx, vs, rfl, hn, s1, CO, k3, k4, _⟩ := r.ins F rv0 eh ec
        have z := look_repF (f := fl0) k3 k4
        rw [el] at z
        obtain ⟨v, ev, rv⟩ := z
        exact ⟨v, trivial, rv⟩
      have core : ∀ {u : HO} {w w2 : MO} {d : Addr}, (∀ ob z, u ≠ .frz ob z) → Mut (some u) → H d = some u → μ[n]? = some (some d) → h1 = h.set n w → (∀ od, MRep G μ M (upd H d (.frz od u)) d w) →
          (∀ od μ' M' H' h2 h3, H' d = some (.frz od u) → Hrel G μ' M' H' h2 → μ'[n]? = some (some d) → unlR h2 n = some h3 → Hrel G μ' M' (upd H' d u) h3) →
          tLock (tS G W fe) D σ H := by
        intro u w w2 d nu mu hd hn eh mr back
        refine ⟨d, u, hd, mu, fun od => ?_⟩
        have l1 : Le μ M H μ M (upd H d (.frz od u)) := Le.write hn hd nu
        refine ⟨μ, M, ρ, h1, e.le r l1, by rw [eh]; exact r.write hn hd (mr od) nu, ?_⟩
        cases er2 : fe ρ h1 with
        | no => rw [er2] at p; exact p
        | err c ρ2 h2 => rw [er2] at p; exact p.elim
        | ok fl ρ2 h2 =>
          rw [er2] at p
          simp only at p
          split at p
          · rename_i h3 e3
            intro σ' μ' M' H' l r2 e2
            have fz : H' d = some (.frz od u) := l.frz d od u upd_same
            have live2 : μ'[n]? = some (some d) := by
              rcases l.old n d hn with z | z
              · exact z
              · exfalso
                obtain ⟨ks, vs, q1, _⟩ | ⟨ks, vs, q1, _⟩ := unlR_some e3
                · rcases r2.live n _ q1 with ⟨y, _⟩ | ⟨b, y, _⟩
                  · cases y
                  · rw [z] at y; cases y
                · rcases r2.live n _ q1 with ⟨y, _⟩ | ⟨b, y, _⟩
                  · cases y
                  · rw [z] at y; cases y
            have l3 : Le μ M H μ' M' (upd H' d u) := Le.unlock hd nu l hn
            have r3 : Hrel G μ' M' (upd H' d u) h3 := back od μ' M' H' h2 h3 fz r2 live2 e3
            have lw : Lw0 μ' M' H' μ' M' (upd H' d u) := Lw0.over (r2.mu n d live2)
            have e3' : Envi G μ' M' (upd H' d u) ρ2 σ' := e2.lw r2 lw
            have z := p σ' μ' M' (upd H' d u) l3 r3 e3'
            cases fl with
            | nx => exact ⟨fz, z⟩
            | brk => exact ⟨fz, z⟩
            | cont => exact ⟨fz, z⟩
            | ret d' => exact fun v rv => ⟨fz, z v (Rep.lw r2 lw _ _ rv)⟩
          · exact p.elim
      rcases lckR_some e1 with ⟨ks, vs, q1, rfl⟩ | ⟨ks, vs, q1, rfl⟩
      · obtain ⟨d, rfl, hn, kvs, s, ek, t⟩ := r.at_ rv q1 (by intro z; cases z)
        refine core (w := .lckK ks vs) (w2 := .dK ks vs) (u := .dK kvs) (by intro _ _ z; cases z) trivial s hn rfl (fun od => ⟨od, kvs, upd_same, ek, Reps.le r (Le.write hn s) _ _ t⟩) (fun od μ' M' H' h2 h3 fz r2 live2 e3 => ?_)
        obtain ⟨ks2, vs2, q2, rfl⟩ | ⟨ks2, vs2, q2, rfl⟩ := unlR_some e3
        · rcases r2.live n _ q2 with ⟨y, _⟩ | ⟨b, y, o, kvs2, s2, ek2, t2⟩
          · cases y
          · rw [live2] at y; cases y
            rw [fz] at s2; cases s2
            exact r2.over live2 ⟨kvs, upd_same, ek2, Reps.lw r2 (Lw0.over (r2.mu n d live2)) _ _ t2⟩
        · rcases r2.live n _ q2 with ⟨y, _⟩ | ⟨b, y, o, kvs2, s2, ek2, t2⟩
          · cases y
          · rw [live2] at y; cases y
            rw [fz] at s2; cases s2
      · obtain ⟨d, rfl, hn, kvs, s, ek, t⟩ := r.at_ rv q1 (by intro z; cases z)
        refine core (w := .lckT ks vs) (w2 := .dT ks vs) (u := .dT kvs) (by intro _ _ z; cases z) trivial s hn rfl (fun od => ⟨od, kvs, upd_same, ek, Reps.le r (Le.write hn s) _ _ t⟩) (fun od μ' M' H' h2 h3 fz r2 live2 e3 => ?_)
        obtain ⟨ks2, vs2, q2, rfl⟩ | ⟨ks2, vs2, q2, rfl⟩ := unlR_some e3
        · rcases r2.live n _ q2 with ⟨y, _⟩ | ⟨b, y, o, kvs2, s2, ek2, t2⟩
          · cases y
          · rw [live2] at y; cases y
            rw [fz] at s2; cases s2
        · rcases r2.live n _ q2 with ⟨y, _⟩ | ⟨b, y, o, kvs2, s2, ek2, t2⟩
          · cases y
          · rw [live2] at y; cases y
            rw [fz] at s2; cases s2
            exact r2.over live2 ⟨kvs, upd_same, ek2, Reps.lw r2 (Lw0.over (r2.mu n d live2)) _ _ t2⟩
    · exact p.elim
  · exact p.elim
theorem ss_sfld (F : Facts P w base G cf n) {X : Cx} {W : WX} {sc : Scope} {fo : Fo} (g : Good P w base G n N sc fo X) {a c : Expr} {fa fc : Loc → Hea → Res D} {f : Str} {p pos : Pos} (ha : PE X a (tE G W fa)) (hc : PE X c (tE G W fc)) (hs : swapsWith c (some (.Attribute a f p)) pos.line X.env = pure false) :
    PS X (.Assign [.Attribute a f p] c pos) (tS G W fun ρ h => (fc ρ h).st ρ fun d h1 => (fa ρ h1).st ρ fun x h2 => match sfldR G.T h2 x f d with | some h3 => .ok .nx ρ h3 | none => .no) := by
  refine imS (ps_fld ha hc hs) fun D σ H q => ?_
  obtain ⟨μ, M, ρ, h, e, r, p⟩ := q.out
  refine tG.mono (PostS.thn (R := Rep G) e r p) ?_
  rintro v H1 ⟨d, μ1, M1, h1, l1, e1, r1, pv, p1⟩
  refine tG.mono (PostS.thn (R := Rep G) (f := fa) e1 r1 p1) ?_
  rintro o H2 ⟨x, μ2, M2, h2, l2, e2, r2, po, p2⟩
  split at p2
  · rename_i h3 es
    obtain ⟨k, c, fs, cl, rfl, eh, ec, ef, el, rfl⟩ := sfldR_some es
    obtain ⟨ad, C, dx, vs, rfl, hn, s1, CO, k3, k4, ic⟩ := r2.ins F po eh ec
    have wr : Le μ2 M2 H2 μ2 M2 (upd H2 ad (.ins C dx (putF f v vs))) := Le.write hn s1
    obtain ⟨z1, z2⟩ := putF_rep (f := f) (Rep.le r2 wr _ _ (Rep.le r1 l2 _ _ pv)) k3 (Reps.le r2 wr _ _ k4)
    have ln : vs.length = fs.length := by rw [← List.length_map (f := (·.1)) (as := vs), k3, List.length_map]
    exact ⟨ad, C, dx, vs, rfl, s1, by rw [g.K]; exact CO.cls, by rw [g.K]; exact CO.noat f ef, by rw [ln]; exact el, p2 σ μ2 M2 _ wr (r2.write hn s1 ⟨C, dx, _, upd_same, ic, z1, z2⟩) (e2.le r2 wr)⟩
  · exact p2.elim
include F
mutual
theorem sndS : ∀ (st : S) (a : Stmt) (X : Cx) (W : WX) (sc : Scope) (fo : Fo), ckS G.T N sc fo st a = true → Good P w base G n N sc fo X → Takes X W → (PassesOwn (model X.prog X.w) X.A X.env X.xe ∧ StdX X) → sc.kind = .function →
    PS X a (tS G W (exS G.T cf st))
  | .set i e, a, X, W, sc, fo, h, g, tk, hp, hk => by
    cases a <;> first | exact Bool.noConfusion h | skip
    rename_i ts v pos
    have h0 : ckSetT G.T N sc fo i e v (oneT ts) = true := h
    cases ot : oneT ts with
    | none => rw [ot] at h0; exact Bool.noConfusion h0
    | some t0 =>
      rw [ot] at h0
      cases oneT_some ot
      cases t0 <;> first | exact Bool.noConfusion h0 | skip
      rename_i x p
      have h' : (decide (N[i]? = some x) && locB sc fo x && ckE G.T N sc fo e v && (!swL sc x p v || (decide (sc.names.lookup x = some .local) && lcE e))) = true := h0
      simp only [Bool.and_eq_true, Bool.or_eq_true, decide_eq_true_eq, Bool.not_eq_true'] at h'
      obtain ⟨⟨⟨h1, h2⟩, h3⟩, h4⟩ := h'
      cases hsw : swL sc x p v with
      | false => exact ss_set g h1 h2 (sndE F e v X W sc fo h3 g tk).1 ((sw_name h3 (by rw [g.sc]; exact hk) g.sc).trans (by rw [hsw]))
      | true =>
        rcases h4 with z | ⟨z1, z2⟩
        · rw [hsw] at z; cases z
        · exact lc_set F g tk (by rw [g.sc]; exact hk) h1 z1 e v h3 hsw z2
  | .asg t e, a, X, W, sc, fo, h, g, tk, hp, hk => by
    cases a <;> first | exact Bool.noConfusion h | skip
    rename_i ts v pos
    have h0 : ckAsgT G.T N sc fo t e v (oneT ts) = true := h
    cases ot : oneT ts with
    | none => rw [ot] at h0; exact Bool.noConfusion h0
    | some t0 =>
      rw [ot] at h0
      cases oneT_some ot
      cases t0 <;> first | exact Bool.noConfusion h0 | skip
      rename_i ts k p
      have h' : (ckG N sc fo (List.range N.length) t (.Tuple ts k p) && ckE G.T N sc fo e v && asgV sc ts v) = true := h0
      simp only [Bool.and_eq_true] at h'
      obtain ⟨⟨h1, h2⟩, h3⟩ := h'
      refine ss_asg g h1 (sndE F e v X W sc fo h2 g tk).1 (sw_other h2 (fun x p z => by cases z)) ?_
      by_cases tb : tupB v = true
      · cases v <;> first | exact Bool.noConfusion tb | skip
        exact swC_eq (by rw [g.sc]; exact hk) (by rw [g.sc]; exact of_decide_eq_true h3)
      · exact sw_notup h2 fun vs k p z => tb (by rw [z]; rfl)
  | .put o i e, a, X, W, sc, fo, h, g, tk, hp, hk => by
    cases a <;> first | exact Bool.noConfusion h | skip
    rename_i ts v pos
    have h0 : ckPutT G.T N sc fo o i e v (oneT ts) = true := h
    cases ot : oneT ts with
    | none => rw [ot] at h0; exact Bool.noConfusion h0
    | some t0 =>
      rw [ot] at h0
      cases oneT_some ot
      cases t0 <;> first | exact Bool.noConfusion h0 | skip
      rename_i a b p
      have h' : (ckE G.T N sc fo o a && ckE G.T N sc fo i b && ckE G.T N sc fo e v) = true := h0
      simp only [Bool.and_eq_true] at h'
      obtain ⟨⟨h1, h2⟩, h3⟩ := h'
      exact ss_put g (sndE F o a X W sc fo h1 g tk).1 (sndE F i b X W sc fo h2 g tk).1 (sndE F e v X W sc fo h3 g tk).1 (sw_other h3 (fun x p z => by cases z)) (put_eq (v := v) h2)
  | .par is es, a, X, W, sc, fo, h, g, tk, hp, hk => by
    cases a <;> first | exact Bool.noConfusion h | skip
    rename_i ts v pos
    have h0 : ckParT G.T N sc fo is es v (oneT ts) = true := h
    cases ot : oneT ts with
    | none => rw [ot] at h0; exact Bool.noConfusion h0
    | some t0 =>
      rw [ot] at h0
      cases oneT_some ot
      cases t0 <;> first | exact Bool.noConfusion h0 | skip
      rename_i ts k p
      have hk' : X.env.scope.kind = .function := by rw [g.sc]; exact hk
      cases v <;> first | exact Bool.noConfusion h0 | skip
      rename_i vs k2 p2
      have h1 : ckPar G.T N sc fo es vs is ts = true := h0
      clear h0 h
      unfold ckPar at h1
      split at h1
      · rename_i i j t1 t2
        cases t1 <;> first | exact Bool.noConfusion h1 | skip
        rename_i x px
        cases t2 <;> first | exact Bool.noConfusion h1 | skip
        rename_i y py
        have h : (decide (vs.length = 2) && decide (swC sc [.Name x px, .Name y py] vs = some (some [x, y])) && decide (N[i]? = some x) && decide (N[j]? = some y) && decide (i ≠ j) && decide (sc.names.lookup x = some .local) && decide (sc.names.lookup y = some .local) && ckEs G.T N sc fo es vs) = true := h1
        simp only [Bool.and_eq_true, decide_eq_true_eq] at h
        obtain ⟨⟨⟨⟨⟨⟨⟨hl, h1⟩, h2⟩, h3⟩, h4⟩, h5⟩, h6⟩, h7⟩ := h
        match vs, hl, h1, h7 with
        | [a, b], _, h1, h7 => exact ss_par g hk' h2 h3 h4 h5 h6 (sndEs F es [a, b] X W sc fo h7 g tk).1 h1
      · rename_i i j l t1 t2 t3
        cases t1 <;> first | exact Bool.noConfusion h1 | skip
        rename_i x px
        cases t2 <;> first | exact Bool.noConfusion h1 | skip
        rename_i y py
        cases t3 <;> first | exact Bool.noConfusion h1 | skip
        rename_i z pz
        have h : (decide (vs.length = 3) && decide (swC sc [.Name x px, .Name y py, .Name z pz] vs = some (some [x, y, z])) && decide (N[i]? = some x) && decide (N[j]? = some y) && decide (N[l]? = some z) && decide (i ≠ j) && decide (i ≠ l) && decide (j ≠ l) &&
          decide (sc.names.lookup x = some .local) && decide (sc.names.lookup y = some .local) && decide (sc.names.lookup z = some .local) && ckEs G.T N sc fo es vs) = true := h1
        simp only [Bool.and_eq_true, decide_eq_true_eq] at h
        obtain ⟨⟨⟨⟨⟨⟨⟨⟨⟨⟨⟨hl, h1⟩, h2⟩, h3⟩, h4⟩, h5⟩, h6⟩, h7⟩, h8⟩, h9⟩, h10⟩, h11⟩ := h
        match vs, hl, h1, h11 with
        | [a, b, c], _, h1, h11 => exact ss_par3 g hk' h2 h3 h4 h5 h6 h7 h8 h9 h10 (sndEs F es [a, b, c] X W sc fo h11 g tk).1 h1
      · cases h1
  | .ex e, a, X, W, sc, fo, h, g, tk, hp, hk => by
    cases a <;> first | exact Bool.noConfusion h | skip
    rename_i v pos
    have h' : (ckE G.T N sc fo e v && !lcB v) = true := h
    simp only [Bool.and_eq_true, Bool.not_eq_true'] at h'
    exact ss_ex (sndE F e v X W sc fo h'.1 g tk).1 (ck_swap h'.1 h'.2 _ _ _)
  | .ret e, a, X, W, sc, fo, h, g, tk, hp, hk => by
    cases a <;> first | exact Bool.noConfusion h | skip
    rename_i v pos
    cases v with
    | none => exact Bool.noConfusion h
    | some v => exact ss_ret (sndE F e v X W sc fo h g tk).1
  | .retN, a, X, W, sc, fo, h, g, tk, hp, hk => by
    cases a <;> first | exact Bool.noConfusion h | skip
    rename_i v pos
    cases v with
    | none => exact ss_retN
    | some v => exact Bool.noConfusion h
  | .iff c a1 b1, a, X, W, sc, fo, h, g, tk, hp, hk => by
    cases a <;> first | exact Bool.noConfusion h | skip
    rename_i v xs ys pos
    have h' : (ckE G.T N sc fo c v && ckB G.T N sc fo a1 xs && ckB G.T N sc fo b1 ys) = true := h
    simp only [Bool.and_eq_true] at h'
    obtain ⟨⟨h1, h2⟩, h3⟩ := h'
    exact ss_if (sndE F c v X W sc fo h1 g tk).2 (sndB a1 xs X W sc fo h2 g tk hp hk) (sndB b1 ys X W sc fo h3 g tk hp hk)
  | .whl c b1, a, X, W, sc, fo, h, g, tk, hp, hk => by
    cases a <;> first | exact Bool.noConfusion h | skip
    rename_i v xs ys pos
    cases ys with
    | cons _ _ => exact Bool.noConfusion h
    | nil =>
      have h' : (ckE G.T N sc fo c v && ckB G.T N sc fo b1 xs) = true := h
      rw [Bool.and_eq_true] at h'
      exact ss_while hp.1 (sndE F c v X W sc fo h'.1 g tk).2 (sndB b1 xs X W sc fo h'.2 g tk hp hk)
  | .fr t it b1, a, X, W, sc, fo, h, g, tk, hp, hk => by
    cases a <;> first | exact Bool.noConfusion h | skip
    rename_i tg i xs ys pos
    cases ys with
    | cons _ _ => exact Bool.noConfusion h
    | nil =>
      have h' : (ckG N sc fo (List.range N.length) t tg && ckI G.T N sc fo it tg i && ckB G.T N sc fo b1 xs) = true := h
      simp only [Bool.and_eq_true] at h'
      obtain ⟨⟨h1, h2⟩, h3⟩ := h'
      exact ss_for g hp.1 h1 (sndI F it tg i X W sc fo h2 g tk) (sndB b1 xs X W sc fo h3 g tk hp hk) fun x => ckI_folded h2 X.env x
  | .pass, a, X, W, sc, fo, h, g, tk, hp, hk => by
    cases a <;> first | exact Bool.noConfusion h | skip
    exact ss_nx ps_pass
  | .brk, a, X, W, sc, fo, h, g, tk, hp, hk => by
    cases a <;> first | exact Bool.noConfusion h | skip
    exact ss_brk
  | .cont, a, X, W, sc, fo, h, g, tk, hp, hk => by
    cases a <;> first | exact Bool.noConfusion h | skip
    exact ss_cont
  | .rais c, a, X, W, sc, fo, h, g, tk, hp, hk => by
    cases a <;> first | exact Bool.noConfusion h | skip
    rename_i e c2 pos
    cases c2 with
    | some _ => exact Bool.noConfusion h
    | none =>
      cases e with
      | none => exact Bool.noConfusion h
      | some e =>
        have h : ckRais G.T sc c e = true := h
        unfold ckRais at h
        split at h
        · split at h
          · split at h
            · simp only [Bool.and_eq_true, decide_eq_true_eq] at h
              exact ss_raise F g tk h.2 h.1
            · cases h
          · cases h
        · cases h
  | .sfld o f e, a, X, W, sc, fo, h, g, tk, hp, hk => by
    cases a <;> first | exact Bool.noConfusion h | skip
    rename_i ts v pos
    have h0 : ckSfT G.T N sc fo o f e v (oneT ts) = true := h
    cases ot : oneT ts with
    | none => rw [ot] at h0; exact Bool.noConfusion h0
    | some t0 =>
      rw [ot] at h0
      cases oneT_some ot
      cases t0 <;> first | exact Bool.noConfusion h0 | skip
      rename_i a x p
      have h' : (decide (x = f) && ckE G.T N sc fo o a && ckE G.T N sc fo e v) = true := h0
      simp only [Bool.and_eq_true, decide_eq_true_eq] at h'
      obtain ⟨⟨rfl, h1⟩, h3⟩ := h'
      exact ss_sfld F g (sndE F o a X W sc fo h1 g tk).1 (sndE F e v X W sc fo h3 g tk).1 (show swapsWithSole [.Attribute a x p] v pos.line X.env = pure false from sw_other (l := pos.line) (env := X.env) h3 (fun x p z => by cases z))
  | .lckF m f s1, a, X, W, sc, fo, h, g, tk, hp, hk => by
    have h' : ((match N[m]? with | some _ => true | none => false) && ckS G.T N sc fo s1 a) = true := h
    rw [Bool.and_eq_true] at h'
    exact ss_lckF F (sndS s1 a X W sc fo h'.2 g tk hp hk)
  | .frL t v b1, a, X, W, sc, fo, h, g, tk, hp, hk => by
    cases a <;> first | exact Bool.noConfusion h | skip
    rename_i tg i xs ys pos
    cases ys with
    | cons _ _ => exact Bool.noConfusion h
    | nil =>
      have h' : (nmB N sc v i && ckG N sc fo (List.range N.length) t tg && ckB G.T N sc fo b1 xs) = true := h
      simp only [Bool.and_eq_true] at h'
      obtain ⟨⟨h1, h2⟩, h3⟩ := h'
      cases i <;> first | exact Bool.noConfusion h1 | skip
      exact ss_frL g hp.1 h2 h1 (sndB b1 xs X W sc fo h3 g tk hp hk)
  | .lck m st, a, X, W, sc, fo, h, g, tk, hp, hk => by
    have h' : ((match N[m]? with | some _ => true | none => false) && ckS G.T N sc fo st a) = true := h
    rw [Bool.and_eq_true] at h'
    exact ss_lck (sndS st a X W sc fo h'.2 g tk hp hk)
  | .tr b i hs, a, X, W, sc, fo, h, g, tk, hp, hk => by
    cases a <;> first | exact Bool.noConfusion h | skip
    rename_i body hds orelse fin pos
    match hds, orelse, fin, h with
    | h0 :: r0, [], [], h =>
      have h : (match N[i]? with | some nm => decide (sc.names.lookup nm = some .local) && hsB G.T sc nm hs (h0 :: r0) && ckB G.T N sc fo b body | none => false) = true := h
      split at h
      · rename_i nm hi
        simp only [Bool.and_eq_true, decide_eq_true_eq] at h
        obtain ⟨⟨h1, h2⟩, h3⟩ := h
        exact ss_try F g tk hp.2 hi h1 h2 fun pn xe W' g' tk' po => sndB b body (X.tr pn xe) W' sc fo h3 g' tk' ⟨po, hp.2⟩ hk
      · cases h
    | [], _, _, h => exact Bool.noConfusion h
    | _ :: _, _ :: _, _, h => exact Bool.noConfusion h
    | _ :: _, [], _ :: _, h => exact Bool.noConfusion h
theorem sndB : ∀ (ss : Ss) (as : List Stmt) (X : Cx) (W : WX) (sc : Scope) (fo : Fo), ckB G.T N sc fo ss as = true → Good P w base G n N sc fo X → Takes X W → (PassesOwn (model X.prog X.w) X.A X.env X.xe ∧ StdX X) → sc.kind = .function →
    PSs X as (tS G W (exB G.T cf ss))
  | .nil, as, X, W, sc, fo, h, g, tk, hp, hk => by
    cases as <;> first | exact Bool.noConfusion h | skip
    exact ss_nil
  | .cons s ss, as, X, W, sc, fo, h, g, tk, hp, hk => by
    cases as with
    | nil => exact Bool.noConfusion h
    | cons a as =>
      have h' : (ckS G.T N sc fo s a && ckB G.T N sc fo ss as) = true := h
      rw [Bool.and_eq_true] at h'
      exact ss_cons (sndS s a X W sc fo h'.1 g tk hp hk) (sndB ss as X W sc fo h'.2 g tk hp hk)
end
end
end PyI
set_option Elab.async false
set_option linter.all false
set_option maxRecDepth 100000
set_option maxHeartbeats 1000000
namespace PyI
open PySem L2
/-- a def of the module, as the text has it; N: its names by slots, the parameters first; lam: it makes lambdas -/
structure Row where
  x : Str
  params : Arguments
  body : List Stmt
  scope : Scope
  N : List Str
  lam : Bool := false
def fnsB (N : List Str) (np : Nat) (sc : Scope) : Bool := decide (sc.kind = .function) && (!sc.isCoroutine && (!sc.isGenerator && (decide N.Nodup &&
  ((N.take np).all (fun x => decide (sc.names.lookup x = some .local) || decide (sc.names.lookup x = some .cell)) && sc.names.all (fun y => decide (y.2 ≠ .free))))))
theorem fnsB_ok {N : List Str} {np : Nat} {sc : Scope} (h : fnsB N np sc = true) (hl : np ≤ N.length) : FnScope N (N.take np) sc := by
  unfold fnsB at h
  simp only [Bool.and_eq_true, decide_eq_true_eq, Bool.not_eq_true', List.all_eq_true, Bool.or_eq_true] at h
  obtain ⟨h1, h2, h3, h4, h5, h6⟩ := h
  exact ⟨h1, h2, h3, h4, by rw [List.length_take, Nat.min_eq_left hl], h5, h6⟩
def Row.fo (r : Row) : Fo := ⟨fun _ => true, if r.lam then 1 else 0⟩
def rowB (T : Tab) (r : Row) (f : Fn) : Bool := decide (f.name = r.x) && (decide (f.np ≤ r.N.length) && (decide (f.nv = r.N.length) && (fnsB r.N f.np r.scope && ckB T r.N r.scope r.fo f.body r.body)))
def rowsB (T : Tab) : List Row → List (Nat × Fn) → Bool
  | [], [] => true
  | r :: rs, f :: fs => rowB T r f.2 && rowsB T rs fs
  | _, _ => false
theorem rowsB_at {T : Tab} : ∀ {rs : List Row} {fs : List (Nat × Fn)}, rowsB T rs fs = true → ∀ {i : Nat} {f : Fn}, fs.lookup i = some f → ∃ (j : Nat) (r : Row), rs[j]? = some r ∧ fs[j]? = some (i, f) ∧ rowB T r f = true
  | [], [], _, i, f, e => by cases e
  | r :: rs, (m, f0) :: fs, h, i, f, e => by
    have h' : (rowB T r f0 && rowsB T rs fs) = true := h
    rw [Bool.and_eq_true] at h'
    have e' : (match i == m with | true => some f0 | false => fs.lookup i) = some f := e
    cases q : (i == m) with
    | true =>
      rw [q] at e'
      cases e'
      exact ⟨0, r, rfl, by rw [show i = m by simpa using q]; rfl, h'.1⟩
    | false =>
      rw [q] at e'
      obtain ⟨j, r', a, b, c⟩ := rowsB_at h'.2 (show fs.lookup i = some f from e')
      exact ⟨j + 1, r', by simpa using a, by simpa using b, c⟩
  | [], _ :: _, h, _, _, _ => Bool.noConfusion h
  | _ :: _, [], h, _, _, _ => Bool.noConfusion h
/-- the defs that get lambdas -/
def trowB (T : Tab) (r : Row) (t : TFn) : Bool := decide (t.name = r.x) && (decide (1 ≤ r.N.length) && (fnsB r.N 1 r.scope && ckTF T t (r.N.getD 0 Str.empty) r.scope r.N r.body))
def trowsB (T : Tab) : List Row → List (Nat × TFn) → Bool
  | [], [] => true
  | r :: rs, f :: fs => trowB T r f.2 && trowsB T rs fs
  | _, _ => false
theorem trowsB_at {T : Tab} : ∀ {rs : List Row} {fs : List (Nat × TFn)}, trowsB T rs fs = true → ∀ {i : Nat} {f : TFn}, fs.lookup i = some f → ∃ (j : Nat) (r : Row), rs[j]? = some r ∧ fs[j]? = some (i, f) ∧ trowB T r f = true
  | [], [], _, i, f, e => by cases e
  | r :: rs, (m, f0) :: fs, h, i, f, e => by
    have h' : (trowB T r f0 && trowsB T rs fs) = true := h
    rw [Bool.and_eq_true] at h'
    have e' : (match i == m with | true => some f0 | false => fs.lookup i) = some f := e
    cases q : (i == m) with
    | true =>
      rw [q] at e'
      cases e'
      exact ⟨0, r, rfl, by rw [show i = m by simpa using q]; rfl, h'.1⟩
    | false =>
      rw [q] at e'
      obtain ⟨j, r', a, b, c⟩ := trowsB_at h'.2 (show fs.lookup i = some f from e')
      exact ⟨j + 1, r', by simpa using a, by simpa using b, c⟩
  | [], _ :: _, h, _, _, _ => Bool.noConfusion h
  | _ :: _, [], h, _, _, _ => Bool.noConfusion h
/-- a method, as the text has it -/
structure MRow where
  cls : Str
  r : Row
def mrowB (T : Tab) (r : MRow) (m : Mth) : Bool := decide (m.cls = r.cls) && (!r.r.lam && rowB T r.r m.fn)
def mrowsB (T : Tab) : List MRow → List (Nat × Mth) → Bool
  | [], [] => true
  | r :: rs, f :: fs => mrowB T r f.2 && mrowsB T rs fs
  | _, _ => false
theorem mrowsB_at {T : Tab} : ∀ {rs : List MRow} {fs : List (Nat × Mth)}, mrowsB T rs fs = true → ∀ {i : Nat} {f : Mth}, fs.lookup i = some f → ∃ (j : Nat) (r : MRow), rs[j]? = some r ∧ fs[j]? = some (i, f) ∧ mrowB T r f = true
  | [], [], _, i, f, e => by cases e
  | r :: rs, (m, f0) :: fs, h, i, f, e => by
    have h' : (mrowB T r f0 && mrowsB T rs fs) = true := h
    rw [Bool.and_eq_true] at h'
    have e' : (match i == m with | true => some f0 | false => fs.lookup i) = some f := e
    cases q : (i == m) with
    | true =>
      rw [q] at e'
      cases e'
      exact ⟨0, r, rfl, by rw [show i = m by simpa using q]; rfl, h'.1⟩
    | false =>
      rw [q] at e'
      obtain ⟨j, r', a, b, c⟩ := mrowsB_at h'.2 (show fs.lookup i = some f from e')
      exact ⟨j + 1, r', by simpa using a, by simpa using b, c⟩
  | [], _ :: _, h, _, _, _ => Bool.noConfusion h
  | _ :: _, [], h, _, _, _ => Bool.noConfusion h
/-- the classes' numbers are the methods' -/
def mtB (T : Tab) (cl m : Str) (i : Nat) : Bool := (T.fn i).isNone && (match T.mt i with | some mt => decide (mt.cls = cl) && decide (mt.nm = m) | none => false)
def clsB (T : Tab) : Bool := T.cls.all fun c => mtB T c.2.name "__init__" c.2.ini && c.2.mts.all fun p => mtB T c.2.name p.1 p.2
def mqual (c m : Str) : Str := (c ++ ".") ++ m
def lamQ (x : Str) : Str := (x ++ ".<locals>.") ++ "<lambda>"
/-- what the heap behind the module's top says -/
structure Base (P : Program) (w : World) (base : Heap) (G : Glb) (rs ts : List Row) (ms : List MRow) : Prop where
  blt : ∀ x ∈ bltNames, G.mg x = none
  cns : ∀ (i : Nat) (p : Str × D), G.T.cn i = some p → ∃ u v, G.mg p.1 = some u ∧ RelV v u ∧ ∀ μ M H, Rep G μ M H p.2 v
  defs : ∀ (j : Nat) (r : Row) (f : Nat × Fn), rs[j]? = some r → G.T.fns[j]? = some f → ∃ fa fd, G.mg r.x = some (.ref fa) ∧ FunD G.K r.x r.x r.params r.body r.scope [] [] fa fd ∧ Binds G.K fd (r.N.take f.2.np) []
  tdefs : ∀ (j : Nat) (r : Row) (f : Nat × TFn), ts[j]? = some r → G.T.tfs[j]? = some f → ∃ fa fd, G.mg r.x = some (.ref fa) ∧ FunD G.K r.x r.x r.params r.body r.scope [] [] fa fd ∧ Binds G.K fd (r.N.take 1) []
  exs : ∀ (c : Nat) (x : Str), G.T.ex c = some x → ∃ C B newId initId bmB, ExcBaseFacts B newId initId bmB ∧ PySem.W.excIn G.K C bmB newId = true ∧ G.mg x = some (.ref C) ∧ PySem.W.keepIn G.K (.ref C) = true ∧
    PySem.W.subIn G.K (.ref C) (.type "BaseException") = some true ∧ PySem.W.typeIn G.K (.ref C) = some (.type "type")
  sub : ∀ (c d : Nat) (x y : Str) (C E : Addr), G.T.ex c = some x → G.T.ex d = some y → G.mg x = some (.ref C) → G.mg y = some (.ref E) → PySem.W.exmOne G.K (.ref C) (.ref E) = some (subX c d)
  xv : G.T.xvs = true → ∀ (c : Nat) (x : Str), G.T.ex c = some x → ∃ C, G.mg x = some (.ref C) ∧ XvOk G.K C
  cls : ∀ (c : Nat) (cl : Cl), G.T.cl c = some cl → clsB G.T = true ∧ (c, cl) ∈ G.T.cls ∧ ∃ C fi, G.mg cl.name = some (.ref C) ∧ L2.Cls G.K C ∧ (∀ f ∈ cl.flds, NoAttr G.K C f) ∧ L2.Mk G.K C fi
  mdefs : ∀ (j : Nat) (r : MRow) (m : Nat × Mth) (C : Addr), ms[j]? = some r → G.T.mts[j]? = some m → G.mg r.cls = some (.ref C) → ∃ fa fd, Meth G.K C r.r.x fa ∧ FunD G.K r.r.x (mqual r.cls r.r.x) r.r.params r.r.body r.r.scope [] [] fa fd ∧ Binds G.K fd (r.r.N.take m.2.np) []
  lam : ∀ (j : Nat) (r : Row) (fa : Addr) (fd : FuncData), rs[j]? = some r → r.lam = true → G.mg r.x = some (.ref fa) → FunD G.K r.x r.x r.params r.body r.scope [] [] fa fd →
    ∃ c Pt, fd.code = .ref c ∧ LamX.TabB base G.mg c Pt ∧ (Pt, lamQ r.x) ∈ G.tabs ∧ ∀ p ∈ G.tabs, p.1 = Pt → p.2 = lamQ r.x
section
variable {P : Program} {w : World} {base : Heap} {G : Glb} {rs ts : List Row} {ms : List MRow}
theorem envi_start {μ : Mu} {M : Mk} {H : Hp} {ds : List D} {vs : List V} {N : List Str} {nv np : Nat} (q : Reps G μ M H ds vs) (hv : nv = N.length) (hp : np = ds.length) (hl : np ≤ nv) : Envi G μ M H (ds.map some ++ List.replicate (nv - np) none) (L2.start N vs) := by
  have hlen := q.length
  refine ⟨by unfold L2.start; simp [hlen]; omega, fun i d e => ?_⟩
  by_cases hi : i < ds.length
  · rw [List.getElem?_append_left (by simpa using hi), List.getElem?_map] at e
    cases ed : ds[i]? with
    | none => rw [ed] at e; cases e
    | some d' =>
      rw [ed] at e
      have e : some d' = some d := by simpa using e
      cases e
      obtain ⟨v, ev, rv⟩ := q.get ed
      refine ⟨v, ?_, rv⟩
      unfold L2.start
      rw [List.getElem?_append_left (by rw [List.length_map]; omega), List.getElem?_map, ev]; rfl
  · rw [List.getElem?_append_right (by simpa using hi), List.getElem?_replicate] at e
    split at e <;> cases e
/-- a def at one level more -/
theorem fn_step {k n i : Nat} {r : Row} {f : Fn} {fa : Addr} {fd : FuncData} {qu : Str} (B : Base P w base G rs ts ms) (F : Facts P w base G (callF G.T k) n) (e : ∀ ds h, callF G.T (k + 1) i ds h = runFn G.T (callF G.T k) f ds h) (hlm : r.lam = true → qu = r.x ∧ G.mg r.x = some (.ref fa) ∧ ∃ j : Nat, rs[j]? = some r) (FD : FunD G.K r.x qu r.params r.body r.scope [] [] fa fd)
    (h2 : f.np ≤ r.N.length) (h3 : f.nv = r.N.length) (h4 : fnsB r.N f.np r.scope = true) (h5 : ckB G.T r.N r.scope r.fo f.body r.body = true) :
    FnG P w G.K G.mg base (L2.CX P w) (n + 4) fa fd (r.N.take f.np) (spF G f.np (callF G.T (k + 1) i)) := by
  have sc := fnsB_ok h4 h2
  refine fnG_of FD sc (fun vs H Q E h => by rw [h.1, List.length_take, Nat.min_eq_left h2]) (fun cdv hcd A outer s H vs Q E hroom hgd h => ?_)
  have lv1 : r.fo.lv ≤ 1 := by
    unfold Row.fo
    show (if r.lam then 1 else 0) ≤ 1
    split <;> omega
  have g : Good P w base G n r.N r.scope r.fo (cxOf (L2.CX P w) P w G.K G.mg base r.N qu r.scope fa cdv A outer s H E) :=
    ⟨rfl, rfl, rfl, rfl, rfl, rfl, sc.nd, rfl, hroom.mono (by omega), hgd, rfl, rfl, fun hl => by
      have hlam : r.lam = true := by
        cases q : r.lam with
        | true => rfl
        | false =>
          refine absurd ?_ hl
          unfold Row.fo
          rw [q]; rfl
      obtain ⟨eq, hm, j, ej⟩ := hlm hlam
      subst eq
      obtain ⟨c, Pt, h1, h2, h3, h4⟩ := B.lam j r fa fd ej hlam hm FD
      exact ⟨c, Pt, h2, by rw [← h1]; exact hcd.symm, h3, h4⟩⟩
  refine ⟨_, sndB F f.body r.body _ (fun cls d _ H => E cls d H) r.scope r.fo h5 g (takes_of rfl rfl rfl rfl) ⟨passes_of rfl, rfl, rfl⟩ sc.kind, ?_⟩
  obtain ⟨hl, μ, M, ds, h0, rel, q, p⟩ := h
  have hd : ds.length = f.np := by rw [← q.length]; exact hl
  have en : Envi G μ M H (ds.map some ++ List.replicate (f.nv - f.np) none) (L2.start r.N vs) := envi_start q h3 hd.symm (by rw [h3]; exact h2)
  refine ⟨μ, M, _, h0, en, rel, ?_⟩
  have p2 : Post G (Rep G) (fun c H' => E c none H') μ M H (match exB G.T (callF G.T k) f.body (ds.map some ++ List.replicate (f.nv - f.np) none) h0 with
    | .ok .nx _ h => .ok .non h
    | .ok (.ret d) _ h => .ok d h
    | .err c _ h => .err c h
    | _ => .no) Q := by
    have p3 : Post G (Rep G) (fun c H' => E c none H') μ M H (callF G.T (k + 1) i ds h0) Q := p
    rw [e] at p3
    have p4 : Post G (Rep G) (fun c H' => E c none H') μ M H (if ds.length = f.np then _ else Res.no) Q := p3
    rw [if_pos hd] at p4
    exact p4
  revert p2
  generalize exB G.T (callF G.T k) f.body (ds.map some ++ List.replicate (f.nv - f.np) none) h0 = z
  intro p2
  cases z with
  | no => exact p2.elim
  | err c ρ1 h1 => exact fun C σ' μ' M' H' ex l r' _ => p2 C μ' M' H' ex l r'
  | ok fl ρ1 h1 =>
    cases fl with
    | nx => exact fun σ' μ' M' H' l r' _ => p2 .non μ' M' H' l r' (by rw [rep_non])
    | ret d => exact fun σ' μ' M' H' l r' _ => fun v rv => p2 v μ' M' H' l r' rv
    | brk => exact p2.elim
    | cont => exact p2.elim
theorem tfs_of (B : Base P w base G rs ts ms) (hr : trowsB G.T ts G.T.tfs = true) (i : Nat) (t : TFn) (e : G.T.tf i = some t) :
    ∃ (f : Addr) (fd : FuncData) (a : Str) (ps : Arguments) (body : List Stmt) (scope : Scope) (N : List Str), G.mg t.name = some (.ref f) ∧ FunD G.K t.name t.name ps body scope [] [] f fd ∧ Binds G.K fd [a] [] ∧ FnScope N [a] scope ∧ N[0]? = some a ∧ ckTF G.T t a scope N body = true := by
  obtain ⟨j, r, er, ej, hb⟩ := trowsB_at hr e
  obtain ⟨fa, fd, hm, FD, bd⟩ := B.tdefs j r (i, t) er ej
  unfold trowB at hb
  simp only [Bool.and_eq_true, decide_eq_true_eq] at hb
  obtain ⟨h1, h2, h3, h4⟩ := hb
  obtain ⟨x, ps, body, scope, N, lam⟩ := r
  cases N with
  | nil => exact absurd (show 1 ≤ 0 from h2) (by decide)
  | cons a N =>
    have sc := fnsB_ok h3 h2
    exact ⟨fa, fd, a, ps, body, scope, a :: N, by rw [h1]; exact hm, by rw [h1]; exact FD, bd, sc, rfl, h4⟩
theorem callF_fn {T : Tab} {k i : Nat} {f : Fn} (e : T.fn i = some f) (ds : List D) (h : Hea) : callF T (k + 1) i ds h = runFn T (callF T k) f ds h := by
  show (match T.fn i with | some f => runFn T (callF T k) f ds h | none => match T.mt i with | some m => runFn T (callF T k) m.fn ds h | none => Res.no) = _
  rw [e]
theorem callF_mt {T : Tab} {k i : Nat} {m : Mth} (e0 : T.fn i = none) (e : T.mt i = some m) (ds : List D) (h : Hea) : callF T (k + 1) i ds h = runFn T (callF T k) m.fn ds h := by
  show (match T.fn i with | some f => runFn T (callF T k) f ds h | none => match T.mt i with | some m => runFn T (callF T k) m.fn ds h | none => Res.no) = _
  rw [e0, e]
theorem runFn_no {T : Tab} {cf : Nat → List D → Hea → Res D} {f : Fn} {ds : List D} {h : Hea} (hl : ds.length ≠ f.np) : runFn T cf f ds h = .no := by
  show (if ds.length = f.np then _ else Res.no) = Res.no
  rw [if_neg hl]
/-- the classes, from what is known of a method's number -/
theorem cls_of {n : Nat} {cf : Nat → List D → Hea → Res D} (B : Base P w base G rs ts ms) (hm : mrowsB G.T ms G.T.mts = true)
    (M : ∀ (i : Nat) (mt : Mth) (fa : Addr) (fd : FuncData) (r : MRow), G.T.fn i = none → G.T.mt i = some mt → mrowB G.T r mt = true → FunD G.K r.r.x (mqual r.cls r.r.x) r.r.params r.r.body r.r.scope [] [] fa fd → Binds G.K fd (r.r.N.take mt.np) [] → MthAt P w base G cf n i fa)
    (c : Nat) (cl : Cl) (ec : G.T.cl c = some cl) : ∃ C, InsOk P w base G cf n cl C := by
  obtain ⟨hB, mem, C, fi, hC, h1, h2, h3⟩ := B.cls c cl ec
  have hcl := List.all_eq_true.mp hB (c, cl) mem
  rw [Bool.and_eq_true] at hcl
  obtain ⟨c1, c2⟩ := hcl
  have one : ∀ (m : Str) (i : Nat), mtB G.T cl.name m i = true → ∃ fa, Meth G.K C m fa ∧ MthAt P w base G cf n i fa := fun m i hb => by
    unfold mtB at hb
    rw [Bool.and_eq_true] at hb
    obtain ⟨b1, b2⟩ := hb
    have e0 : G.T.fn i = none := by simpa using b1
    split at b2
    · rename_i mt em
      simp only [Bool.and_eq_true, decide_eq_true_eq] at b2
      obtain ⟨k1, k2⟩ := b2
      obtain ⟨j, r, er, ej, hb⟩ := mrowsB_at hm em
      have hb' := hb
      unfold mrowB at hb
      simp only [Bool.and_eq_true, decide_eq_true_eq] at hb
      obtain ⟨g1, g2, g3⟩ := hb
      have g4 : mt.nm = r.r.x := by
        unfold rowB at g3
        simp only [Bool.and_eq_true, decide_eq_true_eq] at g3
        exact g3.1
      obtain ⟨fa, fd, a1, a2, a3⟩ := B.mdefs j r (i, mt) C er ej (by rw [← g1, k1]; exact hC)
      exact ⟨fa, by rw [← k2, g4]; exact a1, M i mt fa fd r e0 em hb' a2 a3⟩
    · cases b2
  obtain ⟨fi2, m1, m2⟩ := one _ _ c1
  have efi : fi2 = fi := by
    have z := m1.at_
    rw [h3.init] at z
    cases z; rfl
  refine ⟨C, ⟨hC, h1, h2, ⟨fi, h3, efi ▸ m2⟩, fun m i e => one m i ?_⟩⟩
  have : ∀ {l : List (Str × Nat)}, l.lookup m = some i → (m, i) ∈ l := by
    intro l
    induction l with
    | nil => intro e; cases e
    | cons p l ih =>
      intro e
      obtain ⟨a, b⟩ := p
      have e' : (match m == a with | true => some b | false => l.lookup m) = some i := e
      cases q : (m == a) with
      | true => rw [q] at e'; cases e'; rw [show m = a by simpa using q]; exact List.mem_cons_self
      | false => rw [q] at e'; exact List.mem_cons_of_mem _ (ih e')
  exact List.all_eq_true.mp c2 (m, i) (this e)
theorem facts_of (B : Base P w base G rs ts ms) (hr : rowsB G.T rs G.T.fns = true) (ht : trowsB G.T ts G.T.tfs = true) (hM : mrowsB G.T ms G.T.mts = true) : ∀ k, Facts P w base G (callF G.T k) (4 * k)
  | 0 => {
      blt := B.blt
      cns := B.cns
      exs := B.exs
      sub := B.sub
      xv := B.xv
      tfs := tfs_of B ht
      ar := fun _ _ _ _ _ _ => rfl
      cls := cls_of B hM fun i mt fa fd r e0 em hb a2 a3 => by
        unfold mrowB rowB at hb
        simp only [Bool.and_eq_true, decide_eq_true_eq] at hb
        obtain ⟨_, _, h1, h2, h3, h4, h5⟩ := hb
        refine ⟨mt.np, fd, r.r.N.take mt.np, ⟨fun vs H Q E h => by rw [h.1, List.length_take]; exact (Nat.min_eq_left h2).symm, fun A outer s H args us vs Q E _ _ _ _ _ h => ?_⟩, a3, fun _ _ _ => rfl⟩
        obtain ⟨_, _, _, _, _, _, _, p⟩ := h
        exact p.elim
      fns := fun i f e => by
        obtain ⟨j, r, er, ej, hb⟩ := rowsB_at hr e
        obtain ⟨fa, fd, hm, FD, bd⟩ := B.defs j r (i, f) er ej
        unfold rowB at hb
        simp only [Bool.and_eq_true, decide_eq_true_eq] at hb
        obtain ⟨h1, h2, h3, h4, h5⟩ := hb
        refine ⟨fa, fd, r.N.take f.np, by rw [h1]; exact hm, ⟨fun vs H Q E h => by rw [h.1, List.length_take, Nat.min_eq_left h2], fun A outer s H args us vs Q E _ _ _ _ _ h => ?_⟩, FD.kp, bd⟩
        obtain ⟨_, _, _, _, _, _, _, p⟩ := h
        exact p.elim }
  | k + 1 => {
      blt := B.blt
      cns := B.cns
      exs := B.exs
      sub := B.sub
      xv := B.xv
      tfs := tfs_of B ht
      ar := fun i f ds h e hl => by
        rw [callF_fn e]
        exact runFn_no hl
      cls := cls_of B hM fun i mt fa fd r e0 em hb a2 a3 => by
        have F := facts_of B hr ht hM k
        unfold mrowB rowB at hb
        simp only [Bool.and_eq_true, decide_eq_true_eq, Bool.not_eq_true'] at hb
        obtain ⟨_, nl, h1, h2, h3, h4, h5⟩ := hb
        refine ⟨mt.np, fd, r.r.N.take mt.np, fn_step (r := r.r) (f := mt.fn) B F (callF_mt e0 em) (fun z => by rw [nl] at z; cases z) a2 h2 h3 h4 h5, a3, fun ds h hl => ?_⟩
        rw [callF_mt e0 em]
        exact runFn_no hl
      fns := fun i f e => by
        have F := facts_of B hr ht hM k
        obtain ⟨j, r, er, ej, hb⟩ := rowsB_at hr e
        obtain ⟨fa, fd, hm, FD, bd⟩ := B.defs j r (i, f) er ej
        unfold rowB at hb
        simp only [Bool.and_eq_true, decide_eq_true_eq] at hb
        obtain ⟨h1, h2, h3, h4, h5⟩ := hb
        exact ⟨fa, fd, r.N.take f.np, by rw [h1]; exact hm, fn_step B F (callF_fn e) (fun _ => ⟨rfl, hm, j, er⟩) FD h2 h3 h4 h5, FD.kp, bd⟩ }
end
theorem reps_ints {G : Glb} {μ : Mu} {M : Mk} {H : Hp} : ∀ ns : List Int, Reps G μ M H (ns.map D.int) (ns.map V.int)
  | [] => Reps.nil
  | i :: r => Reps.cons (by rw [rep_int]) (reps_ints r)
/-- what the law's def promises, where it ends True -/
theorem law_sp {G : Glb} {k i n : Nat} (law : ∀ ns : List Int, ns.length ≤ n → ∃ h, callF G.T k i [.scr (ns.map D.int)] [] = .ok (.bl true) h) (H : Hp) (a : Addr) (ns : List Int) (hl : ns.length ≤ n) (hT : LamX.Tabs G.tabs H) (hF : ∀ b, H b = none ∨ (∃ ps, H b = some (.tbl ps)) ∨ ∃ o xs, H b = some (.frz o (.lst xs))) (hS : SqL G.K H a (ns.map V.int)) :
    spF G 1 (callF G.T k i) [.ref a] H (fun v _ => v = .bl true) fun _ _ _ => False := by
  obtain ⟨h, e⟩ := law ns hl
  refine ⟨rfl, [], fun _ => False, [.scr (ns.map D.int)], [], ⟨rfl, fun n o e => by simp at e, fun n m a e => by simp at e, fun n a e => by simp at e, fun _ z => z.elim, hT⟩, Reps.cons ?_ Reps.nil, ?_⟩
  · rw [rep_scr]
    refine ⟨a, ns.map V.int, rfl, ?_, reps_ints ns⟩
    rcases hS with (s | ⟨o, s⟩) | s
    · rcases hF a with z | ⟨ps, z⟩ | ⟨o, xs, z⟩
      · rw [s] at z; cases z
      · rw [s] at z; cases z
      · rw [s] at z; cases z
    · exact .inl ⟨o, s⟩
    · exact .inr fun _ => .inr s
  · rw [e]
    intro v μ' M' H' _ _ r
    rw [rep_bl] at r
    exact r
/-- a law's end: F gives the written part, the function object, the tables, the promise over every base -/
theorem walk_G {l : PySem.W.OpenLaw} {n k : Nat} {q : Program} {loose : List Str} {XP : (Str → Option Value) → Heap → Prop} {YP : World → Heap → Prop} {d : DefRec} {x : Str}
    (hn : l.most = some n) (hn2 : n ≤ sizeLine) (hdf : d.params.defaults = []) (hr : Room k callerA)
    (F : ∀ (w : World) (mg : Str → Option Value) (fa : Addr) (h : Heap), YP w h → h.Ns mainGlobals mg → mg d.name = some (.ref fa) →
      ∃ (K : PySem.W.Frag) (fd : FuncData) (sp : Sp) (cs : List (Addr × Addr)), K.In h ∧ (∀ p ∈ cs, h.get? p.2 = some { cls := .none, data := .fields #[] }) ∧ (∀ p ∈ cs, K.lookup p.2 = none) ∧ (∀ p ∈ cs, PySem.W.CodeHd h p.1 p.2) ∧
        (∀ (s : Shared) (u : Value), BindsTo s fd ⟨[u], []⟩ [(x, u)]) ∧
        (∀ (H : Hp) (a : Addr) (ns : List Int), ns.length ≤ n → (∀ p ∈ cs, H p.2 = some (.tbl #[])) → OnlyT cs H → SqL K H a (ns.map V.int) → sp [.ref a] H (fun v _ => v = .bl true) fun _ _ _ => False) ∧
        ∀ base : Heap, K.In base → base.Ns mainGlobals mg → (∀ p ∈ cs, LamX.TabB base mg p.1 p.2) → FnG l.prog w K mg base (L2.CX l.prog w) k fa fd [x] sp) :
    PySem.W.WalkO q loose XP YP l.row.toRowW d [] (fun f vs => PySem.call f vs) := by
  refine Att.attach_call hn hdf fun w s₀ s₁ mg mb fa o pm cd doc a vs ns G Y ho hd hcd hmg hobj hints hlen hg => ?_
  obtain ⟨K, fd, sp, cs, KX, t0, t1, t2, hb, hsp, hF⟩ := F w mg fa _ Y G.T.g hmg
  refine law_callG KX G.T.g G.T.b G.T.builtins G.T.nolimit hg t0 t1 t2 G.T.bmain hobj hints (Nat.le_trans hlen hn2) hr hF hb (fun H hT hO hS => hsp H a ns hlen hT hO hS) fun H e s' z => ?_
  obtain ⟨_, _, _, _, _, _, _, _, _, _, _, _, z⟩ := z
  exact z.elim
end PyI
set_option Elab.async false
set_option linter.all false
set_option maxRecDepth 100000
namespace PyI
open PySem PySem.Spec PyProof.Rows L2
/-- a constant's items, as the head has them -/
def dvsOf : List D → Option (List He.Dv)
  | [] => some []
  | .int i :: r => (dvsOf r).map (.int i :: ·)
  | .str x :: r => (dvsOf r).map (.str x :: ·)
  | .bl b :: r => (dvsOf r).map (.bl b :: ·)
  | .non :: r => (dvsOf r).map (.non :: ·)
  | _ => none
def itB (o : Option (List He.Dv)) (f : List He.Dv → Bool) : Bool := match o with | some vs => f vs | none => false
/-- the module's name x is this constant -/
def cnB (K : PySem.W.Frag) (x : Str) : D → Bool
  | .int i => (He.Fa.int x i).ok K
  | .str z => (He.Fa.str x z).ok K
  | .tup ds => (He.Fa.glo x).ok K && itB (dvsOf ds) (He.tupB K x)
  | .scr ds => (He.Fa.glo x).ok K && itB (dvsOf ds) (He.lstB K x)
  | _ => false
theorem dvs_reps {G : Glb} : ∀ {ds : List D} {vs : List He.Dv}, dvsOf ds = some vs → ∀ μ M H, Reps G μ M H ds (vs.map (He.Dv.v G.K))
  | [], vs, e, μ, M, H => by cases e; exact Reps.nil
  | d :: r, vs, e, μ, M, H => by
    cases d with
    | int i => obtain ⟨ws, e2, rfl⟩ := Option.map_eq_some_iff.mp (show (dvsOf r).map (He.Dv.int i :: ·) = some vs from e); exact Reps.cons (by rw [rep_int]; rfl) (dvs_reps e2 μ M H)
    | str i => obtain ⟨ws, e2, rfl⟩ := Option.map_eq_some_iff.mp (show (dvsOf r).map (He.Dv.str i :: ·) = some vs from e); exact Reps.cons (by rw [rep_str]; rfl) (dvs_reps e2 μ M H)
    | bl i => obtain ⟨ws, e2, rfl⟩ := Option.map_eq_some_iff.mp (show (dvsOf r).map (He.Dv.bl i :: ·) = some vs from e); exact Reps.cons (by rw [rep_bl]; rfl) (dvs_reps e2 μ M H)
    | non => obtain ⟨ws, e2, rfl⟩ := Option.map_eq_some_iff.mp (show (dvsOf r).map (He.Dv.non :: ·) = some vs from e); exact Reps.cons (by rw [rep_non]; rfl) (dvs_reps e2 μ M H)
    | _ => cases e
theorem itB_ok {o : Option (List He.Dv)} {f : List He.Dv → Bool} (h : itB o f = true) : ∃ vs, o = some vs ∧ f vs = true := by
  cases o with
  | none => cases h
  | some vs => exact ⟨vs, rfl, h⟩
theorem cnB_ok {K : PySem.W.Frag} {mg : Str → Option Value} {T : Tab} {tabs : List (Addr × Str)} {h : Heap} (X : K.In h) (N : h.Ns mainGlobals mg) {x : Str} {d : D} (c : cnB K x d = true) : ∃ u v, mg x = some u ∧ RelV v u ∧ ∀ μ M H, Rep ⟨K, mg, T, tabs⟩ μ M H d v := by
  cases d with
  | int i =>
    obtain ⟨t, e⟩ := He.int_ok X N c
    exact ⟨_, .int i, e, ⟨t, rfl⟩, fun μ M H => by rw [rep_int]⟩
  | str i =>
    obtain ⟨t, e⟩ := He.str_ok X N c
    exact ⟨_, .str i, e, ⟨t, rfl⟩, fun μ M H => by rw [rep_str]⟩
  | tup ds =>
    obtain ⟨c1, c2⟩ := He.ba c
    obtain ⟨vs, e, c3⟩ := itB_ok c2
    exact ⟨_, .ref (He.ga K x), He.glo_ok X N c1, rfl, fun μ M H => by rw [rep_tup]; exact ⟨_, _, rfl, He.tupB_ok c3 H, dvs_reps (G := ⟨K, mg, T, tabs⟩) e μ M H⟩⟩
  | scr ds =>
    obtain ⟨c1, c2⟩ := He.ba c
    obtain ⟨vs, e, c3⟩ := itB_ok c2
    exact ⟨_, .ref (He.ga K x), He.glo_ok X N c1, rfl, fun μ M H => by rw [rep_scr]; exact ⟨_, _, rfl, .inr fun H' => He.lstB_ok c3 H', dvs_reps (G := ⟨K, mg, T, tabs⟩) e μ M H⟩⟩
  | _ => cases c
/-- the facts of classes -/
def clFa (T : Tab) : List He.Fa := T.cls.map (fun c => He.Fa.glo c.2.name) ++ (T.cls.map (fun c => He.Fa.cls c.2.name) ++ (T.cls.map (fun c => He.Fa.mkr c.2.name) ++ (T.cls.flatMap (fun c => c.2.flds.map fun f => He.Fa.noat c.2.name f) ++ (T.mts.map (fun m => He.Fa.meth m.2.cls m.2.nm) ++ T.mts.map (fun m => He.Fa.glo m.2.cls)))))
/-- the facts that are asked of the head -/
def faOf (T : Tab) : List He.Fa := T.fns.map (fun f => He.Fa.glo f.2.name) ++ (bltNames.map He.Fa.free ++ (T.exs.map (fun e => He.Fa.glo e.2) ++ (T.exs.map (fun e => He.Fa.exc e.2) ++ (T.tfs.map (fun t => He.Fa.glo t.2.name) ++ clFa T))))
/-- the rows that make lambdas -/
def lams (rs : List Row) : List Row := rs.filter (·.lam)
def tabAt (K : PySem.W.Frag) (r : Row) : Addr × Str := ((He.cT K (r.x, none)).2, lamQ r.x)
def tfOf (rs : List Row) : List He.Defn := (lams rs).map fun r => (r.x, none)
def tabsOf (K : PySem.W.Frag) (rs : List Row) : List (Addr × Str) := (lams rs).map (tabAt K)
def xvB (K : PySem.W.Frag) (C : Addr) : Bool :=
  decide (PySem.W.findIn K (.ref C) "__getattribute__" = some (some (.builtin "BaseException.__getattribute__"))) && (decide (PySem.W.findIn K (.ref C) "__getattr__" = some none) &&
  (PySem.W.hasDictIn K C && (decide (PySem.W.findIn K (.ref C) "__class__" = some (some (.builtin "object.__class__"))) &&
  (decide (PySem.W.specialIn K (.builtin "object.__class__") "__get__" = some (some (.builtin "getset_descriptor.__get__"))) && (decide (PySem.W.takesIn K (.builtin "object.__class__") = some true) &&
  (decide (PySem.W.mroIn K C (.type "object") = some true) && (decide (PySem.W.kitOne K (.ref C) (.type "ValueError") = some true) && (decide (PySem.W.kitOne K (.ref C) (.type "LookupError") = some false) &&
  decide (PySem.W.findIn K (.ref C) "__str__" = some (some (.builtin "BaseException.__str__")))))))))))
theorem xvB_ok {K : PySem.W.Frag} {C : Addr} (hs : PySem.W.subIn K (.ref C) (.type "BaseException") = some true) (h : xvB K C = true) : XvOk K C := by
  unfold xvB at h
  simp only [Bool.and_eq_true, decide_eq_true_eq] at h
  obtain ⟨h1, h2, h3, h4, h5, h6, h7, h8, h9, h10⟩ := h
  exact ⟨⟨h1, h2, hs, h3, h4, h5, h6, h7⟩, h8, h9, h10⟩
def exOf (T : Tab) (rs : List Row) (K : PySem.W.Frag) : Bool := (T.cns.all fun p => cnB K p.2.1 p.2.2) &&
  ((!T.xvs || T.exs.all fun a => xvB K (He.ga K a.2)) &&
  ((T.exs.all fun a => T.exs.all fun b => decide (PySem.W.exmOne K (.ref (He.ga K a.2)) (.ref (He.ga K b.2)) = some (subX a.1 b.1))) &&
   ((lams rs).all fun a => (lams rs).all fun b => decide ((tabAt K a).1 ≠ (tabAt K b).1) || decide (a.x = b.x))))
def defD (r : Row) : He.DefD := ⟨(r.x, none), r.x, r.x, r.params, r.body, r.scope, [], []⟩
def defM (r : MRow) : He.DefD := ⟨(r.cls, some r.r.x), r.r.x, mqual r.cls r.r.x, r.r.params, r.r.body, r.r.scope, [], []⟩
def BdM (r : MRow) (np : Nat) : Prop := ∀ (kV doc pm : Value) (an : Option Addr) (cdv ct : Value) (us : List Value), us.length = (r.r.N.take np).length → bindArgs (PySem.W.fnOf r.r.x (mqual r.cls r.r.x) r.r.params r.r.body r.r.scope .none kV doc pm an cdv ct) ⟨us, []⟩ = pure ((r.r.N.take np).zip us)
def MdAll : List MRow → List (Nat × Mth) → Prop
  | [], [] => True
  | r :: rs, f :: fs => BdM r f.2.np ∧ MdAll rs fs
  | _, _ => False
theorem MdAll.at_ : ∀ {rs : List MRow} {fs : List (Nat × Mth)}, MdAll rs fs → ∀ {j : Nat} {r : MRow} {f : Nat × Mth}, rs[j]? = some r → fs[j]? = some f → BdM r f.2.np
  | [], [], _, i, r, f, e, _ => by simp at e
  | r :: rs, f :: fs, h, i, r', f', e, e2 => by
    cases i with
    | zero => simp at e e2; subst e; subst e2; exact h.1
    | succ i => exact MdAll.at_ h.2 (j := i) (by simpa using e) (by simpa using e2)
  | [], _ :: _, h, _, _, _, _, _ => h.elim
  | _ :: _, [], h, _, _, _, _, _ => h.elim
theorem mrowsB_nm {T : Tab} : ∀ {rs : List MRow} {fs : List (Nat × Mth)}, mrowsB T rs fs = true → ∀ {j : Nat} {r : MRow} {f : Nat × Mth}, rs[j]? = some r → fs[j]? = some f → f.2.cls = r.cls ∧ f.2.nm = r.r.x
  | [], fs, _, j, r, f, er, _ => by simp at er
  | _ :: _, [], h, _, _, _, _, _ => Bool.noConfusion h
  | r0 :: rs, f0 :: fs, h, j, r, f, er, ef => by
    have h' : (mrowB T r0 f0.2 && mrowsB T rs fs) = true := h
    rw [Bool.and_eq_true] at h'
    cases j with
    | zero =>
      simp at er ef; subst er; subst ef
      have := h'.1
      unfold mrowB rowB at this
      simp only [Bool.and_eq_true, decide_eq_true_eq] at this
      exact ⟨this.1, this.2.2.1⟩
    | succ j => exact mrowsB_nm h'.2 (j := j) (by simpa using er) (by simpa using ef)
/-- how the def's parameters are bound -/
def Bd (r : Row) (np : Nat) : Prop := ∀ (kV doc pm : Value) (an : Option Addr) (cdv ct : Value) (us : List Value), us.length = (r.N.take np).length → bindArgs (PySem.W.fnOf r.x r.x r.params r.body r.scope .none kV doc pm an cdv ct) ⟨us, []⟩ = pure ((r.N.take np).zip us)
def BdAll : List Row → List (Nat × Fn) → Prop
  | [], [] => True
  | r :: rs, f :: fs => Bd r f.2.np ∧ BdAll rs fs
  | _, _ => False
theorem BdAll.at_ : ∀ {rs : List Row} {fs : List (Nat × Fn)}, BdAll rs fs → ∀ {j : Nat} {r : Row} {f : Nat × Fn}, rs[j]? = some r → fs[j]? = some f → Bd r f.2.np
  | [], [], _, i, r, f, e, _ => by simp at e
  | r :: rs, f :: fs, h, i, r', f', e, e2 => by
    cases i with
    | zero => simp at e e2; subst e; subst e2; exact h.1
    | succ i => exact BdAll.at_ h.2 (j := i) (by simpa using e) (by simpa using e2)
  | [], _ :: _, h, _, _, _, _, _ => h.elim
  | _ :: _, [], h, _, _, _, _, _ => h.elim
def TbAll : List Row → Prop
  | [] => True
  | r :: rs => Bd r 1 ∧ TbAll rs
theorem TbAll.at_ : ∀ {rs : List Row}, TbAll rs → ∀ {j : Nat} {r : Row}, rs[j]? = some r → Bd r 1
  | [], _, j, r, e => by simp at e
  | r :: rs, h, j, r', e => by
    cases j with
    | zero => simp at e; subst e; exact h.1
    | succ j => exact TbAll.at_ h.2 (j := j) (by simpa using e)
theorem lookup_get {α : Type} {i : Nat} {x : α} : ∀ {l : List (Nat × α)}, l.lookup i = some x → (i, x) ∈ l
  | (m, y) :: r, e => by
    have e' : (match i == m with | true => some y | false => r.lookup i) = some x := e
    cases q : (i == m) with
    | true => rw [q] at e'; cases e'; rw [show i = m by simpa using q]; exact List.mem_cons_self
    | false => rw [q] at e'; exact List.mem_cons_of_mem _ (lookup_get e')
  | [], e => by cases e
theorem base_of {P : Program} {w : World} {K : PySem.W.Frag} {mg : Str → Option Value} {T : Tab} {rs ts : List Row} {ms : List MRow} {h base : Heap} (hM : mrowsB T ms T.mts = true) (hMd : MdAll ms T.mts) (hcb : clsB T = true) (X : K.In h) (N : h.Ns mainGlobals mg) (hb : BdAll rs T.fns) (hb2 : TbAll ts) (hl : trowsB T ts T.tfs = true) (hl2 : rowsB T rs T.fns = true)
    (c : He.SaysX (faOf T) (rs.map defD ++ (ts.map defD ++ ms.map defM)) [] (tfOf rs) (exOf T rs) w h K) (tb : ∀ p ∈ (tfOf rs).map (He.cT K), LamX.TabB base mg p.1 p.2) : Base P w base ⟨K, mg, T, tabsOf K rs⟩ rs ts ms := by
  have cd := c.t.d
  have fact : ∀ {f : He.Fa}, f ∈ faOf T → f.ok K = true := fun {f} hf => cd.facts hf
  have more := c.more
  unfold exOf at more
  simp only [Bool.and_eq_true] at more
  obtain ⟨m1, mx, m2, m3⟩ := more
  have glo : ∀ {x : Str}, He.Fa.glo x ∈ faOf T → mg x = some (.ref (He.ga K x)) := fun hx => He.glo_ok X N (fact hx)
  have gEx : ∀ {i : Nat} {x : Str}, (i, x) ∈ T.exs → mg x = some (.ref (He.ga K x)) := fun {i x} hx => glo (List.mem_append_right _ (List.mem_append_right _ (List.mem_append_left _ (List.mem_map_of_mem (f := fun e : Nat × Str => He.Fa.glo e.2) hx))))
  have glo_cl : ∀ {c : Nat} {cl : Cl}, (c, cl) ∈ T.cls → mg cl.name = some (.ref (He.ga K cl.name)) := fun {c cl} hc => glo (List.mem_append_right _ (List.mem_append_right _ (List.mem_append_right _ (List.mem_append_right _ (List.mem_append_right _ (List.mem_append_left _ (List.mem_map_of_mem (f := fun c : Nat × Cl => He.Fa.glo c.2.name) hc)))))))
  have glo_m : ∀ {m : Nat × Mth}, m ∈ T.mts → mg m.2.cls = some (.ref (He.ga K m.2.cls)) := fun {m} hm => glo (List.mem_append_right _ (List.mem_append_right _ (List.mem_append_right _ (List.mem_append_right _ (List.mem_append_right _ (List.mem_append_right _ (List.mem_append_right _ (List.mem_append_right _ (List.mem_append_right _ (List.mem_append_right _ (List.mem_map_of_mem (f := fun m : Nat × Mth => He.Fa.glo m.2.cls) hm)))))))))))
  have fcl : ∀ {f : He.Fa}, f ∈ clFa T → f.ok K = true := fun {f} hf => fact (List.mem_append_right _ (List.mem_append_right _ (List.mem_append_right _ (List.mem_append_right _ (List.mem_append_right _ hf)))))
  refine ⟨fun x hx => ?_, fun i p e => ?_, fun j r f er ef => ?_, fun j r f er ef => ?_, fun i x e => ?_, fun a b x y C E ea eb hC hE => ?_, fun xv c x e => ?_, fun c cl ec => ?_, fun j r m C er ef hC => ?_, fun j r fa fd er hlam hm FD => ?_⟩
  · exact He.free_ok X N (fact (List.mem_append_right _ (List.mem_append_left _ (List.mem_map_of_mem hx))))
  · exact cnB_ok X N (List.all_eq_true.mp m1 (i, p) (lookup_get e))
  · obtain ⟨fd, FD⟩ := cd.def_ j (d := defD r) (by rw [List.getElem?_append_left (by rw [List.length_map]; exact (List.getElem?_eq_some_iff.mp er).1), List.getElem?_map, er]; rfl)
    have nm : f.2.name = r.x := by
      have : ∀ {rs : List Row} {fs : List (Nat × Fn)}, rowsB T rs fs = true → ∀ {j : Nat} {r : Row} {f : Nat × Fn}, rs[j]? = some r → fs[j]? = some f → f.2.name = r.x := by
        intro rs
        induction rs with
        | nil => intro fs _ j r f er; simp at er
        | cons r0 rs ih =>
          intro fs h j r f er ef
          cases fs with
          | nil => simp at ef
          | cons f0 fs =>
            have h' : (rowB T r0 f0.2 && rowsB T rs fs) = true := h
            rw [Bool.and_eq_true] at h'
            cases j with
            | zero =>
              simp at er ef; subst er; subst ef
              have := h'.1
              unfold rowB at this
              simp only [Bool.and_eq_true, decide_eq_true_eq] at this
              exact this.1
            | succ j => exact ih h'.2 (j := j) (by simpa using er) (by simpa using ef)
      exact this hl2 er ef
    refine ⟨He.ga K r.x, fd, ?_, FD, FD.bindsN (hb.at_ er ef)⟩
    rw [← nm]
    exact glo (List.mem_append_left _ (List.mem_map_of_mem (f := fun f : Nat × Fn => He.Fa.glo f.2.name) (List.mem_of_getElem? ef)))
  · obtain ⟨fd, FD⟩ := cd.def_ (rs.length + j) (d := defD r) (by rw [List.getElem?_append_right (by simp), List.length_map, Nat.add_sub_cancel_left, List.getElem?_append_left (by rw [List.length_map]; exact (List.getElem?_eq_some_iff.mp er).1), List.getElem?_map, er]; rfl)
    have nm : f.2.name = r.x := by
      have : ∀ {rs : List Row} {fs : List (Nat × TFn)}, trowsB T rs fs = true → ∀ {j : Nat} {r : Row} {f : Nat × TFn}, rs[j]? = some r → fs[j]? = some f → f.2.name = r.x := by
        intro rs
        induction rs with
        | nil => intro fs _ j r f er; simp at er
        | cons r0 rs ih =>
          intro fs h j r f er ef
          cases fs with
          | nil => simp at ef
          | cons f0 fs =>
            have h' : (trowB T r0 f0.2 && trowsB T rs fs) = true := h
            rw [Bool.and_eq_true] at h'
            cases j with
            | zero =>
              simp at er ef; subst er; subst ef
              have := h'.1
              unfold trowB at this
              simp only [Bool.and_eq_true, decide_eq_true_eq] at this
              exact this.1
            | succ j => exact ih h'.2 (j := j) (by simpa using er) (by simpa using ef)
      exact this hl er ef
    refine ⟨He.ga K r.x, fd, ?_, FD, FD.bindsN (hb2.at_ er)⟩
    rw [← nm]
    exact glo (List.mem_append_right _ (List.mem_append_right _ (List.mem_append_right _ (List.mem_append_right _ (List.mem_append_left _ (List.mem_map_of_mem (f := fun t : Nat × TFn => He.Fa.glo t.2.name) (List.mem_of_getElem? ef)))))))
  · have m := lookup_get e
    obtain ⟨h1, h2, h3, h4⟩ := He.exc_ok (fact (f := .exc x) (List.mem_append_right _ (List.mem_append_right _ (List.mem_append_right _ (List.mem_append_left _ (List.mem_map_of_mem (f := fun e : Nat × Str => He.Fa.exc e.2) m))))))
    exact ⟨He.ga K x, _, _, _, _, PySem.F.excBase_ValueError, h1, gEx m, h2, h3, h4⟩
  · have ma := lookup_get ea
    have mb := lookup_get eb
    have h1 := gEx ma
    have h2 := gEx mb
    rw [show mg x = some (.ref C) from hC] at h1
    rw [show mg y = some (.ref E) from hE] at h2
    cases h1
    cases h2
    exact of_decide_eq_true (List.all_eq_true.mp (List.all_eq_true.mp m2 (a, x) ma) (b, y) mb)
  · have m := lookup_get e
    obtain ⟨h1, h2, h3, h4⟩ := He.exc_ok (fact (f := .exc x) (List.mem_append_right _ (List.mem_append_right _ (List.mem_append_right _ (List.mem_append_left _ (List.mem_map_of_mem (f := fun e : Nat × Str => He.Fa.exc e.2) m))))))
    have xv' : T.xvs = true := xv
    rw [xv'] at mx
    have mx' : T.exs.all (fun a => xvB K (He.ga K a.2)) = true := mx
    exact ⟨He.ga K x, gEx m, xvB_ok h3 (List.all_eq_true.mp mx' (c, x) m)⟩
  · have mem : (c, cl) ∈ T.cls := lookup_get ec
    have g0 : mg cl.name = some (.ref (He.ga K cl.name)) := glo_cl mem
    have c1 := He.cls_ok (fcl (f := .cls cl.name) (List.mem_append_right _ (List.mem_append_left _ (List.mem_map_of_mem (f := fun c : Nat × Cl => He.Fa.cls c.2.name) mem))))
    have c2 := He.mkr_ok (fcl (f := .mkr cl.name) (List.mem_append_right _ (List.mem_append_right _ (List.mem_append_left _ (List.mem_map_of_mem (f := fun c : Nat × Cl => He.Fa.mkr c.2.name) mem)))))
    refine ⟨hcb, mem, He.ga K cl.name, _, g0, c1, fun f hf => ?_, c2⟩
    exact He.noat_ok (fcl (f := .noat cl.name f) (List.mem_append_right _ (List.mem_append_right _ (List.mem_append_right _ (List.mem_append_left _ (List.mem_flatMap.mpr ⟨(c, cl), mem, List.mem_map_of_mem (f := fun f => He.Fa.noat cl.name f) hf⟩))))))
  · obtain ⟨fd, FD⟩ := cd.def_ (rs.length + (ts.length + j)) (d := defM r) (by rw [List.getElem?_append_right (by simp), List.length_map, Nat.add_sub_cancel_left, List.getElem?_append_right (by simp), List.length_map, Nat.add_sub_cancel_left, List.getElem?_map, er]; rfl)
    obtain ⟨e1, e2⟩ := mrowsB_nm hM er ef
    have mt := He.meth_ok (fcl (f := .meth m.2.cls m.2.nm) (List.mem_append_right _ (List.mem_append_right _ (List.mem_append_right _ (List.mem_append_right _ (List.mem_append_left _ (List.mem_map_of_mem (f := fun m : Nat × Mth => He.Fa.meth m.2.cls m.2.nm) (List.mem_of_getElem? ef))))))))
    rw [e1, e2] at mt
    have eC : He.ga K r.cls = C := by
      have z := glo_m (List.mem_of_getElem? ef)
      rw [e1] at z
      rw [show mg r.cls = some (.ref C) from hC] at z
      cases z; rfl
    rw [eC] at mt
    have FD' : FunD K r.r.x (mqual r.cls r.r.x) r.r.params r.r.body r.r.scope [] [] (He.ma K C r.r.x) fd := by
      have z : FunD K r.r.x (mqual r.cls r.r.x) r.r.params r.r.body r.r.scope [] [] (He.ma K (He.ga K r.cls) r.r.x) fd := FD
      rw [eC] at z; exact z
    exact ⟨He.ma K C r.r.x, fd, mt, FD', FD'.bindsN (hMd.at_ er ef)⟩
  · have inL : r ∈ lams rs := List.mem_filter.mpr ⟨List.mem_of_getElem? er, hlam⟩
    obtain ⟨fd', FD'⟩ := cd.def_ j (d := defD r) (by rw [List.getElem?_append_left (by rw [List.length_map]; exact (List.getElem?_eq_some_iff.mp er).1), List.getElem?_map, er]; rfl)
    obtain ⟨oc, od, dV, kV, doc, pm, an, cdv, ct, osl, e1, lk, hcd, _, _⟩ := FD.ex
    obtain ⟨oc', od', dV', kV', doc', pm', an', cdv', ct', osl', e1', lk', hcd', _, _⟩ := FD'.ex
    have hga : mg r.x = some (.ref (He.ga K r.x)) := by
      obtain ⟨f, ef⟩ : ∃ f, T.fns[j]? = some f := by
        have : ∀ {rs : List Row} {fs : List (Nat × Fn)}, rowsB T rs fs = true → rs.length = fs.length := by
          intro rs
          induction rs with
          | nil => intro fs h; cases fs <;> first | rfl | exact Bool.noConfusion h
          | cons r0 rs ih =>
            intro fs h
            cases fs with
            | nil => exact Bool.noConfusion h
            | cons f0 fs =>
              have h' : (rowB T r0 f0.2 && rowsB T rs fs) = true := h
              rw [Bool.and_eq_true] at h'
              simp [ih h'.2]
        have hlen := this hl2
        have hj := (List.getElem?_eq_some_iff.mp er).1
        exact ⟨T.fns[j], List.getElem?_eq_getElem (by omega)⟩
      have nm : f.2.name = r.x := by
        have : ∀ {rs : List Row} {fs : List (Nat × Fn)}, rowsB T rs fs = true → ∀ {j : Nat} {r : Row} {f : Nat × Fn}, rs[j]? = some r → fs[j]? = some f → f.2.name = r.x := by
          intro rs
          induction rs with
          | nil => intro fs _ j r f er; simp at er
          | cons r0 rs ih =>
            intro fs h j r f er ef
            cases fs with
            | nil => simp at ef
            | cons f0 fs =>
              have h' : (rowB T r0 f0.2 && rowsB T rs fs) = true := h
              rw [Bool.and_eq_true] at h'
              cases j with
              | zero =>
                simp at er ef; subst er; subst ef
                have := h'.1
                unfold rowB at this
                simp only [Bool.and_eq_true, decide_eq_true_eq] at this
                exact this.1
              | succ j => exact ih h'.2 (j := j) (by simpa using er) (by simpa using ef)
        exact this hl2 er ef
      rw [← nm]
      exact glo (List.mem_append_left _ (List.mem_map_of_mem (f := fun f : Nat × Fn => He.Fa.glo f.2.name) (List.mem_of_getElem? ef)))
    rw [show mg r.x = some (.ref fa) from hm] at hga
    cases hga
    obtain ⟨c0, rfl⟩ := He.codeIn_ref hcd
    have ec : He.codeOf K (r.x, none) = c0 := He.codeOf_eq (K := K) (p := (r.x, none)) lk (by rw [e1])
    refine ⟨(He.cT K (r.x, none)).1, (He.cT K (r.x, none)).2, ?_, ?_, List.mem_map_of_mem inL, fun p hp h1 => ?_⟩
    · rw [e1]
      show Value.ref c0 = .ref (He.codeOf K (r.x, none))
      rw [ec]
    · exact tb (He.cT K (r.x, none)) (List.mem_map_of_mem (List.mem_map_of_mem (f := fun r : Row => ((r.x, none) : He.Defn)) inL))
    · obtain ⟨r2, hr2, rfl⟩ := List.mem_map.mp hp
      have := List.all_eq_true.mp (List.all_eq_true.mp m3 r2 hr2) r inL
      simp only [Bool.or_eq_true, decide_eq_true_eq] at this
      rcases this with z | z
      · exact absurd h1 z
      · show lamQ r2.x = lamQ r.x
        rw [z]
/-- what the main module's names reach in n steps, then the classes' own defs and their codes: codes are not followed -/
def asY (n : Nat) (g : Addr → Option Obj) : List Addr :=
  let A := He.asD g n
  let B := A.flatMap fun a => if a = mainGlobals then [] else match g a with
    | some o => (match o.data with
      | .dict _ _ => He.refsD o
      | _ => [])
    | none => []
  A ++ B ++ B.flatMap fun a => match g a with
    | some o => (match o.data with
      | .func _ => He.refsD o
      | _ => [])
    | none => []
open He in
def obsY (n : Nat) (fa : List Fa) (fn : List DefD) (tf : List Defn) (ex : PySem.W.Frag → Bool) (g : Addr → Option Obj) : AlX := (obsT fa fn [] (frT g (asY n g)), ex (frT g (asY n g)) && tabsB g tf (frT g (asY n g)))
open He in
theorem saysY {n : Nat} {fa : List Fa} {fn : List DefD} {tf : List Defn} {ex : PySem.W.Frag → Bool} {w : World} {h : Heap} (e : obsY n fa fn tf ex h.get? = valX fn [] w) : SaysX fa fn [] tf ex w h (frT h.get? (asY n h.get?)) := by
  generalize eK : frT h.get? (asY n h.get?) = K
  unfold obsY at e
  rw [eK] at e
  have e1 := congrArg (fun z : AlX => z.1) e
  have e2 : (ex K && tabsB h.get? tf K) = true := congrArg (fun z : AlX => z.2) e
  rw [Bool.and_eq_true] at e2
  have key : ∀ p ∈ tf, PySem.W.codeHdIn K (cT K p).1 (cT K p).2 = true ∧ ∃ o, h.get? (cT K p).2 = some o ∧ emptyTab o = true := fun p hp => by
    have z := List.all_eq_true.mp e2.2 p hp
    rw [Bool.and_eq_true] at z
    refine ⟨z.1, ?_⟩
    have z2 := z.2
    cases q : h.get? (cT K p).2 with
    | none => rw [q] at z2; cases z2
    | some o => rw [q] at z2; exact ⟨o, rfl, z2⟩
  refine ⟨e1, e2.1, fun p hp => (key p hp).1, fun p hp => ?_, fun p hp => ?_⟩
  · obtain ⟨_, o, q, z⟩ := key p hp
    have := frT_none (as := asY n h.get?) q z
    rw [eK] at this; exact this
  · obtain ⟨_, o, q, z⟩ := key p hp
    rw [q, emptyTab_eq z]
open He in
def hookY (n : Nat) (fa : List Fa) (fn : List DefD) (tf : List Defn) (ex : PySem.W.Frag → Bool) : PySem.W.Hook where
  α := AlX
  obs := fun s => obsY n fa fn tf ex s.heap.get?
  val := fun w => valX fn [] w
  says := fun w h => ∃ K : PySem.W.Frag, K.In h ∧ SaysX fa fn [] tf ex w h K
  of := fun _ _ e => ⟨_, frT_in, saysY e⟩
  keeps := fun _ _ _ ⟨K, hK, c⟩ k => ⟨K, PySem.W.Frag.In.keeps hK k, ⟨c.t, c.more, c.hd, c.out, fun p hp => k _ _ (c.empty p hp)⟩⟩
abbrev hookP (n : Nat) (T : Tab) (rs ts : List Row) (ms : List MRow) : PySem.W.Hook := hookY n (faOf T) (rs.map defD ++ (ts.map defD ++ ms.map defM)) (tfOf rs) (exOf T rs)
def obT (n : Nat) (T : Tab) (rs ts : List Row) (ms : List MRow) (s : PySem.W.SharedT) : He.AlX := obsY n (faOf T) (rs.map defD ++ (ts.map defD ++ ms.map defM)) (tfOf rs) (exOf T rs) (HandSHeadRun.getT s)
theorem obT_eq {n : Nat} {T : Tab} {rs ts : List Row} {ms : List MRow} (s : PySem.W.SharedT) : obT n T rs ts ms s = (hookP n T rs ts ms).obs s.abs := by
  show obsY n _ _ _ _ (HandSHeadRun.getT s) = obsY n _ _ _ _ s.abs.heap.get?
  rw [show HandSHeadRun.getT s = s.abs.heap.get? from funext (HandSHeadRun.getT_eq s)]
/-- a law's walk, from what the evaluator gives of its def -/
theorem walk_P {l : PySem.W.OpenLaw} {n m k i j : Nat} {q : Program} {loose : List Str} {XP : (Str → Option Value) → Heap → Prop} {T : Tab} {rs ts : List Row} {ms : List MRow} {d : DefRec} {r : Row} {f : Fn} {x : Str}
    (hn : l.most = some n) (hn2 : n ≤ sizeLine) (hdf : d.params.defaults = []) (hr : Room (4 * k + 4) callerA) (ok : rowsB T rs T.fns = true) (ok2 : trowsB T ts T.tfs = true) (okM : mrowsB T ms T.mts = true) (hcb : clsB T = true) (hb : BdAll rs T.fns) (hb2 : TbAll ts) (hMd : MdAll ms T.mts) (er : rs[j]? = some r) (efj : T.fns[j]? = some (i, f)) (ef : T.fn i = some f) (rb : rowB T r f = true) (dn : d.name = r.x) (one : f.np = 1) (px : r.N.take 1 = [x])
    (law : ∀ ns : List Int, ns.length ≤ n → ∃ h, callF T (k + 1) i [.scr (ns.map D.int)] [] = .ok (.bl true) h) :
    PySem.W.WalkO q loose XP (hookP m T rs ts ms).says l.row.toRowW d [] (fun f vs => PySem.call f vs) := by
  refine walk_G (x := x) hn hn2 hdf hr ?_
  rintro w mg fa h ⟨K, KX, c⟩ N hm
  have cd := c.t.d
  obtain ⟨fd, FD⟩ := cd.def_ j (d := defD r) (by rw [List.getElem?_append_left (by rw [List.length_map]; exact (List.getElem?_eq_some_iff.mp er).1), List.getElem?_map, er]; rfl)
  have bd := hb.at_ er efj
  have hl : (r.N.take f.np) = [x] := by rw [one]; exact px
  have inT : ∀ {p : Addr × Addr}, p ∈ (tfOf rs).map (He.cT K) → ∃ y ∈ tfOf rs, p = He.cT K y := fun {p} hp => by
    obtain ⟨y, hy, rfl⟩ := List.mem_map.mp hp
    exact ⟨y, hy, rfl⟩
  refine ⟨K, fd, spF ⟨K, mg, T, tabsOf K rs⟩ 1 (callF T (k + 1) i), (tfOf rs).map (He.cT K), KX, fun p hp => ?_, fun p hp => ?_, fun p hp => ?_, fun s u => ?_, fun H a ns hl hT hO hS => ?_, fun base hK hN tb => ?_⟩
  · obtain ⟨y, hy, rfl⟩ := inT hp; exact c.empty y hy
  · obtain ⟨y, hy, rfl⟩ := inT hp; exact c.out y hy
  · obtain ⟨y, hy, rfl⟩ := inT hp; exact PySem.W.codeHd_of_K KX (c.hd y hy)
  · have := FD.bindsA (ps := [x]) (fun kV doc pm an cdv ct us hu => by have z := bd kV doc pm an cdv ct us (by rw [hl]; exact hu); rw [hl] at z; exact z) s [u] rfl
    exact this
  · refine law_sp (G := ⟨K, mg, T, tabsOf K rs⟩) law H a ns hl (fun p hp => ?_) (fun b => ?_) hS
    · obtain ⟨r2, hr2, rfl⟩ := List.mem_map.mp hp
      exact LamX.TabS.nil (hT (He.cT K (r2.x, none)) (List.mem_map_of_mem (List.mem_map_of_mem (f := fun r : Row => ((r.x, none) : He.Defn)) hr2)))
    · rcases hO b with z | z | z
      · exact .inl z
      · obtain ⟨p, hp, rfl⟩ := List.mem_map.mp z
        exact .inr (.inl ⟨_, hT p hp⟩)
      · exact .inr (.inr z)
  · have B : Base l.prog w base ⟨K, mg, T, tabsOf K rs⟩ rs ts ms := base_of okM hMd hcb KX N hb hb2 ok2 ok c tb
    unfold rowB at rb
    simp only [Bool.and_eq_true, decide_eq_true_eq] at rb
    obtain ⟨h1, h2, h3, h4, h5⟩ := rb
    have gl : mg f.name = some (.ref (He.ga K f.name)) := He.glo_ok KX N (cd.facts (List.mem_append_left _ (List.mem_map_of_mem (f := fun f : Nat × Fn => He.Fa.glo f.2.name) (List.mem_of_getElem? efj))))
    rw [h1, ← dn, hm] at gl
    have ea : fa = He.ga K r.x := by
      have := Option.some.inj gl
      injection this with z
      rw [z, dn]
    have hm2 : mg r.x = some (.ref (He.ga K r.x)) := by
      have z := hm
      rw [dn] at z
      rw [z, ea]
    rw [ea]
    have st := fn_step (G := ⟨K, mg, T, tabsOf K rs⟩) B (facts_of (base := base) B ok ok2 okM k) (callF_fn ef) (fun _ => ⟨rfl, hm2, j, er⟩) FD h2 h3 h4 h5
    rw [hl, one] at st
    exact st
end PyI
set_option Elab.async false
set_option linter.all false
set_option maxRecDepth 100000
namespace PyI
open PySem
theorem eqR_int (h : Hea) (a b : Int) : eqR h (.int a) (.int b) = some (decide (a = b)) := by
  have s : ∀ i : Int, SeqAt.shaped (.int i) = true := fun i => rfl
  unfold eqR
  rw [show pdH h (.int a) = .int a from rfl, show pdH h (.int b) = .int b from rfl, s, s]
  show some (a == b) = _
  congr 1
theorem cmp_eq (h : Hea) (a b : Int) : cmpR .eq h (.int a) (.int b) = some (decide (a = b)) := eqR_int h a b
theorem cmp_lt (h : Hea) (a b : Int) : cmpR .lt h (.int a) (.int b) = some (decide (a < b)) := rfl
theorem cmp_gt (h : Hea) (a b : Int) : cmpR .gt h (.int a) (.int b) = some (decide (b < a)) := rfl
theorem cmp_ge (h : Hea) (a b : Int) : cmpR .ge h (.int a) (.int b) = some (decide (b ≤ a)) := rfl
theorem bin_add (h : Hea) (a b : Int) : binR .add h (.int a) (.int b) = .ok (.int (a + b)) h := rfl
theorem bin_mul {h : Hea} {a b : Int} (o : mulOk a b = true) : binR .mul h (.int a) (.int b) = .ok (.int (a * b)) h := by
  show (if mulOk a b = true then _ else _) = _
  rw [if_pos o]
theorem bin_mod {h : Hea} {a b : Int} (o : 0 < b) : binR .mod h (.int a) (.int b) = .ok (.int (a % b)) h := by
  show (if 0 < b then _ else _) = _
  rw [if_pos o]
theorem bin_fdiv {h : Hea} {a b : Int} (o : 0 < b) (o2 : b.natAbs.log2 < 9000) : binR .fdiv h (.int a) (.int b) = .ok (.int (a / b)) h := by
  show (if 0 < b ∧ (b.natAbs.log2 < 9000 ∨ a.natAbs.log2 ≤ b.natAbs.log2 + 3990) then _ else _) = _
  rw [if_pos ⟨o, .inl o2⟩]
theorem bin_pow {h : Hea} {a b : Int} (o : 0 ≤ b ∧ b ≤ 1000000 ∧ a.natAbs < 2 ^ 64) : binR .pow h (.int a) (.int b) = .ok (.int (a ^ b.toNat)) h := by
  show (if 0 ≤ b ∧ b ≤ 1000000 ∧ a.natAbs < 2 ^ 64 then _ else _) = _
  rw [if_pos o]
theorem log2_lt {n k : Nat} (h : n < 2 ^ k) (hk : 0 < k) : n.log2 < k := by
  by_cases z : n = 0
  · rw [z]; simpa using hk
  · exact (Nat.log2_lt z).mpr h
theorem mul_ok {a b : Int} (ha : a.natAbs < 2 ^ 400000) (hb : b.natAbs < 2 ^ 400000) : mulOk a b = true := by
  unfold mulOk
  have h1 := log2_lt ha (by decide)
  have h2 := log2_lt hb (by decide)
  exact decide_eq_true (by omega)
section
variable {T : Tab} {cf : Nat → List D → Hea → Res D} {ρ : Loc} {h : Hea}
@[simp] theorem s_nil : exB T cf .nil ρ h = .ok .nx ρ h := rfl
@[simp] theorem s_cons {s : S} {ss : Ss} : exB T cf (.cons s ss) ρ h = (exS T cf s ρ h).thn (exB T cf ss) := rfl
@[simp] theorem s_set {i : Nat} {e : E} : exS T cf (.set i e) ρ h = ((ev T cf e).val ρ h).st ρ fun d h1 => .ok .nx (ρ.set i (some d)) h1 := rfl
@[simp] theorem s_asg {t : Tg} {e : E} : exS T cf (.asg t e) ρ h = ((ev T cf e).val ρ h).st ρ fun d h1 => match evG t ρ d with | some ρ1 => .ok .nx ρ1 h1 | none => .no := rfl
@[simp] theorem s_put {o i e : E} : exS T cf (.put o i e) ρ h = ((ev T cf e).val ρ h).st ρ fun d h1 => ((ev T cf o).val ρ h1).st ρ fun x h2 => ((ev T cf i).val ρ h2).st ρ fun y h3 => match setR h3 x y d with | some h4 => .ok .nx ρ h4 | none => .no := rfl
@[simp] theorem s_par {is : List Nat} {es : Es} : exS T cf (.par is es) ρ h = (evs T cf es ρ h).st ρ fun ds h1 => match setAll ρ is ds with | some ρ1 => .ok .nx ρ1 h1 | none => .no := rfl
@[simp] theorem s_ex {e : E} : exS T cf (.ex e) ρ h = ((ev T cf e).val ρ h).st ρ fun _ h1 => .ok .nx ρ h1 := rfl
@[simp] theorem s_ret {e : E} : exS T cf (.ret e) ρ h = ((ev T cf e).val ρ h).st ρ fun d h1 => .ok (.ret d) ρ h1 := rfl
@[simp] theorem s_retN : exS T cf .retN ρ h = .ok (.ret .non) ρ h := rfl
@[simp] theorem s_if {c : E} {a b : Ss} : exS T cf (.iff c a b) ρ h = ((ev T cf c).tst ρ h).st ρ fun k h1 => if k then exB T cf a ρ h1 else exB T cf b ρ h1 := rfl
@[simp] theorem s_rais {c : Nat} : exS T cf (.rais c) ρ h = .err c ρ h := rfl
theorem s_fr {t : Tg} {it : It} {b : Ss} : exS T cf (.fr t it b) ρ h = (evI T cf it ρ h).st ρ fun xs h1 => frLoop (fun x ρ h => match evG t ρ x with | some ρ1 => exB T cf b ρ1 h | none => .no) xs ρ h1 := rfl
@[simp] theorem s_pass : exS T cf .pass ρ h = .ok .nx ρ h := rfl
@[simp] theorem s_brk : exS T cf .brk ρ h = .ok .brk ρ h := rfl
@[simp] theorem s_cont : exS T cf .cont ρ h = .ok .cont ρ h := rfl
@[simp] theorem v_non : (ev T cf .non).val ρ h = .ok .non h := rfl
@[simp] theorem v_bl {b : Bool} : (ev T cf (.bl b)).val ρ h = .ok (.bl b) h := rfl
@[simp] theorem v_int {i : Int} : (ev T cf (.int i)).val ρ h = .ok (.int i) h := rfl
@[simp] theorem v_str {x : Str} : (ev T cf (.str x)).val ρ h = .ok (.str x) h := rfl
@[simp] theorem v_v {i : Nat} : (ev T cf (.v i)).val ρ h = match ρ[i]? with | some (some d) => .ok d h | _ => .no := rfl
@[simp] theorem v_gc {i : Nat} : (ev T cf (.gc i)).val ρ h = match T.cn i with | some p => .ok p.2 h | none => .no := rfl
@[simp] theorem v_gf {i : Nat} : (ev T cf (.gf i)).val ρ h = match T.fn i with | some _ => .ok (.fn i) h | none => .no := rfl
@[simp] theorem v_bin {o : BOp} {a b : E} : (ev T cf (.bin o a b)).val ρ h = ((ev T cf a).val ρ h).bind fun x h1 => ((ev T cf b).val ρ h1).bind fun y h2 => binR o h2 x y := rfl
@[simp] theorem v_neg {a : E} : (ev T cf (.neg a)).val ρ h = ((ev T cf a).val ρ h).bind fun x h1 => match x with | .int i => .ok (.int (-i)) h1 | _ => .no := rfl
@[simp] theorem v_nt {a : E} : (ev T cf (.nt a)).val ρ h = ((ev T cf a).val ρ h).bind fun x h1 => need (trueR h1 x) fun k => .ok (.bl !k) h1 := rfl
@[simp] theorem t_nt {a : E} : (ev T cf (.nt a)).tst ρ h = ((ev T cf a).tst ρ h).bind fun k h1 => .ok (!k) h1 := rfl
@[simp] theorem t_cmp {o : COp} {a b : E} : (ev T cf (.cmp o a b)).tst ρ h = ((ev T cf a).val ρ h).bind fun x h1 => ((ev T cf b).val ρ h1).bind fun y h2 => need (cmpR o h2 x y) fun k => .ok k h2 := rfl
@[simp] theorem v_cmp {o : COp} {a b : E} : (ev T cf (.cmp o a b)).val ρ h = ((ev T cf (.cmp o a b)).tst ρ h).bind fun k h1 => .ok (.bl k) h1 := rfl
@[simp] theorem t_chn {o p : COp} {a b c : E} : (ev T cf (.chn o p a b c)).tst ρ h = ((ev T cf a).val ρ h).bind fun x h1 => ((ev T cf b).val ρ h1).bind fun y h2 => need (cmpR o h2 x y) fun k =>
      if k then ((ev T cf c).val ρ h2).bind fun z h3 => need (cmpR p h3 y z) fun k2 => .ok k2 h3 else .ok false h2 := rfl
@[simp] theorem v_chn {o p : COp} {a b c : E} : (ev T cf (.chn o p a b c)).val ρ h = ((ev T cf (.chn o p a b c)).tst ρ h).bind fun k h1 => .ok (.bl k) h1 := rfl
@[simp] theorem v_and {a b : E} : (ev T cf (.and a b)).val ρ h = ((ev T cf a).val ρ h).bind fun x h1 => need (trueR h1 x) fun k => if k then (ev T cf b).val ρ h1 else .ok x h1 := rfl
@[simp] theorem t_and {a b : E} : (ev T cf (.and a b)).tst ρ h = ((ev T cf a).tst ρ h).bind fun k h1 => if k then (ev T cf b).tst ρ h1 else .ok false h1 := rfl
@[simp] theorem v_or {a b : E} : (ev T cf (.or a b)).val ρ h = ((ev T cf a).val ρ h).bind fun x h1 => need (trueR h1 x) fun k => if k then .ok x h1 else (ev T cf b).val ρ h1 := rfl
@[simp] theorem t_or {a b : E} : (ev T cf (.or a b)).tst ρ h = ((ev T cf a).tst ρ h).bind fun k h1 => if k then .ok true h1 else (ev T cf b).tst ρ h1 := rfl
@[simp] theorem v_ite {c a b : E} : (ev T cf (.ite c a b)).val ρ h = ((ev T cf c).tst ρ h).bind fun k h1 => if k then (ev T cf a).val ρ h1 else (ev T cf b).val ρ h1 := rfl
@[simp] theorem t_ite {c a b : E} : (ev T cf (.ite c a b)).tst ρ h = ((ev T cf c).tst ρ h).bind fun k h1 => if k then (ev T cf a).tst ρ h1 else (ev T cf b).tst ρ h1 := rfl
@[simp] theorem v_tup {es : Es} : (ev T cf (.tup es)).val ρ h = (evs T cf es ρ h).bind fun xs h1 => if xs.length ≤ sizeLine then .ok (.tup xs) h1 else .no := rfl
@[simp] theorem v_tupK {es : Es} : (ev T cf (.tupK es)).val ρ h = (evs T cf es ρ h).bind fun xs h1 => if xs.length ≤ sizeLine then .ok (.plc xs) h1 else .no := rfl
@[simp] theorem v_lst {es : Es} : (ev T cf (.lst es)).val ρ h = (evs T cf es ρ h).bind fun xs h1 => if xs.length ≤ sizeLine then .ok (.lst xs) h1 else .no := rfl
@[simp] theorem v_lstM {es : Es} : (ev T cf (.lstM es)).val ρ h = (evs T cf es ρ h).bind fun xs h1 => if xs.length ≤ sizeLine then allocR (.lst xs) h1 else .no := rfl
@[simp] theorem v_dnewK : (ev T cf .dnewK).val ρ h = allocR (.dK [] []) h := rfl
@[simp] theorem v_dnewT : (ev T cf .dnewT).val ρ h = allocR (.dT [] []) h := rfl
@[simp] theorem v_sub {a i : E} : (ev T cf (.sub a i)).val ρ h = ((ev T cf a).val ρ h).bind fun x h1 => ((ev T cf i).val ρ h1).bind fun y h2 => need (subR h2 x y) fun d => .ok d h2 := rfl
@[simp] theorem v_slc {a : E} {lo hi : Es} : (ev T cf (.slc a lo hi)).val ρ h = ((ev T cf a).val ρ h).bind fun x h1 => ((evs T cf lo ρ h1).bind fun l h2 => need (partV l) fun l => .ok l h2).bind fun l h2 => ((evs T cf hi ρ h2).bind fun u h3 => need (partV u) fun u => .ok u h3).bind fun u h3 =>
      match tupV x with
      | some xs => .ok (.tup (cutD xs l u)) h3
      | none => need (lstV h3 x) fun xs => .ok (.lst (cutD xs l u)) h3 := rfl
@[simp] theorem v_call {f : Nat} {es : Es} : (ev T cf (.call f es)).val ρ h = (evs T cf es ρ h).bind fun xs h1 => cf f xs h1 := rfl
@[simp] theorem v_bi {b : Bi} {a : E} : (ev T cf (.bi b a)).val ρ h = ((ev T cf a).val ρ h).bind fun x h1 => biR b h1 x := rfl
@[simp] theorem v_isi {a : E} {t : Ty} : (ev T cf (.isi a t)).val ρ h = ((ev T cf a).val ρ h).bind fun x h1 => need (isiR h1 x t) fun k => .ok (.bl k) h1 := rfl
@[simp] theorem v_mt {m : Mt} {o : E} {es : Es} : (ev T cf (.mt m o es)).val ρ h = ((ev T cf o).val ρ h).bind fun x h1 => if mtOk m h1 x then (evs T cf es ρ h1).bind fun xs h2 => mtR m h2 x xs else .no := rfl
@[simp] theorem v_lc {m : Bool} {own : List Nat} {tg : Tg} {it : It} {c : Es} {e : E} : (ev T cf (.lc m own tg it c e)).val ρ h = (evI T cf it ρ h).bind fun xs h1 => (lcLoop (lcTurn own tg (evC T cf c) (ev T cf e).val ρ) xs [] h1).bind fun ys h6 => mkL m ys h6 := rfl
@[simp] theorem v_lc2 {m : Bool} {own own2 : List Nat} {tg tg2 : Tg} {it it2 : It} {c : Es} {e : E} : (ev T cf (.lc2 m own own2 tg it tg2 it2 c e)).val ρ h = (evI T cf it ρ h).bind fun xs h1 => (lc2Loop (lc2In own own2 tg tg2 (evI T cf it2) (evC T cf c) (ev T cf e).val ρ) xs [] h1).bind fun ys h6 => mkL m ys h6 := rfl
@[simp] theorem v_frz {a : E} : (ev T cf (.frz a)).val ρ h = ((ev T cf a).val ρ h).bind fun x h1 => frzR h1 x := rfl
@[simp] theorem v_lam {f : Nat} {b : E} : (ev T cf (.lam f b)).val ρ h = match T.tf f with | some t => t.run ((ev T cf b).val ρ h) | none => .no := rfl
theorem v_lam_of {f : Nat} {b : E} {t : TFn} (e : T.tf f = some t) : (ev T cf (.lam f b)).val ρ h = t.run ((ev T cf b).val ρ h) := by
  rw [v_lam, e]
@[simp] theorem v_callV {i : Nat} {es : Es} : (ev T cf (.callV i es)).val ρ h = match ρ[i]? with | some (some (.fn f)) => (evs T cf es ρ h).bind fun xs h1 => cf f xs h1 | _ => .no := rfl
@[simp] theorem i_keys {e : E} : evI T cf (.keys e) ρ h = ((ev T cf e).val ρ h).bind fun x h1 => need (keysR h1 x) fun xs => .ok xs h1 := rfl
@[simp] theorem v_lrg {m : Bool} {a : E} : (ev T cf (.lrg m a)).val ρ h = ((ev T cf a).val ρ h).bind fun x h1 => need (intV x) fun j => if j.natAbs.log2 < 20 then mkL m (rngL 0 j.toNat) h1 else .no := rfl
theorem v_exn {c : Nat} {a : E} : (ev T cf (.exn c a)).val ρ h = ((ev T cf a).val ρ h).bind fun x h1 => match x with | .str y => if T.xvs = true then need (T.ex c) fun _ => .ok (.exn c (some y)) h1 else .no | _ => .no := rfl
theorem v_isx {k : XT} {a : E} : (ev T cf (.isx k a)).val ρ h = ((ev T cf a).val ρ h).bind fun x h1 => match x with | .exn c _ => if T.xvs = true then need (xtR T k c) fun b => .ok (.bl b) h1 else .no | _ => .no := rfl
theorem v_strx {a : E} : (ev T cf (.strx a)).val ρ h = ((ev T cf a).val ρ h).bind fun x h1 => match x with | .exn _ (some y) => if T.xvs = true then .ok (.str y) h1 else .no | _ => .no := rfl
@[simp] theorem v_rev {a : E} : (ev T cf (.rev a)).val ρ h = ((ev T cf a).val ρ h).bind fun x h1 => need (lstV h1 x) fun xs => .ok (.lst xs.reverse) h1 := rfl
@[simp] theorem v_dcm {t m : Bool} {own : List Nat} {tg : Tg} {it : It} {c : Es} {k e : E} : (ev T cf (.dcm t m own tg it c k e)).val ρ h = (evI T cf it ρ h).bind fun xs h1 => (dcLoop (dcTurn own tg (evC T cf c) (ev T cf k).val (ev T cf e).val ρ) xs (di0 t) h1).bind fun o h6 => mkDi m o h6 := rfl
@[simp] theorem v_dpr {t : Bool} {a : E} : (ev T cf (.dpr t a)).val ρ h = ((ev T cf a).val ρ h).bind fun x h1 => need (lstV h1 x) fun xs => need (prsMO (di0 t) xs) fun o => mkDi false o h1 := rfl
@[simp] theorem v_call0 {f : Nat} : (ev T cf (.call0 f)).val ρ h = cf f [] h := rfl
@[simp] theorem t_lam {f : Nat} {b : E} : (ev T cf (.lam f b)).tst ρ h = ((ev T cf (.lam f b)).val ρ h).bind fun x h1 => need (trueR h1 x) fun k => .ok k h1 := rfl
@[simp] theorem t_callV {i : Nat} {es : Es} : (ev T cf (.callV i es)).tst ρ h = ((ev T cf (.callV i es)).val ρ h).bind fun x h1 => need (trueR h1 x) fun k => .ok k h1 := rfl
@[simp] theorem t_call0 {f : Nat} : (ev T cf (.call0 f)).tst ρ h = ((ev T cf (.call0 f)).val ρ h).bind fun x h1 => need (trueR h1 x) fun k => .ok k h1 := rfl
@[simp] theorem t_v {i : Nat} : (ev T cf (.v i)).tst ρ h = ((ev T cf (.v i)).val ρ h).bind fun x h1 => need (trueR h1 x) fun k => .ok k h1 := rfl
@[simp] theorem t_call {f : Nat} {es : Es} : (ev T cf (.call f es)).tst ρ h = ((ev T cf (.call f es)).val ρ h).bind fun x h1 => need (trueR h1 x) fun k => .ok k h1 := rfl
@[simp] theorem t_bi {b : Bi} {a : E} : (ev T cf (.bi b a)).tst ρ h = ((ev T cf (.bi b a)).val ρ h).bind fun x h1 => need (trueR h1 x) fun k => .ok k h1 := rfl
@[simp] theorem t_isi {a : E} {t : Ty} : (ev T cf (.isi a t)).tst ρ h = ((ev T cf (.isi a t)).val ρ h).bind fun x h1 => need (trueR h1 x) fun k => .ok k h1 := rfl
@[simp] theorem t_sub {a i : E} : (ev T cf (.sub a i)).tst ρ h = ((ev T cf (.sub a i)).val ρ h).bind fun x h1 => need (trueR h1 x) fun k => .ok k h1 := rfl
@[simp] theorem es_nil : evs T cf .nil ρ h = .ok [] h := rfl
@[simp] theorem es_cons {e : E} {es : Es} : evs T cf (.cons e es) ρ h = ((ev T cf e).val ρ h).bind fun x h1 => (evs T cf es ρ h1).bind fun xs h2 => .ok (x :: xs) h2 := rfl
@[simp] theorem c_nil : evC T cf .nil ρ h = .ok true h := rfl
@[simp] theorem c_cons {e : E} {es : Es} : evC T cf (.cons e es) ρ h = (ev T cf e).tst ρ h := rfl
@[simp] theorem i_seq {e : E} : evI T cf (.seq e) ρ h = ((ev T cf e).val ρ h).bind fun x h1 => need (itV x) fun xs => .ok xs h1 := rfl
@[simp] theorem i_rng1 {e : E} : evI T cf (.rng1 e) ρ h = ((ev T cf e).val ρ h).bind fun x h1 => need (intV x) fun j => if ok62 j then .ok (rngL 0 j.toNat) h1 else .no := rfl
@[simp] theorem i_rng2 {a b : E} : evI T cf (.rng2 a b) ρ h = ((ev T cf a).val ρ h).bind fun x h1 => ((ev T cf b).val ρ h1).bind fun y h2 => need (intV x) fun i => need (intV y) fun j =>
      if ok62 i && ok62 j then .ok (rngL i (j - i).toNat) h2 else .no := rfl
@[simp] theorem i_enum {e : E} : evI T cf (.enum e) ρ h = ((ev T cf e).val ρ h).bind fun x h1 => need (lsV x) fun xs => .ok (enumD 0 xs) h1 := rfl
@[simp] theorem g_n {i : Nat} {d : D} : evG (.n i) ρ d = some (ρ.set i (some d)) := rfl
@[simp] theorem g_t {ts : Tgs} {d : D} : evG (.t ts) ρ d = (tupV d).bind fun xs => evGs ts ρ xs := rfl
@[simp] theorem gs_nil : evGs .nil ρ [] = some ρ := rfl
@[simp] theorem gs_cons {t : Tg} {ts : Tgs} {x : D} {r : List D} : evGs (.cons t ts) ρ (x :: r) = (evG t ρ x).bind fun ρ1 => evGs ts ρ1 r := rfl
@[simp] theorem setAll_nil : setAll ρ [] [] = some ρ := rfl
@[simp] theorem setAll_cons {i : Nat} {is : List Nat} {d : D} {ds : List D} : setAll ρ (i :: is) (d :: ds) = setAll (ρ.set i (some d)) is ds := rfl
@[simp] theorem intV_int {i : Int} : intV (.int i) = some i := rfl
@[simp] theorem true_bl {b : Bool} : trueR h (.bl b) = some b := rfl
@[simp] theorem tupV_tup {xs : List D} : tupV (.tup xs) = some xs := rfl
@[simp] theorem tupV_plc {xs : List D} : tupV (.plc xs) = some xs := rfl
@[simp] theorem seqV_tup {xs : List D} : seqV h (.tup xs) = some xs := rfl
@[simp] theorem seqV_plc {xs : List D} : seqV h (.plc xs) = some xs := rfl
@[simp] theorem seqV_lst {xs : List D} : seqV h (.lst xs) = some xs := rfl
@[simp] theorem itV_tup {xs : List D} : itV (.tup xs) = some xs := rfl
@[simp] theorem itV_lst {xs : List D} : itV (.lst xs) = some xs := rfl
@[simp] theorem bi_int {i : Int} : biR .int h (.int i) = .ok (.int i) h := rfl
@[simp] theorem bi_abs {i : Int} : biR .abs h (.int i) = .ok (.int (if i < 0 then -i else i)) h := rfl
theorem sub_seq {x : D} {xs : List D} {i : Int} {d : D} (e : seqV h x = some xs) (a : L2.atI xs i = some d) : subR h x (.int i) = some d := by
  unfold subR
  rw [e]; exact a
theorem atI_nat {xs : List D} {i : Int} {d : D} (h0 : 0 ≤ i) (e : xs[i.toNat]? = some d) : L2.atI xs i = some d := by
  have hn : (i.toNat : Int) = i := by omega
  rw [← hn]
  exact L2.atI_nat e
theorem callF_at {k i : Nat} {f : Fn} {ds : List D} (e : T.fn i = some f) (hl : ds.length = f.np) : callF T (k + 1) i ds h = match exB T (callF T k) f.body (ds.map some ++ List.replicate (f.nv - f.np) none) h with
    | .ok .nx _ h => .ok .non h
    | .ok (.ret d) _ h => .ok d h
    | .err c _ h => .err c h
    | _ => .no := by
  rw [callF_fn e]
  exact if_pos hl
end
/-- a loop over items, by an invariant -/
theorem frLoop_inv {turn : D → Loc → Hea → SR} (I : Nat → Loc → Hea → Prop) : ∀ (xs : List D) (n : Nat) (ρ : Loc) (h : Hea), (∀ i x ρ h, xs[i]? = some x → I (n + i) ρ h → ∃ ρ' h', turn x ρ h = .ok .nx ρ' h' ∧ I (n + i + 1) ρ' h') → I n ρ h →
    ∃ ρ' h', frLoop turn xs ρ h = .ok .nx ρ' h' ∧ I (n + xs.length) ρ' h'
  | [], n, ρ, h, _, hi => ⟨ρ, h, rfl, hi⟩
  | x :: r, n, ρ, h, ht, hi => by
    obtain ⟨ρ1, h1, e1, i1⟩ := ht 0 x ρ h rfl hi
    obtain ⟨ρ2, h2, e2, i2⟩ := frLoop_inv I r (n + 1) ρ1 h1 (fun i y ρ h e hy => by
      have := ht (i + 1) y ρ h (by simpa using e) (by rw [show n + (i + 1) = n + 1 + i by omega]; exact hy)
      rw [show n + (i + 1) + 1 = n + 1 + i + 1 by omega] at this
      exact this) i1
    refine ⟨ρ2, h2, ?_, by rw [List.length_cons, show n + (r.length + 1) = n + 1 + r.length by omega]; exact i2⟩
    unfold frLoop
    rw [e1]; exact e2
/-- a comprehension over a told list -/
theorem lcLoop_on {α : Type} {turn : D → Hea → Res (Option D)} {f g : α → D} {p : α → Bool} {h : Hea} : ∀ (l : List α) (acc : List D), (∀ a ∈ l, turn (f a) h = .ok (if p a = true then some (g a) else none) h) → acc.length + l.length ≤ sizeLine →
    lcLoop turn (l.map f) acc h = .ok (acc ++ (l.filter p).map g) h
  | [], acc, _, _ => by simp [lcLoop]
  | a :: r, acc, ht, hl => by
    rw [List.map_cons]
    unfold lcLoop
    rw [ht a List.mem_cons_self, Res.bind_ok]
    simp only [List.length_cons] at hl
    by_cases c : p a = true
    · rw [if_pos c, List.filter_cons_of_pos c]
      simp only
      rw [if_pos (by omega), lcLoop_on r (acc ++ [g a]) (fun y hy => ht y (List.mem_cons_of_mem _ hy)) (by simp; omega)]
      simp
    · rw [if_neg c, List.filter_cons_of_neg c]
      exact lcLoop_on r acc (fun y hy => ht y (List.mem_cons_of_mem _ hy)) (by omega)
theorem lcLoop_all {α : Type} {turn : D → Hea → Res (Option D)} {f g : α → D} {h : Hea} (l : List α) (ht : ∀ a ∈ l, turn (f a) h = .ok (some (g a)) h) (hl : l.length ≤ sizeLine) : lcLoop turn (l.map f) [] h = .ok (l.map g) h := by
  have := lcLoop_on (turn := turn) (f := f) (g := g) (p := fun _ => true) (h := h) l [] (fun a ha => by rw [if_pos rfl]; exact ht a ha) (by simpa using hl)
  rw [this, List.nil_append, List.filter_eq_self.mpr (fun _ _ => rfl)]
theorem rngL_eq : ∀ (n : Nat) (lo : Int), rngL lo n = (List.range n).map fun i : Nat => D.int (lo + (i : Int))
  | 0, lo => rfl
  | n + 1, lo => by
    unfold rngL
    rw [rngL_eq n (lo + 1), List.range_succ_eq_map, List.map_cons, List.map_map]
    congr 1
    · simp
    · apply List.map_congr_left
      intro i _
      show D.int _ = D.int _
      congr 1
      simp
      omega
theorem rngL_0 (n : Nat) : rngL 0 n = (List.range n).map fun i : Nat => D.int (i : Int) := by
  rw [rngL_eq]; simp
@[simp] theorem mkL_f {ys : List D} {h : Hea} : mkL false ys h = .ok (.lst ys) h := rfl
@[simp] theorem mkL_t {ys : List D} {h : Hea} : mkL true ys h = .ok (.ref h.length) (h ++ [.lst ys]) := rfl
@[simp] theorem bi_len {x : D} {xs : List D} {h : Hea} (e : seqV h x = some xs) : biR .len h x = .ok (.int xs.length) h := by
  show (match seqV h x with | some xs => Res.ok (D.int xs.length) h | none => _) = _
  rw [e]
@[simp] theorem bi_tuple {xs : List D} {h : Hea} : biR .tuple h (.lst xs) = .ok (.tup xs) h := rfl
@[simp] theorem bi_list {x : D} {xs : List D} {h : Hea} (e : seqV h x = some xs) : biR .list h x = .ok (.lst xs) h := by
  show need (seqV h x) _ = _
  rw [e]; rfl
theorem callF_ret {T : Tab} {h h' : Hea} {k i : Nat} {f : Fn} {ds : List D} {d : D} {ρ : Loc} (e : T.fn i = some f) (hl : ds.length = f.np) (g : exB T (callF T k) f.body (ds.map some ++ List.replicate (f.nv - f.np) none) h = .ok (.ret d) ρ h') : callF T (k + 1) i ds h = .ok d h' := by
  rw [callF_at e hl, g]
theorem ok62_nat {n : Nat} (h : n ≤ 1000) : ok62 (n : Int) = true := by
  unfold ok62
  have : n < 2 ^ 62 := by omega
  exact decide_eq_true (by rw [Int.natAbs_natCast]; exact log2_lt this (by decide))
theorem i_rng1_of {T : Tab} {cf : Nat → List D → Hea → Res D} {ρ : Loc} {h h1 : Hea} {e : E} {n : Nat} (v : (ev T cf e).val ρ h = .ok (.int (n : Int)) h1) (hn : n ≤ 1000) : evI T cf (.rng1 e) ρ h = .ok ((List.range n).map fun i : Nat => D.int (i : Int)) h1 := by
  rw [i_rng1, v, Res.bind_ok, intV_int, need_some, if_pos (ok62_nat hn), rngL_0, Int.toNat_natCast]
end PyI
set_option Elab.async false
set_option linter.all false
set_option maxRecDepth 100000
namespace PyI
open PySem
/-- at most dep deep, its text at most len long -/
structure Fine (dep len : Nat) (d : PyData) : Prop where
  can : d.canLay0 = true
  dp : d.depth ≤ dep
  sh : d.showable = true
  ln : d.shown.length ≤ len
theorem Fine.mono {a b c e : Nat} {d : PyData} (f : Fine a b d) (h1 : a ≤ c) (h2 : b ≤ e) : Fine c e d := ⟨f.can, Nat.le_trans f.dp h1, f.sh, Nat.le_trans f.ln h2⟩
theorem Fine.shaped {dep len : Nat} {d : PyData} (f : Fine dep len d) (h : dep ≤ 64) : SeqAt.shaped d = true := by
  unfold SeqAt.shaped
  rw [f.can, Bool.true_and]
  exact decide_eq_true (Nat.le_trans f.dp h)
def isSeq : PyData → Bool
  | .list _ => true
  | .tuple _ => true
  | _ => false
theorem Fine.rep {dep len : Nat} {d : PyData} (f : Fine dep len d) (h : dep ≤ 60) (h2 : len ≤ 16000000) (q : isSeq d = true) : repOk d = true := by
  have hl : d.shown.length ≤ sizeLine := Nat.le_trans f.ln (Nat.le_trans h2 (by decide))
  have hd := PyData.hasDict_of_canLay d f.can
  have hp : d.depth ≤ 60 := Nat.le_trans f.dp h
  unfold repOk
  rw [f.shaped (by omega), f.sh, hd, decide_eq_true hp, decide_eq_true hl]
  cases d <;> first | rfl | cases q
end PyI
set_option Elab.async false
set_option linter.all false
set_option maxRecDepth 100000
namespace Lib
open PySem PyI
class C_NOUGHT (T : Tab) : Prop where e : T.cn 0 = some (("NOUGHT" : Str), D.tup [.int 0, .int 1])
class C_MOST_SIDE (T : Tab) : Prop where e : T.cn 2 = some (("MOST_SIDE" : Str), D.int 6)
class C_MOST_NUMBER (T : Tab) : Prop where e : T.cn 3 = some (("MOST_NUMBER" : Str), D.int 100000000000000000000000000000000000000000000000000000000000000000000000000000000000000000000000000000000000000000000000000000000000000000000000000000000000000000000000000000000000000000000000000000000000000000000000000000000000000000000000000000000000000000000000000000000000000000000000000000000000000000000000000000000000000000000000000000000000000000000000000000000000000000000000000000000000000000000000000000000000000000000000000000000000000000000000000000000000000000000000000000000000000000000000000000000000000000000000000000000000000000000000000000000000000000000000000000000000000000000000000000000000000000000000000000000000000000000000000000000000000000000000000000000000000000000000000000000000000000000000000000000000000000000000000000000000000000000000000000000000000000000000000000000000000000000000000000000000000000000000000000000000000000000000000000000000000000000000000000000000000000000000000000000000000000000000000000000000000000000000000000000000000000000000000000000000000000000000000000000000000000000000000000000000000000000000000000000000000000000000000000000000000000000000000000000000000000000000000000000000000000000000000000000000000000000000000000000000000000000000000000000000000000000000000000000000000000000000000000000000000000000000000000000000000000000000000000000000000000000000000000000000000000000000000000000000000000000000000000000000000000000000000000000000000000000000000000000000000000000000000000000000000000000000000000000000000000000000000000000000000000000000000000000000000000000000000000000000000000000000000000000000000000000000000000000000000000000000000000000000000000000000000000000000000000000000000000000000000000000000000000000000000000000000000000000000000000000000000000000000000000000000000000000000000000000000000000000000000000000000000000000000000000000000000000000000000000000000000000000000000000000000000000000000000000000000000000000000000000000000000000000000000000000000000000000000000000000000000000000000000000000000000000000)
class C_MOST_TURNS (T : Tab) : Prop where e : T.cn 4 = some (("MOST_TURNS" : Str), D.int 6)
def b_is_integer : Ss := (.cons (.ret (.and (.isi (.v 0) .int) (.nt (.isi (.v 0) .bool))))
    .nil)
class H_is_integer (T : Tab) : Prop where e : T.fn 542 = some ⟨"is_integer", 1, 1, b_is_integer⟩
def b_is_within : Ss := (.cons (.ret (.and (.call 542 (.cons (.v 0) .nil)) (.chn .le .le (.v 1) (.v 0) (.v 2))))
    .nil)
class H_is_within (T : Tab) : Prop where e : T.fn 560 = some ⟨"is_within", 3, 3, b_is_within⟩
def b_divisor_of : Ss := (.cons (.whl (.cmp .ne (.v 1) (.int 0))
   (.cons (.par [0, 1] (.cons (.v 1) (.cons (.bin .mod (.v 0) (.v 1)) .nil)))
    .nil))
    (.cons (.ret (.v 0))
    .nil))
class H_divisor_of (T : Tab) : Prop where e : T.fn 482 = some ⟨"divisor_of", 2, 2, b_divisor_of⟩
def b_raw_number : Ss := (.cons (.set 2 (.call 482 (.cons (.bi .abs (.v 0)) (.cons (.v 1) .nil))))
    (.cons (.ret (.tup (.cons (.bin .fdiv (.v 0) (.v 2)) (.cons (.bin .fdiv (.v 1) (.v 2)) .nil))))
    .nil))
class H_raw_number (T : Tab) : Prop where e : T.fn 732 = some ⟨"raw_number", 2, 3, b_raw_number⟩
def b_is_number : Ss := (.cons (.iff (.or (.nt (.isi (.v 0) .tuple)) (.or (.cmp .ne (.bi .len (.v 0)) (.int 2)) (.or (.nt (.call 542 (.cons (.sub (.v 0) (.int 0)) .nil))) (.nt (.call 542 (.cons (.sub (.v 0) (.int 1)) .nil))))))
   (.cons (.ret (.bl false))
    .nil)
   .nil)
    (.cons (.ret (.and (.cmp .ge (.sub (.v 0) (.int 1)) (.int 1)) (.cmp .eq (.call 482 (.cons (.bi .abs (.sub (.v 0) (.int 0))) (.cons (.sub (.v 0) (.int 1)) .nil))) (.int 1))))
    .nil))
class H_is_number (T : Tab) : Prop where e : T.fn 548 = some ⟨"is_number", 1, 1, b_is_number⟩
def b_number_of : Ss := (.cons (.iff (.nt (.call 542 (.cons (.v 0) .nil)))
   (.cons (.rais 1)
    .nil)
   .nil)
    (.cons (.iff (.or (.nt (.call 542 (.cons (.v 1) .nil))) (.cmp .lt (.v 1) (.int 1)))
   (.cons (.rais 2)
    .nil)
   .nil)
    (.cons (.ret (.call 732 (.cons (.v 0) (.cons (.v 1) .nil))))
    .nil)))
class H_number_of (T : Tab) : Prop where e : T.fn 678 = some ⟨"number_of", 2, 2, b_number_of⟩
def b_raw_plus : Ss := (.cons (.ret (.call 732 (.cons (.bin .add (.bin .mul (.sub (.v 0) (.int 0)) (.sub (.v 1) (.int 1))) (.bin .mul (.sub (.v 1) (.int 0)) (.sub (.v 0) (.int 1)))) (.cons (.bin .mul (.sub (.v 0) (.int 1)) (.sub (.v 1) (.int 1))) .nil))))
    .nil)
class H_raw_plus (T : Tab) : Prop where e : T.fn 742 = some ⟨"raw_plus", 2, 2, b_raw_plus⟩
def b_raw_times : Ss := (.cons (.ret (.call 732 (.cons (.bin .mul (.sub (.v 0) (.int 0)) (.sub (.v 1) (.int 0))) (.cons (.bin .mul (.sub (.v 0) (.int 1)) (.sub (.v 1) (.int 1))) .nil))))
    .nil)
class H_raw_times (T : Tab) : Prop where e : T.fn 748 = some ⟨"raw_times", 2, 2, b_raw_times⟩
def b_raw_over : Ss := (.cons (.set 2 (.ite (.cmp .gt (.sub (.v 1) (.int 0)) (.int 0)) (.int 1) (.neg (.int 1))))
    (.cons (.ret (.call 732 (.cons (.bin .mul (.bin .mul (.v 2) (.sub (.v 0) (.int 0))) (.sub (.v 1) (.int 1))) (.cons (.bin .mul (.bin .mul (.v 2) (.sub (.v 1) (.int 0))) (.sub (.v 0) (.int 1))) .nil))))
    .nil))
class H_raw_over (T : Tab) : Prop where e : T.fn 736 = some ⟨"raw_over", 2, 3, b_raw_over⟩
def b_sum_of : Ss := (.cons (.set 1 (.gc 0))
    (.cons (.fr (.n 2) (.seq (.v 0))
   (.cons (.set 1 (.call 742 (.cons (.v 1) (.cons (.v 2) .nil))))
    .nil))
    (.cons (.ret (.v 1))
    .nil)))
class H_sum_of (T : Tab) : Prop where e : T.fn 790 = some ⟨"sum_of", 1, 3, b_sum_of⟩
def b_law_number : Ss := (.cons (.par [2, 3] (.cons (.bi .abs (.v 0)) (.cons (.v 1) .nil)))
    (.cons (.whl (.cmp .ne (.v 3) (.int 0))
   (.cons (.par [2, 3] (.cons (.v 3) (.cons (.bin .mod (.bi .int (.v 2)) (.v 3)) .nil)))
    .nil))
    (.cons (.ret (.tup (.cons (.bin .fdiv (.v 0) (.v 2)) (.cons (.bin .fdiv (.v 1) (.v 2)) .nil))))
    .nil)))
class H_law_number (T : Tab) : Prop where e : T.fn 234 = some ⟨"_law_number", 2, 4, b_law_number⟩
def b_law_add : Ss := (.cons (.ret (.call 234 (.cons (.bin .add (.bin .mul (.sub (.v 0) (.int 0)) (.sub (.v 1) (.int 1))) (.bin .mul (.sub (.v 1) (.int 0)) (.sub (.v 0) (.int 1)))) (.cons (.bin .mul (.sub (.v 0) (.int 1)) (.sub (.v 1) (.int 1))) .nil))))
    .nil)
class H_law_add (T : Tab) : Prop where e : T.fn 0 = some ⟨"_law_add", 2, 2, b_law_add⟩
def b_law_by : Ss := (.cons (.ret (.call 234 (.cons (.bin .mul (.sub (.v 0) (.int 0)) (.sub (.v 1) (.int 0))) (.cons (.bin .mul (.sub (.v 0) (.int 1)) (.sub (.v 1) (.int 1))) .nil))))
    .nil)
class H_law_by (T : Tab) : Prop where e : T.fn 44 = some ⟨"_law_by", 2, 2, b_law_by⟩
end Lib
set_option Elab.async false
set_option linter.all false
set_option maxRecDepth 100000
set_option maxHeartbeats 1000000
namespace Lib
open PySem PyI
/-- the number q -/
def ratD (q : Rat) : D := .tup [.int q.num, .int (q.den : Int)]
/-- both parts below 2 ^ b -/
def Sz (b : Nat) (q : Rat) : Prop := q.num.natAbs < 2 ^ b ∧ q.den < 2 ^ b
theorem Sz.mono {b c : Nat} {q : Rat} (h : Sz b q) (l : b ≤ c) : Sz c q := by
  have := Nat.pow_le_pow_right (n := 2) (by decide) l
  exact ⟨Nat.lt_of_lt_of_le h.1 this, Nat.lt_of_lt_of_le h.2 this⟩
theorem mkRat_le (n : Int) {d : Nat} (hd : 0 < d) : (mkRat n d).num.natAbs ≤ n.natAbs ∧ (mkRat n d).den ≤ d := by
  have e : mkRat n d = Rat.normalize n d (by omega) := (Rat.normalize_eq_mkRat _).symm
  rw [e, Rat.normalize_eq]
  constructor
  · show (n / (n.natAbs.gcd d : Nat)).natAbs ≤ n.natAbs
    exact Int.natAbs_ediv_le_natAbs ..
  · exact Nat.div_le_self ..
theorem sz_mk {b : Nat} {n : Int} {d : Nat} (hd : 0 < d) (h1 : n.natAbs < 2 ^ b) (h2 : d < 2 ^ b) : Sz b (mkRat n d) := by
  obtain ⟨e1, e2⟩ := mkRat_le n hd
  exact ⟨by omega, by omega⟩
@[simp] theorem tupV_ratD {q : Rat} : tupV (ratD q) = some [.int q.num, .int (q.den : Int)] := rfl
@[simp] theorem seqV_ratD {h : Hea} {q : Rat} : seqV h (ratD q) = some [.int q.num, .int (q.den : Int)] := rfl
@[simp] theorem sub_n {h : Hea} {q : Rat} : subR h (ratD q) (.int 0) = some (.int q.num) := rfl
@[simp] theorem sub_d {h : Hea} {q : Rat} : subR h (ratD q) (.int 1) = some (.int (q.den : Int)) := rfl
theorem mulOk_of {a b : Nat} {i j : Int} (h1 : i.natAbs < 2 ^ a) (h2 : j.natAbs < 2 ^ b) (ha : 0 < a) (hb : 0 < b) (h : a + b ≤ 1000000) : mulOk i j = true := by
  unfold mulOk
  have x := log2_lt h1 ha
  have y := log2_lt h2 hb
  exact decide_eq_true (by omega)
theorem Sz.pos {b : Nat} {q : Rat} (h : Sz b q) : 0 < b := by
  by_cases z : b = 0
  · subst z
    have := h.2
    have := q.den_pos
    simp at *
    omega
  · omega
theorem Sz.num {b : Nat} {q : Rat} (h : Sz b q) : q.num.natAbs < 2 ^ b := h.1
def total (ps : List Rat) : Rat := ps.foldl (· + ·) 0
theorem foldl_add (ps : List Rat) : ∀ a : Rat, ps.foldl (· + ·) a = a + total ps := by
  induction ps with
  | nil => intro a; show a = a + 0; grind
  | cons p r ih =>
    intro a
    show r.foldl (· + ·) (a + p) = a + r.foldl (· + ·) (0 + p)
    rw [ih, ih]; grind
@[simp] theorem total_nil : total [] = 0 := rfl
@[simp] theorem total_cons (p : Rat) (ps : List Rat) : total (p :: ps) = p + total ps := by
  show ps.foldl (· + ·) (0 + p) = _
  rw [foldl_add]; grind
@[simp] theorem total_append (ps qs : List Rat) : total (ps ++ qs) = total ps + total qs := by
  induction ps with
  | nil => simp; grind
  | cons p r ih => simp [ih]; grind
end Lib
set_option Elab.async false
set_option linter.all false
set_option maxRecDepth 100000
set_option maxHeartbeats 1000000
namespace Lib
open PySem PyI
end Lib
set_option Elab.async false
set_option linter.all false
set_option maxRecDepth 100000
namespace Lib
open PySem PyI
def b_is_row : Ss := (.cons (.iff (.or (.nt (.isi (.v 0) .tuple)) (.nt (.chn .le .le (.int 1) (.bi .len (.v 0)) (.gc 2))))
   (.cons (.ret (.bl false))
    .nil)
   .nil)
    (.cons (.ret (.bi .all (.lc false [1] (.n 1) (.seq (.v 0)) .nil (.and (.call 548 (.cons (.v 1) .nil)) (.cmp .ge (.sub (.v 1) (.int 0)) (.int 0))))))
    .nil))
class H_is_row (T : Tab) : Prop where e : T.fn 552 = some ⟨"is_row", 1, 2, b_is_row⟩
def b_columns_of : Ss := (.cons (.ret (.lc false [1] (.n 1) (.rng1 (.bi .len (.sub (.v 0) (.int 0)))) .nil (.bi .tuple (.lc false [2] (.n 2) (.seq (.v 0)) .nil (.sub (.v 2) (.v 1))))))
    .nil)
class H_columns_of (T : Tab) : Prop where e : T.fn 474 = some ⟨"columns_of", 1, 3, b_columns_of⟩
def b_is_table : Ss := (.cons (.iff (.or (.nt (.isi (.v 0) .tuple)) (.or (.nt (.chn .le .le (.int 1) (.bi .len (.v 0)) (.gc 2))) (.nt (.bi .all (.lc false [2] (.n 2) (.seq (.v 0)) .nil (.call 552 (.cons (.v 2) .nil)))))))
   (.cons (.ret (.bl false))
    .nil)
   .nil)
    (.cons (.iff (.nt (.bi .all (.lc false [2] (.n 2) (.seq (.v 0)) .nil (.cmp .eq (.bi .len (.v 2)) (.bi .len (.sub (.v 0) (.int 0)))))))
   (.cons (.ret (.bl false))
    .nil)
   .nil)
    (.cons (.ret (.bi .all (.lc false [1] (.n 1) (.seq (.bin .add (.bi .list (.v 0)) (.call 474 (.cons (.v 0) .nil)))) .nil (.cmp .ne (.call 790 (.cons (.v 1) .nil)) (.gc 0)))))
    .nil)))
class H_is_table (T : Tab) : Prop where e : T.fn 558 = some ⟨"is_table", 1, 3, b_is_table⟩
def b_are_sums : Ss := (.cons (.ret (.and (.call 552 (.cons (.v 0) .nil)) (.and (.cmp .eq (.bi .len (.v 0)) (.v 1)) (.cmp .nmem (.gc 0) (.v 0)))))
    .nil)
class H_are_sums (T : Tab) : Prop where e : T.fn 454 = some ⟨"are_sums", 2, 2, b_are_sums⟩
def b_is_case : Ss := (.cons (.iff (.or (.nt (.isi (.v 0) .tuple)) (.or (.cmp .ne (.bi .len (.v 0)) (.int 3)) (.nt (.call 558 (.cons (.sub (.v 0) (.int 0)) .nil)))))
   (.cons (.ret (.bl false))
    .nil)
   .nil)
    (.cons (.ret (.and (.call 454 (.cons (.sub (.v 0) (.int 1)) (.cons (.bi .len (.sub (.v 0) (.int 0))) .nil))) (.call 454 (.cons (.sub (.v 0) (.int 2)) (.cons (.bi .len (.sub (.sub (.v 0) (.int 0)) (.int 0))) .nil)))))
    .nil))
class H_is_case (T : Tab) : Prop where e : T.fn 532 = some ⟨"is_case", 1, 1, b_is_case⟩
def b_need_case : Ss := (.cons (.iff (.nt (.call 532 (.cons (.v 0) .nil)))
   (.cons (.rais 5)
    .nil)
   .nil)
    .nil)
class H_need_case (T : Tab) : Prop where e : T.fn 658 = some ⟨"need_case", 1, 1, b_need_case⟩
def b_turned_round : Ss := (.cons (.ret (.bi .tuple (.call 474 (.cons (.v 0) .nil))))
    .nil)
class H_turned_round (T : Tab) : Prop where e : T.fn 802 = some ⟨"turned_round", 1, 1, b_turned_round⟩
def b_law_open : Ss := (.cons (.set 1 (.bi .listM (.slc (.v 0) .nil (.cons (.int 12) .nil))))
    (.cons (.fr (.t (.cons (.n 2) (.cons (.n 3) .nil))) (.enum (.slc (.v 0) (.cons (.int 12) .nil) (.cons (.int 63) .nil)))
   (.cons (.put (.v 1) (.bin .mod (.bi .int (.v 2)) (.int 12)) (.bin .add (.sub (.v 1) (.bin .mod (.bi .int (.v 2)) (.int 12))) (.v 3)))
    .nil))
    (.cons (.ret (.lstM (.cons (.frz (.v 1)) (.cons (.int 0) (.cons (.int 0) .nil)))))
    .nil)))
class H_law_open (T : Tab) : Prop where e : T.fn 254 = some ⟨"_law_open", 1, 4, b_law_open⟩
def b_law_spread : Ss := (.cons (.iff (.cmp .ge (.v 0) (.bin .pow (.int 10) (.int 18)))
   (.cons (.ret (.v 0))
    .nil)
   .nil)
    (.cons (.set 2 (.lst (.cons (.int 2147483629) (.cons (.int 2147483587) (.cons (.int 2147483579) (.cons (.int 2147483563) (.cons (.int 2147483549) (.cons (.int 2147483543) (.cons (.int 2147483497) (.cons (.int 2147483489) .nil))))))))))
    (.cons (.set 2 (.bin .add (.v 2) (.lst (.cons (.int 2147483477) (.cons (.int 2147483423) (.cons (.int 2147483399) (.cons (.int 2147483353) (.cons (.int 2147483323) .nil))))))))
    (.cons (.set 3 (.bin .mul (.bin .mod (.bi .int (.v 0)) (.int 1000000007)) (.bin .add (.bin .mul (.int 2) (.v 1)) (.int 69069))))
    (.cons (.set 3 (.bin .mod (.bi .int (.bin .pow (.bin .add (.bin .add (.v 3) (.bin .mul (.v 1) (.int 40503))) (.int 977)) (.int 3))) (.sub (.v 2) (.bin .mod (.bi .int (.v 1)) (.int 13)))))
    (.cons (.set 4 (.bin .mod (.bi .int (.bin .pow (.bin .add (.bin .add (.bin .mul (.v 3) (.bin .add (.v 1) (.int 3))) (.bin .mod (.bi .int (.v 0)) (.int 65537))) (.int 5)) (.int 5))) (.sub (.v 2) (.bin .mod (.bi .int (.bin .add (.v 1) (.int 5))) (.int 13)))))
    (.cons (.set 5 (.bin .mod (.bi .int (.bin .pow (.bin .add (.bin .add (.v 4) (.bin .mod (.bi .int (.v 3)) (.int 1009))) (.v 1)) (.int 3))) (.sub (.v 2) (.bin .mod (.bi .int (.bin .add (.v 1) (.int 7))) (.int 13)))))
    (.cons (.ret (.bin .add (.bin .mul (.bin .add (.bin .mul (.v 3) (.int 2147483647)) (.v 4)) (.int 2147483647)) (.v 5)))
    .nil))))))))
class H_law_spread (T : Tab) : Prop where e : T.fn 362 = some ⟨"_law_spread", 2, 6, b_law_spread⟩
def b_law_take : Ss := (.cons (.iff (.cmp .lt (.sub (.v 0) (.int 2)) (.v 1))
   (.cons (.set 3 (.sub (.v 0) (.int 1)))
    (.cons (.set 4 (.int 0))
    (.cons (.iff (.cmp .lt (.v 3) (.bi .len (.sub (.v 0) (.int 0))))
   (.cons (.set 4 (.sub (.sub (.v 0) (.int 0)) (.v 3)))
    .nil)
   (.cons (.iff (.cmp .gt (.bi .len (.sub (.v 0) (.int 0))) (.int 0))
   (.cons (.set 4 (.bin .mod (.bi .int (.sub (.sub (.v 0) (.int 0)) (.bin .mod (.bi .int (.bin .add (.bin .mul (.v 3) (.int 5)) (.int 3))) (.bi .len (.sub (.v 0) (.int 0)))))) (.bin .add (.bin .pow (.int 10) (.int 17)) (.v 3))))
    .nil)
   .nil)
    .nil))
    (.cons (.put (.v 0) (.int 1) (.bin .add (.v 3) (.int 1)))
    (.cons (.put (.v 0) (.int 2) (.call 362 (.cons (.v 4) (.cons (.v 3) .nil))))
    .nil)))))
   .nil)
    (.cons (.set 2 (.bin .mod (.bi .int (.sub (.v 0) (.int 2))) (.v 1)))
    (.cons (.put (.v 0) (.int 2) (.bin .fdiv (.sub (.v 0) (.int 2)) (.v 1)))
    (.cons (.ret (.v 2))
    .nil))))
class H_law_take (T : Tab) : Prop where e : T.fn 380 = some ⟨"_law_take", 2, 5, b_law_take⟩
def b_law_one_of : Ss := (.cons (.ret (.sub (.v 1) (.call 380 (.cons (.v 0) (.cons (.bi .len (.v 1)) .nil)))))
    .nil)
class H_law_one_of (T : Tab) : Prop where e : T.fn 244 = some ⟨"_law_one_of", 2, 2, b_law_one_of⟩
def b_law_any_number : Ss := (.cons (.ret (.call 234 (.cons (.bin .add (.int 1) (.call 380 (.cons (.v 0) (.cons (.int 9) .nil)))) (.cons (.call 244 (.cons (.v 0) (.cons (.lst (.cons (.int 1) (.cons (.int 1) (.cons (.int 1) (.cons (.int 2) (.cons (.int 3) (.cons (.int 4) (.cons (.int 5) (.cons (.int 7) .nil))))))))) .nil))) .nil))))
    .nil)
class H_law_any_number (T : Tab) : Prop where e : T.fn 6 = some ⟨"_law_any_number", 1, 1, b_law_any_number⟩
end Lib
set_option Elab.async false
set_option linter.all false
set_option maxRecDepth 100000
set_option maxHeartbeats 1000000
namespace Lib
open PySem PyI
theorem le_size {n : Nat} (h : n ≤ 1000) : n ≤ sizeLine := Nat.le_trans h (by decide)
theorem mul_bnd {a b c d : Int} (h1 : -a ≤ c) (h2 : c ≤ a) (h3 : -b ≤ d) (h4 : d ≤ b) (ha : 0 ≤ a) (hb : 0 ≤ b) : -(a * b) ≤ c * d ∧ c * d ≤ a * b := by
  have e : (c * d).natAbs ≤ (a * b).natAbs := by
    rw [Int.natAbs_mul, Int.natAbs_mul]
    exact Nat.mul_le_mul (by omega) (by omega)
  have n0 : 0 ≤ a * b := Int.mul_nonneg ha hb
  omega
theorem small {b : Int} {i : Int} (hb : b < 2 ^ 200) (h1 : -b ≤ i) (h2 : i ≤ b) : i.natAbs < 2 ^ 200 := by omega
theorem small_mul {b : Int} {i j : Int} (hb : b < 2 ^ 200) (h1 : -b ≤ i) (h2 : i ≤ b) (h3 : -b ≤ j) (h4 : j ≤ b) : mulOk i j = true := by
  refine mul_ok (Nat.lt_of_lt_of_le (small hb h1 h2) ?_) (Nat.lt_of_lt_of_le (small hb h3 h4) ?_) <;> exact Nat.pow_le_pow_right (by decide) (by decide)
theorem bin_cat (h : Hea) (xs ys : List D) (hl : xs.length + ys.length ≤ sizeLine) : binR .add h (.lst xs) (.lst ys) = .ok (.lst (xs ++ ys)) h := by
  show (if xs.length + ys.length ≤ sizeLine then _ else _) = _
  rw [if_pos hl]
theorem small_log {n : Int} (h0 : 0 ≤ n) (h1 : n ≤ 2 ^ 200) : n.natAbs.log2 < 9000 := by
  have : n.natAbs < 2 ^ 201 := by omega
  exact Nat.lt_of_lt_of_le (log2_lt this (by decide)) (by decide)
section
variable {T : Tab} [H_law_spread T] [H_law_take T]
def primes : List Int := [2147483629, 2147483587, 2147483579, 2147483563, 2147483549, 2147483543, 2147483497, 2147483489, 2147483477, 2147483423, 2147483399, 2147483353, 2147483323]
theorem primes_ok : ∀ p ∈ primes, 0 < p ∧ p < 2147483648 := by decide
theorem prime_at (h : Hea) {i : Int} (h0 : 0 ≤ i) (h13 : i < 13) : ∃ p, subR h (.lst (primes.map D.int)) (.int i) = some (.int p) ∧ 0 < p ∧ p < 2147483648 := by
  have hl : i.toNat < primes.length := by show i.toNat < 13; omega
  refine ⟨primes[i.toNat], sub_seq rfl (atI_nat h0 ?_), primes_ok _ (List.getElem_mem hl)⟩
  rw [List.getElem?_map, List.getElem?_eq_getElem hl]; rfl
theorem mod_bnd (a : Int) {p : Int} (hp : 0 < p) : 0 ≤ a % p ∧ a % p < p := ⟨Int.emod_nonneg _ (by omega), Int.emod_lt_of_pos _ hp⟩
theorem l_spread (k : Nat) (cell : Int) {c : Int} (c0 : 0 ≤ c) (c1 : c ≤ 100000) (h : Hea) : ∃ v, 0 ≤ v ∧ callF T (k + 1) 362 [.int cell, .int c] h = .ok (.int v) h := by
  have p10 : binR .pow h (.int 10) (.int 18) = .ok (.int (10 ^ 18)) h := bin_pow (by decide)
  by_cases big : (10 : Int) ^ 18 ≤ cell
  · refine ⟨cell, by omega, callF_ret (f := ⟨"_law_spread", 2, 6, b_law_spread⟩) (ρ := [some (.int cell), some (.int c), none, none, none, none]) H_law_spread.e rfl ?_⟩
    show exB T (callF T k) b_law_spread [some (.int cell), some (.int c), none, none, none, none] h = _
    unfold b_law_spread
    simp only [s_cons, s_if, t_cmp, v_v, v_bin, v_int, List.getElem?_cons_zero, Res.bind_ok, p10, cmp_ge, need_some, big, decide_true, Res.st_ok, if_true, s_cons, s_ret, v_v, SR.thn_ret]
  · obtain ⟨a0, a1⟩ := mod_bnd cell (show (0 : Int) < 1000000007 by decide)
    obtain ⟨b0, b1⟩ := mod_bnd cell (show (0 : Int) < 65537 by decide)
    obtain ⟨i0, i1⟩ := mod_bnd c (show (0 : Int) < 13 by decide)
    obtain ⟨j0, j1⟩ := mod_bnd (c + 5) (show (0 : Int) < 13 by decide)
    obtain ⟨l0, l1⟩ := mod_bnd (c + 7) (show (0 : Int) < 13 by decide)
    obtain ⟨p, ep, p0, p1⟩ := prime_at h i0 i1
    obtain ⟨q, eq, q0, q1⟩ := prime_at h j0 j1
    obtain ⟨r, er, r0, r1⟩ := prime_at h l0 l1
    have m1 := mul_bnd (a := 1000000007) (b := 300000) (show -(1000000007 : Int) ≤ cell % 1000000007 by omega) (by omega) (show -(300000 : Int) ≤ 2 * c + 69069 by omega) (by omega) (by omega) (by omega)
    have m1' : 0 ≤ cell % 1000000007 * (2 * c + 69069) := Int.mul_nonneg a0 (by omega)
    have o1 : mulOk (cell % 1000000007) (2 * c + 69069) = true := small_mul (b := 1000000007) (by decide) (by omega) (by omega) (by omega) (by omega)
    have o2 : mulOk 2 c = true := small_mul (b := 1000000007) (by decide) (by omega) (by omega) (by omega) (by omega)
    have o3 : mulOk c 40503 = true := small_mul (b := 1000000007) (by decide) (by omega) (by omega) (by omega) (by omega)
    generalize hx : cell % 1000000007 * (2 * c + 69069) = x at *
    have w1 : binR .pow h (.int (x + c * 40503 + 977)) (.int 3) = .ok (.int ((x + c * 40503 + 977) ^ 3)) h := bin_pow ⟨by decide, by decide, by omega⟩
    obtain ⟨y0, y1⟩ := mod_bnd ((x + c * 40503 + 977) ^ 3) p0
    generalize hy : (x + c * 40503 + 977) ^ 3 % p = y at *
    have m2 := mul_bnd (a := 2147483648) (b := 300000) (show -(2147483648 : Int) ≤ y by omega) (by omega) (show -(300000 : Int) ≤ c + 3 by omega) (by omega) (by omega) (by omega)
    have m2' : 0 ≤ y * (c + 3) := Int.mul_nonneg y0 (by omega)
    have o4 : mulOk y (c + 3) = true := small_mul (b := 2147483648) (by decide) (by omega) (by omega) (by omega) (by omega)
    generalize hz : y * (c + 3) = z at *
    have w2 : binR .pow h (.int (z + cell % 65537 + 5)) (.int 5) = .ok (.int ((z + cell % 65537 + 5) ^ 5)) h := bin_pow ⟨by decide, by decide, by omega⟩
    obtain ⟨u0, u1⟩ := mod_bnd ((z + cell % 65537 + 5) ^ 5) q0
    generalize hu : (z + cell % 65537 + 5) ^ 5 % q = u at *
    obtain ⟨n0, n1⟩ := mod_bnd y (show (0 : Int) < 1009 by decide)
    have w3 : binR .pow h (.int (u + y % 1009 + c)) (.int 3) = .ok (.int ((u + y % 1009 + c) ^ 3)) h := bin_pow ⟨by decide, by decide, by omega⟩
    obtain ⟨v0, v1⟩ := mod_bnd ((u + y % 1009 + c) ^ 3) r0
    generalize hv : (u + y % 1009 + c) ^ 3 % r = v at *
    have m3 := mul_bnd (a := 2147483648) (b := 2147483648) (show -(2147483648 : Int) ≤ y by omega) (by omega) (show -(2147483648 : Int) ≤ 2147483647 by omega) (by omega) (by omega) (by omega)
    have m3' : 0 ≤ y * 2147483647 := Int.mul_nonneg y0 (by omega)
    have o5 : mulOk y 2147483647 = true := small_mul (b := 2147483648) (by decide) (by omega) (by omega) (by omega) (by omega)
    have o6 : mulOk (y * 2147483647 + u) 2147483647 = true := small_mul (b := 2 ^ 70) (by decide) (by omega) (by omega) (by omega) (by omega)
    have res0 : 0 ≤ (y * 2147483647 + u) * 2147483647 + v := by
      have := Int.mul_nonneg (show 0 ≤ y * 2147483647 + u by omega) (show (0 : Int) ≤ 2147483647 by omega)
      omega
    refine ⟨(y * 2147483647 + u) * 2147483647 + v, res0, ?_⟩
    refine callF_ret (f := ⟨"_law_spread", 2, 6, b_law_spread⟩) (ρ := [some (.int cell), some (.int c), some (.lst (primes.map D.int)), some (.int y), some (.int u), some (.int v)]) H_law_spread.e rfl ?_
    show exB T (callF T k) b_law_spread [some (.int cell), some (.int c), none, none, none, none] h = _
    unfold b_law_spread
    have nb : decide ((10 : Int) ^ 18 ≤ cell) = false := decide_eq_false big
    have st1 : exS T (callF T k) (.iff (.cmp .ge (.v 0) (.bin .pow (.int 10) (.int 18))) (.cons (.ret (.v 0)) .nil) .nil) [some (.int cell), some (.int c), none, none, none, none] h = .ok .nx [some (.int cell), some (.int c), none, none, none, none] h := by
      simp only [s_cons, s_if, t_cmp, v_v, v_bin, v_int, List.getElem?_cons_zero, Res.bind_ok, p10, cmp_ge, need_some, nb, Res.st_ok, Bool.false_eq_true, if_false, s_nil]
    rw [s_cons, st1, SR.thn_nx, s_cons, s_set]
    simp only [v_lst, es_cons, es_nil, v_int, Res.bind_ok]
    rw [if_pos (show List.length _ ≤ sizeLine from le_size (by decide)), Res.st_ok, SR.thn_nx, s_cons, s_set]
    simp only [List.set_cons_succ, List.set_cons_zero, v_bin, v_v, List.getElem?_cons_zero, List.getElem?_cons_succ, v_lst, es_cons, es_nil, v_int, Res.bind_ok]
    rw [if_pos (show List.length _ ≤ sizeLine from le_size (by decide)), Res.bind_ok, bin_cat h _ _ (le_size (by decide)), Res.st_ok, SR.thn_nx]
    have ep' : subR h (.lst ([D.int 2147483629, D.int 2147483587, D.int 2147483579, D.int 2147483563, D.int 2147483549, D.int 2147483543, D.int 2147483497, D.int 2147483489] ++ [D.int 2147483477, D.int 2147483423, D.int 2147483399, D.int 2147483353, D.int 2147483323])) (.int (c % 13)) = some (.int p) := ep
    have eq' : subR h (.lst ([D.int 2147483629, D.int 2147483587, D.int 2147483579, D.int 2147483563, D.int 2147483549, D.int 2147483543, D.int 2147483497, D.int 2147483489] ++ [D.int 2147483477, D.int 2147483423, D.int 2147483399, D.int 2147483353, D.int 2147483323])) (.int ((c + 5) % 13)) = some (.int q) := eq
    have er' : subR h (.lst ([D.int 2147483629, D.int 2147483587, D.int 2147483579, D.int 2147483563, D.int 2147483549, D.int 2147483543, D.int 2147483497, D.int 2147483489] ++ [D.int 2147483477, D.int 2147483423, D.int 2147483399, D.int 2147483353, D.int 2147483323])) (.int ((c + 7) % 13)) = some (.int r) := er
    have d1 : (0 : Int) < 1000000007 := by decide
    have d2 : (0 : Int) < 65537 := by decide
    have d3 : (0 : Int) < 13 := by decide
    have d4 : (0 : Int) < 1009 := by decide
    simp only [s_cons, s_set, v_bin, v_v, v_int, v_bi, v_sub, bi_int, List.set_cons_succ, List.set_cons_zero, List.getElem?_cons_zero, List.getElem?_cons_succ, Res.bind_ok, Res.st_ok, SR.thn_nx, bin_mod d1, bin_mod d2, bin_mod d3, bin_mod d4, bin_mul o1, bin_mul o2, bin_mul o3, bin_mul o4, bin_mul o5, bin_mul o6, bin_add,
      hx, w1, ep', need_some, bin_mod p0, hy, hz, w2, eq', bin_mod q0, hu, w3, er', bin_mod r0, hv, s_ret, SR.thn_ret]
    rfl
def penO (cells : List Int) (c s : Int) : MO := .lst [.lst (cells.map D.int), .int c, .int s]
section
variable {h : Hea} {p : Nat} {cells : List Int} {c s : Int}
theorem pen_seq (e : h[p]? = some (penO cells c s)) : seqV h (.ref p) = some [.lst (cells.map D.int), .int c, .int s] := by
  show (match h[p]? with | some (.lst xs) => some xs | _ => none) = _
  rw [e]; rfl
theorem pen_0 (e : h[p]? = some (penO cells c s)) : subR h (.ref p) (.int 0) = some (.lst (cells.map D.int)) := sub_seq (pen_seq e) (atI_nat (by decide) rfl)
theorem pen_1 (e : h[p]? = some (penO cells c s)) : subR h (.ref p) (.int 1) = some (.int c) := sub_seq (pen_seq e) (atI_nat (by decide) rfl)
theorem pen_2 (e : h[p]? = some (penO cells c s)) : subR h (.ref p) (.int 2) = some (.int s) := sub_seq (pen_seq e) (atI_nat (by decide) rfl)
theorem pen_set1 (e : h[p]? = some (penO cells c s)) (x : Int) : setR h (.ref p) (.int 1) (.int x) = some (h.set p (penO cells x s)) := by
  show (match h[p]? with | some (.lst xs) => (intV (.int 1)).bind fun k => (L2.ixN xs.length k).map fun j => h.set p (.lst (xs.set j (.int x))) | some (.dK ks vs) => _ | some (.dT ks vs) => _ | _ => none) = _
  rw [e]; rfl
theorem pen_set2 (e : h[p]? = some (penO cells c s)) (x : Int) : setR h (.ref p) (.int 2) (.int x) = some (h.set p (penO cells c x)) := by
  show (match h[p]? with | some (.lst xs) => (intV (.int 2)).bind fun k => (L2.ixN xs.length k).map fun j => h.set p (.lst (xs.set j (.int x))) | some (.dK ks vs) => _ | some (.dT ks vs) => _ | _ => none) = _
  rw [e]; rfl
theorem pen_at (e : h[p]? = some (penO cells c s)) (u : MO) : (h.set p u)[p]? = some u := List.getElem?_set_self (List.getElem?_eq_some_iff.mp e).1
end
/-- the pen at p, drawn from at most k times -/
def Pen (h : Hea) (p : Nat) (k : Int) : Prop := ∃ cells c s, h[p]? = some (penO cells c s) ∧ 0 ≤ c ∧ c ≤ k ∧ 0 ≤ s
/-- nothing but the pen is changed -/
def Oth (h : Hea) (p : Nat) (h' : Hea) : Prop := h'.length = h.length ∧ ∀ q, q ≠ p → h'[q]? = h[q]?
theorem Oth.set {h : Hea} {p : Nat} {u : MO} : Oth h p (h.set p u) := ⟨by simp, fun q hq => List.getElem?_set_ne (Ne.symm hq)⟩
theorem Oth.refl {h : Hea} {p : Nat} : Oth h p h := ⟨rfl, fun _ _ => rfl⟩
theorem Oth.trans {h h' h'' : Hea} {p : Nat} (a : Oth h p h') (b : Oth h' p h'') : Oth h p h'' := ⟨b.1.trans a.1, fun q hq => (b.2 q hq).trans (a.2 q hq)⟩
theorem take_end {cf : Nat → List D → Hea → Res D} {h : Hea} {p : Nat} {cells : List Int} {c s many : Int} {x y : Option D} (e : h[p]? = some (penO cells c s)) (s0 : 0 ≤ s) (m0 : 0 < many) (m1 : many.natAbs.log2 < 9000) :
    ∃ ρ', exB T cf (.cons (.set 2 (.bin .mod (.bi .int (.sub (.v 0) (.int 2))) (.v 1))) (.cons (.put (.v 0) (.int 2) (.bin .fdiv (.sub (.v 0) (.int 2)) (.v 1))) (.cons (.ret (.v 2)) .nil))) [some (.ref p), some (.int many), none, x, y] h
      = .ok (.ret (.int (s % many))) ρ' (h.set p (penO cells c (s / many))) := by
  have q2 := pen_2 e
  have st := pen_set2 e (s / many)
  refine ⟨[some (.ref p), some (.int many), some (.int (s % many)), x, y], ?_⟩
  simp only [s_cons, s_set, s_put, s_ret, s_nil, v_bin, v_bi, v_sub, v_v, v_int, List.getElem?_cons_zero, List.getElem?_cons_succ, List.set_cons_succ, List.set_cons_zero, Res.bind_ok, Res.st_ok, SR.thn_nx, SR.thn_ret, need_some, q2, bi_int, bin_mod m0, bin_fdiv m0 m1, st]
/-- the cell that is looked at -/
theorem cell_ok {cf : Nat → List D → Hea → Res D} {h : Hea} {p : Nat} {cells : List Int} {c s many : Int} (e : h[p]? = some (penO cells c s)) (c0 : 0 ≤ c) (c1 : c ≤ 100000) :
    ∃ cell : Int, exS T cf (.iff (.cmp .lt (.v 3) (.bi .len (.sub (.v 0) (.int 0)))) (.cons (.set 4 (.sub (.sub (.v 0) (.int 0)) (.v 3))) .nil)
      (.cons (.iff (.cmp .gt (.bi .len (.sub (.v 0) (.int 0))) (.int 0)) (.cons (.set 4 (.bin .mod (.bi .int (.sub (.sub (.v 0) (.int 0)) (.bin .mod (.bi .int (.bin .add (.bin .mul (.v 3) (.int 5)) (.int 3))) (.bi .len (.sub (.v 0) (.int 0)))))) (.bin .add (.bin .pow (.int 10) (.int 17)) (.v 3)))) .nil) .nil) .nil))
      [some (.ref p), some (.int many), none, some (.int c), some (.int 0)] h = .ok .nx [some (.ref p), some (.int many), none, some (.int c), some (.int cell)] h := by
  have q0 := pen_0 e
  have ln : biR .len h (.lst (cells.map D.int)) = .ok (.int cells.length) h := by rw [bi_len (xs := cells.map D.int) rfl]; simp
  have at_c : ∀ i : Int, 0 ≤ i → i < cells.length → ∃ x, subR h (.lst (cells.map D.int)) (.int i) = some (.int x) := fun i i0 i1 => by
    have hl : i.toNat < cells.length := by omega
    refine ⟨cells[i.toNat], sub_seq rfl (atI_nat i0 ?_)⟩
    rw [List.getElem?_map, List.getElem?_eq_getElem hl]; rfl
  by_cases a : c < cells.length
  · obtain ⟨x, ex⟩ := at_c c c0 a
    refine ⟨x, ?_⟩
    simp only [s_if, s_cons, s_nil, s_set, t_cmp, v_bi, v_sub, v_v, v_int, List.getElem?_cons_zero, List.getElem?_cons_succ, List.set_cons_succ, List.set_cons_zero, Res.bind_ok, Res.st_ok, SR.thn_nx, need_some, q0, ln, cmp_lt, a, decide_true, if_true, ex]
  · by_cases b : (0 : Int) < cells.length
    · obtain ⟨i0, i1⟩ := mod_bnd (c * 5 + 3) b
      obtain ⟨x, ex⟩ := at_c _ i0 i1
      have o1 : mulOk c 5 = true := small_mul (b := 100000) (by decide) (by omega) (by omega) (by omega) (by omega)
      have w : binR .pow h (.int 10) (.int 17) = .ok (.int (10 ^ 17)) h := bin_pow (by decide)
      have pos : (0 : Int) < 10 ^ 17 + c := by omega
      refine ⟨x % (10 ^ 17 + c), ?_⟩
      simp only [s_if, s_cons, s_nil, s_set, t_cmp, v_bi, v_bin, v_sub, v_v, v_int, List.getElem?_cons_zero, List.getElem?_cons_succ, List.set_cons_succ, List.set_cons_zero, Res.bind_ok, Res.st_ok, SR.thn_nx, need_some, q0, ln, cmp_lt, cmp_gt, a, b, decide_true, decide_false, Bool.false_eq_true, if_false, if_true,
        bin_mul o1, bin_add, bi_int, bin_mod b, ex, w, bin_mod pos]
    · refine ⟨0, ?_⟩
      simp only [s_if, s_cons, s_nil, s_set, t_cmp, v_bi, v_bin, v_sub, v_v, v_int, List.getElem?_cons_zero, List.getElem?_cons_succ, List.set_cons_succ, List.set_cons_zero, Res.bind_ok, Res.st_ok, SR.thn_nx, need_some, q0, ln, cmp_lt, cmp_gt, a, b, decide_true, decide_false, Bool.false_eq_true, if_false, if_true]
theorem l_take (k : Nat) {h : Hea} {p : Nat} {K many : Int} (P : Pen h p K) (hK : K ≤ 90000) (m0 : 0 < many) (m1 : many.natAbs.log2 < 9000) :
    ∃ v h', callF T (k + 2) 380 [.ref p, .int many] h = .ok (.int v) h' ∧ 0 ≤ v ∧ v < many ∧ Pen h' p (K + 1) ∧ Oth h p h' := by
  obtain ⟨cells, c, s, e, c0, c1, s0⟩ := P
  have q1 := pen_1 e
  have q2 := pen_2 e
  by_cases a : s < many
  · obtain ⟨cell, ec⟩ := cell_ok (T := T) (cf := callF T (k + 1)) (many := many) e c0 (by omega)
    obtain ⟨v, v0, ev⟩ := l_spread (T := T) k cell c0 (by omega) (h.set p (penO cells (c + 1) s))
    have e1 := pen_at e (penO cells (c + 1) s)
    have e2 := pen_at e1 (penO cells (c + 1) v)
    obtain ⟨ρ', et⟩ := take_end (T := T) (cf := callF T (k + 1)) (many := many) (x := some (.int c)) (y := some (.int cell)) e2 v0 m0 m1
    refine ⟨v % many, _, callF_ret (f := ⟨"_law_take", 2, 5, b_law_take⟩) (ρ := ρ') H_law_take.e rfl ?_, (mod_bnd v m0).1, (mod_bnd v m0).2, ⟨cells, c + 1, v / many, pen_at e2 _, by omega, by omega, Int.ediv_nonneg v0 (by omega)⟩, Oth.set.trans (Oth.set.trans Oth.set)⟩
    show exB T (callF T (k + 1)) b_law_take [some (.ref p), some (.int many), none, none, none] h = _
    unfold b_law_take
    rw [s_cons, s_if]
    simp only [t_cmp, v_sub, v_v, v_int, List.getElem?_cons_zero, List.getElem?_cons_succ, Res.bind_ok, q2, need_some, cmp_lt, a, decide_true, Res.st_ok, if_true]
    rw [s_cons, s_set]
    simp only [v_sub, v_v, v_int, List.getElem?_cons_zero, Res.bind_ok, q1, need_some, Res.st_ok, SR.thn_nx, List.set_cons_succ, List.set_cons_zero]
    rw [s_cons, s_set]
    simp only [v_int, Res.st_ok, SR.thn_nx, List.set_cons_succ, List.set_cons_zero]
    rw [s_cons, ec, SR.thn_nx]
    simp only [s_cons, s_nil, s_put, v_bin, v_call, es_cons, es_nil, v_v, v_int, List.getElem?_cons_zero, List.getElem?_cons_succ, Res.bind_ok, Res.st_ok, bin_add, pen_set1 e, SR.thn_nx, ev, pen_set2 e1]
    exact et
  · obtain ⟨ρ', et⟩ := take_end (T := T) (cf := callF T (k + 1)) (many := many) (x := none) (y := none) e s0 m0 m1
    refine ⟨s % many, _, callF_ret (f := ⟨"_law_take", 2, 5, b_law_take⟩) (ρ := ρ') H_law_take.e rfl ?_, (mod_bnd s m0).1, (mod_bnd s m0).2, ⟨cells, c, s / many, pen_at e _, c0, by omega, Int.ediv_nonneg s0 (by omega)⟩, Oth.set⟩
    show exB T (callF T (k + 1)) b_law_take [some (.ref p), some (.int many), none, none, none] h = _
    unfold b_law_take
    rw [s_cons, s_if]
    simp only [t_cmp, v_sub, v_v, v_int, List.getElem?_cons_zero, List.getElem?_cons_succ, Res.bind_ok, q2, need_some, cmp_lt, a, decide_false, Res.st_ok, Bool.false_eq_true, if_false, s_nil, SR.thn_nx]
    exact et
theorem l_one_of [H_law_one_of T] (k : Nat) {h : Hea} {p : Nat} {K : Int} {xs : List D} (P : Pen h p K) (hK : K ≤ 90000) (l0 : 0 < xs.length) (l1 : xs.length ≤ 1000) :
    ∃ x h', callF T (k + 3) 244 [.ref p, .lst xs] h = .ok x h' ∧ x ∈ xs ∧ Pen h' p (K + 1) ∧ Oth h p h' := by
  obtain ⟨v, h', e, v0, v1, P', O⟩ := l_take (T := T) k (many := (xs.length : Int)) P hK (by omega) (small_log (by omega) (by omega))
  have hl : v.toNat < xs.length := by omega
  have sb : subR h' (.lst xs) (.int v) = some xs[v.toNat] := sub_seq rfl (atI_nat v0 (List.getElem?_eq_getElem hl))
  refine ⟨xs[v.toNat], h', callF_ret (f := ⟨"_law_one_of", 2, 2, b_law_one_of⟩) (ρ := [some (.ref p), some (.lst xs)]) H_law_one_of.e rfl ?_, List.getElem_mem hl, P', O⟩
  show exB T (callF T (k + 2)) b_law_one_of [some (.ref p), some (.lst xs)] h = _
  unfold b_law_one_of
  have ln : biR .len h (.lst xs) = .ok (.int xs.length) h := bi_len rfl
  simp only [s_cons, s_ret, v_sub, v_v, v_call, es_cons, es_nil, v_bi, List.getElem?_cons_zero, List.getElem?_cons_succ, Res.bind_ok, ln, e, need_some, sb, Res.st_ok, SR.thn_ret]
/-- a small number above nought, as the laws draw it -/
def Any (q : Rat) : Prop := ∃ n d : Nat, 1 ≤ n ∧ n ≤ 9 ∧ (d = 1 ∨ d = 2 ∨ d = 3 ∨ d = 4 ∨ d = 5 ∨ d = 7) ∧ q = mkRat (n : Int) d
theorem ints_cut (ns : List Int) (lo hi : Option Int) : ∃ ms : List Int, cutD (ns.map D.int) lo hi = ms.map D.int ∧ ms.length ≤ ns.length := by
  refine ⟨(ns.drop (HT.sIx ns.length 0 lo)).take (HT.sIx ns.length ns.length hi - HT.sIx ns.length 0 lo), ?_, ?_⟩
  · unfold cutD
    rw [List.length_map, ← List.map_drop, ← List.map_take]
  · rw [List.length_take, List.length_drop]; omega
theorem enum_at {xs : List D} {i : Nat} {x : D} (e : (enumD 0 xs)[i]? = some x) : ∃ y, xs[i]? = some y ∧ x = .plc [.int (i : Int), y] := by
  obtain ⟨y, h1, h2⟩ := enumD_get xs 0 i x e
  exact ⟨y, h1, by rw [h2]; simp⟩
theorem lst_sub {A : List Int} {h : Hea} {j : Int} (e : h[0]? = some (.lst (A.map D.int))) (j0 : 0 ≤ j) (j1 : j < A.length) : ∃ x, subR h (.ref 0) (.int j) = some (.int x) := by
  have hl : j.toNat < A.length := by omega
  refine ⟨A[j.toNat], sub_seq (xs := A.map D.int) ?_ (atI_nat j0 ?_)⟩
  · show (match h[0]? with | some (.lst xs) => some xs | _ => none) = _
    rw [e]
  · rw [List.getElem?_map, List.getElem?_eq_getElem hl]; rfl
theorem lst_set {A : List Int} {h : Hea} {j x : Int} (e : h[0]? = some (.lst (A.map D.int))) (j0 : 0 ≤ j) (j1 : j < A.length) : setR h (.ref 0) (.int j) (.int x) = some (h.set 0 (.lst ((A.set j.toNat x).map D.int))) := by
  show (match h[0]? with | some (.lst xs) => (intV (.int j)).bind fun k => (L2.ixN xs.length k).map fun i => h.set 0 (.lst (xs.set i (.int x))) | some (.dK ks vs) => _ | some (.dT ks vs) => _ | _ => none) = _
  rw [e]
  show (L2.ixN (A.map D.int).length j).map (fun i => h.set 0 (.lst ((A.map D.int).set i (.int x)))) = _
  have ix : L2.ixN (A.map D.int).length j = some j.toNat := by
    unfold L2.ixN
    rw [List.length_map, if_pos j0, if_pos j1]
  rw [ix, Option.map_some, ← List.map_set]
omit [H_law_spread T] [H_law_take T] in
theorem l_open [H_law_open T] (k : Nat) (ns : List Int) : ∃ h', callF T (k + 1) 254 [.scr (ns.map D.int)] [] = .ok (.ref 1) h' ∧ Pen h' 1 0 := by
  obtain ⟨A, eA, _⟩ := ints_cut ns none (some 12)
  obtain ⟨B, eB, _⟩ := ints_cut ns (some 12) (some 63)
  have lenA : B ≠ [] → A.length = 12 := fun hB => by
    have h1 := congrArg List.length eA
    have h2 := congrArg List.length eB
    have h3 : 0 < B.length := List.length_pos_iff.mpr hB
    simp only [List.length_map] at h1 h2
    unfold cutD at h1 h2
    rw [List.length_map, show HT.sIx ns.length 0 none = 0 from rfl, show HT.sIx ns.length ns.length (some 12) = min 12 ns.length from HT.sIx_nat _ _ 12, List.length_take, List.length_drop, List.length_map] at h1
    rw [List.length_map, show HT.sIx ns.length 0 (some 12) = min 12 ns.length from HT.sIx_nat _ _ 12, show HT.sIx ns.length ns.length (some 63) = min 63 ns.length from HT.sIx_nat _ _ 63, List.length_take, List.length_drop, List.length_map] at h2
    omega
  obtain ⟨ρ', h', e1, ⟨u, v, rfl⟩, A', rfl, _⟩ := frLoop_inv (turn := fun x ρ h => match evG (.t (.cons (.n 2) (.cons (.n 3) .nil))) ρ x with
      | some ρ1 => exB T (callF T k) (.cons (.put (.v 1) (.bin .mod (.bi .int (.v 2)) (.int 12)) (.bin .add (.sub (.v 1) (.bin .mod (.bi .int (.v 2)) (.int 12))) (.v 3))) .nil) ρ1 h | none => .no)
    (fun i ρ h => (∃ u v, ρ = [some (.scr (ns.map D.int)), some (.ref 0), u, v]) ∧ ∃ A' : List Int, h = [.lst (A'.map D.int)] ∧ A'.length = A.length) (enumD 0 (B.map D.int)) 0 [some (.scr (ns.map D.int)), some (.ref 0), none, none] [.lst (A.map D.int)]
    (fun i x ρ h ex hi => by
      obtain ⟨⟨u, v, rfl⟩, A', rfl, lA⟩ := hi
      obtain ⟨y, ey, rfl⟩ := enum_at ex
      rw [List.getElem?_map] at ey
      obtain ⟨b, eb, rfl⟩ := Option.map_eq_some_iff.mp ey
      have l12 : A'.length = 12 := by
        rw [lA]; exact lenA (by intro z; rw [z] at eb; cases eb)
      obtain ⟨i0, i1⟩ := mod_bnd (i : Int) (show (0 : Int) < 12 by decide)
      obtain ⟨x, ex⟩ := lst_sub (A := A') (h := [.lst (A'.map D.int)]) (j := (i : Int) % 12) rfl i0 (by omega)
      have st := lst_set (A := A') (h := [.lst (A'.map D.int)]) (j := (i : Int) % 12) (x := x + b) rfl i0 (by omega)
      refine ⟨[some (.scr (ns.map D.int)), some (.ref 0), some (.int (i : Int)), some (.int b)], [.lst ((A'.set ((i : Int) % 12).toNat (x + b)).map D.int)], ?_, ⟨_, _, rfl⟩, _, rfl, by rw [List.length_set]; exact lA⟩
      have d12 : (0 : Int) < 12 := by decide
      simp only [g_t, g_n, gs_cons, gs_nil, tupV_plc, Option.bind_some, List.set_cons_succ, List.set_cons_zero, s_cons, s_nil, s_put, v_bin, v_sub, v_bi, v_v, v_int, List.getElem?_cons_zero, List.getElem?_cons_succ, Res.bind_ok, bi_int, bin_mod d12, ex, need_some, bin_add, Res.st_ok, st, SR.thn_nx])
    ⟨⟨none, none, rfl⟩, A, rfl, rfl⟩
  refine ⟨[.dead, penO A' 0 0], callF_ret (f := ⟨"_law_open", 1, 4, b_law_open⟩) (ρ := [some (.scr (ns.map D.int)), some (.ref 0), u, v]) H_law_open.e rfl ?_, A', 0, 0, rfl, by decide, by decide, by decide⟩
  show exB T (callF T k) b_law_open [some (.scr (ns.map D.int)), none, none, none] [] = _
  unfold b_law_open
  have st1 : exS T (callF T k) (.set 1 (.bi .listM (.slc (.v 0) .nil (.cons (.int 12) .nil)))) [some (.scr (ns.map D.int)), none, none, none] [] = .ok .nx [some (.scr (ns.map D.int)), some (.ref 0), none, none] [.lst (A.map D.int)] := by
    have sl : (ev T (callF T k) (.slc (.v 0) .nil (.cons (.int 12) .nil))).val [some (.scr (ns.map D.int)), none, none, none] [] = .ok (.lst (A.map D.int)) [] := by
      show Res.ok (D.lst (cutD (ns.map D.int) none (some 12))) [] = _
      rw [eA]
    rw [s_set, v_bi, sl, Res.bind_ok]; rfl
  have it : evI T (callF T k) (.enum (.slc (.v 0) (.cons (.int 12) .nil) (.cons (.int 63) .nil))) [some (.scr (ns.map D.int)), some (.ref 0), none, none] [.lst (A.map D.int)] = .ok (enumD 0 (B.map D.int)) [.lst (A.map D.int)] := by
    show need (lsV (.lst (cutD (ns.map D.int) (some 12) (some 63)))) (fun xs => Res.ok (enumD 0 xs) _) = _
    rw [eB]; rfl
  rw [s_cons, st1, SR.thn_nx, s_cons, s_fr, it, Res.st_ok]
  erw [e1]
  rw [SR.thn_nx]
  rfl
end
end Lib
set_option Elab.async false
set_option linter.all false
set_option maxRecDepth 100000
set_option maxHeartbeats 1000000
namespace Lib
open PySem PyI
/-- parts that may be multiplied -/
def Bg (n : Nat) : Prop := n < 2 ^ 100000
theorem Bg.of {n b : Nat} (h : n < 2 ^ b) (hb : b ≤ 100000) : Bg n := Nat.lt_of_lt_of_le h (Nat.pow_le_pow_right (by decide) hb)
end Lib
set_option Elab.async false
set_option linter.all false
set_option maxRecDepth 100000
set_option maxHeartbeats 1000000
namespace Lib
open PySem PyI
/-- the row of v 0 .. v (n-1) -/
def vec (n : Nat) (v : Nat → Rat) : D := .tup ((List.range n).map fun j => ratD (v j))
/-- the table of f i j -/
def mat (m n : Nat) (f : Nat → Nat → Rat) : D := .tup ((List.range m).map fun i => vec n (f i))
def flip (f : Nat → Nat → Rat) : Nat → Nat → Rat := fun j i => f i j
def sumN (n : Nat) (v : Nat → Rat) : Rat := total ((List.range n).map v)
@[simp] theorem sumN_0 (v : Nat → Rat) : sumN 0 v = 0 := rfl
theorem sumN_succ (n : Nat) (v : Nat → Rat) : sumN (n + 1) v = sumN n v + v n := by
  unfold sumN
  rw [List.range_succ, List.map_append, total_append]
  simp; grind
theorem sumN_congr {n : Nat} {v w : Nat → Rat} (h : ∀ j, j < n → v j = w j) : sumN n v = sumN n w := by
  unfold sumN
  rw [List.map_congr_left fun j hj => h j (List.mem_range.mp hj)]
section views
variable {h : Hea} {m n : Nat} {v : Nat → Rat} {f : Nat → Nat → Rat}
@[simp] theorem itV_vec : itV (vec n v) = some ((List.range n).map fun j => ratD (v j)) := rfl
@[simp] theorem itV_mat : itV (mat m n f) = some ((List.range m).map fun i => vec n (f i)) := rfl
@[simp] theorem seqV_vec : seqV h (vec n v) = some ((List.range n).map fun j => ratD (v j)) := rfl
@[simp] theorem seqV_mat : seqV h (mat m n f) = some ((List.range m).map fun i => vec n (f i)) := rfl
@[simp] theorem tupV_vec : tupV (vec n v) = some ((List.range n).map fun j => ratD (v j)) := rfl
@[simp] theorem tupV_mat : tupV (mat m n f) = some ((List.range m).map fun i => vec n (f i)) := rfl
@[simp] theorem isi_vec : isiR h (vec n v) .tuple = some true := rfl
@[simp] theorem isi_mat : isiR h (mat m n f) .tuple = some true := rfl
@[simp] theorem len_vec : biR .len h (vec n v) = .ok (.int n) h := by rw [bi_len (seqV_vec)]; simp
@[simp] theorem len_mat : biR .len h (mat m n f) = .ok (.int m) h := by rw [bi_len (seqV_mat)]; simp
theorem range_get {α : Type} (g : Nat → α) {n j : Nat} (hj : j < n) : ((List.range n).map g)[j]? = some (g j) := by
  rw [List.getElem?_map, List.getElem?_range hj]; rfl
end views
end Lib
set_option Elab.async false
set_option linter.all false
set_option maxRecDepth 100000
set_option maxHeartbeats 1000000
namespace Lib
open PySem PyI
section
variable {T : Tab} {cf : Nat → List D → Hea → Res D} {ρ : PyI.Loc} {h : Hea} {α : Type} {l : List α} {f g : α → D} {own : List Nat} {tg : Tg} {it : It} {c e : E}
theorem lcA (hit : evI T cf it ρ h = .ok (l.map f) h) (hb : ∀ a ∈ l, ∃ ρ1, evG tg (wipeD ρ own) (f a) = some ρ1 ∧ (ev T cf e).val ρ1 h = .ok (g a) h) (hl : l.length ≤ 1000) :
    (ev T cf (.lc false own tg it .nil e)).val ρ h = .ok (.lst (l.map g)) h := by
  have := lcLoop_all (turn := lcTurn own tg (evC T cf .nil) (ev T cf e).val ρ) (f := f) (g := g) (h := h) l (fun a ha => by
    obtain ⟨ρ1, e1, e2⟩ := hb a ha
    unfold lcTurn
    rw [e1, need_some]
    show ((((ev T cf e).val ρ1 h).bind fun y h5 => Res.ok (some y) h5)).noErr = _
    rw [e2]; rfl) (le_size hl)
  rw [v_lc, hit, Res.bind_ok, this, Res.bind_ok, mkL_f]
theorem bi_tup {xs : List D} : biR .tuple h (.lst xs) = .ok (.tup xs) h := rfl
end
/-- one to six, rows of so many; nothing below nought -/
structure Sh (m n : Nat) (f : Nat → Nat → Rat) : Prop where
  m1 : 1 ≤ m
  m6 : m ≤ 6
  n1 : 1 ≤ n
  n6 : n ≤ 6
  nn : ∀ i, i < m → ∀ j, j < n → 0 ≤ f i j
variable {m n : Nat} {f : Nat → Nat → Rat}
end Lib
set_option Elab.async false
set_option linter.all false
set_option maxRecDepth 100000
set_option maxHeartbeats 1000000
namespace Lib
open PySem PyI
end Lib
set_option Elab.async false
set_option linter.all false
set_option maxRecDepth 100000
set_option maxHeartbeats 1000000
namespace Lib
open PySem PyI
def placeD (p : Nat × Nat) : D := .plc [.int (p.1 : Int), .int (p.2 : Int)]
variable {m n : Nat} {f : Nat → Nat → Rat} {T : Tab} {h : Hea}
abbrev tk (i j : Nat) : List L2.Key := [.inl (i : Int), .inl (j : Int)]
/-- the dict at q, of at most c keys; numbers of the kind Q -/
structure Ds (Q : Rat → Prop) (h : Hea) (q c : Nat) (ks : List (List L2.Key)) (vs : List D) : Prop where
  at_ : h[q]? = some (.dT ks vs)
  ok : ∀ i j d, look ks vs (tk i j) = some d → ∃ p, d = ratD p ∧ Q p
  len : ks.length = vs.length
  few : ks.length ≤ c
  keys : ∀ k ∈ ks, ∃ i j, k = tk i j
end Lib
set_option Elab.async false
set_option linter.all false
set_option maxRecDepth 100000
set_option maxHeartbeats 1000000
namespace Lib
open PySem PyI
section
variable {κ : Type} [DecidableEq κ]
theorem look_putAt (x z : κ) (y : D) : ∀ (ks : List κ) (vs : List D), ks.length = vs.length → look ks (PyI.putAt ks vs x y) z = if x = z ∧ x ∈ ks then some y else look ks vs z
  | [], vs, _ => by simp [look, PyI.putAt]
  | k :: ks, [], e => by simp at e
  | k :: ks, v :: vs, e => by
    have ih := look_putAt x z y ks vs (by simpa using e)
    show (if k = z then some (if k = x then y else v) else look ks (PyI.putAt ks vs x y) z) = _
    by_cases h1 : k = z
    · subst h1
      by_cases h2 : k = x
      · subst h2; simp
      · have h3 : ¬ x = k := fun q => h2 q.symm
        simp [look, h2, h3]
    · rw [if_neg h1, ih]
      by_cases h2 : x = z
      · subst h2
        simp [look, h1, Ne.symm (show k ≠ x from h1)]
      · simp [look, h1, h2]
theorem putAt_len (x : κ) (y : D) : ∀ (ks : List κ) (vs : List D), (PyI.putAt ks vs x y).length = vs.length
  | [], vs => by cases vs <;> rfl
  | k :: ks, [] => rfl
  | k :: ks, v :: vs => by
    show (PyI.putAt ks vs x y).length + 1 = vs.length + 1
    rw [putAt_len x y ks vs]
theorem look_snoc (x z : κ) (y : D) : ∀ (ks : List κ) (vs : List D), ks.length = vs.length → look (ks ++ [x]) (vs ++ [y]) z = (look ks vs z).or (if x = z then some y else none)
  | [], [], _ => by simp [look]
  | [], _ :: _, e => by simp at e
  | k :: ks, [], e => by simp at e
  | k :: ks, v :: vs, e => by
    have ih := look_snoc x z y ks vs (by simpa using e)
    show (if k = z then some v else look (ks ++ [x]) (vs ++ [y]) z) = (if k = z then some v else look ks vs z).or _
    by_cases h1 : k = z
    · simp [h1]
    · rw [if_neg h1, if_neg h1, ih]
theorem look_put {ks : List κ} {vs : List D} (e : ks.length = vs.length) (x z : κ) (y : D) : look (put ks vs x y).1 (put ks vs x y).2 z = if x = z then some y else look ks vs z := by
  unfold put
  by_cases h : x ∈ ks
  · rw [if_pos h]
    rw [look_putAt x z y ks vs e]
    simp [h]
  · rw [if_neg h]
    rw [look_snoc x z y ks vs e]
    by_cases q : x = z
    · subst q
      have : look ks vs x = none := by
        have := look_none x (ks := ks) (ds := vs) e
        rw [decide_eq_false h] at this
        cases hl : look ks vs x with
        | none => rfl
        | some d => rw [hl] at this; cases this
      simp [this]
    · simp [q]
theorem put_len {ks : List κ} {vs : List D} (e : ks.length = vs.length) (x : κ) (y : D) : (put ks vs x y).1.length = (put ks vs x y).2.length ∧ (put ks vs x y).1.length ≤ ks.length + 1 := by
  unfold put
  by_cases h : x ∈ ks
  · rw [if_pos h]; exact ⟨by rw [putAt_len]; exact e, Nat.le_succ _⟩
  · rw [if_neg h]; simp [e]
end
theorem put_keys {ks : List (List L2.Key)} {vs : List D} {i j : Nat} {d : D} (h : ∀ k ∈ ks, ∃ i j, k = tk i j) : ∀ k ∈ (put ks vs (tk i j) d).1, ∃ i j, k = tk i j := by
  intro k hk
  unfold put at hk
  split at hk
  · exact h k hk
  · rcases List.mem_append.mp hk with z | z
    · exact h k z
    · exact ⟨i, j, by simpa using z⟩
theorem Pen.oth {h h' : Hea} {p : Nat} {K : Int} (P : Pen h p K) (e : h'[p]? = h[p]?) : Pen h' p K := by
  obtain ⟨cells, c, s, e1, r⟩ := P
  exact ⟨cells, c, s, e.trans e1, r⟩
theorem Pen.mono {h : Hea} {p : Nat} {K L : Int} (P : Pen h p K) (l : K ≤ L) : Pen h p L := by
  obtain ⟨cells, c, s, e, c0, c1, s0⟩ := P
  exact ⟨cells, c, s, e, c0, by omega, s0⟩
theorem Pen.lt {h : Hea} {p : Nat} {K : Int} (P : Pen h p K) : p < h.length := by
  obtain ⟨_, _, _, q1, _⟩ := P
  exact (List.getElem?_eq_some_iff.mp q1).1
theorem Ds.oth {Q : Rat → Prop} {h h' : Hea} {q c : Nat} {ks : List (List L2.Key)} {vs : List D} (S : Ds Q h q c ks vs) (e : h'[q]? = h[q]?) : Ds Q h' q c ks vs := ⟨e.trans S.at_, S.ok, S.len, S.few, S.keys⟩
theorem Ds.more {Q : Rat → Prop} {h : Hea} {q c d : Nat} {ks : List (List L2.Key)} {vs : List D} (S : Ds Q h q c ks vs) (l : c ≤ d) : Ds Q h q d ks vs := ⟨S.at_, S.ok, S.len, Nat.le_trans S.few l, S.keys⟩
theorem set_dT {h : Hea} {q : Nat} {ks : List (List L2.Key)} {vs : List D} (e : h[q]? = some (.dT ks vs)) (hl : ks.length < sizeLine) (i j : Nat) (d : D) :
    setR h (.ref q) (placeD (i, j)) d = some (h.set q (.dT (put ks vs (tk i j) d).1 (put ks vs (tk i j) d).2)) := by
  unfold setR
  simp only [e]
  show (some (tk i j)).bind (fun k => if ks.length < sizeLine then _ else none) = _
  rw [Option.bind_some, if_pos hl]
/-- a number put at a place -/
theorem Ds.put {Q : Rat → Prop} {h : Hea} {q c i j : Nat} {ks : List (List L2.Key)} {vs : List D} {x : Rat} (S : Ds Q h q c ks vs) (hx : Q x) (hc : c ≤ 200) :
    ∃ h' ks' vs', setR h (.ref q) (placeD (i, j)) (ratD x) = some h' ∧ (∀ p, p ≠ q → h'[p]? = h[p]?) ∧ h'.length = h.length ∧ Ds Q h' q (c + 1) ks' vs' ∧
      (∀ a b, (look ks vs (tk a b)).isSome = true → (look ks' vs' (tk a b)).isSome = true) ∧ (look ks' vs' (tk i j)).isSome = true ∧
      (∀ a b, (look ks' vs' (tk a b)).isSome = true → (look ks vs (tk a b)).isSome = true ∨ a = i ∧ b = j) := by
  have st := set_dT S.at_ (Nat.lt_of_le_of_lt S.few (Nat.lt_of_le_of_lt hc (by decide))) i j (ratD x)
  have hq : q < h.length := (List.getElem?_eq_some_iff.mp S.at_).1
  obtain ⟨l1, l2⟩ := put_len S.len (tk i j) (ratD x)
  refine ⟨_, _, _, st, fun p hp => List.getElem?_set_ne (Ne.symm hp), by simp, ⟨List.getElem?_set_self hq, fun a b d hd => ?_, l1, by have := S.few; omega, put_keys S.keys⟩, fun a b hab => ?_, ?_, fun a b hab => ?_⟩
  · rw [look_put S.len] at hd
    by_cases z : tk i j = tk a b
    · rw [if_pos z] at hd; cases hd; exact ⟨x, rfl, hx⟩
    · rw [if_neg z] at hd; exact S.ok a b d hd
  · rw [look_put S.len]
    by_cases z : tk i j = tk a b
    · rw [if_pos z]; rfl
    · rw [if_neg z]; exact hab
  · rw [look_put S.len, if_pos rfl]; rfl
  · rw [look_put S.len] at hab
    by_cases z : tk i j = tk a b
    · right
      simp only [tk, List.cons.injEq, Sum.inl.injEq] at z
      omega
    · rw [if_neg z] at hab; exact .inl hab
theorem any_pos : ∀ a : Fin 9, ∀ b : Fin 7, 0 < mkRat ((a.val + 1 : Nat) : Int) (b.val + 1) := by decide +kernel
theorem Any.pos {q : Rat} (h : Any q) : 0 < q := by
  obtain ⟨n, d, h1, h9, hd, rfl⟩ := h
  have := any_pos ⟨n - 1, by omega⟩ ⟨d - 1, by omega⟩
  simp only at this
  rwa [show n - 1 + 1 = n by omega, show d - 1 + 1 = d by omega] at this
/-- a number above nought, 420 times it an integer of at most M -/
def Due (M : Nat) (q : Rat) : Prop := 0 < q ∧ ∃ a : Nat, q * 420 = (a : Rat) ∧ a ≤ M
theorem Due.mono {M N : Nat} {q : Rat} (h : Due M q) (l : M ≤ N) : Due N q := ⟨h.1, by obtain ⟨a, e, b⟩ := h.2; exact ⟨a, e, Nat.le_trans b l⟩⟩
theorem of_mul {q : Rat} {a k : Nat} (k0 : 0 < k) (e : q * (k : Rat) = (a : Rat)) : q = mkRat (a : Int) k := by
  have : ((k : Nat) : Rat) ≠ 0 := by exact_mod_cast (show k ≠ 0 by omega)
  have e1 : mkRat (a : Int) k = (a : Rat) / (k : Rat) := by
    rw [Rat.mkRat_eq_div]; rfl
  rw [e1]
  grind
theorem sz_of_mul {q : Rat} {a k b : Nat} (k0 : 0 < k) (e : q * (k : Rat) = (a : Rat)) (h1 : a < 2 ^ b) (h2 : k < 2 ^ b) : Sz b q := by
  rw [of_mul k0 e]
  exact sz_mk k0 (by rw [Int.natAbs_natCast]; exact h1) h2
end Lib
set_option Elab.async false
set_option linter.all false
set_option maxRecDepth 100000
set_option maxHeartbeats 1000000
namespace Lib
open PySem PyI
/-- each entry nought or of the kind Q; something in each row, in each column -/
structure Drawn (Q : Rat → Prop) (m n : Nat) (f : Nat → Nat → Rat) : Prop where
  q : ∀ i j, f i j = 0 ∨ Q (f i j)
  r : ∀ i, i < m → ∃ j, j < n ∧ Q (f i j)
  c : ∀ j, j < n → ∃ i, i < m ∧ Q (f i j)
end Lib
set_option Elab.async false
set_option linter.all false
set_option maxRecDepth 100000
set_option maxHeartbeats 1000000
namespace Lib
open PySem PyI
end Lib
set_option Elab.async false
set_option linter.all false
set_option maxRecDepth 100000
set_option maxHeartbeats 1000000
namespace Lib
open PySem PyI
def upd (v : Nat → Rat) (a : Nat) (q : Rat) : Nat → Rat := fun j => if j = a then q else v j
section
variable {T : Tab} [H_law_spread T] [H_law_take T] [H_law_one_of T] [H_law_number T] [H_law_any_number T] [H_law_add T] [H_law_by T]
theorem Drawn.sh {m n : Nat} {f : Nat → Nat → Rat} (F : Drawn Any m n f) (m1 : 1 ≤ m) (m6 : m ≤ 6) (n1 : 1 ≤ n) (n6 : n ≤ 6) : Sh m n f := ⟨m1, m6, n1, n6, fun i _ j _ => by
  rcases F.q i j with z | z
  · rw [z]; exact Rat.le_refl
  · have := z.pos; grind⟩
end
end Lib
set_option Elab.async false
set_option linter.all false
set_option maxRecDepth 100000
namespace Lib
open PySem PyI
def b_raw_rows : Ss := (.cons (.set 2 (.lstM .nil))
    (.cons (.fr (.t (.cons (.n 3) (.cons (.n 4) .nil))) (.zip (.v 0) (.v 1))
   (.cons (.set 5 (.call 736 (.cons (.v 4) (.cons (.call 790 (.cons (.v 3) .nil)) .nil))))
    (.cons (.ex (.mt .append (.v 2) (.cons (.bi .tuple (.lc false [6] (.n 6) (.seq (.v 3)) .nil (.call 748 (.cons (.v 6) (.cons (.v 5) .nil))))) .nil)))
    .nil)))
    (.cons (.ret (.bi .tuple (.v 2)))
    .nil)))
class H_raw_rows (T : Tab) : Prop where e : T.fn 746 = some ⟨"raw_rows", 2, 7, b_raw_rows⟩
def b_raw_columns : Ss := (.cons (.ret (.call 802 (.cons (.call 746 (.cons (.call 802 (.cons (.v 0) .nil)) (.cons (.v 1) .nil))) .nil)))
    .nil)
class H_raw_columns (T : Tab) : Prop where e : T.fn 718 = some ⟨"raw_columns", 2, 2, b_raw_columns⟩
def b_are_small : Ss := (.cons (.ret (.bi .all (.lc2 false [1, 2, 3] [2, 3] (.n 1) (.seq (.v 0)) (.t (.cons (.n 2) (.cons (.n 3) .nil))) (.seq (.v 1)) .nil (.and (.cmp .le (.bi .abs (.v 2)) (.gc 3)) (.cmp .le (.v 3) (.gc 3))))))
    .nil)
class H_are_small (T : Tab) : Prop where e : T.fn 452 = some ⟨"are_small", 1, 4, b_are_small⟩
def b_need_small : Ss := (.cons (.iff (.nt (.call 452 (.cons (.v 0) .nil)))
   (.cons (.rais 16)
    .nil)
   .nil)
    .nil)
class H_need_small (T : Tab) : Prop where e : T.fn 664 = some ⟨"need_small", 1, 1, b_need_small⟩
def b_raw_behind : Ss := (.cons (.asg (.t (.cons (.n 3) (.cons (.n 4) (.cons (.n 5) .nil)))) (.v 0))
    (.cons (.fr (.n 2) (.rng1 (.v 1))
   (.cons (.set 3 (.ite (.cmp .eq (.bin .mod (.v 2) (.int 2)) (.int 0)) (.call 746 (.cons (.v 3) (.cons (.v 4) .nil))) (.call 718 (.cons (.v 3) (.cons (.v 5) .nil)))))
    (.cons (.ex (.call 664 (.cons (.v 3) .nil)))
    .nil)))
    (.cons (.ret (.v 3))
    .nil)))
class H_raw_behind (T : Tab) : Prop where e : T.fn 714 = some ⟨"raw_behind", 2, 6, b_raw_behind⟩
def b_behind : Ss := (.cons (.ex (.call 658 (.cons (.v 0) .nil)))
    (.cons (.iff (.nt (.call 560 (.cons (.v 1) (.cons (.int 0) (.cons (.gc 4) .nil)))))
   (.cons (.rais 9)
    .nil)
   .nil)
    (.cons (.ret (.call 714 (.cons (.v 0) (.cons (.v 1) .nil))))
    .nil)))
class H_behind (T : Tab) : Prop where e : T.fn 466 = some ⟨"behind", 2, 2, b_behind⟩
end Lib
set_option Elab.async false
set_option linter.all false
set_option maxRecDepth 100000
set_option maxHeartbeats 1000000
namespace Lib
open PySem PyI
/-- rows scaled to sums -/
def rowT (n : Nat) (f : Nat → Nat → Rat) (v : Nat → Rat) : Nat → Nat → Rat := fun i j => f i j * (v i / sumN n (f i))
theorem zipD_map {α : Type} (a b : α → D) : ∀ l : List α, zipD (l.map a) (l.map b) = l.map fun x => .plc [a x, b x]
  | [] => rfl
  | x :: r => by
    show D.plc [a x, b x] :: zipD (r.map a) (r.map b) = _
    rw [zipD_map a b r]; rfl
theorem i_zipT {T : Tab} {cf : Nat → List D → Hea → Res D} {ρ : PyI.Loc} {h h1 h2 : Hea} {a b : E} {x y : D} {xs ys : List D} (ea : (ev T cf a).val ρ h = .ok x h1) (eb : (ev T cf b).val ρ h1 = .ok y h2) (lx : lsV x = none) (tx : tupV x = some xs) (ty : tupV y = some ys) : evI T cf (.zip a b) ρ h = .ok (zipD xs ys) h2 := by
  show ((ev T cf a).val ρ h).bind (fun x h1 => ((ev T cf b).val ρ h1).bind fun y h2 => match lsV x with
      | some xs => need (lsV y) fun ys => .ok (zipD xs ys) h2
      | none => need (tupV x) fun xs => need (tupV y) fun ys => .ok (zipD xs ys) h2) = _
  rw [ea, Res.bind_ok, eb, Res.bind_ok, lx]
  simp only [tx, ty, need_some]
theorem mt_app {T : Tab} {cf : Nat → List D → Hea → Res D} {ρ : PyI.Loc} {h h1 : Hea} {s q : Nat} {e : E} {d : D} {xs : List D} (r : ρ[s]? = some (some (.ref q))) (eh : h[q]? = some (.lst xs)) (ev_ : (ev T cf e).val ρ h = .ok d h1) (eh1 : h1[q]? = some (.lst xs)) (hl : xs.length ≤ 1000) :
    exS T cf (.ex (.mt .append (.v s) (.cons e .nil))) ρ h = .ok .nx ρ (h1.set q (.lst (xs ++ [d]))) := by
  have ok : mtOk .append h (.ref q) = true := by
    show (plnV h (.ref q)).isSome = true
    show (match h[q]? with | some (.lst xs) => some xs | _ => none).isSome = true
    rw [eh]; rfl
  have ap : mtR .append h1 (.ref q) [d] = .ok .non (h1.set q (.lst (xs ++ [d]))) := by
    show (match h1[q]? with | some (.lst xs) => if xs.length < sizeLine then Res.ok D.non (h1.set q (.lst (xs ++ [d]))) else .no | _ => .no) = _
    rw [eh1]
    show (if _ then _ else _) = _
    rw [if_pos (Nat.lt_of_le_of_lt hl (by decide))]
  simp only [s_ex, v_mt, v_v, r, Res.bind_ok, ok, if_true, es_cons, ev_, es_nil, ap, Res.st_ok]
variable {m n : Nat} {f : Nat → Nat → Rat} {v w : Nat → Rat} {T : Tab} {h : Hea}
def turnB (o s t : Nat) : Ss := (.cons (.set 2 (.lstM .nil))
    (.cons (.fr (.t (.cons (.n 3) (.cons (.n 4) .nil))) (.zip (.v 0) (.v 1))
   (.cons (.set 5 (.call o (.cons (.v 4) (.cons (.call s (.cons (.v 3) .nil)) .nil))))
    (.cons (.ex (.mt .append (.v 2) (.cons (.bi .tuple (.lc false [6] (.n 6) (.seq (.v 3)) .nil (.call t (.cons (.v 6) (.cons (.v 5) .nil))))) .nil)))
    .nil)))
    (.cons (.ret (.bi .tuple (.v 2)))
    .nil)))
theorem turn_run {cf : Nat → List D → Hea → Res D} {o s t : Nat} (m6 : m ≤ 6) (n6 : n ≤ 6)
    (hs : ∀ i, i < m → ∀ h, cf s [vec n (f i)] h = .ok (ratD (sumN n (f i))) h)
    (ho : ∀ i, i < m → ∀ h, cf o [ratD (v i), ratD (sumN n (f i))] h = .ok (ratD (v i / sumN n (f i))) h)
    (ht : ∀ i, i < m → ∀ j, j < n → ∀ h, cf t [ratD (f i j), ratD (v i / sumN n (f i))] h = .ok (ratD (rowT n f v i j)) h) :
    ∃ ρ', exB T cf (turnB o s t) [some (mat m n f), some (vec m v), none, none, none, none, none] h = .ok (.ret (mat m n (rowT n f v))) ρ' (h ++ [.lst ((List.range m).map fun i => vec n (rowT n f v i))]) := by
  have it : ∀ ρ' h', evI T cf (.zip (.v 0) (.v 1)) (some (mat m n f) :: some (vec m v) :: ρ') h' = .ok ((List.range m).map fun i => .plc [vec n (f i), ratD (v i)]) h' := fun ρ' h' => by
    rw [i_zipT (x := mat m n f) (y := vec m v) (h1 := h') (h2 := h') rfl rfl rfl tupV_mat tupV_vec, zipD_map]
  obtain ⟨ρ', h', e1, ⟨x3, x4, x5, rfl⟩, rfl⟩ := frLoop_inv (turn := fun x ρ h => match evG (.t (.cons (.n 3) (.cons (.n 4) .nil))) ρ x with
      | some ρ1 => exB T cf (.cons (.set 5 (.call o (.cons (.v 4) (.cons (.call s (.cons (.v 3) .nil)) .nil))))
    (.cons (.ex (.mt .append (.v 2) (.cons (.bi .tuple (.lc false [6] (.n 6) (.seq (.v 3)) .nil (.call t (.cons (.v 6) (.cons (.v 5) .nil))))) .nil)))
    .nil)) ρ1 h
      | none => .no)
    (fun i ρ h' => (∃ x3 x4 x5, ρ = [some (mat m n f), some (vec m v), some (.ref h.length), x3, x4, x5, none]) ∧ h' = h ++ [.lst ((List.range i).map fun i => vec n (rowT n f v i))])
    ((List.range m).map fun i => .plc [vec n (f i), ratD (v i)]) 0 [some (mat m n f), some (vec m v), some (.ref h.length), none, none, none, none] (h ++ [.lst []])
    (fun i x ρ h' ex hi => by
      obtain ⟨⟨x3, x4, x5, rfl⟩, rfl⟩ := hi
      rw [Nat.zero_add]
      have il : i < m := by have := (List.getElem?_eq_some_iff.mp ex).1; simpa using this
      rw [range_get _ il] at ex
      cases ex
      refine ⟨_, _, ?_, ⟨some (vec n (f i)), some (ratD (v i)), some (ratD (v i / sumN n (f i))), rfl⟩, rfl⟩
      have lc := lcA (T := T) (cf := cf) (ρ := [some (mat m n f), some (vec m v), some (.ref h.length), some (vec n (f i)), some (ratD (v i)), some (ratD (v i / sumN n (f i))), none]) (h := h ++ [.lst ((List.range i).map fun i => vec n (rowT n f v i))]) (own := [6]) (tg := .n 6) (l := List.range n) (f := fun j => ratD (f i j)) (g := fun j => ratD (rowT n f v i j)) (it := .seq (.v 3)) (e := .call t (.cons (.v 6) (.cons (.v 5) .nil)))
        (by simp) (fun j hj => ⟨_, rfl, by simp [wipeD, ht i il j (List.mem_range.mp hj)]⟩) (by rw [List.length_range]; omega)
      have at_ : (h ++ [MO.lst ((List.range i).map fun i => vec n (rowT n f v i))])[h.length]? = some (.lst ((List.range i).map fun i => vec n (rowT n f v i))) := by
        rw [List.getElem?_append_right (Nat.le_refl _), Nat.sub_self]; rfl
      have ap := mt_app (T := T) (cf := cf) (ρ := [some (mat m n f), some (vec m v), some (.ref h.length), some (vec n (f i)), some (ratD (v i)), some (ratD (v i / sumN n (f i))), none]) (s := 2) (q := h.length) (d := vec n (rowT n f v i)) (e := .bi .tuple (.lc false [6] (.n 6) (.seq (.v 3)) .nil (.call t (.cons (.v 6) (.cons (.v 5) .nil))))) rfl at_ (by rw [v_bi, lc, Res.bind_ok, bi_tup]; rfl) at_ (by simp; omega)
      have st : (h ++ [MO.lst ((List.range i).map fun i => vec n (rowT n f v i))]).set h.length (.lst (((List.range i).map fun i => vec n (rowT n f v i)) ++ [vec n (rowT n f v i)])) = h ++ [.lst ((List.range (i + 1)).map fun i => vec n (rowT n f v i))] := by
        rw [List.set_append_right _ _ (Nat.le_refl _), Nat.sub_self, List.range_succ, List.map_append]; rfl
      rw [st] at ap
      simp only [g_t, gs_cons, gs_nil, g_n, tupV_plc, Option.bind_some, List.set_cons_succ, List.set_cons_zero, s_cons, s_set, v_call, es_cons, es_nil, v_v, List.getElem?_cons_zero, List.getElem?_cons_succ, Res.bind_ok, hs i il, ho i il, Res.st_ok, SR.thn_nx, ap, s_nil])
    ⟨⟨none, none, none, rfl⟩, rfl⟩
  rw [Nat.zero_add, List.length_map, List.length_range] at e1
  refine ⟨[some (mat m n f), some (vec m v), some (.ref h.length), x3, x4, x5, none], ?_⟩
  unfold turnB
  rw [s_cons, s_set, v_lstM, es_nil, Res.bind_ok, if_pos (show ([] : List D).length ≤ sizeLine from Nat.zero_le _)]
  simp only [allocR, Res.st_ok, SR.thn_nx, List.set_cons_succ, List.set_cons_zero]
  rw [s_cons, s_fr, it, Res.st_ok]
  erw [e1]
  have sq : biR .tuple (h ++ [MO.lst ((List.range m).map fun i => vec n (rowT n f v i))]) (.ref h.length) = .ok (mat m n (rowT n f v)) (h ++ [MO.lst ((List.range m).map fun i => vec n (rowT n f v i))]) := by
    have : seqV (h ++ [MO.lst ((List.range m).map fun i => vec n (rowT n f v i))]) (.ref h.length) = some ((List.range m).map fun i => vec n (rowT n f v i)) := by
      show (match (h ++ [MO.lst ((List.range m).map fun i => vec n (rowT n f v i))])[h.length]? with | some (.lst xs) => some xs | _ => none) = _
      rw [List.getElem?_append_right (Nat.le_refl _), Nat.sub_self]; rfl
    show need (seqV _ (.ref h.length)) _ = _
    rw [this]; rfl
  rw [SR.thn_nx, s_cons, s_ret, v_bi, v_v]
  simp only [List.getElem?_cons_zero, List.getElem?_cons_succ, Res.bind_ok, sq, Res.st_ok, SR.thn_ret]
/-- the heap grows -/
def Ext (h h' : Hea) : Prop := ∃ t, h' = h ++ t
theorem Ext.refl : Ext h h := ⟨[], by simp⟩
theorem Ext.trans {h' h'' : Hea} (a : Ext h h') (b : Ext h' h'') : Ext h h'' := by
  obtain ⟨s, rfl⟩ := a
  obtain ⟨t, rfl⟩ := b
  exact ⟨s ++ t, by simp⟩
end Lib
set_option Elab.async false
set_option linter.all false
set_option maxRecDepth 100000
set_option maxHeartbeats 1000000
namespace Lib
open PySem PyI
variable {m n : Nat} {f : Nat → Nat → Rat} {v w : Nat → Rat} {T : Tab} {h : Hea}
/-- the distance from nought -/
def ab (q : Rat) : Rat := if q < 0 then -q else q
end Lib
set_option Elab.async false
set_option linter.all false
set_option maxRecDepth 100000
set_option maxHeartbeats 1000000
namespace Lib
open PySem PyI
variable {m n : Nat} {f : Nat → Nat → Rat} {v w : Nat → Rat} {T : Tab} {h : Hea}
def oneT (n : Nat) (f : Nat → Nat → Rat) (v : Nat → Rat) (a : Nat) : Nat → Nat → Rat := fun i => if i = a then rowT n f v i else f i
end Lib
set_option Elab.async false
set_option linter.all false
set_option maxRecDepth 100000
set_option maxHeartbeats 1000000
namespace Lib
open PySem PyI
variable {m n : Nat} {f g : Nat → Nat → Rat} {v w : Nat → Rat}
theorem sumN_mul (c : Rat) (v : Nat → Rat) : ∀ n, sumN n (fun j => v j * c) = sumN n v * c
  | 0 => by simp
  | n + 1 => by rw [sumN_succ, sumN_succ, sumN_mul c v n]; grind
def sN : Nat → (Nat → Nat) → Nat
  | 0, _ => 0
  | n + 1, g => sN n g + g n
def pN : Nat → (Nat → Nat) → Nat
  | 0, _ => 1
  | n + 1, g => pN n g * g n
theorem sN_cast (g : Nat → Nat) : ∀ n, sumN n (fun j => ((g j : Nat) : Rat)) = ((sN n g : Nat) : Rat)
  | 0 => rfl
  | n + 1 => by rw [sumN_succ, sN_cast g n, sN, Rat.natCast_add]
theorem sN_le {g : Nat → Nat} {b : Nat} : ∀ n, (∀ j, j < n → g j ≤ b) → sN n g ≤ n * b
  | 0, _ => by simp [sN]
  | n + 1, h => by
    have := sN_le n fun j hj => h j (by omega)
    have := h n (by omega)
    rw [sN, Nat.succ_mul]; omega
theorem sN_mem {g : Nat → Nat} {j : Nat} : ∀ n, j < n → g j ≤ sN n g
  | 0, h => by omega
  | n + 1, h => by
    rw [sN]
    by_cases e : j = n
    · subst e; omega
    · have := sN_mem (g := g) n (show j < n by omega); omega
theorem pN_congr {g k : Nat → Nat} : ∀ n, (∀ j, j < n → g j = k j) → pN n g = pN n k
  | 0, _ => rfl
  | n + 1, h => by rw [pN, pN, pN_congr n fun j hj => h j (by omega), h n (by omega)]
theorem pN_pos {g : Nat → Nat} : ∀ n, (∀ j, j < n → 0 < g j) → 0 < pN n g
  | 0, _ => Nat.one_pos
  | n + 1, h => Nat.mul_pos (pN_pos n fun j hj => h j (by omega)) (h n (by omega))
theorem pN_le {g : Nat → Nat} {c : Nat} : ∀ n, (∀ j, j < n → g j ≤ 2 ^ c) → pN n g ≤ 2 ^ (n * c)
  | 0, _ => by simp [pN]
  | n + 1, h => by
    rw [pN, Nat.succ_mul, Nat.pow_add]
    exact Nat.mul_le_mul (pN_le n fun j hj => h j (by omega)) (h n (by omega))
/-- the product but for one -/
def pEx (m : Nat) (M : Nat → Nat) (i : Nat) : Nat := pN m fun k => if k = i then 1 else M k
theorem pEx_mul {M : Nat → Nat} {i : Nat} : ∀ m, i < m → pEx m M i * M i = pN m M
  | 0, h => by omega
  | m + 1, h => by
    show pEx m M i * (if m = i then 1 else M m) * M i = pN m M * M m
    by_cases e : m = i
    · subst e
      rw [if_pos rfl, Nat.mul_one]
      congr 1
      exact pN_congr m fun j hj => if_neg (by omega)
    · rw [if_neg e, Nat.mul_right_comm, pEx_mul m (by omega)]
theorem pEx_le {M : Nat → Nat} {i c : Nat} : ∀ m, i < m → (∀ j, j < m → M j ≤ 2 ^ c) → pEx m M i ≤ 2 ^ ((m - 1) * c)
  | 0, h, _ => by omega
  | m + 1, h, hm => by
    show pEx m M i * (if m = i then 1 else M m) ≤ _
    by_cases e : m = i
    · subst e
      rw [if_pos rfl, Nat.mul_one, Nat.add_sub_cancel]
      have : pEx m M m = pN m M := pN_congr m fun j hj => if_neg (by omega)
      rw [this]
      exact pN_le m fun j hj => hm j (by omega)
    · rw [if_neg e, Nat.add_sub_cancel]
      have ih := pEx_le m (show i < m by omega) fun j hj => hm j (by omega)
      calc pEx m M i * M m ≤ 2 ^ ((m - 1) * c) * 2 ^ c := Nat.mul_le_mul ih (hm m (by omega))
        _ = 2 ^ (m * c) := by
          rw [← Nat.pow_add]
          congr 1
          obtain ⟨k, rfl⟩ : ∃ k, m = k + 1 := ⟨m - 1, by omega⟩
          rw [Nat.add_sub_cancel, Nat.succ_mul]
theorem pEx_pos {M : Nat → Nat} {i m : Nat} (h : ∀ j, j < m → 0 < M j) : 0 < pEx m M i := pN_pos m fun j hj => by split; decide; exact h j hj
end Lib
set_option Elab.async false
set_option linter.all false
set_option maxRecDepth 100000
set_option maxHeartbeats 1000000
namespace Lib
open PySem PyI
/-- q times Q is whole, from nought on -/
def Mu (Q : Nat) (q : Rat) : Prop := ∃ a : Nat, q * (Q : Rat) = (a : Rat)
theorem mu_sz {Q B e : Nat} {q : Rat} (h : Mu Q q) (Q0 : 0 < Q) (QB : Q < 2 ^ B) (l : q ≤ ((2 ^ e : Nat) : Rat)) : Sz (B + e) q := by
  obtain ⟨a, ea⟩ := h
  have q0 : (0 : Rat) ≤ (Q : Rat) := by exact_mod_cast Nat.zero_le Q
  have le : (a : Rat) ≤ ((2 ^ e * Q : Nat) : Rat) := by
    rw [← ea, Rat.natCast_mul]
    exact Rat.mul_le_mul_of_nonneg_right l q0
  have le' : a ≤ 2 ^ e * Q := by exact_mod_cast le
  have h1 : 2 ^ e * Q < 2 ^ (B + e) := by
    rw [Nat.pow_add, Nat.mul_comm]
    exact Nat.mul_lt_mul_of_pos_right QB (Nat.two_pow_pos e)
  have h2 : 2 ^ B ≤ 2 ^ (B + e) := Nat.pow_le_pow_right (by decide) (by omega)
  exact sz_of_mul Q0 ea (by omega) (by omega)
theorem le_pow {q : Rat} {a e : Nat} (h : q ≤ (a : Rat)) (l : a ≤ 2 ^ e) : q ≤ ((2 ^ e : Nat) : Rat) := by
  have : (a : Rat) ≤ ((2 ^ e : Nat) : Rat) := by exact_mod_cast l
  grind
/-- entries of a common divisor below 2 ^ B -/
structure Com (B m n : Nat) (N : Nat → Nat → Rat) : Prop extends Sh m n N where
  le : ∀ i, i < m → ∀ j, j < n → N i j ≤ ((2048 : Nat) : Rat)
  q : ∃ Q : Nat, 0 < Q ∧ Q < 2 ^ B ∧ 420 ∣ Q ∧ ∀ i, i < m → ∀ j, j < n → Mu Q (N i j)
variable {B m n : Nat} {f N : Nat → Nat → Rat} {v w : Nat → Rat}
theorem Com.mono {D : Nat} (C : Com B m n N) (l : B ≤ D) : Com D m n N := ⟨C.toSh, C.le, by
  obtain ⟨Q, h1, h2, h3, h4⟩ := C.q
  exact ⟨Q, h1, Nat.lt_of_lt_of_le h2 (Nat.pow_le_pow_right (by decide) l), h3, h4⟩⟩
theorem Com.item (C : Com B m n N) {i j : Nat} (hi : i < m) (hj : j < n) : Sz (B + 11) (N i j) := by
  obtain ⟨Q, h1, h2, h3, h4⟩ := C.q
  exact mu_sz (h4 i hi j hj) h1 h2 (le_pow (C.le i hi j hj) (by decide))
end Lib
set_option Elab.async false
set_option linter.all false
set_option maxRecDepth 100000
set_option maxHeartbeats 1000000
namespace Lib
open PySem PyI
def flipN (A : Nat → Nat → Nat) : Nat → Nat → Nat := fun j i => A i j
/-- the table 420 times, the sums 420 times -/
structure Bas (m n : Nat) (A : Nat → Nat → Nat) (V : Nat → Nat) : Prop where
  m1 : 1 ≤ m
  m4 : m ≤ 4
  n1 : 1 ≤ n
  n4 : n ≤ 4
  a : ∀ i, i < m → ∀ j, j < n → A i j ≤ 2 ^ 12
  r : ∀ i, i < m → ∃ j, j < n ∧ 0 < A i j
  c : ∀ j, j < n → ∃ i, i < m ∧ 0 < A i j
  v0 : ∀ i, i < m → 0 < V i
  v : ∀ i, i < m → V i ≤ 136080
/-- rows scaled to V, their columns weighed by y -/
structure RowForm (m n : Nat) (A : Nat → Nat → Nat) (V y : Nat → Nat) (B : Nat) (N : Nat → Nat → Rat) : Prop where
  e : ∀ i, i < m → ∀ j, j < n → N i j * ((420 * sN n (fun j => A i j * y j) : Nat) : Rat) = ((V i * A i j * y j : Nat) : Rat)
  y0 : ∀ j, j < n → 0 < y j
  y : ∀ j, j < n → y j ≤ 2 ^ B
variable {m n B : Nat} {A : Nat → Nat → Nat} {V W y : Nat → Nat} {f N : Nat → Nat → Rat} {v w : Nat → Rat}
section
variable (S : Bas m n A V) (F : RowForm m n A V y B N)
include S F
theorem RowForm.m0 {i : Nat} (hi : i < m) : 0 < sN n (fun j => A i j * y j) := by
  obtain ⟨j, hj, a⟩ := S.r i hi
  exact Nat.lt_of_lt_of_le (Nat.mul_pos a (F.y0 j hj)) (sN_mem (g := fun j => A i j * y j) n hj)
theorem RowForm.mle {i : Nat} (hi : i < m) : sN n (fun j => A i j * y j) ≤ 2 ^ (B + 14) := by
  have h1 := sN_le (g := fun j => A i j * y j) (b := 2 ^ 12 * 2 ^ B) n fun j hj => Nat.mul_le_mul (S.a i hi j hj) (F.y j hj)
  have h2 : n * (2 ^ 12 * 2 ^ B) ≤ 4 * (2 ^ 12 * 2 ^ B) := Nat.mul_le_mul_right _ S.n4
  have h3 : (4 : Nat) * (2 ^ 12 * 2 ^ B) = 2 ^ (B + 14) := by
    rw [Nat.pow_add 2 B 14]; omega
  omega
theorem RowForm.le {i j : Nat} (hi : i < m) (hj : j < n) : N i j ≤ ((324 : Nat) : Rat) := by
  have h0 := F.m0 S hi
  have e := F.e i hi j hj
  have k0 : (0 : Rat) < ((420 * sN n (fun j => A i j * y j) : Nat) : Rat) := by exact_mod_cast (by omega)
  have l1 : V i * A i j * y j ≤ 136080 * sN n (fun j => A i j * y j) := by
    rw [Nat.mul_assoc]
    exact Nat.mul_le_mul (S.v i hi) (sN_mem (g := fun j => A i j * y j) n hj)
  have l2 : ((V i * A i j * y j : Nat) : Rat) ≤ ((324 * (420 * sN n (fun j => A i j * y j)) : Nat) : Rat) := by exact_mod_cast (by omega)
  rw [← e, Rat.natCast_mul 324] at l2
  exact Rat.le_of_mul_le_mul_right l2 k0
theorem RowForm.row {i : Nat} (hi : i < m) : ∃ Q : Nat, 0 < Q ∧ Q < 2 ^ (B + 24) ∧ ∀ j, j < n → Mu Q (N i j) := by
  have h0 := F.m0 S hi
  have h1 := F.mle S hi
  have p1 : (2 : Nat) ^ (B + 24) = 1024 * 2 ^ (B + 14) := by rw [show B + 24 = (B + 14) + 10 by omega, Nat.pow_add 2 (B + 14) 10]; omega
  exact ⟨_, by omega, by omega, fun j hj => ⟨_, F.e i hi j hj⟩⟩
/-- the columns' turn behind it -/
theorem RowForm.step (hw : ∀ j, j < n → w j * 420 = ((W j : Nat) : Rat)) : RowForm n m (flipN A) W (fun i => V i * pEx m (fun i => sN n (fun j => A i j * y j)) i) (18 + (m - 1) * (B + 14)) (rowT m (flip N) w) := by
  refine ⟨fun j hj i hi => ?_, fun i hi => Nat.mul_pos (S.v0 i hi) (pEx_pos fun k hk => F.m0 S hk), fun i hi => ?_⟩
  · show flip N j i * (w j / sumN m (flip N j)) * ((420 * sN m (fun i => A i j * (V i * pEx m (fun i => sN n (fun j => A i j * y j)) i)) : Nat) : Rat) = ((W j * A i j * (V i * pEx m (fun i => sN n (fun j => A i j * y j)) i) : Nat) : Rat)
    obtain ⟨x, ex⟩ : ∃ x : Nat → Nat, x = fun i => V i * pEx m (fun i => sN n (fun j => A i j * y j)) i := ⟨_, rfl⟩
    have exi : ∀ i, V i * pEx m (fun i => sN n (fun j => A i j * y j)) i = x i := fun i => by rw [ex]
    simp only [exi]
    obtain ⟨P, eP⟩ : ∃ P : Nat, P = 420 * pN m (fun i => sN n (fun j => A i j * y j)) := ⟨_, rfl⟩
    have P0 : 0 < P := by
      have := pN_pos (g := fun i => sN n (fun j => A i j * y j)) m fun i hi => F.m0 S hi
      omega
    have each : ∀ i, i < m → N i j * (P : Rat) = ((A i j * x i : Nat) : Rat) * (y j : Rat) := fun i hi => by
      rw [eP, ← pEx_mul m hi, ← Nat.mul_assoc, Nat.mul_right_comm, Rat.natCast_mul _ (pEx _ _ _)]
      have := F.e i hi j hj
      rw [← exi, Rat.natCast_mul (A i j), Rat.natCast_mul (V i)]
      rw [Rat.natCast_mul (V i * A i j), Rat.natCast_mul (V i)] at this
      grind
    have sum : sumN m (flip N j) * (P : Rat) = ((sN m (fun i => A i j * x i) : Nat) : Rat) * (y j : Rat) := by
      rw [← sumN_mul, ← sN_cast, ← sumN_mul]
      exact sumN_congr fun i hi => each i hi
    have L0 : 0 < sN m (fun i => A i j * x i) := by
      obtain ⟨i, hi, a⟩ := S.c j hj
      refine Nat.lt_of_lt_of_le (Nat.mul_pos a ?_) (sN_mem (g := fun i => A i j * x i) m hi)
      rw [← exi]
      exact Nat.mul_pos (S.v0 i hi) (pEx_pos fun k hk => F.m0 S hk)
    have e1 := each i hi
    have e2 := hw j hj
    obtain ⟨s, es⟩ : ∃ s, s = sumN m (flip N j) := ⟨_, rfl⟩
    obtain ⟨L, eL⟩ : ∃ L, L = sN m (fun i => A i j * x i) := ⟨_, rfl⟩
    rw [← es, ← eL] at sum
    rw [← es, ← eL]
    rw [← eL] at L0
    show N i j * (w j / s) * ((420 * L : Nat) : Rat) = ((W j * A i j * x i : Nat) : Rat)
    have PR : (P : Rat) ≠ 0 := by
      have : (0 : Rat) < (P : Rat) := by exact_mod_cast P0
      grind
    have LR : (L : Rat) ≠ 0 := by
      have : (0 : Rat) < (L : Rat) := by exact_mod_cast L0
      grind
    have yR : (y j : Rat) ≠ 0 := by
      have : (0 : Rat) < (y j : Rat) := by exact_mod_cast F.y0 j hj
      grind
    have sR : s ≠ 0 := fun z => by
      rw [z] at sum
      have : (L : Rat) * (y j : Rat) = 0 := by rw [← sum]; simp
      rcases Rat.mul_eq_zero.mp this with h | h
      · exact LR h
      · exact yR h
    have key : N i j * (L : Rat) = ((A i j * x i : Nat) : Rat) * s := by
      have : (N i j * (L : Rat)) * ((P : Rat) * (y j : Rat)) = (((A i j * x i : Nat) : Rat) * s) * ((P : Rat) * (y j : Rat)) := by
        have a1 : (N i j * (L : Rat)) * ((P : Rat) * (y j : Rat)) = (N i j * (P : Rat)) * ((L : Rat) * (y j : Rat)) := by grind
        rw [a1, e1, ← sum]; grind
      have nz : (P : Rat) * (y j : Rat) ≠ 0 := fun z => by
        rcases Rat.mul_eq_zero.mp z with h | h
        · exact PR h
        · exact yR h
      grind
    rw [Rat.natCast_mul 420, Nat.mul_assoc, Rat.natCast_mul (W j), ← e2]
    have : N i j * (w j / s) * (((420 : Nat) : Rat) * (L : Rat)) = (N i j * (L : Rat)) * (w j * ((420 : Nat) : Rat)) / s := by grind
    rw [this, key, show ((420 : Nat) : Rat) = 420 from rfl]
    grind
  · have h1 := pEx_le (M := fun i => sN n (fun j => A i j * y j)) (c := B + 14) m hi fun k hk => F.mle S hk
    have h2 : V i ≤ 2 ^ 18 := Nat.le_trans (S.v i hi) (by decide)
    rw [Nat.pow_add]
    exact Nat.mul_le_mul h2 h1
end
end Lib
set_option Elab.async false
set_option linter.all false
set_option maxRecDepth 100000
set_option maxHeartbeats 1000000
namespace Lib
open PySem PyI
/-- the size of the weights in the t-th table -/
def Bd (m n : Nat) : Nat → Nat
  | 0 => 0
  | 1 => 0
  | t + 2 => 18 + ((if t % 2 = 0 then m else n) - 1) * (Bd m n (t + 1) + 14)
variable {m n : Nat} {A : Nat → Nat → Nat} {V W : Nat → Nat} {f : Nat → Nat → Rat} {v w : Nat → Rat}
end Lib
set_option Elab.async false
set_option linter.all false
set_option maxRecDepth 100000
set_option maxHeartbeats 1000000
namespace Lib
open PySem PyI
theorem str_ne (h : Hea) (x : Str) : cmpR .ne h (.str x) (.str x) = some false := by
  show some (!decide (x = x)) = _
  simp
end Lib
set_option Elab.async false
set_option linter.all false
set_option maxRecDepth 100000
set_option maxHeartbeats 1000000
namespace Lib
open PySem PyI
end Lib
set_option Elab.async false
set_option linter.all false
set_option maxRecDepth 100000
set_option maxHeartbeats 0
namespace K68
open PySem PyI Lib
def b_law_k68 : Ss := (.cons (.set 1 (.call 254 (.cons (.v 0) .nil)))
    (.cons (.fr (.n 2) (.rng1 (.int 2))
   (.cons (.set 3 (.call 244 (.cons (.v 1) (.cons (.lst (.cons (.str "") (.cons (.str "a") (.cons (.str "no table") (.cons (.bin .mul (.str "x") (.call 380 (.cons (.v 1) (.cons (.int 99) .nil)))) .nil))))) .nil))))
    (.cons (.set 4 (.lst (.cons (.exn 1 (.v 3)) (.cons (.exn 2 (.v 3)) (.cons (.exn 3 (.v 3)) (.cons (.exn 4 (.v 3)) (.cons (.exn 5 (.v 3)) (.cons (.exn 6 (.v 3)) .nil))))))))
    (.cons (.set 4 (.bin .add (.v 4) (.lst (.cons (.exn 7 (.v 3)) (.cons (.exn 8 (.v 3)) (.cons (.exn 9 (.v 3)) (.cons (.exn 10 (.v 3)) (.cons (.exn 11 (.v 3)) .nil))))))))
    (.cons (.set 4 (.bin .add (.v 4) (.lst (.cons (.exn 12 (.v 3)) (.cons (.exn 13 (.v 3)) (.cons (.exn 14 (.v 3)) (.cons (.exn 15 (.v 3)) (.cons (.exn 16 (.v 3)) .nil))))))))
    (.cons (.par [5, 6] (.cons (.exn 0 (.v 3)) (.cons (.lstM (.cons (.lam 56 (.call 678 (.cons (.str "1") (.cons (.int 1) .nil)))) .nil)) .nil)))
    (.cons (.ex (.mt .append (.v 6) (.cons (.lam 56 (.call 466 (.cons .non (.cons (.int 1) .nil)))) .nil)))
    (.cons (.iff (.cmp .ne (.call 202 (.cons (.sub (.v 6) (.int 0)) .nil)) (.lc false [9] (.n 9) (.rng1 (.int 16)) .nil (.cmp .eq (.v 9) (.int 0))))
   (.cons (.ret (.bl false))
    .nil)
   .nil)
    (.cons (.iff (.cmp .ne (.call 202 (.cons (.sub (.v 6) (.int 1)) .nil)) (.lc false [9] (.n 9) (.rng1 (.int 16)) .nil (.cmp .eq (.v 9) (.int 4))))
   (.cons (.ret (.bl false))
    .nil)
   .nil)
    (.cons (.iff (.or (.cmp .ne (.call 202 (.cons (.v 5) .nil)) (.bin .mulL (.lst (.cons (.bl false) .nil)) (.int 16))) (.nt (.isx .val (.v 5))))
   (.cons (.ret (.bl false))
    .nil)
   .nil)
    (.cons (.fr (.t (.cons (.n 7) (.cons (.n 8) .nil))) (.enum (.v 4))
   (.cons (.iff (.cmp .ne (.call 202 (.cons (.v 8) .nil)) (.lc false [9] (.n 9) (.rng1 (.int 16)) .nil (.cmp .eq (.v 9) (.v 7))))
   (.cons (.ret (.bl false))
    .nil)
   .nil)
    (.cons (.iff (.or (.cmp .ne (.strx (.v 8)) (.v 3)) (.nt (.isx (.own 0) (.v 8))))
   (.cons (.ret (.bl false))
    .nil)
   .nil)
    (.cons (.iff (.or (.nt (.isx .val (.v 8))) (.isx .look (.v 8)))
   (.cons (.ret (.bl false))
    .nil)
   .nil)
    .nil))))
    .nil)))))))))))
    (.cons (.ret (.bl true))
    .nil)))
class H_law_k68 (T : Tab) : Prop where e : T.fn 624 = some ⟨"law", 1, 10, b_law_k68⟩
def b_law_kinds_of : Ss := (.cons (.set 1 (.lst (.cons (.isx (.own 1) (.v 0)) (.cons (.isx (.own 2) (.v 0)) (.cons (.isx (.own 3) (.v 0)) (.cons (.isx (.own 4) (.v 0)) .nil))))))
    (.cons (.set 1 (.bin .add (.v 1) (.lst (.cons (.isx (.own 5) (.v 0)) (.cons (.isx (.own 6) (.v 0)) (.cons (.isx (.own 7) (.v 0)) .nil))))))
    (.cons (.set 1 (.bin .add (.v 1) (.lst (.cons (.isx (.own 8) (.v 0)) (.cons (.isx (.own 9) (.v 0)) (.cons (.isx (.own 10) (.v 0)) .nil))))))
    (.cons (.set 1 (.bin .add (.v 1) (.lst (.cons (.isx (.own 11) (.v 0)) (.cons (.isx (.own 12) (.v 0)) (.cons (.isx (.own 13) (.v 0)) .nil))))))
    (.cons (.ret (.bin .add (.v 1) (.lst (.cons (.isx (.own 14) (.v 0)) (.cons (.isx (.own 15) (.v 0)) (.cons (.isx (.own 16) (.v 0)) .nil))))))
    .nil)))))
class H_law_kinds_of (T : Tab) : Prop where e : T.fn 202 = some ⟨"_law_kinds_of", 1, 2, b_law_kinds_of⟩
def t_law_caught : TFn := ⟨"_law_caught", .caught, [(0, .non)], .non⟩
def tab : Tab where
  fns := [(542, ⟨"is_integer", 1, 1, b_is_integer⟩),
    (560, ⟨"is_within", 3, 3, b_is_within⟩),
    (482, ⟨"divisor_of", 2, 2, b_divisor_of⟩),
    (732, ⟨"raw_number", 2, 3, b_raw_number⟩),
    (548, ⟨"is_number", 1, 1, b_is_number⟩),
    (678, ⟨"number_of", 2, 2, b_number_of⟩),
    (742, ⟨"raw_plus", 2, 2, b_raw_plus⟩),
    (748, ⟨"raw_times", 2, 2, b_raw_times⟩),
    (736, ⟨"raw_over", 2, 3, b_raw_over⟩),
    (790, ⟨"sum_of", 1, 3, b_sum_of⟩),
    (552, ⟨"is_row", 1, 2, b_is_row⟩),
    (474, ⟨"columns_of", 1, 3, b_columns_of⟩),
    (558, ⟨"is_table", 1, 3, b_is_table⟩),
    (454, ⟨"are_sums", 2, 2, b_are_sums⟩),
    (532, ⟨"is_case", 1, 1, b_is_case⟩),
    (658, ⟨"need_case", 1, 1, b_need_case⟩),
    (746, ⟨"raw_rows", 2, 7, b_raw_rows⟩),
    (802, ⟨"turned_round", 1, 1, b_turned_round⟩),
    (718, ⟨"raw_columns", 2, 2, b_raw_columns⟩),
    (452, ⟨"are_small", 1, 4, b_are_small⟩),
    (664, ⟨"need_small", 1, 1, b_need_small⟩),
    (714, ⟨"raw_behind", 2, 6, b_raw_behind⟩),
    (466, ⟨"behind", 2, 2, b_behind⟩),
    (254, ⟨"_law_open", 1, 4, b_law_open⟩),
    (362, ⟨"_law_spread", 2, 6, b_law_spread⟩),
    (380, ⟨"_law_take", 2, 5, b_law_take⟩),
    (244, ⟨"_law_one_of", 2, 2, b_law_one_of⟩),
    (202, ⟨"_law_kinds_of", 1, 2, b_law_kinds_of⟩),
    (624, ⟨"law", 1, 10, b_law_k68⟩)]
  cns := [(0, "NOUGHT", .tup [.int 0, .int 1]), (2, "MOST_SIDE", .int 6), (3, "MOST_NUMBER", .int 100000000000000000000000000000000000000000000000000000000000000000000000000000000000000000000000000000000000000000000000000000000000000000000000000000000000000000000000000000000000000000000000000000000000000000000000000000000000000000000000000000000000000000000000000000000000000000000000000000000000000000000000000000000000000000000000000000000000000000000000000000000000000000000000000000000000000000000000000000000000000000000000000000000000000000000000000000000000000000000000000000000000000000000000000000000000000000000000000000000000000000000000000000000000000000000000000000000000000000000000000000000000000000000000000000000000000000000000000000000000000000000000000000000000000000000000000000000000000000000000000000000000000000000000000000000000000000000000000000000000000000000000000000000000000000000000000000000000000000000000000000000000000000000000000000000000000000000000000000000000000000000000000000000000000000000000000000000000000000000000000000000000000000000000000000000000000000000000000000000000000000000000000000000000000000000000000000000000000000000000000000000000000000000000000000000000000000000000000000000000000000000000000000000000000000000000000000000000000000000000000000000000000000000000000000000000000000000000000000000000000000000000000000000000000000000000000000000000000000000000000000000000000000000000000000000000000000000000000000000000000000000000000000000000000000000000000000000000000000000000000000000000000000000000000000000000000000000000000000000000000000000000000000000000000000000000000000000000000000000000000000000000000000000000000000000000000000000000000000000000000000000000000000000000000000000000000000000000000000000000000000000000000000000000000000000000000000000000000000000000000000000000000000000000000000000000000000000000000000000000000000000000000000000000000000000000000000000000000000000000000000000000000000000000000000000000000000000000000000000000000000000000000000000000000000000000000000000000000000000000000000000000000000000), (4, "MOST_TURNS", .int 6)]
  exs := [(0, "ScaleError"), (1, "NoNumber"), (2, "NoDivisor"), (3, "NoTable"), (4, "NoSums"), (5, "NoCase"), (6, "NoPlace"), (7, "NoRing"), (8, "NoMatch"), (9, "NoCount"), (10, "NoKind"), (11, "NoSheet"), (12, "NoTurn"), (13, "NoUndo"), (14, "NoThings"), (15, "ManyRings"), (16, "TooGreat")]
  tfs := [(56, t_law_caught)]
  mts := []
  xvs := true
  cls := []
instance : H_is_integer tab := ⟨rfl⟩
instance : H_is_within tab := ⟨rfl⟩
instance : H_divisor_of tab := ⟨rfl⟩
instance : H_raw_number tab := ⟨rfl⟩
instance : H_is_number tab := ⟨rfl⟩
instance : H_number_of tab := ⟨rfl⟩
instance : H_raw_plus tab := ⟨rfl⟩
instance : H_raw_times tab := ⟨rfl⟩
instance : H_raw_over tab := ⟨rfl⟩
instance : H_sum_of tab := ⟨rfl⟩
instance : H_is_row tab := ⟨rfl⟩
instance : H_columns_of tab := ⟨rfl⟩
instance : H_is_table tab := ⟨rfl⟩
instance : H_are_sums tab := ⟨rfl⟩
instance : H_is_case tab := ⟨rfl⟩
instance : H_need_case tab := ⟨rfl⟩
instance : H_raw_rows tab := ⟨rfl⟩
instance : H_turned_round tab := ⟨rfl⟩
instance : H_raw_columns tab := ⟨rfl⟩
instance : H_are_small tab := ⟨rfl⟩
instance : H_need_small tab := ⟨rfl⟩
instance : H_raw_behind tab := ⟨rfl⟩
instance : H_behind tab := ⟨rfl⟩
instance : H_law_open tab := ⟨rfl⟩
instance : H_law_spread tab := ⟨rfl⟩
instance : H_law_take tab := ⟨rfl⟩
instance : H_law_one_of tab := ⟨rfl⟩
instance : H_law_kinds_of tab := ⟨rfl⟩
instance : H_law_k68 tab := ⟨rfl⟩
instance : C_NOUGHT tab := ⟨rfl⟩
instance : C_MOST_SIDE tab := ⟨rfl⟩
instance : C_MOST_NUMBER tab := ⟨rfl⟩
instance : C_MOST_TURNS tab := ⟨rfl⟩
abbrev lawIx : Nat := 624
end K68
set_option Elab.async false
set_option linter.all false
set_option maxRecDepth 100000
set_option maxHeartbeats 0
namespace K68
open PySem PyI Lib L2
abbrev top (i : Nat) : Stmt := PySem.Challenge.pw_turnscaled_k68_errors_by_hand.main.body.getD i (.Pass ⟨0, 0, 0, 0⟩)
def row (x : Str) (i : Nat) (N : List Str) (lam : Bool := false) : Row := ⟨x, defArgs (top i), defBody (top i), defScope (top i), N, lam⟩
def rows : List Row := [row "is_integer" 20 ["thing"],
  row "is_within" 21 ["thing", "least", "most"],
  row "divisor_of" 22 ["a", "b"],
  row "raw_number" 23 ["n", "d", "common"],
  row "is_number" 24 ["thing"],
  row "number_of" 25 ["n", "d"],
  row "raw_plus" 26 ["a", "b"],
  row "raw_times" 27 ["a", "b"],
  row "raw_over" 28 ["a", "b", "sign"],
  row "sum_of" 29 ["numbers", "found", "number"],
  row "is_row" 32 ["thing", "one"],
  row "columns_of" 33 ["table", "j", "row"],
  row "is_table" 34 ["thing", "some", "row"],
  row "are_sums" 35 ["thing", "many"],
  row "is_case" 36 ["thing"],
  row "need_case" 37 ["thing"],
  row "raw_rows" 41 ["table", "rows", "found", "row", "due", "factor", "number"],
  row "turned_round" 42 ["table"],
  row "raw_columns" 43 ["table", "columns"],
  row "are_small" 44 ["table", "row", "n", "d"],
  row "need_small" 45 ["table"],
  row "raw_behind" 46 ["case", "k", "turn", "table", "rows", "columns"],
  row "behind" 47 ["case", "k"],
  row "_law_open" 49 ["_law_script", "_law_cells", "_law_k", "_law_cell"],
  row "_law_spread" 50 ["_law_cell", "_law_k", "_law_primes", "_law_one", "_law_two", "_law_three"],
  row "_law_take" 51 ["_law_pen", "_law_many", "_law_found", "_law_k", "_law_cell"],
  row "_law_one_of" 52 ["_law_pen", "_law_some"],
  row "_law_kinds_of" 53 ["_law_one", "_law_found"],
  row "law" 55 ["_law_script", "_law_pen", "_law_turn", "_law_text", "_law_errors", "_law_base", "_law_held", "_law_k", "_law_one", "_law_j"] true]
def trows : List Row := [row "_law_caught" 54 ["_law_call", "e"]]
def inCls : Stmt → List Stmt
  | .ClassDef _ _ _ body _ _ _ _ _ _ _ => body
  | _ => []
abbrev sub (i j : Nat) : Stmt := (inCls (top i)).getD j (.Pass ⟨0, 0, 0, 0⟩)
def mrows : List MRow := []
theorem mrows_ok : mrowsB tab mrows tab.mts = true := by decide +kernel
theorem cls_ok : clsB tab = true := by decide +kernel
theorem rowsB_step {T : Tab} : ∀ (n : Nat) {rs : List Row} {fs : List (Nat × Fn)}, rowsB T (rs.take n) (fs.take n) = true → rowsB T (rs.drop n) (fs.drop n) = true → rowsB T rs fs = true
  | 0, _, _, _, h => h
  | _ + 1, [], [], _, _ => rfl
  | _ + 1, [], _ :: _, h, _ => (by cases h)
  | _ + 1, _ :: _, [], h, _ => (by cases h)
  | n + 1, r :: rs, f :: fs, h, h2 => by
    have h : (rowB T r f.2 && rowsB T (rs.take n) (fs.take n)) = true := h
    rw [Bool.and_eq_true] at h
    show (rowB T r f.2 && rowsB T rs fs) = true
    rw [h.1, rowsB_step n h.2 h2]; rfl
theorem rk_0 : rowsB tab ((rows).take 6) ((tab.fns).take 6) = true := by decide +kernel
theorem rk_1 : rowsB tab (((rows).drop 6).take 6) (((tab.fns).drop 6).take 6) = true := by decide +kernel
theorem rk_2 : rowsB tab ((((rows).drop 6).drop 6).take 6) ((((tab.fns).drop 6).drop 6).take 6) = true := by decide +kernel
theorem rk_3 : rowsB tab (((((rows).drop 6).drop 6).drop 6).take 6) (((((tab.fns).drop 6).drop 6).drop 6).take 6) = true := by decide +kernel
theorem rk_4 : rowsB tab (((((rows).drop 6).drop 6).drop 6).drop 6) (((((tab.fns).drop 6).drop 6).drop 6).drop 6) = true := by decide +kernel
theorem rows_ok : rowsB tab rows tab.fns = true := rowsB_step 6 rk_0 (rowsB_step 6 rk_1 (rowsB_step 6 rk_2 (rowsB_step 6 rk_3 (rk_4))))
theorem trows_ok : trowsB tab trows tab.tfs = true := by decide +kernel
theorem bds : BdAll rows tab.fns := ⟨(fun _ _ _ _ _ _ us hl => match us, hl with | [_], _ => rfl), (fun _ _ _ _ _ _ us hl => match us, hl with | [_, _, _], _ => rfl), (fun _ _ _ _ _ _ us hl => match us, hl with | [_, _], _ => rfl), (fun _ _ _ _ _ _ us hl => match us, hl with | [_, _], _ => rfl), (fun _ _ _ _ _ _ us hl => match us, hl with | [_], _ => rfl), (fun _ _ _ _ _ _ us hl => match us, hl with | [_, _], _ => rfl), (fun _ _ _ _ _ _ us hl => match us, hl with | [_, _], _ => rfl), (fun _ _ _ _ _ _ us hl => match us, hl with | [_, _], _ => rfl), (fun _ _ _ _ _ _ us hl => match us, hl with | [_, _], _ => rfl), (fun _ _ _ _ _ _ us hl => match us, hl with | [_], _ => rfl), (fun _ _ _ _ _ _ us hl => match us, hl with | [_], _ => rfl), (fun _ _ _ _ _ _ us hl => match us, hl with | [_], _ => rfl), (fun _ _ _ _ _ _ us hl => match us, hl with | [_], _ => rfl), (fun _ _ _ _ _ _ us hl => match us, hl with | [_, _], _ => rfl), (fun _ _ _ _ _ _ us hl => match us, hl with | [_], _ => rfl), (fun _ _ _ _ _ _ us hl => match us, hl with | [_], _ => rfl), (fun _ _ _ _ _ _ us hl => match us, hl with | [_, _], _ => rfl), (fun _ _ _ _ _ _ us hl => match us, hl with | [_], _ => rfl), (fun _ _ _ _ _ _ us hl => match us, hl with | [_, _], _ => rfl), (fun _ _ _ _ _ _ us hl => match us, hl with | [_], _ => rfl), (fun _ _ _ _ _ _ us hl => match us, hl with | [_], _ => rfl), (fun _ _ _ _ _ _ us hl => match us, hl with | [_, _], _ => rfl), (fun _ _ _ _ _ _ us hl => match us, hl with | [_, _], _ => rfl), (fun _ _ _ _ _ _ us hl => match us, hl with | [_], _ => rfl), (fun _ _ _ _ _ _ us hl => match us, hl with | [_, _], _ => rfl), (fun _ _ _ _ _ _ us hl => match us, hl with | [_, _], _ => rfl), (fun _ _ _ _ _ _ us hl => match us, hl with | [_, _], _ => rfl), (fun _ _ _ _ _ _ us hl => match us, hl with | [_], _ => rfl), (fun _ _ _ _ _ _ us hl => match us, hl with | [_], _ => rfl), trivial⟩
theorem tbds : TbAll trows := ⟨(fun _ _ _ _ _ _ us hl => match us, hl with | [_], _ => rfl), trivial⟩
theorem mds : MdAll mrows tab.mts := trivial
abbrev R : PySem.W.OpenRow := PySem.W.OpenLaw.row PySem.Challenge.rw_turnscaled_k68_errors_by_hand
def loose : List PySem.Str := (["ScaleError", "NoNumber", "NoDivisor", "NoTable", "NoSums", "NoCase", "NoPlace", "NoRing", "NoMatch", "NoCount", "NoKind", "NoSheet", "NoTurn", "NoUndo", "NoThings", "ManyRings", "TooGreat", "NOUGHT", "is_integer", "is_within", "divisor_of", "raw_number", "is_number", "number_of", "raw_plus", "raw_times", "raw_over", "sum_of", "MOST_SIDE", "is_row", "columns_of", "is_table", "are_sums", "is_case", "need_case", "MOST_TURNS", "MOST_NUMBER", "raw_rows", "turned_round", "raw_columns", "are_small", "need_small", "raw_behind", "behind", "_law_open", "_law_spread", "_law_take", "_law_one_of", "_law_kinds_of", "_law_caught"] : List String).map PySem.Str.ofString
theorem run (w : World) : HandSHeadRun.RunEq R (PySem.W.view R.prog [55]) (hookP 2 tab rows trows mrows) (obT 2 tab rows trows mrows) 8000 loose w := by
  intro os
  kernel_rfl
open PySem PySem.W PySem.Calls PyProof.Rows
theorem holds_of (law : ∀ ns : List Int, ns.length ≤ 63 → ∃ h, PyI.callF tab 30 lawIx [.scr (ns.map PyI.D.int)] [] = .ok (.bl true) h) : PySem.Challenge.rw_turnscaled_k68_errors_by_hand.Holds := by
  w_on; o_law
  refine HandSHeadRun.head_any (r := OpenLaw.row PySem.Challenge.rw_turnscaled_k68_errors_by_hand) (q := view (OpenLaw.row PySem.Challenge.rw_turnscaled_k68_errors_by_hand).prog [55]) (H := PyI.hookP 2 tab rows trows mrows) (ob := PyI.obT 2 tab rows trows mrows) (M := 8000) (loose := loose) (d := HandSHeadRun.topDef (OpenLaw.row PySem.Challenge.rw_turnscaled_k68_errors_by_hand).prog 55) (kwd := []) PyI.obT_eq
    (by kernel_rfl) (fun s => by kernel_rfl) run (by kernel_rfl) (by kernel_rfl) (by kernel_rfl) (by rfl) (by first | assumption | decide +kernel) (by decide +kernel) ⟨rfl, rfl, rfl, rfl, rfl, by decide +kernel⟩ ?hw ?hc
  case hw => w_witness2
  case hc =>
    exact PyI.walk_P (l := PySem.Challenge.rw_turnscaled_k68_errors_by_hand) (n := 63) (k := 29) (i := lawIx) (j := 28) (x := "_law_script") rfl (by decide) (by kernel_rfl) ⟨rfl, by decide, by decide⟩ rows_ok trows_ok mrows_ok cls_ok bds tbds mds rfl rfl rfl (by decide +kernel) (by kernel_rfl) rfl (by decide +kernel) law
end K68
set_option Elab.async false
set_option linter.all false
set_option maxRecDepth 100000
set_option maxHeartbeats 0
namespace Lib
open PySem PyI
end Lib
set_option Elab.async false
set_option linter.all false
set_option maxRecDepth 100000
set_option maxHeartbeats 1000000
namespace Lib
open PySem PyI
section
variable {T : Tab} {cf : Nat → List D → Hea → Res D} {ρ ρ1 ρ2 : PyI.Loc} {h h1 h2 h3 : Hea} {s : S} {ss : Ss} {r : SR} {e a b c : E} {d x y z : D} {i : Nat} {es : Es} {ds : List D} {k : Bool} {A B : Ss}
/-- one turn of a loop -/
noncomputable def tn (T : Tab) (cf : Nat → List D → Hea → Res D) (t : Tg) (B : Ss) : D → PyI.Loc → Hea → SR := fun x ρ h => match evG t ρ x with | some ρ1 => exB T cf B ρ1 h | none => .no
theorem b_cons (e1 : exS T cf s ρ h = .ok .nx ρ1 h1) (e2 : exB T cf ss ρ1 h1 = r) : exB T cf (.cons s ss) ρ h = r := by rw [s_cons, e1]; exact e2
theorem b_ret (e1 : (ev T cf e).val ρ h = .ok d h1) : exB T cf (.cons (.ret e) ss) ρ h = .ok (.ret d) ρ h1 := by rw [s_cons, s_ret, e1]; rfl
theorem x_set (e1 : (ev T cf e).val ρ h = .ok d h1) : exS T cf (.set i e) ρ h = .ok .nx (ρ.set i (some d)) h1 := by rw [s_set, e1]; rfl
theorem x_par {is : List Nat} (e1 : evs T cf es ρ h = .ok ds h1) (e2 : setAll ρ is ds = some ρ1) : exS T cf (.par is es) ρ h = .ok .nx ρ1 h1 := by rw [s_par, e1, Res.st_ok, e2]
theorem x_f (e1 : (ev T cf c).tst ρ h = .ok false h1) (e2 : exB T cf B ρ h1 = r) : exS T cf (.iff c A B) ρ h = r := by rw [s_if, e1, Res.st_ok, if_neg Bool.false_ne_true, e2]
theorem x_skip (e1 : (ev T cf c).tst ρ h = .ok false h1) : exS T cf (.iff c A .nil) ρ h = .ok .nx ρ h1 := x_f e1 rfl
theorem x_fr {t : Tg} {it : It} {xs : List D} (e1 : evI T cf it ρ h = .ok xs h1) (e2 : frLoop (tn T cf t B) xs ρ h1 = r) : exS T cf (.fr t it B) ρ h = r := by
  rw [s_fr, e1, Res.st_ok]; exact e2
theorem tn_of {t : Tg} (e1 : evG t ρ x = some ρ1) : tn T cf t B x ρ h = exB T cf B ρ1 h := by
  unfold tn; rw [e1]
theorem e_v (e1 : ρ[i]? = some (some d)) : (ev T cf (.v i)).val ρ h = .ok d h := by rw [v_v, e1]
theorem e_bin {o : BOp} (e1 : (ev T cf a).val ρ h = .ok x h1) (e2 : (ev T cf b).val ρ h1 = .ok y h2) (e3 : binR o h2 x y = .ok z h3) : (ev T cf (.bin o a b)).val ρ h = .ok z h3 := by rw [v_bin, e1, Res.bind_ok, e2, Res.bind_ok, e3]
theorem e_call {f : Nat} (e1 : evs T cf es ρ h = .ok ds h1) (e2 : cf f ds h1 = .ok d h2) : (ev T cf (.call f es)).val ρ h = .ok d h2 := by rw [v_call, e1, Res.bind_ok, e2]
theorem e_sub (e1 : (ev T cf a).val ρ h = .ok x h1) (e2 : (ev T cf b).val ρ h1 = .ok y h2) (e3 : subR h2 x y = some d) : (ev T cf (.sub a b)).val ρ h = .ok d h2 := by rw [v_sub, e1, Res.bind_ok, e2, Res.bind_ok, e3, need_some]
theorem e_lst (e1 : evs T cf es ρ h = .ok ds h1) (l : ds.length ≤ 1000) : (ev T cf (.lst es)).val ρ h = .ok (.lst ds) h1 := by rw [v_lst, e1, Res.bind_ok, if_pos (le_size l)]
theorem es_c (e1 : (ev T cf e).val ρ h = .ok x h1) (e2 : evs T cf es ρ h1 = .ok ds h2) : evs T cf (.cons e es) ρ h = .ok (x :: ds) h2 := by rw [es_cons, e1, Res.bind_ok, e2, Res.bind_ok]
theorem es_n : evs T cf .nil ρ h = .ok [] h := rfl
theorem t_cmp1 {o : COp} (e1 : (ev T cf a).val ρ h = .ok x h1) (e2 : (ev T cf b).val ρ h1 = .ok y h2) (e3 : cmpR o h2 x y = some k) : (ev T cf (.cmp o a b)).tst ρ h = .ok k h2 := by rw [t_cmp, e1, Res.bind_ok, e2, Res.bind_ok, e3, need_some]
theorem e_cmp {o : COp} (e1 : (ev T cf a).val ρ h = .ok x h1) (e2 : (ev T cf b).val ρ h1 = .ok y h2) (e3 : cmpR o h2 x y = some k) : (ev T cf (.cmp o a b)).val ρ h = .ok (.bl k) h2 := by rw [v_cmp, t_cmp1 e1 e2 e3]; rfl
theorem t_or2 (e1 : (ev T cf a).tst ρ h = .ok false h1) (e2 : (ev T cf b).tst ρ h1 = .ok k h2) : (ev T cf (.or a b)).tst ρ h = .ok k h2 := by rw [t_or, e1, Res.bind_ok]; exact e2
theorem t_not (e1 : (ev T cf a).tst ρ h = .ok k h1) : (ev T cf (.nt a)).tst ρ h = .ok (!k) h1 := by rw [t_nt, e1]; rfl
end
end Lib
set_option Elab.async false
set_option linter.all false
set_option maxRecDepth 100000
set_option maxHeartbeats 1000000
namespace K68
open PySem PyI Lib
section
variable {T : Tab} {cf : Nat → List D → Hea → Res D} {ρ : PyI.Loc} {h h1 h2 : Hea} {a : E}
theorem e_exn {c : Nat} {y n : Str} (e1 : (ev T cf a).val ρ h = .ok (.str y) h1) (xv : T.xvs = true) (e2 : T.ex c = some n) : (ev T cf (.exn c a)).val ρ h = .ok (.exn c (some y)) h1 := by
  rw [v_exn, e1, Res.bind_ok]
  simp only [if_pos xv, e2, need_some]
theorem e_isx {k : XT} {c : Nat} {x : Option Str} {b : Bool} (e1 : (ev T cf a).val ρ h = .ok (.exn c x) h1) (xv : T.xvs = true) (e2 : xtR T k c = some b) : (ev T cf (.isx k a)).val ρ h = .ok (.bl b) h1 := by
  rw [v_isx, e1, Res.bind_ok]
  simp only [if_pos xv, e2, need_some]
theorem t_isx {k : XT} {c : Nat} {x : Option Str} {b : Bool} (e1 : (ev T cf a).val ρ h = .ok (.exn c x) h1) (xv : T.xvs = true) (e2 : xtR T k c = some b) : (ev T cf (.isx k a)).tst ρ h = .ok b h1 := by
  show ((ev T cf (.isx k a)).val ρ h).bind _ = _
  rw [e_isx e1 xv e2]; rfl
theorem e_strx {c : Nat} {y : Str} (e1 : (ev T cf a).val ρ h = .ok (.exn c (some y)) h1) (xv : T.xvs = true) : (ev T cf (.strx a)).val ρ h = .ok (.str y) h1 := by
  rw [v_strx, e1, Res.bind_ok]
  simp only [if_pos xv]
theorem cat_l {xs ys : List D} (l : xs.length + ys.length ≤ 1000) : binR .add h (.lst xs) (.lst ys) = .ok (.lst (xs ++ ys)) h := by
  show (if xs.length + ys.length ≤ sizeLine then Res.ok (D.lst (xs ++ ys)) h else .no) = _
  rw [if_pos (le_size l)]
theorem e_lstM {es : Es} {ds : List D} (e1 : evs T cf es ρ h = .ok ds h1) (l : ds.length ≤ 1000) : (ev T cf (.lstM es)).val ρ h = .ok (.ref h1.length) (h1 ++ [.lst ds]) := by
  rw [v_lstM, e1, Res.bind_ok, if_pos (le_size l)]; rfl
end
/-- which classes an error of the class c is of -/
def kin (c : Nat) : List D := (List.range 16).map fun j => D.bl (subX c (j + 1))
def due (c : Nat) : List D := (List.range 16).map fun j => D.bl (decide (j = c))
theorem kin_due : ∀ c, c < 16 → (∀ h, cmpR .ne h (.lst (kin (c + 1))) (.lst (due c)) = some false) := by
  have key : ∀ c : Fin 16, cmpR .ne [] (.lst (kin (c + 1))) (.lst (due c)) = some false := by decide +kernel
  intro c hc h
  exact key ⟨c, hc⟩
theorem kin_0 (h : Hea) : cmpR .ne h (.lst (kin 0)) (.lst (List.replicate 16 [D.bl false]).flatten) = some false := by
  have key : cmpR .ne [] (.lst (kin 0)) (.lst (List.replicate 16 [D.bl false]).flatten) = some false := by decide +kernel
  exact key
theorem c_kinds (k : Nat) (c : Nat) (x : Option Str) (h : Hea) : callF tab (k + 1) 202 [.exn c x] h = .ok (.lst (kin c)) h := by
  refine callF_ret (f := ⟨"_law_kinds_of", 1, 2, b_law_kinds_of⟩) (ρ := [some (.exn c x), some (.lst ((kin c).take 13))]) H_law_kinds_of.e rfl ?_
  refine b_cons (x_set (e_lst (es_c (e_isx (e_v rfl) rfl rfl) (es_c (e_isx (e_v rfl) rfl rfl) (es_c (e_isx (e_v rfl) rfl rfl) (es_c (e_isx (e_v rfl) rfl rfl) es_n)))) (Nat.le_of_ble_eq_true rfl))) ?_
  refine b_cons (x_set (e_bin (e_v rfl) (e_lst (es_c (e_isx (e_v rfl) rfl rfl) (es_c (e_isx (e_v rfl) rfl rfl) (es_c (e_isx (e_v rfl) rfl rfl) es_n))) (Nat.le_of_ble_eq_true rfl)) (cat_l (Nat.le_of_ble_eq_true rfl)))) ?_
  refine b_cons (x_set (e_bin (e_v rfl) (e_lst (es_c (e_isx (e_v rfl) rfl rfl) (es_c (e_isx (e_v rfl) rfl rfl) (es_c (e_isx (e_v rfl) rfl rfl) es_n))) (Nat.le_of_ble_eq_true rfl)) (cat_l (Nat.le_of_ble_eq_true rfl)))) ?_
  refine b_cons (x_set (e_bin (e_v rfl) (e_lst (es_c (e_isx (e_v rfl) rfl rfl) (es_c (e_isx (e_v rfl) rfl rfl) (es_c (e_isx (e_v rfl) rfl rfl) es_n))) (Nat.le_of_ble_eq_true rfl)) (cat_l (Nat.le_of_ble_eq_true rfl)))) ?_
  exact b_ret (e_bin (e_v rfl) (e_lst (es_c (e_isx (e_v rfl) rfl rfl) (es_c (e_isx (e_v rfl) rfl rfl) (es_c (e_isx (e_v rfl) rfl rfl) es_n))) (Nat.le_of_ble_eq_true rfl)) (cat_l (Nat.le_of_ble_eq_true rfl)))
theorem c_number_no (k : Nat) (h : Hea) : callF tab (k + 6) 678 [.str "1", .int 1] h = .err 1 h := by rfl
theorem c_behind_non (k : Nat) (h : Hea) : callF tab (k + 8) 466 [.non, .int 1] h = .err 5 h := by rfl
def oneB : Ss := (.cons (.iff (.cmp .ne (.call 202 (.cons (.v 8) .nil)) (.lc false [9] (.n 9) (.rng1 (.int 16)) .nil (.cmp .eq (.v 9) (.v 7))))
   (.cons (.ret (.bl false))
    .nil)
   .nil)
    (.cons (.iff (.or (.cmp .ne (.strx (.v 8)) (.v 3)) (.nt (.isx (.own 0) (.v 8))))
   (.cons (.ret (.bl false))
    .nil)
   .nil)
    (.cons (.iff (.or (.nt (.isx .val (.v 8))) (.isx .look (.v 8)))
   (.cons (.ret (.bl false))
    .nil)
   .nil)
    .nil)))
def turnB : Ss := (.cons (.set 3 (.call 244 (.cons (.v 1) (.cons (.lst (.cons (.str "") (.cons (.str "a") (.cons (.str "no table") (.cons (.bin .mul (.str "x") (.call 380 (.cons (.v 1) (.cons (.int 99) .nil)))) .nil))))) .nil))))
    (.cons (.set 4 (.lst (.cons (.exn 1 (.v 3)) (.cons (.exn 2 (.v 3)) (.cons (.exn 3 (.v 3)) (.cons (.exn 4 (.v 3)) (.cons (.exn 5 (.v 3)) (.cons (.exn 6 (.v 3)) .nil))))))))
    (.cons (.set 4 (.bin .add (.v 4) (.lst (.cons (.exn 7 (.v 3)) (.cons (.exn 8 (.v 3)) (.cons (.exn 9 (.v 3)) (.cons (.exn 10 (.v 3)) (.cons (.exn 11 (.v 3)) .nil))))))))
    (.cons (.set 4 (.bin .add (.v 4) (.lst (.cons (.exn 12 (.v 3)) (.cons (.exn 13 (.v 3)) (.cons (.exn 14 (.v 3)) (.cons (.exn 15 (.v 3)) (.cons (.exn 16 (.v 3)) .nil))))))))
    (.cons (.par [5, 6] (.cons (.exn 0 (.v 3)) (.cons (.lstM (.cons (.lam 56 (.call 678 (.cons (.str "1") (.cons (.int 1) .nil)))) .nil)) .nil)))
    (.cons (.ex (.mt .append (.v 6) (.cons (.lam 56 (.call 466 (.cons .non (.cons (.int 1) .nil)))) .nil)))
    (.cons (.iff (.cmp .ne (.call 202 (.cons (.sub (.v 6) (.int 0)) .nil)) (.lc false [9] (.n 9) (.rng1 (.int 16)) .nil (.cmp .eq (.v 9) (.int 0))))
   (.cons (.ret (.bl false))
    .nil)
   .nil)
    (.cons (.iff (.cmp .ne (.call 202 (.cons (.sub (.v 6) (.int 1)) .nil)) (.lc false [9] (.n 9) (.rng1 (.int 16)) .nil (.cmp .eq (.v 9) (.int 4))))
   (.cons (.ret (.bl false))
    .nil)
   .nil)
    (.cons (.iff (.or (.cmp .ne (.call 202 (.cons (.v 5) .nil)) (.bin .mulL (.lst (.cons (.bl false) .nil)) (.int 16))) (.nt (.isx .val (.v 5))))
   (.cons (.ret (.bl false))
    .nil)
   .nil)
    (.cons (.fr (.t (.cons (.n 7) (.cons (.n 8) .nil))) (.enum (.v 4))
   oneB)
    .nil))))))))))
theorem lc_due {ρ : PyI.Loc} {h : Hea} {cf : Nat → List D → Hea → Res D} {e : E} (c : Nat) (l : ρ.length = 10) (he : ∀ j : Nat, (ev tab cf e).val ((wipeD ρ [9]).set 9 (some (.int (j : Int)))) h = .ok (.int (c : Int)) h) :
    (ev tab cf (.lc false [9] (.n 9) (.rng1 (.int 16)) .nil (.cmp .eq (.v 9) e))).val ρ h = .ok (.lst (due c)) h := by
  refine lcA (l := List.range 16) (f := fun j : Nat => D.int (j : Int)) (g := fun j => D.bl (decide (j = c))) (i_rng1_of (n := 16) v_int (by decide)) (fun j _ => ⟨_, rfl, e_cmp (e_v (d := .int (j : Int)) ?_) (he j) ?_⟩) (by decide)
  · rw [List.getElem?_set_self (by simp [wipeD, l])]
  · rw [cmp_eq]
    congr 1
    exact decide_eq_decide.mpr Int.ofNat_inj
theorem one_run (k : Nat) {h : Hea} {s p t e b q v9 : Option D} {y : Str} (c : Nat) (hc : c < 16) :
    exB tab (callF tab (k + 1)) oneB [s, p, t, some (.str y), e, b, q, some (.int (c : Int)), some (.exn (c + 1) (some y)), v9] h = .ok .nx [s, p, t, some (.str y), e, b, q, some (.int (c : Int)), some (.exn (c + 1) (some y)), v9] h := by
  refine b_cons (x_skip (t_cmp1 (e_call (es_c (e_v rfl) es_n) (c_kinds k (c + 1) (some y) h)) (lc_due c rfl fun j => e_v rfl) (kin_due c hc h))) ?_
  refine b_cons (x_skip (t_or2 (t_cmp1 (e_strx (e_v rfl) rfl) (e_v rfl) (str_ne _ _)) (t_not (k := true) (t_isx (e_v rfl) rfl (b := true) (by show some (subX (c + 1) 0) = _; unfold subX; simp))))) ?_
  exact b_cons (x_skip (t_or2 (t_not (k := true) (t_isx (e_v rfl) rfl rfl)) (t_isx (e_v rfl) rfl rfl))) rfl
def errs (y : Str) : List D := (List.range 16).map fun j => D.exn (j + 1) (some y)
theorem ones_run (k : Nat) {h : Hea} {s p t e b q v9 : Option D} {y : Str} : ∀ (l : List Nat), (∀ c ∈ l, c < 16) → ∀ v7 v8 : Option D, ∃ w7 w8 : Option D,
    frLoop (tn tab (callF tab (k + 1)) (.t (.cons (.n 7) (.cons (.n 8) .nil))) oneB) (l.map fun c : Nat => D.plc [.int (c : Int), .exn (c + 1) (some y)]) [s, p, t, some (.str y), e, b, q, v7, v8, v9] h = .ok .nx [s, p, t, some (.str y), e, b, q, w7, w8, v9] h
  | [], _, v7, v8 => ⟨v7, v8, rfl⟩
  | c :: l, hl, v7, v8 => by
    obtain ⟨w7, w8, e1⟩ := ones_run k (h := h) (s := s) (p := p) (t := t) (e := e) (b := b) (q := q) (v9 := v9) (y := y) l (fun d hd => hl d (List.mem_cons_of_mem _ hd)) (some (.int (c : Int))) (some (.exn (c + 1) (some y)))
    refine ⟨w7, w8, ?_⟩
    rw [List.map_cons]
    unfold frLoop
    have t1 := (tn_of (T := tab) (cf := callF tab (k + 1)) (h := h) (t := .t (.cons (.n 7) (.cons (.n 8) .nil))) (B := oneB) (x := D.plc [.int (c : Int), .exn (c + 1) (some y)]) (ρ := [s, p, t, some (.str y), e, b, q, v7, v8, v9]) (ρ1 := [s, p, t, some (.str y), e, b, q, some (.int (c : Int)), some (.exn (c + 1) (some y)), v9]) rfl).trans (one_run k c (hl c List.mem_cons_self))
    rw [t1]
    exact e1
theorem turn_run (k : Nat) {h : Hea} {p : Nat} {K0 : Int} {s : D} {v2 v3 v4 v5 v6 v7 v8 v9 : Option D} (P : Pen h p K0) (hK : 0 ≤ K0 ∧ K0 ≤ 2000) :
    ∃ (w3 w4 w5 w6 w7 w8 w9 : Option D) (h' : Hea), exB tab (callF tab (k + 10)) turnB [some s, some (.ref p), v2, v3, v4, v5, v6, v7, v8, v9] h
      = .ok .nx [some s, some (.ref p), v2, w3, w4, w5, w6, w7, w8, w9] h' ∧ Pen h' p (K0 + 1000) := by
  obtain ⟨v, h1, e1, v0, v1, P1, O1⟩ := l_take (T := tab) (k + 8) (many := 99) P (by omega) (by decide) (by decide)
  obtain ⟨x, h2, e2, hx, P2, O2⟩ := l_one_of (T := tab) (k + 7) (xs := [.str "", .str "a", .str "no table", .str (repS "x" v)]) P1 (by omega) (Nat.le_of_ble_eq_true rfl) (Nat.le_of_ble_eq_true rfl)
  obtain ⟨y, rfl⟩ : ∃ y, x = .str y := by
    simp only [List.mem_cons, List.not_mem_nil, or_false] at hx
    rcases hx with rfl | rfl | rfl | rfl <;> exact ⟨_, rfl⟩
  have mx : binR .mul h1 (.str "x") (.int v) = .ok (.str (repS "x" v)) h1 := by
    show (if 0 ≤ v ∧ v ≤ 1000 ∧ Str.length "x" ≤ 1000 then Res.ok (D.str (repS "x" v)) h1 else .no) = _
    rw [if_pos ⟨v0, by omega, by decide⟩]
  have hq : ∀ d : MO, (h2 ++ [d])[h2.length]? = some d := fun d => by rw [List.getElem?_append_right (Nat.le_refl _), Nat.sub_self]; rfl
  have P3 : Pen ((h2 ++ [MO.lst [.exn 1 none]]).set h2.length (.lst [.exn 1 none, .exn 5 none])) p (K0 + 1 + 1) := by
    refine P2.oth ?_
    have := P2.lt
    rw [List.getElem?_set_ne (by omega), List.getElem?_append_left this]
  have hq2 : ((h2 ++ [MO.lst [.exn 1 none]]).set h2.length (.lst [.exn 1 none, .exn 5 none]))[h2.length]? = some (.lst [.exn 1 none, .exn 5 none]) := by
    rw [List.getElem?_set_self (by simp)]
  have hsq : seqV ((h2 ++ [MO.lst [.exn 1 none]]).set h2.length (.lst [.exn 1 none, .exn 5 none])) (.ref h2.length) = some [.exn 1 none, .exn 5 none] := by
    show (match ((h2 ++ [MO.lst [.exn 1 none]]).set h2.length (MO.lst [.exn 1 none, .exn 5 none]))[h2.length]? with | some (MO.lst xs) => some xs | _ => none) = _
    rw [hq2]
  have hs0 : subR ((h2 ++ [MO.lst [.exn 1 none]]).set h2.length (.lst [.exn 1 none, .exn 5 none])) (.ref h2.length) (.int 0) = some (.exn 1 none) := sub_seq hsq rfl
  have hs1 : subR ((h2 ++ [MO.lst [.exn 1 none]]).set h2.length (.lst [.exn 1 none, .exn 5 none])) (.ref h2.length) (.int 1) = some (.exn 5 none) := sub_seq hsq rfl
  have lam1 : ∀ ρ, (ev tab (callF tab (k + 10)) (.lam 56 (.call 678 (.cons (.str "1") (.cons (.int 1) .nil))))).val ρ h2 = .ok (.exn 1 none) h2 := fun ρ => by
    rw [v_lam_of (t := t_law_caught) rfl, v_call]
    show t_law_caught.run (callF tab (k + 10) 678 [.str "1", .int 1] h2) = _
    rw [c_number_no (k + 4)]; rfl
  have lam2 : ∀ ρ hh, (ev tab (callF tab (k + 10)) (.lam 56 (.call 466 (.cons .non (.cons (.int 1) .nil))))).val ρ hh = .ok (.exn 5 none) hh := fun ρ hh => by
    rw [v_lam_of (t := t_law_caught) rfl, v_call]
    show t_law_caught.run (callF tab (k + 10) 466 [.non, .int 1] hh) = _
    rw [c_behind_non (k + 2)]; rfl
  obtain ⟨w7, w8, e9⟩ := ones_run (k + 9) (h := (h2 ++ [MO.lst [.exn 1 none]]).set h2.length (.lst [.exn 1 none, .exn 5 none])) (s := some s) (p := some (.ref p)) (t := v2) (e := some (.lst (errs y))) (b := some (.exn 0 (some y))) (q := some (.ref h2.length)) (v9 := v9) (y := y) (List.range 16) (fun c hc => List.mem_range.mp hc) v7 v8
  refine ⟨some (.str y), some (.lst (errs y)), some (.exn 0 (some y)), some (.ref h2.length), w7, w8, v9, _, ?_, P3.mono (by omega)⟩
  refine b_cons (x_set (e_call (es_c (e_v rfl) (es_c (e_lst (es_c v_str (es_c v_str (es_c v_str (es_c (e_bin v_str (e_call (es_c (e_v rfl) (es_c v_int es_n)) e1) mx) es_n)))) (Nat.le_of_ble_eq_true rfl)) es_n)) e2)) ?_
  refine b_cons (x_set (e_lst (es_c (e_exn (e_v rfl) rfl rfl) (es_c (e_exn (e_v rfl) rfl rfl) (es_c (e_exn (e_v rfl) rfl rfl) (es_c (e_exn (e_v rfl) rfl rfl) (es_c (e_exn (e_v rfl) rfl rfl) (es_c (e_exn (e_v rfl) rfl rfl) es_n)))))) (Nat.le_of_ble_eq_true rfl))) ?_
  refine b_cons (x_set (e_bin (e_v rfl) (e_lst (es_c (e_exn (e_v rfl) rfl rfl) (es_c (e_exn (e_v rfl) rfl rfl) (es_c (e_exn (e_v rfl) rfl rfl) (es_c (e_exn (e_v rfl) rfl rfl) (es_c (e_exn (e_v rfl) rfl rfl) es_n))))) (Nat.le_of_ble_eq_true rfl)) (cat_l (Nat.le_of_ble_eq_true rfl)))) ?_
  refine b_cons (x_set (e_bin (e_v rfl) (e_lst (es_c (e_exn (e_v rfl) rfl rfl) (es_c (e_exn (e_v rfl) rfl rfl) (es_c (e_exn (e_v rfl) rfl rfl) (es_c (e_exn (e_v rfl) rfl rfl) (es_c (e_exn (e_v rfl) rfl rfl) es_n))))) (Nat.le_of_ble_eq_true rfl)) (cat_l (Nat.le_of_ble_eq_true rfl)))) ?_
  refine b_cons (x_par (es_c (e_exn (e_v rfl) rfl rfl) (es_c (e_lstM (es_c (lam1 _) es_n) (Nat.le_of_ble_eq_true rfl)) es_n)) rfl) ?_
  refine b_cons (mt_app rfl (hq _) (lam2 _ _) (hq _) (Nat.le_of_ble_eq_true rfl)) ?_
  refine b_cons (x_skip (t_cmp1 (e_call (es_c (e_sub (e_v rfl) v_int hs0) es_n) (c_kinds (k + 9) 1 none _)) (lc_due 0 rfl fun j => v_int) (kin_due 0 (by decide) _))) ?_
  refine b_cons (x_skip (t_cmp1 (e_call (es_c (e_sub (e_v rfl) v_int hs1) es_n) (c_kinds (k + 9) 5 none _)) (lc_due 4 rfl fun j => v_int) (kin_due 4 (by decide) _))) ?_
  refine b_cons (x_skip (t_or2 (t_cmp1 (e_call (es_c (e_v rfl) es_n) (c_kinds (k + 9) 0 (some y) _)) (e_bin (e_lst (es_c v_bl es_n) (Nat.le_of_ble_eq_true rfl)) v_int rfl) (kin_0 _)) (t_not (k := true) (t_isx (e_v rfl) rfl rfl)))) ?_
  exact b_cons (x_fr (by rw [i_enum, e_v rfl]; rfl) e9) rfl
theorem b_law_eq : b_law_k68 = (.cons (.set 1 (.call 254 (.cons (.v 0) .nil)))
    (.cons (.fr (.n 2) (.rng1 (.int 2)) turnB)
    (.cons (.ret (.bl true))
    .nil))) := rfl
theorem law_true (ns : List Int) : ∃ h, callF tab 30 lawIx [.scr (ns.map .int)] [] = .ok (.bl true) h := by
  obtain ⟨h0, e0, P0⟩ := l_open (T := tab) 28 ns
  obtain ⟨w3, w4, w5, w6, w7, w8, w9, h1, e1, P1⟩ := turn_run 19 (s := .scr (ns.map D.int)) (v2 := some (.int 0)) (v3 := none) (v4 := none) (v5 := none) (v6 := none) (v7 := none) (v8 := none) (v9 := none) P0 (by decide)
  obtain ⟨u3, u4, u5, u6, u7, u8, u9, h2, e2, P2⟩ := turn_run 19 (s := .scr (ns.map D.int)) (v2 := some (.int 1)) (v3 := w3) (v4 := w4) (v5 := w5) (v6 := w6) (v7 := w7) (v8 := w8) (v9 := w9) P1 (by decide)
  refine ⟨h2, callF_ret (f := ⟨"law", 1, 10, b_law_k68⟩) (ρ := [some (.scr (ns.map D.int)), some (.ref 1), some (.int 1), u3, u4, u5, u6, u7, u8, u9]) H_law_k68.e rfl ?_⟩
  rw [b_law_eq]
  have it : ∀ ρ, evI tab (callF tab 29) (.rng1 (.int 2)) ρ h0 = .ok [.int 0, .int 1] h0 := fun ρ => i_rng1_of (n := 2) (by simp) (by decide)
  have lp : frLoop (tn tab (callF tab 29) (.n 2) turnB) [.int 0, .int 1] [some (.scr (ns.map D.int)), some (.ref 1), none, none, none, none, none, none, none, none] h0 = .ok .nx [some (.scr (ns.map D.int)), some (.ref 1), some (.int 1), u3, u4, u5, u6, u7, u8, u9] h2 := by
    have t1 := (tn_of (t := .n 2) (x := .int 0) (ρ := [some (.scr (ns.map D.int)), some (.ref 1), none, none, none, none, none, none, none, none]) rfl).trans e1
    have t2 := (tn_of (t := .n 2) (x := .int 1) (ρ := [some (.scr (ns.map D.int)), some (.ref 1), some (.int 0), w3, w4, w5, w6, w7, w8, w9]) rfl).trans e2
    unfold frLoop
    rw [t1]
    show frLoop _ [.int 1] _ _ = _
    unfold frLoop
    rw [t2]
    rfl
  exact b_cons (x_set (e_call (es_c (e_v rfl) es_n) e0)) (b_cons (x_fr (it _) lp) (b_ret v_bl))
end K68
theorem PySem.Challenge.cw_turnscaled_k68_errors_by_hand_holds : PySem.Challenge.rw_turnscaled_k68_errors_by_hand.Holds := by
  exact K68.holds_of fun ns _ => K68.law_true ns
