import PyProof.Rows.All
import Wide.All
import OpenK.AllK
import Wide.FinOn
import PySem.Challenge.RW_lessandless_k92_whole_things_written_and
import HandS.ForMost
import HandS.Wide
import HandS.Exc
import HandS.Lambda
import HandS.Zip
import HandS.RaiseMore
import KE.DataEq
import KE.DataIsa
import HandS.TupAny
import HandS.IsInst
import PyProof.MaxThree
import HandS.Text
import KE.IntTextLaws
set_option Elab.async false
set_option linter.all false
set_option maxRecDepth 100000
/-! Mi1: small values, a small tree form of the programs, and what it evaluates to. -/
namespace Mi
open PySem PySem.Spec PyProof.Rows L2

/-- a value: data; the number of a list in the store; the script -/
inductive D where
  | non | bl (b : Bool) | int (i : Int) | str (x : Str) | lst (xs : List D) | tup (xs : List D) | ref (n : Nat) | scr (is : List Int)
  deriving Inhabited

abbrev Mu := List (List D)

mutual
def D.py : D → Option PyData
  | .non => some .none
  | .bl b => some (.bool b)
  | .int i => some (.int i)
  | .str x => some (.str x)
  | .lst xs => match pys xs with | some ys => some (.list ys) | none => none
  | .tup xs => match pys xs with | some ys => some (.tuple ys) | none => none
  | .ref _ => none
  | .scr _ => none
def pys : List D → Option (List PyData)
  | [] => some []
  | x :: r => match x.py, pys r with | some a, some b => some (a :: b) | _, _ => none
end

/-- what comes of an evaluation: a value and the store; an exception (its class, what it bears) and the store; nothing is said -/
inductive Res (α : Type) where
  | ok (a : α) (m : Mu)
  | ex (c : Nat) (a : List D) (m : Mu)
  | bad

def Res.bind {α β : Type} (r : Res α) (f : α → Mu → Res β) : Res β :=
  match r with
  | .ok a m => f a m
  | .ex c a m => .ex c a m
  | .bad => .bad

/-- a value or nothing -/
def Res.of (o : Option D) (m : Mu) : Res D := match o with | some d => .ok d m | none => .bad

inductive Slot where
  | un | val (d : D) | own (ds : List D)
  deriving Inhabited

inductive B1 where
  | len | all | any | sum | tuple | list | sorted | abs | int | str | repr | max | min
  deriving DecidableEq
inductive B2 where
  | max | min | divmod
  deriving DecidableEq
inductive Ty where
  | int | bool | str | list | tuple | seq
  deriving DecidableEq
inductive M0 where
  | upper
  deriving DecidableEq
inductive M1 where
  | split | join | startswith
  deriving DecidableEq
/-- what a loop walks: a thing; range(a), range(a, b); enumerate(a); zip(a, b) -/
inductive IK where
  | seq | range1 | range2 | enum | zip
  deriving DecidableEq
/-- what is assigned to -/
inductive Tgt where
  | nm (i : Nat)
  | tp (is : List Nat)
  deriving DecidableEq

mutual
inductive Ex where
  | cst (c : Const)
  | var (i : Nat)
  | view (i : Nat)
  | glb (g : Nat)
  | tup (es : Exs)
  | lst (es : Exs)
  | op (o : Operator) (a b : Ex)
  | neg (a : Ex)
  | cmp (o : CmpOp) (a b : Ex)
  | cmp2 (o p : CmpOp) (a b c : Ex)
  | and (es : Exs)
  | or (es : Exs)
  | not (a : Ex)
  | ite (c a b : Ex)
  | call (f : Nat) (es : Exs)
  | callk (f : Nat) (es : Exs) (ks : List Str) (ord : List Nat) (es2 : Exs)
  | b1 (b : B1) (a : Ex)
  | b2 (b : B2) (a c : Ex)
  | max3 (a b c : Ex)
  | isa (t : Ty) (a : Ex)
  | m1 (m : M1) (a b : Ex)
  | idx (a i : Ex)
  | slB (a lo hi : Ex)
  | slL (a lo : Ex)
  | slH (a hi : Ex)
  | comp (own : List (Str × Nat)) (elt : Ex) (tg : Tgt) (ik : IK) (its : Exs)
  | compIf (own : List (Str × Nat)) (elt : Ex) (tg : Tgt) (ik : IK) (its : Exs) (c : Ex)
inductive Exs where
  | nil
  | cons (e : Ex) (r : Exs)
end

mutual
inductive Stm where
  /-- name = e -/
  | set (i : Nat) (e : Ex)
  /-- name = a new list that nobody else holds -/
  | seto (i : Nat) (e : Ex)
  /-- a, b = x, y; the lists at own are new ones that nobody else holds -/
  | par (is : List Nat) (es : Exs) (own : List Nat)
  /-- a, b = e -/
  | unp (is : List Nat) (e : Ex)
  /-- xs.append(e), an own list -/
  | app (i : Nat) (e : Ex)
  /-- xs.extend(e), an own list -/
  | ext (i : Nat) (e : Ex)
  /-- xs[e] = e', an own list -/
  | seti (i : Nat) (ix e : Ex)
  /-- r[c] = e, a list of the store at a name, a written place -/
  | setr (i : Nat) (c : Nat) (e : Ex)
  /-- r[c], b = e: a list of the store at a name; e makes a pair -/
  | setrp (i : Nat) (c : Nat) (j : Nat) (e : Ex)
  | drop (e : Ex)
  /-- f(..).append(c), f(..)[k].append(c): what comes of a call whose arguments hold no list is spoilt -/
  | spoil (e : Ex) (path : List Nat) (c : Const)
  | cond (c : Ex) (a b : Stms)
  | for_ (tg : Tgt) (ik : IK) (its : Exs) (b : Stms)
  | while_ (c : Ex) (b : Stms)
  | ret (e : Ex)
  /-- return of a new list of the store -/
  | retr (es : Exs)
  | retN
  | raise (c : Nat) (es : Exs)
  /-- an own list is no longer changed from here on (nothing stands for it in the text) -/
  | frz (i : Nat)
inductive Stms where
  | nil
  | cons (s : Stm) (r : Stms)
end
end Mi

set_option linter.all false
set_option maxRecDepth 100000
/-! Mi2: what the trees evaluate to. -/
namespace Mi
open PySem PySem.Spec PyProof.Rows L2

/-! ### data -/
def cD : Const → D
  | .none => .non
  | .bool b => .bl b
  | .int i => .int i
  | .str x => .str x
  | _ => .ref 0
def okC : Const → Bool
  | .none => true | .bool _ => true | .int _ => true | .str _ => true
  | _ => false
def sign1 (c : Nat) : D := .str ⟨#[c]⟩
def ints? : List D → Option (List Int)
  | [] => some []
  | .int i :: r => match ints? r with | some l => some (i :: l) | none => none
  | _ => none
def bls? : List D → Option (List Bool)
  | [] => some []
  | .bl i :: r => match bls? r with | some l => some (i :: l) | none => none
  | _ => none
def strs? : List D → Option (List Str)
  | [] => some []
  | .str i :: r => match strs? r with | some l => some (i :: l) | none => none
  | _ => none
def small (d : PyData) : Bool := decide (d.depth ≤ 40)
/-- a == b -/
def eqD (a b : D) : Option Bool := match a.py, b.py with
  | some x, some y => if small x && small y then some (PyData.eqv x y) else none
  | _, _ => none
/-- x in c -/
def inD (x c : D) : Option Bool := match x, c with
  | .str a, .str b => some (!(Builtin.Str.occurrences b a 0 b.length 1).isEmpty)
  | x, .lst cs => match x.py, pys cs with
    | some p, some qs => if small p then some (qs.any fun q => PyData.eqv q p) else none
    | _, _ => none
  | x, .tup cs => match x.py, pys cs with
    | some p, some qs => if small p then some (qs.any fun q => PyData.eqv q p) else none
    | _, _ => none
  | _, _ => none
/-- a length that a list or a text may have -/
def fit (n : Nat) : Bool := decide (n ≤ 16777216)

def binop : Operator → D → D → Option D
  | .Add, .int i, .int j => some (.int (i + j))
  | .Add, .str x, .str y => if fit (x.length + y.length) then some (.str (x ++ y)) else none
  | .Add, .lst a, .lst b => if fit (a.length + b.length) then some (.lst (a ++ b)) else none
  | .Add, .tup a, .tup b => if fit (a.length + b.length) then some (.tup (a ++ b)) else none
  | .Sub, .int i, .int j => some (.int (i - j))
  | .Mult, .int i, .int j => if decide (i.natAbs.log2 + j.natAbs.log2 < 1000000) then some (.int (i * j)) else none
  | .Mult, .lst a, .int j => if decide (0 ≤ j ∧ j < 10000) && fit (a.length * j.toNat) then some (.lst (List.replicate j.toNat a).flatten) else none
  | .FloorDiv, .int i, .int j => if decide (0 < j ∧ j.natAbs.log2 < 9000) then some (.int (i / j)) else none
  | .Mod, .int i, .int j => if decide (0 < j) then some (.int (i % j)) else none
  | .Pow, .int i, .int j => if decide (0 ≤ j ∧ j ≤ 1000000 ∧ i.natAbs < 18446744073709551616) then some (.int (i ^ j.toNat)) else none
  | _, _, _ => none
def negop : D → Option D
  | .int i => some (.int (-i))
  | _ => none
def isNon : D → Bool
  | .non => true
  | _ => false
def cmpop : CmpOp → D → D → Option Bool
  | .Eq, a, b => eqD a b
  | .NotEq, a, b => (eqD a b).map not
  | .Lt, .int i, .int j => some (decide (i < j))
  | .LtE, .int i, .int j => some (decide (i ≤ j))
  | .Gt, .int i, .int j => some (decide (j < i))
  | .GtE, .int i, .int j => some (decide (j ≤ i))
  | .Is, a, .non => some (isNon a)
  | .IsNot, a, .non => some (!isNon a)
  | .In, a, b => inD a b
  | .NotIn, a, b => (inD a b).map not
  | _, _, _ => none
def isaD (t : Ty) : D → Option Bool
  | .ref _ => none
  | .scr _ => none
  | .non => some false
  | .bl _ => some (t == .int || t == .bool)
  | .int _ => some (t == .int)
  | .str _ => some (t == .str)
  | .lst _ => some (t == .list || t == .seq)
  | .tup _ => some (t == .tuple || t == .seq)
def b1op : B1 → D → Option D
  | .len, .lst xs => some (.int xs.length)
  | .len, .tup xs => some (.int xs.length)
  | .len, .scr is => some (.int is.length)
  | .len, .str x => if fit x.length then some (.int x.length) else none
  | .all, .lst xs => match bls? xs with | some bs => some (.bl (bs.all id)) | none => none
  | .any, .lst xs => match bls? xs with | some bs => some (.bl (bs.any id)) | none => none
  | .sum, .lst xs => match ints? xs with | some is => some (.int is.sum) | none => none
  | .tuple, .lst xs => some (.tup xs)
  | .tuple, .tup xs => some (.tup xs)
  | .list, .lst xs => some (.lst xs)
  | .list, .tup xs => some (.lst xs)
  | .abs, .int i => some (.int (if i < 0 then -i else i))
  | .int, .int i => some (.int i)
  | .int, .bl b => some (.int (if b then 1 else 0))
  | .int, .str x => if decide (x.length ≤ 640) then (intText? x).map .int else none
  | .str, .int i => if decide (i.natAbs.log2 < 1920) then some (.str (toString i)) else none
  | .str, .str x => some (.str x)
  | .repr, d => match d.py with
    | some p => if small p && p.showable && fit p.shown.length then some (.str p.shown) else none
    | none => none
  | _, _ => none
def b2op : B2 → D → D → Option D
  | .max, .int i, .int j => some (.int (if j > i then j else i))
  | .min, .int i, .int j => some (.int (if j < i then j else i))
  | .divmod, .int i, .int j => if decide (0 < j ∧ j < 1073741824) then some (.tup [.int (i / j), .int (i % j)]) else none
  | _, _, _ => none
def joinSize (a : Str) (ys : List Str) : Nat := (ys.map (·.length)).sum + ys.length * a.length
def max3D : D → D → D → Option D
  | .int i, .int j, .int k => some (.int (if k > (if j > i then j else i) then k else (if j > i then j else i)))
  | _, _, _ => none
def splitD : D → D → Option D
  | .str a, .str b => if !(b.length == 0) && fit (a.length + 2) then some (.lst ((Txt.split a b).map .str)) else none
  | _, _ => none
def joinD : D → D → Option D
  | .str a, .lst xs => match strs? xs with | some ys => if fit (joinSize a ys) then some (.str (Txt.join a ys)) else none | none => none
  | .str a, .tup xs => match strs? xs with | some ys => if fit (joinSize a ys) then some (.str (Txt.join a ys)) else none | none => none
  | _, _ => none
def startsD : D → D → Option D
  | .str a, .str b => some (.bl (Txt.startswith a b))
  | _, _ => none
def m1op : M1 → D → D → Option D
  | .split => splitD
  | .join => joinD
  | .startswith => startsD

/-! ### places, parts, what is walked -/
def cutL {α : Type} (xs : List α) (lo hi : Option Int) : List α := (xs.drop (HT.sIx xs.length 0 lo)).take (HT.sIx xs.length xs.length hi - HT.sIx xs.length 0 lo)
def idxD (m : Mu) : D → D → Option D
  | .lst xs, .int i => atI xs i
  | .tup xs, .int i => atI xs i
  | .str x, .int i => if fit x.length then (atI x.cps.toList i).map sign1 else none
  | .scr is, .int i => (atI is i).map .int
  | .ref n, .int i => match m[n]? with | some xs => atI xs i | none => none
  | _, _ => none
def slD : D → Option Int → Option Int → Option D
  | .lst xs, lo, hi => some (.lst (cutL xs lo hi))
  | .tup xs, lo, hi => some (.tup (cutL xs lo hi))
  | .str x, lo, hi => if fit x.length then some (.str (cutS x lo hi)) else none
  | _, _, _ => none
def slI : D → D → D → Option D
  | a, .int i, .int j => slD a (some i) (some j)
  | _, _, _ => none
def slLI : D → D → Option D
  | a, .int i => slD a (some i) none
  | _, _ => none
def slHI : D → D → Option D
  | a, .int i => slD a none (some i)
  | _, _ => none
def seqI : D → Option (List D)
  | .lst xs => some xs
  | .tup xs => some xs
  | .str x => some (x.cps.toList.map sign1)
  | _ => none
def rng (a : Int) : Nat → List D
  | 0 => []
  | n + 1 => .int a :: rng (a + 1) n
def inR (i : Int) : Bool := decide (-4611686018427387904 ≤ i ∧ i < 4611686018427387904)
def pairs : List D → List D → List D
  | x :: xs, y :: ys => .tup [x, y] :: pairs xs ys
  | _, _ => []
def enums (i : Int) : List D → List D
  | [] => []
  | x :: xs => .tup [.int i, x] :: enums (i + 1) xs
def itemsD : IK → List D → Option (List D)
  | .seq, [a] => seqI a
  | .range1, [.int j] => if inR j then some (rng 0 j.toNat) else none
  | .range2, [.int i, .int j] => if inR i && inR j then some (rng i (j - i).toNat) else none
  | .enum, [.lst xs] => some (enums 0 xs)
  | .zip, [.lst xs, .lst ys] => some (pairs xs ys)
  | .zip, [.tup xs, .tup ys] => some (pairs xs ys)
  | _, _ => none
def bindT : Tgt → D → List Slot → Option (List Slot)
  | .nm i, d, r => some (r.set i (.val d))
  | .tp is, .tup ds, r => if is.length = ds.length then some ((is.zip ds).foldl (fun r p => r.set p.1 (.val p.2)) r) else none
  | _, _, _ => none
def wipeS (r : List Slot) : List Nat → List Slot
  | [] => r
  | v :: vs => (wipeS r vs).set v .un

/-! ### trees -/
def vx (r : List Slot) (e : Ex) (m : Mu) (x : Res D) : Res D := match e with
  | .view i => match r[i]? with
    | some (.own ds) => .ok (.lst ds) m
    | some (.val d) => .ok d m
    | _ => .bad
  | _ => x
def asB (x : Res D) : Res Bool := match x with
  | .ok (.bl b) m => .ok b m
  | .ok _ _ => .bad
  | .ex c a m => .ex c a m
  | .bad => .bad
/-- a comprehension's turns; an exception within is not followed -/
def mapR (f : D → Mu → Res D) : List D → Mu → Res (List D)
  | [], m => .ok [] m
  | x :: xs, m => match f x m with
    | .ok y m => match mapR f xs m with
      | .ok ys m => .ok (y :: ys) m
      | _ => .bad
    | _ => .bad
def mapIfR (c : D → Mu → Res Bool) (f : D → Mu → Res D) : List D → Mu → Res (List D)
  | [], m => .ok [] m
  | x :: xs, m => match c x m with
    | .ok true m => (match f x m with
      | .ok y m => match mapIfR c f xs m with
        | .ok ys m => .ok (y :: ys) m
        | _ => .bad
      | _ => .bad)
    | .ok false m => mapIfR c f xs m
    | _ => .bad
def lstR (x : Res (List D)) : Res D := match x with
  | .ok ys m => if fit ys.length then .ok (.lst ys) m else .bad
  | _ => .bad
/-- the module's constants, and the defs by their numbers -/
structure Env0 where
  consts : List D
  call : Nat → List D → Mu → Res D
def permD (xs ys : List D) (ord : List Nat) : Option (List D) := ord.foldr (fun i acc => match (xs ++ ys)[i]?, acc with | some d, some r => some (d :: r) | _, _ => none) (some [])

mutual
def ev (g : Env0) : Ex → List Slot → Mu → Res D
  | .cst c, _, m => .ok (cD c) m
  | .var i, r, m => match r[i]? with | some (.val d) => .ok d m | _ => .bad
  | .view _, _, _ => .bad
  | .glb i, _, m => .of g.consts[i]? m
  | .tup es, r, m => (evs g es r m).bind fun ds m => .ok (.tup ds) m
  | .lst es, r, m => (evs g es r m).bind fun ds m => .ok (.lst ds) m
  | .op o a b, r, m => (vx r a m (ev g a r m)).bind fun x m => (vx r b m (ev g b r m)).bind fun y m => .of (binop o x y) m
  | .neg a, r, m => (ev g a r m).bind fun x m => .of (negop x) m
  | .cmp o a b, r, m => (vx r a m (ev g a r m)).bind fun x m => (vx r b m (ev g b r m)).bind fun y m => .of ((cmpop o x y).map .bl) m
  | .cmp2 o p a b c, r, m => (ev g a r m).bind fun x m => (ev g b r m).bind fun y m => match cmpop o x y with
    | some true => (ev g c r m).bind fun z m => .of ((cmpop p y z).map .bl) m
    | some false => .ok (.bl false) m
    | none => .bad
  | .and es, r, m => evAnd g es r m
  | .or es, r, m => evOr g es r m
  | .not a, r, m => (asB (ev g a r m)).bind fun b m => .ok (.bl (!b)) m
  | .ite c a b, r, m => (asB (ev g c r m)).bind fun t m => if t then ev g a r m else ev g b r m
  | .call f es, r, m => (evs g es r m).bind fun ds m => g.call f ds m
  | .callk f es _ ord es2, r, m => (evs g es r m).bind fun ds m => (evs g es2 r m).bind fun ds2 m => match permD ds ds2 ord with
    | some l => g.call f l m
    | none => .bad
  | .b1 b a, r, m => (vx r a m (ev g a r m)).bind fun x m => .of (b1op b x) m
  | .b2 b a c, r, m => (ev g a r m).bind fun x m => (ev g c r m).bind fun y m => .of (b2op b x y) m
  | .max3 a b c, r, m => (ev g a r m).bind fun x m => (ev g b r m).bind fun y m => (ev g c r m).bind fun z m => .of (max3D x y z) m
  | .isa t a, r, m => (ev g a r m).bind fun x m => .of ((isaD t x).map .bl) m
  | .m1 k a b, r, m => (ev g a r m).bind fun x m => (vx r b m (ev g b r m)).bind fun y m => .of (m1op k x y) m
  | .idx a i, r, m => (vx r a m (ev g a r m)).bind fun x m => (ev g i r m).bind fun y m => .of (idxD m x y) m
  | .slB a i j, r, m => (vx r a m (ev g a r m)).bind fun x m => (ev g i r m).bind fun y m => (ev g j r m).bind fun z m => .of (slI x y z) m
  | .slL a i, r, m => (vx r a m (ev g a r m)).bind fun x m => (ev g i r m).bind fun y m => .of (slLI x y) m
  | .slH a i, r, m => (vx r a m (ev g a r m)).bind fun x m => (ev g i r m).bind fun y m => .of (slHI x y) m
  | .comp own elt tg ik its, r, m => (evx g its r m).bind fun ds m => match itemsD ik ds with
    | some xs => lstR (mapR (fun x m => match bindT tg x (wipeS r (own.map (·.2))) with
        | some r' => ev g elt r' m
        | none => .bad) xs m)
    | none => .bad
  | .compIf own elt tg ik its c, r, m => (evx g its r m).bind fun ds m => match itemsD ik ds with
    | some xs => lstR (mapIfR (fun x m => match bindT tg x (wipeS r (own.map (·.2))) with
        | some r' => asB (ev g c r' m)
        | none => .bad) (fun x m => match bindT tg x (wipeS r (own.map (·.2))) with
        | some r' => ev g elt r' m
        | none => .bad) xs m)
    | none => .bad
def evs (g : Env0) : Exs → List Slot → Mu → Res (List D)
  | .nil, _, m => .ok [] m
  | .cons e es, r, m => (ev g e r m).bind fun d m => (evs g es r m).bind fun ds m => .ok (d :: ds) m
/-- .. own lists among them are looked at -/
def evx (g : Env0) : Exs → List Slot → Mu → Res (List D)
  | .nil, _, m => .ok [] m
  | .cons e es, r, m => (vx r e m (ev g e r m)).bind fun d m => (evx g es r m).bind fun ds m => .ok (d :: ds) m
def evAnd (g : Env0) : Exs → List Slot → Mu → Res D
  | .nil, _, _ => .bad
  | .cons e .nil, r, m => ev g e r m
  | .cons e es, r, m => (asB (ev g e r m)).bind fun b m => if b then evAnd g es r m else .ok (.bl false) m
def evOr (g : Env0) : Exs → List Slot → Mu → Res D
  | .nil, _, _ => .bad
  | .cons e .nil, r, m => ev g e r m
  | .cons e es, r, m => (asB (ev g e r m)).bind fun b m => if b then .ok (.bl true) m else evOr g es r m
end

/-- what comes of a statement -/
inductive SRes where
  | nx (r : List Slot) (m : Mu)
  | rt (d : D) (m : Mu)
  | ex (c : Nat) (a : List D) (m : Mu)
  | bad
def Res.st {α : Type} (x : Res α) (f : α → Mu → SRes) : SRes := match x with
  | .ok a m => f a m
  | .ex c a m => .ex c a m
  | .bad => .bad
def forR (f : D → List Slot → Mu → SRes) : List D → List Slot → Mu → SRes
  | [], r, m => .nx r m
  | x :: xs, r, m => match f x r m with
    | .nx r m => forR f xs r m
    | o => o
def whileR (c : List Slot → Mu → Res Bool) (f : List Slot → Mu → SRes) : Nat → List Slot → Mu → SRes
  | 0, _, _ => .bad
  | n + 1, r, m => (c r m).st fun b m => if b then (match f r m with
    | .nx r m => whileR c f n r m
    | o => o) else .nx r m
mutual
def noList : D → Bool
  | .lst _ => false | .ref _ => false | .scr _ => false
  | .tup xs => noLists xs
  | _ => true
def noLists : List D → Bool
  | [] => true
  | x :: r => noList x && noLists r
end
def pathD : D → List Nat → Option D
  | d, [] => some d
  | .tup xs, i :: p => match xs[i]? with | some d => pathD d p | none => none
  | _, _ => none
def setAll (r : List Slot) (is : List Nat) (ds : List D) : List Slot := (is.zip ds).foldl (fun r p => r.set p.1 (.val p.2)) r
def ownAll (r : List Slot) : List Nat → Option (List Slot)
  | [] => some r
  | i :: is => match r[i]? with | some (.val (.lst ds)) => ownAll (r.set i (.own ds)) is | _ => none
/-- a call whose arguments and store hold no list: its value and the store behind it -/
def callOf (g : Env0) (e : Ex) (r : List Slot) (m : Mu) : Option (D × Mu) := match e with
  | .call f es => match evs g es r m with
    | .ok ds m1 => if noLists ds && m1.all noLists then (match g.call f ds m1 with
      | .ok d m2 => if m2.all noLists then some (d, m2) else none
      | _ => none) else none
    | _ => none
  | _ => none

mutual
def evS (g : Env0) (n : Nat) : Stm → List Slot → Mu → SRes
  | .set i e, r, m => (ev g e r m).st fun d m => .nx (r.set i (.val d)) m
  | .seto i e, r, m => (ev g e r m).st fun d m => match d with | .lst ds => .nx (r.set i (.own ds)) m | _ => .bad
  | .par is es own, r, m => (evs g es r m).st fun ds m => if is.length = ds.length then (match ownAll (setAll r is ds) own with | some r => .nx r m | none => .bad) else .bad
  | .unp is e, r, m => (ev g e r m).st fun d m => match d with | .tup ds => if is.length = ds.length then .nx (setAll r is ds) m else .bad | _ => .bad
  | .app i e, r, m => (ev g e r m).st fun d m => match r[i]? with
    | some (.own ds) => if fit (ds.length + 1) then .nx (r.set i (.own (ds ++ [d]))) m else .bad
    | _ => .bad
  | .ext i e, r, m => (vx r e m (ev g e r m)).st fun d m => match r[i]?, d with
    | some (.own ds), .lst xs => if fit (ds.length + xs.length) then .nx (r.set i (.own (ds ++ xs))) m else .bad
    | _, _ => .bad
  | .seti i ix e, r, m => (ev g e r m).st fun d m => (ev g ix r m).st fun k m => match r[i]?, k with
    | some (.own ds), .int k => match ixN ds.length k with | some j => .nx (r.set i (.own (ds.set j d))) m | none => .bad
    | _, _ => .bad
  | .setr i c e, r, m => (ev g e r m).st fun d m => match r[i]? with
    | some (.val (.ref a)) => match m[a]? with
      | some xs => if c < xs.length then .nx r (m.set a (xs.set c d)) else .bad
      | none => .bad
    | _ => .bad
  | .setrp i c j e, r, m => (ev g e r m).st fun d m => match r[i]?, d with
    | some (.val (.ref a)), .tup [x, y] => match m[a]? with
      | some xs => if c < xs.length then .nx (r.set j (.val y)) (m.set a (xs.set c x)) else .bad
      | none => .bad
    | _, _ => .bad
  | .drop e, r, m => (ev g e r m).st fun _ m => .nx r m
  | .spoil e p _, r, m => match callOf g e r m with
    | some (d, m) => (match pathD d p with | some (.lst xs) => if fit (xs.length + 1) then .nx r m else .bad | _ => .bad)
    | _ => .bad
  | .cond c a b, r, m => (asB (ev g c r m)).st fun t m => if t then evSs g n a r m else evSs g n b r m
  | .for_ tg ik its b, r, m => (evs g its r m).st fun ds m => match itemsD ik ds with
    | some xs => forR (fun x r m => match bindT tg x r with | some r' => evSs g n b r' m | none => .bad) xs r m
    | none => .bad
  | .while_ c b, r, m => whileR (fun r m => asB (ev g c r m)) (fun r m => evSs g n b r m) n r m
  | .ret e, r, m => (ev g e r m).st fun d m => .rt d m
  | .retr es, r, m => (evs g es r m).st fun ds m => .rt (.ref m.length) (m ++ [ds])
  | .retN, _, m => .rt .non m
  | .raise c es, r, m => (evs g es r m).st fun ds m => .ex c ds m
  | .frz i, r, m => match r[i]? with | some (.own ds) => .nx (r.set i (.val (.lst ds))) m | _ => .bad
def evSs (g : Env0) (n : Nat) : Stms → List Slot → Mu → SRes
  | .nil, r, m => .nx r m
  | .cons s ss, r, m => match evS g n s r m with
    | .nx r m => evSs g n ss r m
    | o => o
end

/-- a def: how many slots, how many parameters, its body -/
structure Fn where
  many : Nat
  pars : Nat
  body : Stms
def startS (f : Fn) (ds : List D) : List Slot := ds.map .val ++ List.replicate (f.many - f.pars) .un
def endF : SRes → Res D
  | .rt d m => .ok d m
  | .nx _ m => .ok .non m
  | .ex c a m => .ex c a m
  | .bad => .bad
/-- the defs, k calls one in another; n turns of a while -/
def callF (fs : List Fn) (consts : List D) (n : Nat) : Nat → Nat → List D → Mu → Res D
  | 0, _, _, _ => .bad
  | k + 1, f, ds, m => match fs[f]? with
    | some fn => if ds.length = fn.pars then endF (evSs ⟨consts, callF fs consts n k⟩ n fn.body (startS fn ds) m) else .bad
    | none => .bad
end Mi

set_option linter.all false
set_option maxRecDepth 100000
/-! Mi3: whether a tree stands for a text. -/
namespace Mi
open PySem PySem.Spec PyProof.Rows L2

/-- the names: of the slots; of the defs; of the module's constants; of the classes -/
structure Cc where
  N : List Str
  fns : List Str
  gls : List Str
  cls : List Str
  /-- calls with keywords: the def, the positional arguments, the keywords' names, the parameters' places among them -/
  kws : List (Nat × Nat × List Str × List Nat) := []
def Exs.len : Exs → Nat
  | .nil => 0
  | .cons _ r => r.len + 1
def tgSlots : Tgt → List Nat
  | .nm i => [i]
  | .tp is => is
def tupT : Expr → Bool
  | .Tuple .. => true
  | _ => false
def okTg (own : List (Str × Nat)) (t : Tgt) (ik : IK) (e : Expr) : Bool := (tgSlots t).all (fun i => (own.map (·.2)).contains i) && (match ik with | .enum => tupT e | .zip => tupT e | _ => true)

def nmOk (x : Str) : Bool := !(x == ("__debug__" : Str)) && !(x == ("__classdict__" : Str)) && !(x == ("__name__" : Str))
def visB (sc : Scope) (x : Str) : Bool := match sc.names.lookup x with
  | some .local => true | some .cell => true | some .free => true | _ => false
def locB (sc : Scope) (x : Str) : Bool := match sc.names.lookup x with
  | some .local => true | some .cell => true | _ => false
def isLocal (sc : Scope) (x : Str) : Bool := match sc.names.lookup x with
  | some .local => true | _ => false
def glB (sc : Scope) (x : Str) : Bool := match sc.names.lookup x with
  | some .globalImplicit => nmOk x | _ => false
def B1.name : B1 → Str
  | .len => "len" | .all => "all" | .any => "any" | .sum => "sum" | .tuple => "tuple" | .list => "list" | .sorted => "sorted"
  | .abs => "abs" | .int => "int" | .str => "str" | .repr => "repr" | .max => "max" | .min => "min"
def B2.name : B2 → Str
  | .max => "max" | .min => "min" | .divmod => "divmod"
def M1.name : M1 → Str
  | .split => "split" | .join => "join" | .startswith => "startswith"
def Ty.name : Ty → Str
  | .int => "int" | .bool => "bool" | .str => "str" | .list => "list" | .tuple => "tuple" | .seq => "tuple"
def slotB (C : Cc) (i : Nat) (x : Str) : Bool := decide (C.N[i]? = some x)
def isGl (sc : Scope) (x : Str) : Expr → Bool
  | .Name y _ => decide (y = x) && glB sc y
  | _ => false
def okTy (sc : Scope) (t : Ty) : Expr → Bool
  | .Name y _ => (t != .seq) && decide (y = t.name) && glB sc y
  | .Tuple [.Name y _, .Name z _] _ _ => (t == .seq) && decide (y = ("list" : Str)) && decide (z = ("tuple" : Str)) && glB sc y && glB sc z
  | _ => false
/-- a target within a block of the scope sc (its own names) -/
def okT (C : Cc) (sc : Scope) : Tgt → Expr → Bool
  | .nm i, .Name x _ => slotB C i x && locB sc x && nmOk x
  | .tp is, .Tuple ts _ _ => decide (is.length = ts.length) && (is.zip ts).all fun p => match p.2 with | .Name x _ => slotB C p.1 x && locB sc x && nmOk x | _ => false
  | _, _ => false
def noCall0 : Expr → Bool
  | .Call _ [] _ _ => false
  | _ => true
def kwNames (kws : List Keyword) : List (Option Str) := kws.map (·.arg)

/-- what is walked, by a word on the things of it -/
def okItB (sc : Scope) (ik : IK) (f : List Expr → Bool) (it : Expr) : Bool := match ik with
  | .seq => f [it]
  | .range1 => match it with | .Call (.Name x _) [a] [] _ => decide (x = ("range" : Str)) && glB sc x && f [a] | _ => false
  | .range2 => match it with | .Call (.Name x _) [a, b] [] _ => decide (x = ("range" : Str)) && glB sc x && f [a, b] | _ => false
  | .enum => match it with | .Call (.Name x _) [a] [] _ => decide (x = ("enumerate" : Str)) && glB sc x && f [a] | _ => false
  | .zip => match it with | .Call (.Name x _) [a, b] [] _ => decide (x = ("zip" : Str)) && glB sc x && f [a, b] | _ => false
mutual
def okE (C : Cc) (sc : Scope) : Ex → Expr → Bool
  | .cst c, e => match e with | .Constant c' _ _ => decide (c = c') && okC c | _ => false
  | .var i, e => match e with | .Name x _ => slotB C i x && visB sc x && nmOk x | _ => false
  | .view i, e => match e with | .Name x _ => slotB C i x && visB sc x && nmOk x | _ => false
  | .glb i, e => match e with | .Name x _ => decide (C.gls[i]? = some x) && glB sc x | _ => false
  | .tup es, e => match e with | .Tuple as _ _ => decide (es.len ≤ 100) && okEs C sc es as | _ => false
  | .lst es, e => match e with | .List as _ => decide (es.len ≤ 100) && okEs C sc es as | _ => false
  | .op o a b, e => match e with | .BinOp x p y _ => decide (o = p) && okE C sc a x && okE C sc b y | _ => false
  | .neg a, e => match e with | .UnaryOp .USub x _ => okE C sc a x | _ => false
  | .not a, e => match e with | .UnaryOp .Not x _ => okE C sc a x | _ => false
  | .cmp o a b, e => match e with | .Compare x [p] [y] _ => decide (o = p) && okE C sc a x && okE C sc b y | _ => false
  | .cmp2 o p a b c, e => match e with | .Compare x [q, r] [y, z] _ => decide (o = q) && decide (p = r) && okE C sc a x && okE C sc b y && okE C sc c z | _ => false
  | .and es, e => match e with | .BoolOp .And as _ => okEs C sc es as | _ => false
  | .or es, e => match e with | .BoolOp .Or as _ => okEs C sc es as | _ => false
  | .ite c a b, e => match e with | .IfExp x y z _ => okE C sc c x && okE C sc a y && okE C sc b z | _ => false
  | .call f es, e => match e with | .Call (.Name x _) as [] _ => decide (C.fns[f]? = some x) && glB sc x && okEs C sc es as | _ => false
  | .callk f es ks ord es2, e => match e with
    | .Call (.Name x _) as kws _ => decide (C.fns[f]? = some x) && glB sc x && okEs C sc es as && decide (kwNames kws = ks.map some) && okEs C sc es2 (kws.map (·.value)) && decide ((f, es.len, ks, ord) ∈ C.kws)
    | _ => false
  | .b1 b a, e => match e with | .Call (.Name x _) [y] [] _ => decide (x = b.name) && glB sc x && okE C sc a y | _ => false
  | .b2 b a c, e => match e with | .Call (.Name x _) [y, z] [] _ => decide (x = b.name) && glB sc x && okE C sc a y && okE C sc c z | _ => false
  | .max3 a b c, e => match e with | .Call (.Name x _) [y, z, w] [] _ => decide (x = ("max" : Str)) && glB sc x && okE C sc a y && okE C sc b z && okE C sc c w | _ => false
  | .isa t a, e => match e with | .Call (.Name x _) [y, z] [] _ => decide (x = ("isinstance" : Str)) && glB sc x && okE C sc a y && okTy sc t z | _ => false
  | .m1 k a b, e => match e with
    | .Call (.Attribute x n ap) [y] [] pos => decide (n = k.name) && (ap.endLine == pos.line) && noCall0 x && okE C sc a x && okE C sc b y
    | _ => false
  | .idx a i, e => match e with | .Subscript x y _ => okE C sc a x && okE C sc i y | _ => false
  | .slB a i j, e => match e with | .Subscript x (.Slice (some y) (some z) none _) _ => okE C sc a x && okE C sc i y && okE C sc j z | _ => false
  | .slL a i, e => match e with | .Subscript x (.Slice (some y) none none _) _ => okE C sc a x && okE C sc i y | _ => false
  | .slH a i, e => match e with | .Subscript x (.Slice none (some y) none _) _ => okE C sc a x && okE C sc i y | _ => false
  | .comp own elt tg ik its, e => match e with
    | .ListComp x [⟨t, it, [], 0⟩] scope _ => blkC C.N sc scope own && okTg own tg ik t && okE C (relS scope sc) elt x && okT C scope tg t && okItB sc ik (fun as => okEs C sc its as) it
    | _ => false
  | .compIf own elt tg ik its c, e => match e with
    | .ListComp x [⟨t, it, [y], 0⟩] scope _ => blkC C.N sc scope own && okTg own tg ik t && okE C (relS scope sc) elt x && okE C (relS scope sc) c y && okT C scope tg t && okItB sc ik (fun as => okEs C sc its as) it
    | _ => false
def okEs (C : Cc) (sc : Scope) : Exs → List Expr → Bool
  | .nil, l => match l with | [] => true | _ => false
  | .cons e es, l => match l with | x :: xs => okE C sc e x && okEs C sc es xs | [] => false
end
def okIt (C : Cc) (sc : Scope) (ik : IK) (its : Exs) (it : Expr) : Bool := okItB sc ik (fun as => okEs C sc its as) it
end Mi

set_option linter.all false
set_option maxRecDepth 100000
/-! Mi4: how values lie in the heap. -/
namespace Mi
open PySem PySem.Spec PyProof.Rows L2

/-- the script's list: known to the object, or one of the module's own -/
def ScL (K : PySem.W.Frag) (H : Hp) (a : Addr) (xs : List V) : Prop := (∃ o, H a = some (.frz o (.lst xs))) ∨
    ∃ (o : Obj) (its : Array Value) (n : Nat), K.lookup a = some o ∧ o.cls = .type "list" ∧ o.dict = none ∧ o.data = .seq its n ∧ its.size ≤ sizeLine ∧ Vals xs its.toList
theorem ScL.sq {K : PySem.W.Frag} {H : Hp} {a : Addr} {xs : List V} (h : ScL K H a xs) : SqL K H a xs := h.elim (fun q => .inl (.inr q)) .inr
mutual
/-- d lies at v; B: the places that may be changed some day (no list of d stands there); G: the places of the store's lists -/
inductive Rp (K : PySem.W.Frag) (B : Addr → Prop) (G : List Addr) (H : Hp) : D → V → Prop
  | non : Rp K B G H .non .non
  | bl (b : Bool) : Rp K B G H (.bl b) (.bl b)
  | int (i : Int) : Rp K B G H (.int i) (.int i)
  | str (x : Str) : Rp K B G H (.str x) (.str x)
  | lst {a : Addr} {xs : List V} {ds : List D} : ¬ B a → H a = some (.lst xs) → Rps K B G H ds xs → Rp K B G H (.lst ds) (.ref a)
  | tup {a : Addr} {xs : List V} {ds : List D} : SqT K H a xs → Rps K B G H ds xs → Rp K B G H (.tup ds) (.ref a)
  | ref {n : Nat} {a : Addr} : G[n]? = some a → Rp K B G H (.ref n) (.ref a)
  | scr {a : Addr} {is : List Int} : ScL K H a (is.map V.int) → Rp K B G H (.scr is) (.ref a)
inductive Rps (K : PySem.W.Frag) (B : Addr → Prop) (G : List Addr) (H : Hp) : List D → List V → Prop
  | nil : Rps K B G H [] []
  | cons {d : D} {ds : List D} {v : V} {vs : List V} : Rp K B G H d v → Rps K B G H ds vs → Rps K B G H (d :: ds) (v :: vs)
end

section
variable {K : PySem.W.Frag} {B B' : Addr → Prop} {G G' : List Addr} {H H' : Hp}

mutual
theorem Rp.move (hl : ∀ a xs, ¬ B a → H a = some (.lst xs) → ¬ B' a ∧ H' a = some (.lst xs)) (hs : ∀ a xs, ScL K H a xs → ScL K H' a xs) (ht : ∀ a xs, SqT K H a xs → SqT K H' a xs) (hg : ∀ (n : Nat) (a : Addr), G[n]? = some a → G'[n]? = some a) :
    ∀ {d : D} {v : V}, Rp K B G H d v → Rp K B' G' H' d v
  | _, _, .non => .non
  | _, _, .bl b => .bl b
  | _, _, .int i => .int i
  | _, _, .str x => .str x
  | _, _, .lst h1 h2 h3 => .lst (hl _ _ h1 h2).1 (hl _ _ h1 h2).2 (Rps.move hl hs ht hg h3)
  | _, _, .tup h1 h2 => .tup (ht _ _ h1) (Rps.move hl hs ht hg h2)
  | _, _, .ref h => .ref (hg _ _ h)
  | _, _, .scr h => .scr (hs _ _ h)
theorem Rps.move (hl : ∀ a xs, ¬ B a → H a = some (.lst xs) → ¬ B' a ∧ H' a = some (.lst xs)) (hs : ∀ a xs, ScL K H a xs → ScL K H' a xs) (ht : ∀ a xs, SqT K H a xs → SqT K H' a xs) (hg : ∀ (n : Nat) (a : Addr), G[n]? = some a → G'[n]? = some a) :
    ∀ {ds : List D} {vs : List V}, Rps K B G H ds vs → Rps K B' G' H' ds vs
  | _, _, .nil => .nil
  | _, _, .cons h1 h2 => .cons (Rp.move hl hs ht hg h1) (Rps.move hl hs ht hg h2)
end

theorem Rps.length : ∀ {ds : List D} {vs : List V}, Rps K B G H ds vs → ds.length = vs.length
  | _, _, .nil => rfl
  | _, _, .cons _ t => by rw [List.length_cons, List.length_cons, Rps.length t]
theorem Rps.get : ∀ {ds : List D} {vs : List V} {i : Nat} {d : D}, Rps K B G H ds vs → ds[i]? = some d → ∃ v, vs[i]? = some v ∧ Rp K B G H d v
  | _, _, _, _, .nil, e => by simp at e
  | _, _, 0, _, .cons r _, e => by
    simp at e
    subst e
    exact ⟨_, rfl, r⟩
  | _, _, i + 1, d, .cons _ t, e => by
    obtain ⟨v, h1, h2⟩ := Rps.get (i := i) (d := d) t (by simpa using e)
    exact ⟨v, by simpa using h1, h2⟩
theorem Rps.append : ∀ {ds es : List D} {vs ws : List V}, Rps K B G H ds vs → Rps K B G H es ws → Rps K B G H (ds ++ es) (vs ++ ws)
  | _, _, _, _, .nil, s => s
  | _, _, _, _, .cons r t, s => .cons r (Rps.append t s)
theorem Rps.take : ∀ {ds : List D} {vs : List V} (n : Nat), Rps K B G H ds vs → Rps K B G H (ds.take n) (vs.take n)
  | _, _, 0, _ => .nil
  | _, _, _ + 1, .nil => .nil
  | _, _, n + 1, .cons r t => .cons r (Rps.take n t)
theorem Rps.drop : ∀ {ds : List D} {vs : List V} (n : Nat), Rps K B G H ds vs → Rps K B G H (ds.drop n) (vs.drop n)
  | _, _, 0, r => r
  | _, _, _ + 1, .nil => .nil
  | _, _, n + 1, .cons _ t => Rps.drop n t
theorem Rps.set {d : D} {v : V} (r : Rp K B G H d v) : ∀ {ds : List D} {vs : List V} (i : Nat), Rps K B G H ds vs → Rps K B G H (ds.set i d) (vs.set i v)
  | _, _, _, .nil => .nil
  | _, _, 0, .cons _ t => .cons r t
  | _, _, i + 1, .cons q t => .cons q (Rps.set r i t)
theorem Rps.cut {ds : List D} {vs : List V} (r : Rps K B G H ds vs) (lo hi : Option Int) : Rps K B G H (cutL ds lo hi) (cutV vs lo hi) := by
  unfold cutL cutV
  rw [r.length]
  exact (r.drop _).take _
theorem Rps.atI {ds : List D} {vs : List V} {i : Int} {d : D} (r : Rps K B G H ds vs) (h : atI ds i = some d) : ∃ v, L2.atI vs i = some v ∧ Rp K B G H d v := by
  unfold L2.atI at h ⊢
  rw [← r.length]
  cases e : ixN ds.length i with
  | none =>
    rw [e] at h
    cases h
  | some j =>
    rw [e] at h
    exact r.get h
theorem Rps.repl {ds : List D} {vs : List V} (r : Rps K B G H ds vs) : ∀ n : Nat, Rps K B G H (List.replicate n ds).flatten (List.replicate n vs).flatten
  | 0 => .nil
  | n + 1 => by
    rw [List.replicate_succ, List.replicate_succ, List.flatten_cons, List.flatten_cons]
    exact r.append (Rps.repl r n)

/-! data as HandS reads it -/
mutual
theorem Rp.dp : ∀ (d : D) {v : V} {p : PyData}, Rp K B G H d v → d.py = some p → Dp K H v p
  | .non, v, p, r, e => by
    cases r
    cases e
    exact .non
  | .bl b, v, p, r, e => by
    cases r
    cases e
    exact .bl b
  | .int i, v, p, r, e => by
    cases r
    cases e
    exact .int i
  | .str x, v, p, r, e => by
    cases r
    cases e
    exact .str x
  | .lst ds, v, p, r, e => by
    cases r with
    | lst h1 h2 h3 =>
      unfold D.py at e
      cases q : pys ds with
      | none =>
        rw [q] at e
        cases e
      | some ys =>
        rw [q] at e
        cases e
        exact .lst (SqL.of h2) (Rps.dps ds h3 q)
  | .tup ds, v, p, r, e => by
    cases r with
    | tup h1 h3 =>
      unfold D.py at e
      cases q : pys ds with
      | none =>
        rw [q] at e
        cases e
      | some ys =>
        rw [q] at e
        cases e
        exact .tup h1 (Rps.dps ds h3 q)
  | .ref n, v, p, r, e => by
    unfold D.py at e
    cases e
  | .scr n, v, p, r, e => by
    unfold D.py at e
    cases e
theorem Rps.dps : ∀ (ds : List D) {vs : List V} {ps : List PyData}, Rps K B G H ds vs → pys ds = some ps → DpAll K H vs ps
  | [], vs, ps, r, e => by
    cases r
    cases e
    exact .nil
  | d :: ds, vs, ps, r, e => by
    cases r with
    | cons r1 r2 =>
      unfold pys at e
      cases q1 : d.py with
      | none =>
        rw [q1] at e
        cases e
      | some a =>
        cases q2 : pys ds with
        | none =>
          rw [q1, q2] at e
          cases e
        | some b =>
          rw [q1, q2] at e
          cases e
          exact .cons (Rp.dp d r1 q1) (Rps.dps ds r2 q2)
end
mutual
theorem py_plain : ∀ (d : D) {p : PyData}, d.py = some p → p.plain = true
  | .non, p, e => by
    cases e
    rfl
  | .bl b, p, e => by
    cases e
    rfl
  | .int i, p, e => by
    cases e
    rfl
  | .str x, p, e => by
    cases e
    rfl
  | .lst ds, p, e => by
    unfold D.py at e
    cases q : pys ds with
    | none =>
      rw [q] at e
      cases e
    | some ys =>
      rw [q] at e
      cases e
      have := pys_plain ds q
      unfold PyData.plain
      exact this
  | .tup ds, p, e => by
    unfold D.py at e
    cases q : pys ds with
    | none =>
      rw [q] at e
      cases e
    | some ys =>
      rw [q] at e
      cases e
      have := pys_plain ds q
      unfold PyData.plain
      exact this
  | .ref n, p, e => by
    unfold D.py at e
    cases e
  | .scr n, p, e => by
    unfold D.py at e
    cases e
theorem pys_plain : ∀ (ds : List D) {ps : List PyData}, pys ds = some ps → PyData.plainAll ps = true
  | [], ps, e => by
    cases e
    rfl
  | d :: ds, ps, e => by
    unfold pys at e
    cases q1 : d.py with
    | none =>
      rw [q1] at e
      cases e
    | some a =>
      cases q2 : pys ds with
      | none =>
        rw [q1, q2] at e
        cases e
      | some b =>
        rw [q1, q2] at e
        cases e
        unfold PyData.plainAll
        rw [py_plain d q1, pys_plain ds q2]
        rfl
end
end

/-- all that was there stands as it stood -/
theorem Rp.same {K : PySem.W.Frag} {B : Addr → Prop} {G : List Addr} {H H' : Hp} (s : Same H H') {d : D} {v : V} (r : Rp K B G H d v) : Rp K B G H' d v :=
  Rp.move (fun a xs n h => ⟨n, s _ _ h⟩) (fun a xs h => h.elim (fun ⟨o, q⟩ => .inl ⟨o, s _ _ q⟩) .inr) (fun a xs h => by
    rcases h with (h | ⟨o, h⟩) | h
    · exact .inl (.inl (s _ _ h))
    · exact .inl (.inr ⟨o, s _ _ h⟩)
    · exact .inr h) (fun _ _ h => h) r
theorem Rps.same {K : PySem.W.Frag} {B : Addr → Prop} {G : List Addr} {H H' : Hp} (s : Same H H') {d : List D} {v : List V} (r : Rps K B G H d v) : Rps K B G H' d v :=
  Rps.move (fun a xs n h => ⟨n, s _ _ h⟩) (fun a xs h => h.elim (fun ⟨o, q⟩ => .inl ⟨o, s _ _ q⟩) .inr) (fun a xs h => by
    rcases h with (h | ⟨o, h⟩) | h
    · exact .inl (.inl (s _ _ h))
    · exact .inl (.inr ⟨o, s _ _ h⟩)
    · exact .inr h) (fun _ _ h => h) r
theorem same_upd {H : Hp} {p : Addr} {o : HO} (h : H p = none) : Same H (upd H p o) := fun b x e => by
  rw [upd_ne (ne_of_none e h)]
  exact e

/-- the tree's places: what the callers hold, the def's own lists, the store's lists; ρ and m lie so at σ and H -/
def Bad (M : Addr → Prop) (O : Nat → Option Addr) (G : List Addr) (a : Addr) : Prop := M a ∨ a ∈ G ∨ ∃ i, O i = some a
structure Rep (K : PySem.W.Frag) (M : Addr → Prop) (O : Nat → Option Addr) (G : List Addr) (σ : L2.St) (H : Hp) (r : List Slot) (m : Mu) : Prop where
  dom : ∀ a, M a → H a ≠ none
  len : r.length = σ.length
  val : ∀ (i : Nat) (d : D), r[i]? = some (.val d) → ∃ v, σ[i]? = some (some v) ∧ Rp K (Bad M O G) G H d v
  own : ∀ (i : Nat) (ds : List D), r[i]? = some (.own ds) → ∃ a xs, O i = some a ∧ σ[i]? = some (some (.ref a)) ∧ H a = some (.lst xs) ∧ Rps K (Bad M O G) G H ds xs
  ownU : ∀ i j a, O i = some a → O j = some a → i = j
  ownH : ∀ i a, O i = some a → (∃ xs, H a = some (.lst xs)) ∧ ¬ M a ∧ a ∉ G
  st : ∀ (n : Nat) ds, m[n]? = some ds → ∃ a xs, G[n]? = some a ∧ H a = some (.lst xs) ∧ Rps K (Bad M O G) G H ds xs
  stl : G.length = m.length
  stU : G.Nodup
  stM : ∀ a ∈ G, ¬ M a

/-- what an expression (a call) does to the heap: all but the store's lists stands as it stood; the store may grow -/
structure Grow (G : List Addr) (H : Hp) (G' : List Addr) (H' : Hp) : Prop where
  keep : ∀ a o, H a = some o → a ∉ G → H' a = some o ∧ a ∉ G'
  pre : ∀ (n : Nat) a, G[n]? = some a → G'[n]? = some a
theorem Grow.refl (G : List Addr) (H : Hp) : Grow G H G H := ⟨fun _ _ h n => ⟨h, n⟩, fun _ _ h => h⟩
theorem Grow.trans {G G1 G2 : List Addr} {H H1 H2 : Hp} (a : Grow G H G1 H1) (b : Grow G1 H1 G2 H2) : Grow G H G2 H2 :=
  ⟨fun c o h n => let ⟨h1, n1⟩ := a.keep c o h n; b.keep c o h1 n1, fun n c h => b.pre n c (a.pre n c h)⟩
theorem Grow.same {G : List Addr} {H H' : Hp} (s : Same H H') : Grow G H G H' := ⟨fun _ _ h n => ⟨s _ _ h, n⟩, fun _ _ h => h⟩

section
variable {K : PySem.W.Frag} {M : Addr → Prop} {O : Nat → Option Addr} {G G' : List Addr} {σ : L2.St} {H H' : Hp} {r : List Slot} {m : Mu}
theorem Rep.lst (R : Rep K M O G σ H r m) {a : Addr} (h : a ∈ G) : ∃ xs, H a = some (.lst xs) := by
  obtain ⟨n, hn, e⟩ := List.getElem_of_mem h
  have hm : n < m.length := by rw [← R.stl]; exact hn
  obtain ⟨b, xs, e1, e2, _⟩ := R.st n m[n] (List.getElem?_eq_getElem hm)
  rw [List.getElem?_eq_getElem hn, e] at e1
  cases e1
  exact ⟨xs, e2⟩
theorem Rep.bad (R : Rep K M O G σ H r m) {a : Addr} (h : Bad M O G a) : H a ≠ none := by
  rcases h with h | h | ⟨i, h⟩
  · exact R.dom a h
  · obtain ⟨xs, e⟩ := R.lst h
    rw [e]
    exact fun z => nomatch z
  · obtain ⟨⟨xs, e⟩, _⟩ := R.ownH i a h
    rw [e]
    exact fun z => nomatch z
theorem Rep.new (R : Rep K M O G σ H r m) {a : Addr} (h : H a = none) : ¬ Bad M O G a := fun z => R.bad z h
theorem SqT.grow (R : Rep K M O G σ H r m) (g : Grow G H G' H') {a : Addr} {xs : List V} (h : SqT K H a xs) : SqT K H' a xs := by
  rcases h with (h | ⟨o, h⟩) | h
  · exact .inl (.inl (g.keep a _ h fun z => by
      obtain ⟨ys, e⟩ := R.lst z
      rw [h] at e
      cases e).1)
  · exact .inl (.inr ⟨o, (g.keep a _ h fun z => by
      obtain ⟨ys, e⟩ := R.lst z
      rw [h] at e
      cases e).1⟩)
  · exact .inr h
theorem Rep.rd (R : Rep K M O G σ H r m) (g : Grow G H G' H') {a : Addr} {xs : List V} (hb : ¬ Bad M O G a) (h : H a = some (.lst xs)) : ¬ Bad M O G' a ∧ H' a = some (.lst xs) := by
  obtain ⟨h1, h2⟩ := g.keep a _ h fun z => hb (.inr (.inl z))
  exact ⟨fun z => z.elim (fun q => hb (.inl q)) fun z => z.elim h2 fun q => hb (.inr (.inr q)), h1⟩
theorem Rep.sc (R : Rep K M O G σ H r m) (g : Grow G H G' H') {a : Addr} {xs : List V} (h : ScL K H a xs) : ScL K H' a xs := by
  rcases h with ⟨o, h⟩ | h
  · exact .inl ⟨o, (g.keep a _ h fun z => by
      obtain ⟨ys, e⟩ := R.lst z
      rw [h] at e
      cases e).1⟩
  · exact .inr h
theorem Rep.rp (R : Rep K M O G σ H r m) (g : Grow G H G' H') {d : D} {v : V} (h : Rp K (Bad M O G) G H d v) : Rp K (Bad M O G') G' H' d v :=
  Rp.move (fun a xs n q => R.rd g n q) (fun a xs q => R.sc g q) (fun a xs q => SqT.grow R g q) g.pre h
theorem Rep.rps (R : Rep K M O G σ H r m) (g : Grow G H G' H') {d : List D} {v : List V} (h : Rps K (Bad M O G) G H d v) : Rps K (Bad M O G') G' H' d v :=
  Rps.move (fun a xs n q => R.rd g n q) (fun a xs q => R.sc g q) (fun a xs q => SqT.grow R g q) g.pre h
/-- the heap has grown, the store is as it was -/
theorem Rep.same (R : Rep K M O G σ H r m) (s : Same H H') : Rep K M O G σ H' r m where
  dom := fun a h z => R.dom a h (s.free z)
  len := R.len
  val := fun i d h => let ⟨v, h1, h2⟩ := R.val i d h; ⟨v, h1, h2.same s⟩
  own := fun i ds h => let ⟨a, xs, h1, h2, h3, h4⟩ := R.own i ds h; ⟨a, xs, h1, h2, s _ _ h3, h4.same s⟩
  ownU := R.ownU
  ownH := fun i a h => let ⟨⟨xs, h1⟩, h2⟩ := R.ownH i a h; ⟨⟨xs, s _ _ h1⟩, h2⟩
  st := fun n ds h => let ⟨a, xs, h1, h2, h3⟩ := R.st n ds h; ⟨a, xs, h1, s _ _ h2, h3.same s⟩
  stl := R.stl
  stU := R.stU
  stM := R.stM
end

/-- the store alone: at a call, at its end -/
abbrev RepF (K : PySem.W.Frag) (M : Addr → Prop) (G : List Addr) (H : Hp) (m : Mu) : Prop := Rep K M (fun _ => none) G [] H [] m
abbrev BadF (M : Addr → Prop) (G : List Addr) : Addr → Prop := Bad M (fun _ => none) G
/-- what a def must leave alone of its caller's -/
def Held (M : Addr → Prop) (O : Nat → Option Addr) (a : Addr) : Prop := M a ∨ ∃ i, O i = some a
section
variable {K : PySem.W.Frag} {M : Addr → Prop} {O : Nat → Option Addr} {G G' : List Addr} {σ : L2.St} {H H' : Hp} {r : List Slot} {m m' : Mu}
theorem bad_held {a : Addr} : BadF (Held M O) G a ↔ Bad M O G a := by
  constructor
  · rintro ((h | h) | h | ⟨i, h⟩)
    · exact .inl h
    · exact .inr (.inr h)
    · exact .inr (.inl h)
    · cases h
  · rintro (h | h | h)
    · exact .inl (.inl h)
    · exact .inr (.inl h)
    · exact .inl (.inr h)
theorem bad_held' : BadF (Held M O) G = Bad M O G := funext fun _ => propext bad_held
/-- to the callee -/
theorem Rep.down (R : Rep K M O G σ H r m) : RepF K (Held M O) G H m where
  dom := fun a h => h.elim (R.dom a) fun ⟨i, e⟩ z => by
    obtain ⟨⟨xs, q⟩, _⟩ := R.ownH i a e
    rw [z] at q
    cases q
  len := rfl
  val := fun i d h => by simp at h
  own := fun i d h => by simp at h
  ownU := fun i j a h => by cases h
  ownH := fun i a h => by cases h
  st := fun n ds h => let ⟨a, xs, h1, h2, h3⟩ := R.st n ds h; ⟨a, xs, h1, h2, by
    show Rps K (BadF (Held M O) G) G H ds xs
    rw [bad_held']
    exact h3⟩
  stl := R.stl
  stU := R.stU
  stM := fun a h z => z.elim (R.stM a h) fun ⟨i, e⟩ => (R.ownH i a e).2.2 h
/-- back from the callee -/
theorem Rep.up (R : Rep K M O G σ H r m) (g : Grow G H G' H') (F : RepF K (Held M O) G' H' m') : Rep K M O G' σ H' r m' where
  dom := fun a h => F.dom a (.inl h)
  len := R.len
  val := fun i d h => let ⟨v, h1, h2⟩ := R.val i d h; ⟨v, h1, R.rp g h2⟩
  own := fun i ds h => let ⟨a, xs, h1, h2, h3, h4⟩ := R.own i ds h; ⟨a, xs, h1, h2, (g.keep a _ h3 (R.ownH i a h1).2.2).1, R.rps g h4⟩
  ownU := R.ownU
  ownH := fun i a h => let ⟨⟨xs, h1⟩, h2, h3⟩ := R.ownH i a h; ⟨⟨xs, (g.keep a _ h1 h3).1⟩, h2, (g.keep a _ h1 h3).2⟩
  st := fun n ds h => let ⟨a, xs, h1, h2, h3⟩ := F.st n ds h; ⟨a, xs, h1, h2, by
    have h3 : Rps K (BadF (Held M O) G') G' H' ds xs := h3
    rw [bad_held'] at h3
    exact h3⟩
  stl := F.stl
  stU := F.stU
  stM := fun a h z => F.stM a h (.inl z)
end
end Mi

set_option linter.all false
set_option maxRecDepth 100000
set_option maxHeartbeats 4000000
/-! Mi5: what the operations do to values. -/
namespace Mi
open PySem PySem.Spec PyProof.Rows L2

/-- .. or an own list, which is only looked at -/
def Rw (K : PySem.W.Frag) (B : Addr → Prop) (G : List Addr) (H : Hp) (d : D) (v : V) : Prop :=
  Rp K B G H d v ∨ ∃ ds a xs, d = .lst ds ∧ v = .ref a ∧ H a = some (.lst xs) ∧ Rps K B G H ds xs ∧ a ∉ G
/-- what is written may be changed by others stands in the heap -/
def Fr (B : Addr → Prop) (H : Hp) : Prop := ∀ a, B a → H a ≠ none
/-- the wished value: the heap has grown -/
def Fits (K : PySem.W.Frag) (B : Addr → Prop) (G : List Addr) (H : Hp) (o : Option D) (Q : VK) : Prop :=
  ∃ d, o = some d ∧ ∀ v H', Same H H' → Rp K B G H' d v → Q v H'

section
variable {K : PySem.W.Frag} {B : Addr → Prop} {G : List Addr} {H H' : Hp} {d : D} {v : V}
theorem Rw.of (h : Rp K B G H d v) : Rw K B G H d v := .inl h
theorem Rw.lst {ds : List D} (h : Rw K B G H (.lst ds) v) : ∃ a xs, v = .ref a ∧ H a = some (.lst xs) ∧ Rps K B G H ds xs := by
  rcases h with h | ⟨es, a, xs, e, rfl, h1, h2, _⟩
  · cases h with
    | lst h1 h2 h3 => exact ⟨_, _, rfl, h2, h3⟩
  · cases e
    exact ⟨_, _, rfl, h1, h2⟩
theorem Rw.rp (h : Rw K B G H d v) (n : ∀ ds, d ≠ .lst ds) : Rp K B G H d v := by
  rcases h with h | ⟨es, a, xs, e, _⟩
  · exact h
  · exact absurd e (n es)
theorem Rw.int {i : Int} (h : Rw K B G H (.int i) v) : v = .int i := by
  cases h.rp (fun _ z => nomatch z)
  rfl
theorem Rw.bl {i : Bool} (h : Rw K B G H (.bl i) v) : v = .bl i := by
  cases h.rp (fun _ z => nomatch z)
  rfl
theorem Rw.str {i : Str} (h : Rw K B G H (.str i) v) : v = .str i := by
  cases h.rp (fun _ z => nomatch z)
  rfl
theorem Rw.non (h : Rw K B G H .non v) : v = .non := by
  cases h.rp (fun _ z => nomatch z)
  rfl
theorem Rw.tup {ds : List D} (h : Rw K B G H (.tup ds) v) : ∃ a xs, v = .ref a ∧ SqT K H a xs ∧ Rps K B G H ds xs := by
  cases h.rp (fun _ z => nomatch z) with
  | tup h1 h2 => exact ⟨_, _, rfl, h1, h2⟩
theorem Rw.dp {p : PyData} (h : Rw K B G H d v) (e : d.py = some p) : Dp K H v p := by
  rcases h with h | ⟨ds, a, xs, rfl, rfl, h1, h2, _⟩
  · exact Rp.dp d h e
  · unfold D.py at e
    cases q : pys ds with
    | none =>
      rw [q] at e
      cases e
    | some ys =>
      rw [q] at e
      cases e
      exact .lst (SqL.of h1) (Rps.dps ds h2 q)
theorem Rw.same (s : Same H H') (h : Rw K B G H d v) : Rw K B G H' d v := by
  rcases h with h | ⟨ds, a, xs, e, e2, h1, h2, h3⟩
  · exact .inl (h.same s)
  · exact .inr ⟨ds, a, xs, e, e2, s _ _ h1, h2.same s, h3⟩
theorem Fr.same (s : Same H H') (f : Fr B H) : Fr B H' := fun a h z => f a h (s.free z)
theorem Fr.new (f : Fr B H) {a : Addr} (h : H a = none) : ¬ B a := fun z => f a z h
/-- a new list, a new tuple -/
theorem Rp.newL (f : Fr B H) {p : Addr} (hp : H p = none) {ds : List D} {xs : List V} (r : Rps K B G H ds xs) : Rp K B G (upd H p (.lst xs)) (.lst ds) (.ref p) :=
  .lst (f.new hp) upd_same (r.same (same_upd hp))
theorem Rp.newT {p : Addr} (hp : H p = none) {ds : List D} {xs : List V} (r : Rps K B G H ds xs) : Rp K B G (upd H p (.tup xs)) (.tup ds) (.ref p) :=
  .tup (SqT.of upd_same) (r.same (same_upd hp))
theorem ints_of : ∀ {ds : List D} {is : List Int} {xs : List V}, ints? ds = some is → Rps K B G H ds xs → xs = is.map V.int
  | [], is, xs, e, r => by
    cases r
    cases e
    rfl
  | d :: ds, is, xs, e, r => by
    cases r with
    | cons r1 r2 =>
      cases d with
      | int i =>
        unfold ints? at e
        cases q : ints? ds with
        | none =>
          rw [q] at e
          cases e
        | some l =>
          rw [q] at e
          cases e
          cases r1
          rw [ints_of q r2]
          rfl
      | _ => cases e
theorem bls_of : ∀ {ds : List D} {is : List Bool} {xs : List V}, bls? ds = some is → Rps K B G H ds xs → xs = is.map V.bl
  | [], is, xs, e, r => by
    cases r
    cases e
    rfl
  | d :: ds, is, xs, e, r => by
    cases r with
    | cons r1 r2 =>
      cases d with
      | bl i =>
        unfold bls? at e
        cases q : bls? ds with
        | none =>
          rw [q] at e
          cases e
        | some l =>
          rw [q] at e
          cases e
          cases r1
          rw [bls_of q r2]
          rfl
      | _ => cases e
theorem strs_of : ∀ {ds : List D} {is : List Str} {xs : List V}, strs? ds = some is → Rps K B G H ds xs → xs = is.map V.str
  | [], is, xs, e, r => by
    cases r
    cases e
    rfl
  | d :: ds, is, xs, e, r => by
    cases r with
    | cons r1 r2 =>
      cases d with
      | str i =>
        unfold strs? at e
        cases q : strs? ds with
        | none =>
          rw [q] at e
          cases e
        | some l =>
          rw [q] at e
          cases e
          cases r1
          rw [strs_of q r2]
          rfl
      | _ => cases e
theorem rps_ints : ∀ is : List Int, Rps K B G H (is.map D.int) (is.map V.int)
  | [] => .nil
  | i :: r => .cons (.int i) (rps_ints r)
theorem rps_strs : ∀ is : List Str, Rps K B G H (is.map D.str) (is.map V.str)
  | [] => .nil
  | i :: r => .cons (.str i) (rps_strs r)
end
theorem fit_le {n : Nat} (h : fit n = true) : n ≤ sizeLine := by
  have := of_decide_eq_true h
  rw [sizeLine_eq]
  exact this

section
variable {X : Cx} {B : Addr → Prop} {G : List Addr}
def r2 (K : PySem.W.Frag) (B : Addr → Prop) (G : List Addr) (f : D → D → Option D) : R2 := fun x y H Q =>
  ∃ dx dy, Rw K B G H dx x ∧ Rw K B G H dy y ∧ Fr B H ∧ Fits K B G H (f dx dy) Q
def r1 (K : PySem.W.Frag) (B : Addr → Prop) (G : List Addr) (f : D → Option D) : V → Hp → VK → Prop := fun x H Q =>
  ∃ dx, Rw K B G H dx x ∧ Fr B H ∧ Fits K B G H (f dx) Q

theorem bin_sound (o : Operator) : OpR X (binaryOp o) (r2 X.K B G (binop o)) := by
  intro pins s σ H x y v u Q I rx ry h
  obtain ⟨dx, dy, hx, hy, fr, d, e, q⟩ := h
  unfold binop at e
  split at e
  · cases e
    rw [hx.int] at rx
    rw [hy.int] at ry
    exact op_add pins s σ H _ _ v u Q I rx ry ⟨_, _, rfl, rfl, q _ _ (Same.refl H) (.int _)⟩
  · split at e
    · rename_i hf
      cases e
      rw [hx.str] at rx
      rw [hy.str] at ry
      exact op_add_str pins s σ H _ _ v u Q I rx ry ⟨_, _, rfl, rfl, fit_le hf, q _ _ (Same.refl H) (.str _)⟩
    · cases e
  · split at e
    · rename_i hf
      cases e
      obtain ⟨a, xs, rfl, h1, h2⟩ := hx.lst
      obtain ⟨b, ys, rfl, h3, h4⟩ := hy.lst
      exact op_cat pins s σ H _ _ v u Q I rx ry ⟨_, _, _, _, rfl, rfl, h1, h3, by rw [← h2.length, ← h4.length]; exact fit_le hf, fun p hp => q _ _ (same_upd hp) (Rp.newL fr hp (h2.append h4))⟩
    · cases e
  · split at e
    · rename_i hf
      cases e
      obtain ⟨a, xs, rfl, h1, h2⟩ := hx.tup
      obtain ⟨b, ys, rfl, h3, h4⟩ := hy.tup
      refine op_catA pins s σ H _ _ v u Q I rx ry ⟨_, _, _, _, rfl, rfl, h1, h3, by rw [← h2.length, ← h4.length]; exact fit_le hf, fun e1 => ?_, fun _ e2 => ?_, fun _ _ p hp => q _ _ (same_upd hp) (Rp.newT hp (h2.append h4))⟩
      · subst e1
        cases h2
        exact q _ _ (Same.refl H) (.tup h3 h4)
      · subst e2
        cases h4
        rw [List.append_nil] at q
        exact q _ _ (Same.refl H) (.tup h1 h2)
    · cases e
  · cases e
    rw [hx.int] at rx
    rw [hy.int] at ry
    exact op_sub pins s σ H _ _ v u Q I rx ry ⟨_, _, rfl, rfl, q _ _ (Same.refl H) (.int _)⟩
  · split at e
    · rename_i hf
      cases e
      rw [hx.int] at rx
      rw [hy.int] at ry
      have h0 := of_decide_eq_true hf
      exact op_mulW pins s σ H _ _ v u Q I rx ry ⟨_, _, rfl, rfl, h0, q _ _ (Same.refl H) (.int _)⟩
    · cases e
  · split at e
    · rename_i hf
      cases e
      simp only [Bool.and_eq_true, decide_eq_true_eq] at hf
      obtain ⟨a, xs, rfl, h1, h2⟩ := hx.lst
      rw [hy.int] at ry
      exact op_rep pins s σ H _ _ v u Q I rx ry ⟨_, _, _, rfl, rfl, h1, by omega, by omega, by rw [← h2.length]; exact fit_le hf.2, fun p hp => q _ _ (same_upd hp) (Rp.newL fr hp (h2.repl _))⟩
    · cases e
  · split at e
    · rename_i hf
      cases e
      rw [hx.int] at rx
      rw [hy.int] at ry
      have h0 := of_decide_eq_true hf
      exact op_fdivW pins s σ H _ _ v u Q I rx ry ⟨_, _, rfl, rfl, h0, q _ _ (Same.refl H) (.int _)⟩
    · cases e
  · split at e
    · rename_i hf
      cases e
      rw [hx.int] at rx
      rw [hy.int] at ry
      exact op_mod pins s σ H _ _ v u Q I rx ry ⟨_, _, rfl, rfl, of_decide_eq_true hf, q _ _ (Same.refl H) (.int _)⟩
    · cases e
  · split at e
    · rename_i hf
      cases e
      rw [hx.int] at rx
      rw [hy.int] at ry
      have h0 := of_decide_eq_true hf
      exact op_pow pins s σ H _ _ v u Q I rx ry ⟨_, _, rfl, rfl, ⟨h0.1, h0.2.1, Nat.lt_of_lt_of_le h0.2.2 (by decide)⟩, q _ _ (Same.refl H) (.int _)⟩
    · cases e
  · cases e
theorem neg_sound : UnR X (unaryOp .USub) (r1 X.K B G negop) := by
  intro pins s σ H x v Q I rx h
  obtain ⟨dx, hx, fr, d, e, q⟩ := h
  unfold negop at e
  split at e
  · cases e
    rw [hx.int] at rx
    exact un_neg pins s σ H _ v Q I rx ⟨_, rfl, q _ _ (Same.refl H) (.int _)⟩
  · cases e

/-- data to the library's reading -/
theorem reads_of {pins : List (Addr × Obj)} {s : Shared} {σ : L2.St} {H : Hp} {d : D} {p : PyData} {x : V} {v : Value} (I : Inv X pins σ H s) (h : Rw X.K B G H d x) (e : d.py = some p) (r : RelV x v) : ∃ as, Reads s.heap v p as :=
  Dp.reads I p x v (h.dp e) r
theorem small_min {p q : PyData} (h : small p = true) : min p.depth q.depth ≤ 40 := Nat.le_trans (Nat.min_le_left _ _) (of_decide_eq_true h)

def rB2 (K : PySem.W.Frag) (B : Addr → Prop) (G : List Addr) (f : D → D → Option Bool) : R2 := fun x y H Q =>
  ∃ dx dy, Rw K B G H dx x ∧ Rw K B G H dy y ∧ ∃ b, f dx dy = some b ∧ Q (.bl b) H
theorem eqD_inv {a b : D} {k : Bool} (e : eqD a b = some k) : ∃ p q, a.py = some p ∧ b.py = some q ∧ small p = true ∧ k = PyData.eqv p q := by
  unfold eqD at e
  split at e
  · rename_i p1 p2 e1 e2
    split at e
    · rename_i hs
      rw [Bool.and_eq_true] at hs
      cases e
      exact ⟨_, _, e1, e2, hs.1, rfl⟩
    · cases e
  · cases e
theorem eq_sound (hu : X.A.units + 64 < cLine) : OpR X (compareOp .Eq) (rB2 X.K B G eqD) := by
  intro pins s σ H x y v u Q I rx ry h
  obtain ⟨dx, dy, hx, hy, b, e, q⟩ := h
  obtain ⟨p1, p2, e1, e2, hs, rfl⟩ := eqD_inv e
  obtain ⟨as, a1⟩ := reads_of I hx e1 rx
  obtain ⟨bs, a2⟩ := reads_of I hy e2 ry
  have := small_min (q := p2) hs
  exact SeqAt.eq_plain a1 a2 (py_plain _ e1) (py_plain _ e2) (by omega) ⟨.bl _, H, I, rfl, q⟩
theorem map_not {o : Option Bool} {b : Bool} (h : o.map not = some b) : o = some (!b) := by
  cases o with
  | none => cases h
  | some c =>
    cases h
    rw [Bool.not_not]
theorem ne_sound (hu : X.A.units + 64 < cLine) : OpR X (compareOp .NotEq) (rB2 X.K B G fun a b => (eqD a b).map not) := by
  intro pins s σ H x y v u Q I rx ry h
  obtain ⟨dx, dy, hx, hy, b, e, q⟩ := h
  obtain ⟨p1, p2, e1, e2, hs, h3⟩ := eqD_inv (map_not e)
  obtain ⟨as, a1⟩ := reads_of I hx e1 rx
  obtain ⟨bs, a2⟩ := reads_of I hy e2 ry
  have := small_min (q := p2) hs
  refine SeqAt.ne_plain a1 a2 (py_plain _ e1) (py_plain _ e2) (by omega) ⟨.bl b, H, I, ?_, q⟩
  rw [← h3, Bool.not_not]
  rfl
theorem small_all {p : PyData} {qs : List PyData} (h : small p = true) : min (PyData.depthAll qs) p.depth ≤ 40 := Nat.le_trans (Nat.min_le_right _ _) (of_decide_eq_true h)
/-- what in asks -/
theorem inD_inv {a c : D} {k : Bool} (e : inD a c = some k) : (∃ x y, a = .str x ∧ c = .str y ∧ k = !(Builtin.Str.occurrences y x 0 y.length 1).isEmpty) ∨
    ∃ p qs cs, a.py = some p ∧ pys cs = some qs ∧ (c = .lst cs ∨ c = .tup cs) ∧ small p = true ∧ k = qs.any fun q => PyData.eqv q p := by
  unfold inD at e
  split at e
  · cases e
    exact .inl ⟨_, _, rfl, rfl, rfl⟩
  · split at e
    · rename_i p qs e1 e2
      split at e
      · rename_i hs
        cases e
        exact .inr ⟨_, _, _, e1, e2, .inl rfl, hs, rfl⟩
      · cases e
    · cases e
  · split at e
    · rename_i p qs e1 e2
      split at e
      · rename_i hs
        cases e
        exact .inr ⟨_, _, _, e1, e2, .inr rfl, hs, rfl⟩
      · cases e
    · cases e
  · cases e
theorem pyL {cs : List D} {qs : List PyData} (h : pys cs = some qs) : (D.lst cs).py = some (.list qs) := by
  unfold D.py
  rw [h]
theorem pyT {cs : List D} {qs : List PyData} (h : pys cs = some qs) : (D.tup cs).py = some (.tuple qs) := by
  unfold D.py
  rw [h]
theorem in_sound (hu : X.A.units + 64 < cLine) : OpR X (compareOp .In) (rB2 X.K B G inD) := by
  intro pins s σ H x y v u Q I rx ry h
  obtain ⟨dx, dy, hx, hy, b, e, q⟩ := h
  rcases inD_inv e with ⟨i, j, rfl, rfl, rfl⟩ | ⟨p, qs, cs, e1, e2, e3, hs, rfl⟩
  · rw [hx.str] at rx
    rw [hy.str] at ry
    exact op_in_str pins s σ H _ _ v u Q I rx ry ⟨_, _, rfl, rfl, q⟩
  · obtain ⟨as, a1⟩ := reads_of I hx e1 rx
    have := small_all (qs := qs) hs
    rcases e3 with rfl | rfl
    · obtain ⟨bs, a2⟩ := reads_of I hy (pyL e2) ry
      exact SeqAt.in_list_data a2 a1 (pys_plain _ e2) (py_plain _ e1) (by omega) ⟨.bl _, H, I, rfl, q⟩
    · obtain ⟨bs, a2⟩ := reads_of I hy (pyT e2) ry
      exact SeqAt.in_tuple_data a2 a1 (pys_plain _ e2) (py_plain _ e1) (by omega) ⟨.bl _, H, I, rfl, q⟩
theorem notin_sound (hu : X.A.units + 64 < cLine) : OpR X (compareOp .NotIn) (rB2 X.K B G fun a b => (inD a b).map not) := by
  intro pins s σ H x y v u Q I rx ry h
  obtain ⟨dx, dy, hx, hy, b, e, q⟩ := h
  rcases inD_inv (map_not e) with ⟨i, j, rfl, rfl, h3⟩ | ⟨p, qs, cs, e1, e2, e3, hs, h3⟩
  · rw [hx.str] at rx
    rw [hy.str] at ry
    refine op_notIn_str pins s σ H _ _ v u Q I rx ry ⟨_, _, rfl, rfl, ?_⟩
    rw [← h3, Bool.not_not]
    exact q
  · obtain ⟨as, a1⟩ := reads_of I hx e1 rx
    have := small_all (qs := qs) hs
    rcases e3 with rfl | rfl
    · obtain ⟨bs, a2⟩ := reads_of I hy (pyL e2) ry
      refine SeqAt.notIn_list_data a2 a1 (pys_plain _ e2) (py_plain _ e1) (by omega) ⟨.bl b, H, I, ?_, q⟩
      rw [← h3, Bool.not_not]
      rfl
    · obtain ⟨bs, a2⟩ := reads_of I hy (pyT e2) ry
      refine SeqAt.notIn_tuple_data a2 a1 (pys_plain _ e2) (py_plain _ e1) (by omega) ⟨.bl b, H, I, ?_, q⟩
      rw [← h3, Bool.not_not]
      rfl
theorem isN_of {K : PySem.W.Frag} {B : Addr → Prop} {G : List Addr} {H : Hp} {d : D} {x : V} (h : Rw K B G H d x) : decide (x = V.non) = isNon d := by
  rcases h with h | ⟨ds, a, xs, rfl, rfl, _⟩
  · cases h <;> rfl
  · rfl
/-- a comparison -/
theorem cmp_sound (hu : X.A.units + 64 < cLine) (o : CmpOp) : OpR X (compareOp o) (rB2 X.K B G (cmpop o)) := by
  intro pins s σ H x y v u Q I rx ry h
  obtain ⟨dx, dy, hx, hy, b, e, q⟩ := h
  unfold cmpop at e
  split at e
  · exact eq_sound hu pins s σ H x y v u Q I rx ry ⟨_, _, hx, hy, b, e, q⟩
  · exact ne_sound hu pins s σ H x y v u Q I rx ry ⟨_, _, hx, hy, b, e, q⟩
  · cases e
    rw [hx.int] at rx
    rw [hy.int] at ry
    exact op_lt pins s σ H _ _ v u Q I rx ry ⟨_, _, rfl, rfl, q⟩
  · cases e
    rw [hx.int] at rx
    rw [hy.int] at ry
    exact op_le pins s σ H _ _ v u Q I rx ry ⟨_, _, rfl, rfl, q⟩
  · cases e
    rw [hx.int] at rx
    rw [hy.int] at ry
    exact op_gt pins s σ H _ _ v u Q I rx ry ⟨_, _, rfl, rfl, q⟩
  · cases e
    rw [hx.int] at rx
    rw [hy.int] at ry
    exact op_ge pins s σ H _ _ v u Q I rx ry ⟨_, _, rfl, rfl, q⟩
  · have hn := isN_of hx
    rw [hy.non] at ry
    refine op_isN pins s σ H _ _ v u Q I rx ry ⟨rfl, ?_⟩
    rw [hn]
    have e' := Option.some.inj e
    rw [← e'] at q
    exact q
  · have hn := isN_of hx
    rw [hy.non] at ry
    refine op_notN pins s σ H _ _ v u Q I rx ry ⟨rfl, ?_⟩
    rw [hn]
    have e' := Option.some.inj e
    rw [← e'] at q
    exact q
  · exact in_sound hu pins s σ H x y v u Q I rx ry ⟨_, _, hx, hy, b, e, q⟩
  · exact notin_sound hu pins s σ H x y v u Q I rx ry ⟨_, _, hx, hy, b, e, q⟩
  · cases e
end
end Mi

set_option linter.all false
set_option maxRecDepth 100000
set_option maxHeartbeats 4000000
/-! Mi6: what the built-in functions do to values. -/
namespace Mi
open PySem PySem.Spec PyProof.Rows L2

mutual
theorem nodict_of : ∀ (p : PyData), p.plain = true → p.hasDict = false
  | .none, _ => rfl
  | .bool _, _ => rfl
  | .int _, _ => rfl
  | .str _, _ => rfl
  | .list xs, h => by
    unfold PyData.plain at h
    unfold PyData.hasDict
    exact nodicts_of xs h
  | .tuple xs, h => by
    unfold PyData.plain at h
    unfold PyData.hasDict
    exact nodicts_of xs h
  | .dict _, h => by
    unfold PyData.plain at h
    cases h
theorem nodicts_of : ∀ (ps : List PyData), PyData.plainAll ps = true → PyData.hasDictAll ps = false
  | [], _ => rfl
  | x :: xs, h => by
    unfold PyData.plainAll at h
    rw [Bool.and_eq_true] at h
    unfold PyData.hasDictAll
    rw [nodict_of x h.1, nodicts_of xs h.2]
    rfl
end

section
variable {X : Cx} {B : Addr → Prop} {G : List Addr}
/-- a call with one value -/
def rc1 (K : PySem.W.Frag) (B : Addr → Prop) (G : List Addr) (f : D → Option D) : List V → Hp → VK → Prop := fun xs H Q =>
  ∃ dx x, xs = [x] ∧ Rw K B G H dx x ∧ Fr B H ∧ Fits K B G H (f dx) Q
def rc2 (K : PySem.W.Frag) (B : Addr → Prop) (G : List Addr) (f : D → D → Option D) : List V → Hp → VK → Prop := fun xs H Q =>
  ∃ dx dy x y, xs = [x, y] ∧ Rw K B G H dx x ∧ Rw K B G H dy y ∧ Fr B H ∧ Fits K B G H (f dx dy) Q
def rc3 (K : PySem.W.Frag) (B : Addr → Prop) (G : List Addr) (f : D → D → D → Option D) : List V → Hp → VK → Prop := fun xs H Q =>
  ∃ dx dy dz x y z, xs = [x, y, z] ∧ Rw K B G H dx x ∧ Rw K B G H dy y ∧ Rw K B G H dz z ∧ Fr B H ∧ Fits K B G H (f dx dy dz) Q

theorem repr_sound (hg : X.A.guards = some []) (hu : X.A.units + 64 < cLine) : CallR X (.builtin "repr") (rc1 X.K B G (b1op .repr)) := by
  intro pins s σ H xs us Q I r h
  obtain ⟨dx, x, rfl, hx, fr, d, e, q⟩ := h
  obtain ⟨u, rfl, ru⟩ := r.one
  unfold b1op at e
  simp only at e
  split at e
  · rename_i p ep
    split at e
    · rename_i hs
      cases e
      rw [Bool.and_eq_true, Bool.and_eq_true] at hs
      obtain ⟨⟨h1, h2⟩, h3⟩ := hs
      have hd : p.depth ≤ 40 := of_decide_eq_true h1
      obtain ⟨as, ra⟩ := reads_of I hx ep ru
      have fin : ∀ (h' : Heap) (u : Tok) (tk : Nat), (∀ b o, s.heap.get? b = some o → h'.get? b = some o) → EP X pins σ Q (.str p.shown u) { s with heap := h', toks := tk } :=
        fun h' u tk k => ⟨.str p.shown, H, I.kept k, ⟨u, rfl⟩, q _ _ (Same.refl H) (.str _)⟩
      have nd := nodict_of p (py_plain dx ep)
      cases ra with
      | none =>
        unfold PyData.shown at fin
        exact PySem.P.repr_of_none (fin s.heap _ _ fun _ _ k => k)
      | bool b =>
        unfold PyData.shown at fin
        exact PySem.P.repr_of_bool (fin s.heap _ _ fun _ _ k => k)
      | int i t =>
        unfold PyData.shown at fin
        exact PySem.P.repr_of_int (of_decide_eq_true h2) (fin s.heap _ _ fun _ _ k => k)
      | str z t =>
        unfold PyData.shown at fin h3
        exact PySem.P.repr_of_str (fin s.heap _ _ fun _ _ k => k) (fit_le h3)
      | list a1 a2 a3 a4 => exact repr_of_reads' (.list a1 a2 a3 a4) h2 (fun z => by rw [nd] at z; cases z) hg (by omega) (fun _ _ k => k) fin (fit_le h3)
      | tuple a1 a2 a3 a4 => exact repr_of_reads' (.tuple a1 a2 a3 a4) h2 (fun z => by rw [nd] at z; cases z) hg (by omega) (fun _ _ k => k) fin (fit_le h3)
      | dict a1 a2 a3 a4 a5 =>
        unfold PyData.hasDict at nd
        cases nd
    · cases e
  · cases e

def b1val : B1 → Value
  | .len => .builtin "len" | .all => .builtin "all" | .any => .builtin "any" | .sum => .builtin "sum" | .tuple => .type "tuple" | .list => .type "list"
  | .sorted => .builtin "sorted" | .abs => .builtin "abs" | .int => .type "int" | .str => .type "str" | .repr => .builtin "repr" | .max => .builtin "max" | .min => .builtin "min"
theorem b1_sound (hc : X.calm = true) (hg : X.A.guards = some []) (hu : X.A.units + 64 < cLine) (b : B1) : CallR X (b1val b) (rc1 X.K B G (b1op b)) := by
  intro pins s σ H xs us Q I r h
  obtain ⟨dx, x, rfl, hx, fr, d, e, q⟩ := h
  unfold b1op at e
  split at e
  · cases e
    obtain ⟨a, ys, rfl, h1, h2⟩ := hx.lst
    refine call_len_seq pins s σ H _ us Q I r ⟨a, ys, rfl, .inl (SqL.of h1), ?_⟩
    rw [← h2.length]
    exact q _ _ (Same.refl H) (.int _)
  · cases e
    obtain ⟨a, ys, rfl, h1, h2⟩ := hx.tup
    refine call_len_seq pins s σ H _ us Q I r ⟨a, ys, rfl, .inr h1, ?_⟩
    rw [← h2.length]
    exact q _ _ (Same.refl H) (.int _)
  · cases e
    cases hx.rp (fun _ z => nomatch z) with
    | scr h1 =>
      refine call_len_seq pins s σ H _ us Q I r ⟨_, _, rfl, .inl h1.sq, ?_⟩
      rw [List.length_map]
      exact q _ _ (Same.refl H) (.int _)
  · split at e
    · rename_i hf
      cases e
      rw [hx.str] at r
      exact call_len_str pins s σ H _ us Q I r ⟨_, rfl, fit_le hf, q _ _ (Same.refl H) (.int _)⟩
    · cases e
  · split at e
    · rename_i bs hb
      cases e
      obtain ⟨a, ys, rfl, h1, h2⟩ := hx.lst
      rw [bls_of hb h2] at h1
      exact cr_all hc pins s σ H _ us Q I r ⟨a, bs, rfl, SqL.of h1, q _ _ (Same.refl H) (.bl _)⟩
    · cases e
  · split at e
    · rename_i bs hb
      cases e
      obtain ⟨a, ys, rfl, h1, h2⟩ := hx.lst
      rw [bls_of hb h2] at h1
      exact cr_any hc pins s σ H _ us Q I r ⟨a, bs, rfl, SqL.of h1, q _ _ (Same.refl H) (.bl _)⟩
    · cases e
  · split at e
    · rename_i bs hb
      cases e
      obtain ⟨a, ys, rfl, h1, h2⟩ := hx.lst
      rw [ints_of hb h2] at h1
      exact cr_sum hc pins s σ H _ us Q I r ⟨a, bs, rfl, SqL.of h1, q _ _ (Same.refl H) (.int _)⟩
    · cases e
  · cases e
    obtain ⟨a, ys, rfl, h1, h2⟩ := hx.lst
    exact call_tuple_of pins s σ H _ us Q I r ⟨a, ys, rfl, .inl ⟨SqL.of h1, fun p hp => q _ _ (same_upd hp) (Rp.newT hp h2)⟩⟩
  · cases e
    obtain ⟨a, ys, rfl, h1, h2⟩ := hx.tup
    exact call_tuple_of pins s σ H _ us Q I r ⟨a, ys, rfl, .inr ⟨h1, q _ _ (Same.refl H) (.tup h1 h2)⟩⟩
  · cases e
    obtain ⟨a, ys, rfl, h1, h2⟩ := hx.lst
    exact call_list_of pins s σ H _ us Q I r ⟨a, ys, rfl, .inl (SqL.of h1), fun p hp => q _ _ (same_upd hp) (Rp.newL fr hp h2)⟩
  · cases e
    obtain ⟨a, ys, rfl, h1, h2⟩ := hx.tup
    exact call_list_of pins s σ H _ us Q I r ⟨a, ys, rfl, .inr h1, fun p hp => q _ _ (same_upd hp) (Rp.newL fr hp h2)⟩
  · cases e
    rw [hx.int] at r
    exact call_abs pins s σ H _ us Q I r ⟨_, rfl, q _ _ (Same.refl H) (.int _)⟩
  · cases e
    rw [hx.int] at r
    exact call_int1 pins s σ H _ us Q I r (.inl ⟨_, rfl, q _ _ (Same.refl H) (.int _)⟩)
  · cases e
    rw [hx.bl] at r
    exact call_int1 pins s σ H _ us Q I r (.inr ⟨_, rfl, q _ _ (Same.refl H) (.int _)⟩)
  · split at e
    · rename_i hf
      rw [hx.str] at r
      rename_i z
      cases hz : intText? z with
      | none =>
        rw [hz] at e
        cases e
      | some n =>
        rw [hz] at e
        cases e
        exact call_int_str pins s σ H _ us Q I r ⟨_, n, rfl, hz, of_decide_eq_true hf, q _ _ (Same.refl H) (.int _)⟩
    · cases e
  · split at e
    · rename_i hf
      cases e
      rw [hx.int] at r
      exact call_str_int pins s σ H _ us Q I r ⟨_, rfl, of_decide_eq_true hf, q _ _ (Same.refl H) (.str _)⟩
    · cases e
  · cases e
    rw [hx.str] at r
    obtain ⟨u, rfl, t, rfl⟩ := r.one
    exact PySem.P.str_of_str ⟨.str _, H, I, ⟨t, rfl⟩, q _ _ (Same.refl H) (.str _)⟩
  · exact repr_sound hg hu pins s σ H _ us Q I r ⟨_, _, rfl, hx, fr, d, e, q⟩
  · cases e

def b2val : B2 → Value
  | .max => .builtin "max" | .min => .builtin "min" | .divmod => .builtin "divmod"
theorem b2_sound (hc : X.calm = true) (b : B2) : CallR X (b2val b) (rc2 X.K B G (b2op b)) := by
  intro pins s σ H xs us Q I r h
  obtain ⟨dx, dy, x, y, rfl, hx, hy, fr, d, e, q⟩ := h
  unfold b2op at e
  split at e
  · cases e
    rw [hx.int, hy.int] at r
    exact call_max2 hc pins s σ H _ us Q I r ⟨_, _, rfl, q _ _ (Same.refl H) (.int _)⟩
  · cases e
    rw [hx.int, hy.int] at r
    exact call_min2 hc pins s σ H _ us Q I r ⟨_, _, rfl, q _ _ (Same.refl H) (.int _)⟩
  · split at e
    · rename_i hf
      cases e
      rw [hx.int, hy.int] at r
      have h0 := of_decide_eq_true hf
      exact call_divmod pins s σ H _ us Q I r ⟨_, _, rfl, h0, fun p hp => q _ _ (same_upd hp) (Rp.newT hp (.cons (.int _) (.cons (.int _) .nil)))⟩
    · cases e
  · cases e

/-- the type's name -/
def tyD : D → Option String
  | .non => some "NoneType" | .bl _ => some "bool" | .int _ => some "int" | .str _ => some "str" | .lst _ => some "list" | .tup _ => some "tuple"
  | .ref _ => none | .scr _ => none
theorem tyx_of {K : PySem.W.Frag} {H : Hp} {d : D} {x : V} {t : String} (h : Rw K B G H d x) (e : tyD d = some t) : TyX K H x (.type t) := by
  cases d with
  | non =>
    cases e
    rw [h.non]
    exact .base .non
  | bl b =>
    cases e
    rw [h.bl]
    exact .base (.bl b)
  | int b =>
    cases e
    rw [h.int]
    exact .base (.int b)
  | str b =>
    cases e
    rw [h.str]
    exact .base (.str b)
  | lst ds =>
    cases e
    obtain ⟨a, xs, rfl, h1, _⟩ := h.lst
    exact .base (.lst h1)
  | tup ds =>
    cases e
    obtain ⟨a, xs, rfl, h1, _⟩ := h.tup
    rcases h1 with (h1 | ⟨o, h1⟩) | ⟨o, its, n, h1, h2, _⟩
    · exact .base (.tup h1)
    · exact .fTuple h1
    · exact .kTuple h1 h2
  | ref n => cases e
  | scr n => cases e
def Ty.py : Ty → String
  | .int => "int" | .bool => "bool" | .str => "str" | .list => "list" | .tuple => "tuple" | .seq => "tuple"
theorem kit_isa {K : PySem.W.Frag} {d : D} {t : Ty} {b : Bool} {n : String} (ht : t ≠ .seq) (h : isaD t d = some b) (e : tyD d = some n) : PySem.W.kitOne K (.type n) (.type t.py) = some b := by
  cases d <;> cases e <;> cases t <;> first | exact absurd rfl ht | (cases h; exact kit_ty (by decide +kernel))
theorem kit_two {K : PySem.W.Frag} {n : String} {b1 b2 : Bool} (h1 : kitB n "list" = some b1) (h2 : kitB n "tuple" = some b2) : PySem.W.kitAny K (.type n) [.type "list", .type "tuple"] = some (b1 || b2) := by
  refine kitAny_cons (b := b1) (kit_ty h1) (fun e => ?_) fun e => by rw [e]; rfl
  subst e
  refine kitAny_cons (b := b2) (kit_ty h2) (fun e => ?_) fun e => by rw [e]; rfl
  subst e
  exact kitAny_nil
theorem kit_seq {K : PySem.W.Frag} {d : D} {b : Bool} {n : String} (h : isaD .seq d = some b) (e : tyD d = some n) : PySem.W.kitAny K (.type n) [.type "list", .type "tuple"] = some b := by
  cases d <;> cases e <;> cases h
  · exact kit_two (b1 := false) (b2 := false) (by decide +kernel) (by decide +kernel)
  · exact kit_two (b1 := false) (b2 := false) (by decide +kernel) (by decide +kernel)
  · exact kit_two (b1 := false) (b2 := false) (by decide +kernel) (by decide +kernel)
  · exact kit_two (b1 := false) (b2 := false) (by decide +kernel) (by decide +kernel)
  · exact kit_two (b1 := true) (b2 := false) (by decide +kernel) (by decide +kernel)
  · exact kit_two (b1 := false) (b2 := true) (by decide +kernel) (by decide +kernel)
theorem isa_ty {d : D} {t : Ty} {b : Bool} (h : isaD t d = some b) : ∃ n, tyD d = some n := by
  cases d <;> first | exact ⟨_, rfl⟩ | cases h
theorem max3_sound (hc : X.calm = true) : CallR X (.builtin "max") (rc3 X.K B G max3D) := by
  intro pins s σ H xs us Q I r h
  obtain ⟨dx, dy, dz, x, y, z, rfl, hx, hy, hz, fr, d, e, q⟩ := h
  unfold max3D at e
  split at e
  · cases e
    rw [hx.int, hy.int, hz.int] at r
    cases r with
    | cons ra r =>
      cases r with
      | cons rb r =>
        cases r with
        | cons rc r =>
          cases r
          obtain ⟨t1, rfl⟩ := ra
          obtain ⟨t2, rfl⟩ := rb
          obtain ⟨t3, rfl⟩ := rc
          refine PySem.max_three_ints (I.ok.hd hc) fun h' tk k => ⟨.int _, H, I.kept k, ?_, q _ _ (Same.refl H) (.int _)⟩
          split <;> split <;> exact ⟨_, rfl⟩
  · cases e
/-- a method of a text -/
def rm1 (K : PySem.W.Frag) (B : Addr → Prop) (G : List Addr) (f : D → D → Option D) : V → List V → Hp → VK → Prop := fun x xs H Q =>
  ∃ dx dy y, xs = [y] ∧ Rw K B G H dx x ∧ Rw K B G H dy y ∧ Fr B H ∧ Fits K B G H (f dx dy) Q
theorem split_sound : MtR X "str.split" (rm1 X.K B G splitD) := by
  intro pins s σ H x xs v us Q I rx rs h
  obtain ⟨dx, dy, y, rfl, hx, hy, fr, d, e, q⟩ := h
  unfold splitD at e
  split at e
  · split at e
    · rename_i hf
      cases e
      rw [Bool.and_eq_true, Bool.not_eq_true'] at hf
      rw [hx.str] at rx
      rw [hy.str] at rs
      exact mt_split pins s σ H _ _ v us Q I rx rs ⟨_, _, rfl, rfl, hf.1, fit_le hf.2, fun p hp => q _ _ (same_upd hp) (Rp.newL fr hp (rps_strs _))⟩
    · cases e
  · cases e
theorem join_sound : MtR X "str.join" (rm1 X.K B G joinD) := by
  intro pins s σ H x xs v us Q I rx rs h
  obtain ⟨dx, dy, y, rfl, hx, hy, fr, d, e, q⟩ := h
  unfold joinD at e
  split at e
  · split at e
    · rename_i ys hs
      split at e
      · rename_i hf
        cases e
        rw [hx.str] at rx
        obtain ⟨a, vs, rfl, h1, h2⟩ := hy.lst
        rw [strs_of hs h2] at h1
        exact mt_join pins s σ H _ _ v us Q I rx rs ⟨_, _, ys, rfl, rfl, .inl (SqL.of h1), of_decide_eq_true hf, q _ _ (Same.refl H) (.str _)⟩
      · cases e
    · cases e
  · split at e
    · rename_i ys hs
      split at e
      · rename_i hf
        cases e
        rw [hx.str] at rx
        obtain ⟨a, vs, rfl, h1, h2⟩ := hy.tup
        rw [strs_of hs h2] at h1
        exact mt_join pins s σ H _ _ v us Q I rx rs ⟨_, _, ys, rfl, rfl, .inr h1, of_decide_eq_true hf, q _ _ (Same.refl H) (.str _)⟩
      · cases e
    · cases e
  · cases e
theorem starts_sound : MtR X "str.startswith" (rm1 X.K B G startsD) := by
  intro pins s σ H x xs v us Q I rx rs h
  obtain ⟨dx, dy, y, rfl, hx, hy, fr, d, e, q⟩ := h
  unfold startsD at e
  split at e
  · cases e
    rw [hx.str] at rx
    rw [hy.str] at rs
    exact mt_startswith pins s σ H _ _ v us Q I rx rs ⟨_, _, rfl, rfl, q _ _ (Same.refl H) (.bl _)⟩
  · cases e

/-- an item; the store's lists are known -/
def rIdx (K : PySem.W.Frag) (B : Addr → Prop) (G : List Addr) (m : Mu) : R2 := fun x y H Q =>
  ∃ dx dy, Rw K B G H dx x ∧ Rw K B G H dy y ∧ (∀ (n : Nat) ds, m[n]? = some ds → ∃ a xs, G[n]? = some a ∧ H a = some (.lst xs) ∧ Rps K B G H ds xs) ∧
    ∃ d, idxD m dx dy = some d ∧ ∀ v, Rp K B G H d v → Q v H
theorem idx_sound {m : Mu} : IxR X (rIdx X.K B G m) := by
  intro value slice pins s σ H x y v u Q I rx ry h hs
  obtain ⟨dx, dy, hx, hy, hm, d, e, q⟩ := h
  unfold idxD at e
  split at e
  · obtain ⟨a, xs, rfl, h1, h2⟩ := hx.lst
    rw [hy.int] at ry
    obtain ⟨z, e1, e2⟩ := h2.atI e
    exact ix_list value slice pins s σ H _ _ v u Q I rx ry ⟨_, _, _, z, rfl, rfl, SqL.of h1, e1, q z e2⟩ hs
  · obtain ⟨a, xs, rfl, h1, h2⟩ := hx.tup
    rw [hy.int] at ry
    obtain ⟨z, e1, e2⟩ := h2.atI e
    exact ix_tup value slice pins s σ H _ _ v u Q I rx ry ⟨_, _, _, z, rfl, rfl, h1, e1, q z e2⟩ hs
  · split at e
    · rename_i x0 i0 hf
      rw [hx.str] at rx
      rw [hy.int] at ry
      cases hc : atI x0.cps.toList i0 with
      | none =>
        rw [hc] at e
        cases e
      | some c =>
        rw [hc] at e
        cases e
        exact ix_str value slice pins s σ H _ _ v u Q I rx ry ⟨_, _, c, rfl, rfl, fit_le hf, hc, q _ (.str _)⟩ hs
    · cases e
  · rename_i is i0
    cases hx.rp (fun _ z => nomatch z) with
    | scr h1 =>
      rw [hy.int] at ry
      cases hc : atI is i0 with
      | none =>
        rw [hc] at e
        cases e
      | some c =>
        rw [hc] at e
        cases e
        refine ix_list value slice pins s σ H _ _ v u Q I rx ry ⟨_, _, _, .int c, rfl, rfl, h1.sq, ?_, q _ (.int _)⟩ hs
        unfold atI at hc ⊢
        rw [List.length_map]
        cases hj : ixN is.length i0 with
        | none =>
          rw [hj] at hc
          cases hc
        | some j =>
          rw [hj] at hc
          show (is.map V.int)[j]? = _
          rw [List.getElem?_map, show is[j]? = some c from hc]
          rfl
  · split at e
    · rename_i n i0 ds hd
      obtain ⟨a, xs, e1, h1, h2⟩ := hm _ _ hd
      cases hx.rp (fun _ z => nomatch z) with
      | ref h3 =>
        rw [e1] at h3
        cases h3
        rw [hy.int] at ry
        obtain ⟨z, e1, e2⟩ := h2.atI e
        exact ix_list value slice pins s σ H _ _ v u Q I rx ry ⟨_, _, _, z, rfl, rfl, SqL.of h1, e1, q z e2⟩ hs
    · cases e
  · cases e
/-- a part -/
def rSl (K : PySem.W.Frag) (B : Addr → Prop) (G : List Addr) : V → Option Int → Option Int → Hp → VK → Prop := fun x lo hi H Q =>
  ∃ dx, Rw K B G H dx x ∧ Fr B H ∧ Fits K B G H (slD dx lo hi) Q
theorem sl_sound : SlR X (rSl X.K B G) := by
  intro pins s σ H x v vl vu lo hi sl Q I rx hs pl pu h
  obtain ⟨dx, hx, fr, d, e, q⟩ := h
  unfold slD at e
  split at e
  · cases e
    obtain ⟨a, xs, rfl, h1, h2⟩ := hx.lst
    exact sl_list pins s σ H _ v vl vu lo hi sl Q I rx hs pl pu ⟨_, _, rfl, SqL.of h1, fun p hp => q _ _ (same_upd hp) (Rp.newL fr hp (h2.cut lo hi))⟩
  · cases e
    obtain ⟨a, xs, rfl, h1, h2⟩ := hx.tup
    refine sl_tupA pins s σ H _ v vl vu lo hi sl Q I rx hs pl pu ⟨_, _, rfl, h1, fun ⟨e1, e2⟩ => ?_, fun _ p hp => q _ _ (same_upd hp) (Rp.newT hp (h2.cut lo hi))⟩
    refine q _ _ (Same.refl H) (.tup h1 ?_)
    unfold cutL
    rw [h2.length, e1, e2, Nat.sub_zero, List.drop_zero, ← h2.length, List.take_length]
    exact h2
  · split at e
    · rename_i hf
      cases e
      rw [hx.str] at rx
      exact sl_str pins s σ H _ v vl vu lo hi sl Q I rx hs pl pu ⟨_, rfl, fit_le hf, q _ _ (Same.refl H) (.str _)⟩
    · cases e
  · cases e
end
end Mi

set_option linter.all false
set_option maxRecDepth 100000
set_option maxHeartbeats 4000000
/-! Mi7: how the slots and the store lie behind each step. -/
namespace Mi
open PySem PySem.Spec PyProof.Rows L2

section
variable {K : PySem.W.Frag} {M M' : Addr → Prop} {O O' : Nat → Option Addr} {G G' : List Addr} {σ : L2.St} {H H' : Hp} {r : List Slot} {m m' : Mu}

theorem Rep.fr (R : Rep K M O G σ H r m) : Fr (Bad M O G) H := fun _ h => R.bad h
theorem Rep.rw (R : Rep K M O G σ H r m) (g : Grow G H G' H') {d : D} {v : V} (h : Rw K (Bad M O G) G H d v) : Rw K (Bad M O G') G' H' d v := by
  rcases h with h | ⟨ds, a, xs, e, e2, h1, h2, h3⟩
  · exact .inl (R.rp g h)
  · exact .inr ⟨ds, a, xs, e, e2, (g.keep a _ h1 h3).1, R.rps g h2, (g.keep a _ h1 h3).2⟩

/-- fewer places are kept -/
theorem Bad.mono (h : ∀ a, M' a → M a) (ho : ∀ a i, O' i = some a → ∃ j, O j = some a) {a : Addr} (b : Bad M' O' G a) : Bad M O G a :=
  b.elim (fun z => .inl (h a z)) fun z => .inr (z.imp id fun ⟨i, e⟩ => ho a i e)
theorem Rp.mono {B B' : Addr → Prop} (h : ∀ a, B' a → B a) {d : D} {v : V} (r : Rp K B G H d v) : Rp K B' G H d v :=
  Rp.move (fun a xs n e => ⟨fun z => n (h a z), e⟩) (fun _ _ e => e) (fun _ _ e => e) (fun _ _ e => e) r
theorem Rps.mono {B B' : Addr → Prop} (h : ∀ a, B' a → B a) {d : List D} {v : List V} (r : Rps K B G H d v) : Rps K B' G H d v :=
  Rps.move (fun a xs n e => ⟨fun z => n (h a z), e⟩) (fun _ _ e => e) (fun _ _ e => e) (fun _ _ e => e) r
theorem Rep.weakM (R : Rep K M O G σ H r m) (h : ∀ a, M' a → M a) : Rep K M' O G σ H r m where
  dom := fun a z => R.dom a (h a z)
  len := R.len
  val := fun i d e => let ⟨v, h1, h2⟩ := R.val i d e; ⟨v, h1, h2.mono fun a b => b.mono h fun _ i z => ⟨i, z⟩⟩
  own := fun i ds e => let ⟨a, xs, h1, h2, h3, h4⟩ := R.own i ds e; ⟨a, xs, h1, h2, h3, h4.mono fun a b => b.mono h fun _ i z => ⟨i, z⟩⟩
  ownU := R.ownU
  ownH := fun i a e => let ⟨h1, h2, h3⟩ := R.ownH i a e; ⟨h1, fun z => h2 (h a z), h3⟩
  st := fun n ds e => let ⟨a, xs, h1, h2, h3⟩ := R.st n ds e; ⟨a, xs, h1, h2, h3.mono fun a b => b.mono h fun _ i z => ⟨i, z⟩⟩
  stl := R.stl
  stU := R.stU
  stM := fun a e z => R.stM a e (h a z)

/-- a slot holds a value -/
theorem Rep.set (R : Rep K M O G σ H r m) {i : Nat} {d : D} {v : V} (h : Rp K (Bad M O G) G H d v) : Rep K M O G (σ.set i (some v)) H (r.set i (.val d)) m where
  dom := R.dom
  len := by rw [List.length_set, List.length_set]; exact R.len
  val := fun j e q => by
    by_cases hj : i = j
    · subst hj
      have hi : i < r.length := by
        have := (List.getElem?_eq_some_iff.mp q).1
        rwa [List.length_set] at this
      rw [List.getElem?_set_self hi] at q
      cases q
      exact ⟨v, by rw [List.getElem?_set_self (by rw [← R.len]; exact hi)], h⟩
    · rw [List.getElem?_set_ne hj] at q
      rw [List.getElem?_set_ne hj]
      exact R.val j e q
  own := fun j e q => by
    by_cases hj : i = j
    · subst hj
      have hi : i < r.length := by
        have := (List.getElem?_eq_some_iff.mp q).1
        rwa [List.length_set] at this
      rw [List.getElem?_set_self hi] at q
      cases q
    · rw [List.getElem?_set_ne hj] at q
      rw [List.getElem?_set_ne hj]
      exact R.own j e q
  ownU := R.ownU
  ownH := R.ownH
  st := R.st
  stl := R.stl
  stU := R.stU
  stM := R.stM
/-- slots are forgotten -/
theorem wipeS_len (r : List Slot) : ∀ vs : List Nat, (wipeS r vs).length = r.length
  | [] => rfl
  | v :: vs => by
    unfold wipeS
    rw [List.length_set, wipeS_len r vs]
theorem wipeS_get {r : List Slot} {i : Nat} {s : Slot} : ∀ {vs : List Nat}, (wipeS r vs)[i]? = some s → s ≠ .un → r[i]? = some s ∧ i ∉ vs
  | [], h, _ => ⟨h, by simp⟩
  | v :: vs, h, n => by
    unfold wipeS at h
    by_cases hi : v = i
    · subst hi
      by_cases hv : v < (wipeS r vs).length
      · rw [List.getElem?_set_self hv] at h
        cases h
        exact absurd rfl n
      · rw [List.getElem?_eq_none (by simpa using hv)] at h
        cases h
    · rw [List.getElem?_set_ne hi] at h
      obtain ⟨h1, h2⟩ := wipeS_get h n
      exact ⟨h1, by simp only [List.mem_cons, not_or]; exact ⟨fun e => hi e.symm, h2⟩⟩
theorem wipe_get {σ : L2.St} {i : Nat} : ∀ {vs : List Nat}, i ∉ vs → (wipe σ vs)[i]? = σ[i]?
  | [], _ => rfl
  | v :: vs, h => by
    unfold wipe
    rw [List.getElem?_set_ne fun e => h (by rw [e]; exact List.mem_cons_self)]
    exact wipe_get fun z => h (List.mem_cons_of_mem _ z)
theorem Rep.wipe (R : Rep K M O G σ H r m) (vs : List Nat) : Rep K M O G (wipe σ vs) H (wipeS r vs) m where
  dom := R.dom
  len := by rw [wipeS_len, wipe_length]; exact R.len
  val := fun j e q => by
    obtain ⟨h1, h2⟩ := wipeS_get q fun z => nomatch z
    rw [wipe_get h2]
    exact R.val j e h1
  own := fun j e q => by
    obtain ⟨h1, h2⟩ := wipeS_get q fun z => nomatch z
    rw [wipe_get h2]
    exact R.own j e h1
  ownU := R.ownU
  ownH := R.ownH
  st := R.st
  stl := R.stl
  stU := R.stU
  stM := R.stM

/-- .. or the place p -/
def Plus (M : Addr → Prop) (p : Addr) : Addr → Prop := fun a => M a ∨ a = p
/-- what stands at a new place is nobody's -/
theorem Rep.forbid (R : Rep K M O G σ H r m) {p : Addr} (hp : H p = none) {xs : List V} : Rep K (Plus M p) O G σ (upd H p (.lst xs)) r m := by
  have s := same_upd (o := HO.lst xs) hp
  have up : ∀ {d : D} {v : V}, Rp K (Bad M O G) G H d v → Rp K (Bad (Plus M p) O G) G (upd H p (.lst xs)) d v := fun {d v} h =>
    Rp.move (fun a ys n e => ⟨fun z => by
      rcases z with (z | z) | z
      · exact n (.inl z)
      · rw [z, hp] at e
        cases e
      · exact n (.inr z), s _ _ e⟩) (fun a ys e => e.elim (fun ⟨o, q⟩ => .inl ⟨o, s _ _ q⟩) .inr) (fun a ys e => by
        rcases e with (e | ⟨o, e⟩) | e
        · exact .inl (.inl (s _ _ e))
        · exact .inl (.inr ⟨o, s _ _ e⟩)
        · exact .inr e) (fun _ _ e => e) h
  have ups : ∀ {d : List D} {v : List V}, Rps K (Bad M O G) G H d v → Rps K (Bad (Plus M p) O G) G (upd H p (.lst xs)) d v := fun {d v} h =>
    Rps.move (fun a ys n e => ⟨fun z => by
      rcases z with (z | z) | z
      · exact n (.inl z)
      · rw [z, hp] at e
        cases e
      · exact n (.inr z), s _ _ e⟩) (fun a ys e => e.elim (fun ⟨o, q⟩ => .inl ⟨o, s _ _ q⟩) .inr) (fun a ys e => by
        rcases e with (e | ⟨o, e⟩) | e
        · exact .inl (.inl (s _ _ e))
        · exact .inl (.inr ⟨o, s _ _ e⟩)
        · exact .inr e) (fun _ _ e => e) h
  refine ⟨fun a z => ?_, R.len, fun i d e => ?_, fun i ds e => ?_, R.ownU, fun i a e => ?_, fun n ds e => ?_, R.stl, R.stU, fun a e z => ?_⟩
  · rcases z with z | z
    · intro q
      exact R.dom a z (s.free q)
    · rw [z, upd_same]
      exact fun q => nomatch q
  · obtain ⟨v, h1, h2⟩ := R.val i d e
    exact ⟨v, h1, up h2⟩
  · obtain ⟨a, ys, h1, h2, h3, h4⟩ := R.own i ds e
    exact ⟨a, ys, h1, h2, s _ _ h3, ups h4⟩
  · obtain ⟨⟨ys, h1⟩, h2, h3⟩ := R.ownH i a e
    refine ⟨⟨ys, s _ _ h1⟩, fun z => z.elim h2 fun z => ?_, h3⟩
    rw [z, hp] at h1
    cases h1
  · obtain ⟨a, ys, h1, h2, h3⟩ := R.st n ds e
    exact ⟨a, ys, h1, s _ _ h2, ups h3⟩
  · rcases z with z | z
    · exact R.stM a e z
    · obtain ⟨ys, h1⟩ := R.lst e
      rw [z, hp] at h1
      cases h1
theorem Rps.forbid (R : Rep K M O G σ H r m) {p : Addr} (hp : H p = none) {xs : List V} {ds : List D} {vs : List V} (h : Rps K (Bad M O G) G H ds vs) : Rps K (Bad (Plus M p) O G) G (upd H p (.lst xs)) ds vs :=
  Rps.move (fun a ys n e => ⟨fun z => by
      rcases z with (z | z) | z
      · exact n (.inl z)
      · rw [z, hp] at e
        cases e
      · exact n (.inr z), same_upd hp _ _ e⟩) (fun a ys e => e.elim (fun ⟨o, q⟩ => .inl ⟨o, same_upd hp _ _ q⟩) .inr) (fun a ys e => by
        rcases e with (e | ⟨o, e⟩) | e
        · exact .inl (.inl (same_upd hp _ _ e))
        · exact .inl (.inr ⟨o, same_upd hp _ _ e⟩)
        · exact .inr e) (fun _ _ e => e) h
theorem Rw.forbid (R : Rep K M O G σ H r m) {p : Addr} (hp : H p = none) {xs : List V} {d : D} {v : V} (h : Rw K (Bad M O G) G H d v) : Rw K (Bad (Plus M p) O G) G (upd H p (.lst xs)) d v := by
  rcases h with h | ⟨ds, a, ys, e, e2, h1, h2, h3⟩
  · have := Rps.forbid (xs := xs) R hp (.cons h .nil)
    cases this with
    | cons q _ => exact .inl q
  · exact .inr ⟨ds, a, ys, e, e2, same_upd hp _ _ h1, Rps.forbid R hp h2, h3⟩

/-- an object that is nobody's is changed -/
theorem Rp.off {B : Addr → Prop} {p : Addr} {o : HO} {xs : List V} (hb : B p) (hp : H p = some (.lst xs)) {d : D} {v : V} (h : Rp K B G H d v) : Rp K B G (upd H p o) d v :=
  Rp.move (fun a ys n e => ⟨n, by rw [upd_ne fun z => n (by rw [z]; exact hb)]; exact e⟩) (fun a ys e => e.elim (fun ⟨o, q⟩ => .inl ⟨o, by rw [upd_ne (ne_of q hp fun z => nomatch z)]; exact q⟩) .inr)
    (fun a ys e => by
      rcases e with (e | ⟨o, e⟩) | e
      · exact .inl (.inl (by rw [upd_ne (ne_of e hp fun z => nomatch z)]; exact e))
      · exact .inl (.inr ⟨o, by rw [upd_ne (ne_of e hp fun z => nomatch z)]; exact e⟩)
      · exact .inr e) (fun _ _ e => e) h
theorem Rps.off {B : Addr → Prop} {p : Addr} {o : HO} {xs : List V} (hb : B p) (hp : H p = some (.lst xs)) {d : List D} {v : List V} (h : Rps K B G H d v) : Rps K B G (upd H p o) d v :=
  Rps.move (fun a ys n e => ⟨n, by rw [upd_ne fun z => n (by rw [z]; exact hb)]; exact e⟩) (fun a ys e => e.elim (fun ⟨o, q⟩ => .inl ⟨o, by rw [upd_ne (ne_of q hp fun z => nomatch z)]; exact q⟩) .inr)
    (fun a ys e => by
      rcases e with (e | ⟨o, e⟩) | e
      · exact .inl (.inl (by rw [upd_ne (ne_of e hp fun z => nomatch z)]; exact e))
      · exact .inl (.inr ⟨o, by rw [upd_ne (ne_of e hp fun z => nomatch z)]; exact e⟩)
      · exact .inr e) (fun _ _ e => e) h
/-- a list that the callers (or this very step) keep is changed -/
theorem Rep.offM (R : Rep K M O G σ H r m) {p : Addr} {xs ys : List V} (hb : M p) (hp : H p = some (.lst xs)) : Rep K M O G σ (upd H p (.lst ys)) r m where
  dom := fun a h => by
    by_cases e : a = p
    · rw [e, upd_same]
      exact fun q => nomatch q
    · rw [upd_ne e]
      exact R.dom a h
  len := R.len
  val := fun i d e => let ⟨v, h1, h2⟩ := R.val i d e; ⟨v, h1, h2.off (.inl hb) hp⟩
  own := fun i ds e => let ⟨a, zs, h1, h2, h3, h4⟩ := R.own i ds e; ⟨a, zs, h1, h2, by
    rw [upd_ne fun z => (R.ownH i a h1).2.1 (by rw [z]; exact hb)]
    exact h3, h4.off (.inl hb) hp⟩
  ownU := R.ownU
  ownH := fun i a e => let ⟨⟨zs, h1⟩, h2, h3⟩ := R.ownH i a e; ⟨⟨zs, by
    rw [upd_ne fun z => h2 (by rw [z]; exact hb)]
    exact h1⟩, h2, h3⟩
  st := fun n ds e => let ⟨a, zs, h1, h2, h3⟩ := R.st n ds e; ⟨a, zs, h1, by
    rw [upd_ne fun z => R.stM a (List.mem_of_getElem? h1) (by rw [z]; exact hb)]
    exact h2, h3.off (.inl hb) hp⟩
  stl := R.stl
  stU := R.stU
  stM := R.stM

/-- a new list becomes the def's own -/
def ownAt (O : Nat → Option Addr) (i : Nat) (p : Addr) : Nat → Option Addr := fun j => if j = i then some p else O j
theorem Rep.newOwn (R : Rep K (Plus M p) O G σ H r m) {i : Nat} {ds : List D} {xs : List V} (hm : ¬ M p) (hp : H p = some (.lst xs)) (h : Rps K (Bad (Plus M p) O G) G H ds xs) :
    Rep K M (ownAt O i p) G (σ.set i (some (.ref p))) H (r.set i (.own ds)) m := by
  have hO : ∀ j, O j ≠ some p := fun j e => (R.ownH j p e).2.1 (.inr rfl)
  have hG : p ∉ G := fun e => R.stM p e (.inr rfl)
  have up : ∀ a, Bad M (ownAt O i p) G a → Bad (Plus M p) O G a := fun a b => by
    rcases b with b | b | ⟨j, b⟩
    · exact .inl (.inl b)
    · exact .inr (.inl b)
    · unfold ownAt at b
      split at b
      · cases b
        exact .inl (.inr rfl)
      · exact .inr (.inr ⟨j, b⟩)
  refine ⟨fun a z => R.dom a (.inl z), by rw [List.length_set, List.length_set]; exact R.len, fun j d e => ?_, fun j ds' e => ?_, fun j k a e1 e2 => ?_, fun j a e => ?_, fun n ds' e => ?_, R.stl, R.stU, fun a e z => R.stM a e (.inl z)⟩
  · by_cases hj : i = j
    · subst hj
      have hi : i < r.length := by
        have := (List.getElem?_eq_some_iff.mp e).1
        rwa [List.length_set] at this
      rw [List.getElem?_set_self hi] at e
      cases e
    · rw [List.getElem?_set_ne hj] at e
      rw [List.getElem?_set_ne hj]
      obtain ⟨v, h1, h2⟩ := R.val j d e
      exact ⟨v, h1, h2.mono up⟩
  · by_cases hj : i = j
    · subst hj
      have hi : i < r.length := by
        have := (List.getElem?_eq_some_iff.mp e).1
        rwa [List.length_set] at this
      rw [List.getElem?_set_self hi] at e
      cases e
      exact ⟨p, xs, if_pos rfl, by rw [List.getElem?_set_self (by rw [← R.len]; exact hi)], hp, h.mono up⟩
    · rw [List.getElem?_set_ne hj] at e
      rw [List.getElem?_set_ne hj]
      obtain ⟨a, zs, h1, h2, h3, h4⟩ := R.own j ds' e
      exact ⟨a, zs, by unfold ownAt; rw [if_neg (Ne.symm hj)]; exact h1, h2, h3, h4.mono up⟩
  · unfold ownAt at e1 e2
    split at e1
    · split at e2
      · rename_i a1 a2
        rw [a1, a2]
      · cases e1
        exact absurd e2 (hO k)
    · split at e2
      · cases e2
        exact absurd e1 (hO j)
      · exact R.ownU j k a e1 e2
  · unfold ownAt at e
    split at e
    · cases e
      exact ⟨⟨xs, hp⟩, hm, hG⟩
    · obtain ⟨h1, h2, h3⟩ := R.ownH j a e
      exact ⟨h1, fun z => h2 (.inl z), h3⟩
  · obtain ⟨a, zs, h1, h2, h3⟩ := R.st n ds' e
    exact ⟨a, zs, h1, h2, h3.mono up⟩
/-- an own list is changed -/
theorem Rep.mutOwn (R : Rep K M O G σ H r m) {i : Nat} {ds es : List D} {a : Addr} {xs ys : List V} (hr : r[i]? = some (.own ds)) (hO : O i = some a) (ha : H a = some (.lst xs)) (h : Rps K (Bad M O G) G H es ys) :
    Rep K M O G σ (upd H a (.lst ys)) (r.set i (.own es)) m := by
  have hb : Bad M O G a := .inr (.inr ⟨i, hO⟩)
  have hs : σ[i]? = some (some (.ref a)) := by
    obtain ⟨b, zs, h1, h2, _⟩ := R.own i ds hr
    rw [hO] at h1
    cases h1
    exact h2
  have hi : i < r.length := (List.getElem?_eq_some_iff.mp hr).1
  refine ⟨fun b z => ?_, by rw [List.length_set]; exact R.len, fun j d e => ?_, fun j ds' e => ?_, R.ownU, fun j b e => ?_, fun n ds' e => ?_, R.stl, R.stU, R.stM⟩
  · by_cases e : b = a
    · rw [e, upd_same]
      exact fun q => nomatch q
    · rw [upd_ne e]
      exact R.dom b z
  · by_cases hj : i = j
    · subst hj
      rw [List.getElem?_set_self hi] at e
      cases e
    · rw [List.getElem?_set_ne hj] at e
      obtain ⟨v, h1, h2⟩ := R.val j d e
      exact ⟨v, h1, h2.off hb ha⟩
  · by_cases hj : i = j
    · subst hj
      rw [List.getElem?_set_self hi] at e
      cases e
      exact ⟨a, ys, hO, hs, upd_same, h.off hb ha⟩
    · rw [List.getElem?_set_ne hj] at e
      obtain ⟨b, zs, h1, h2, h3, h4⟩ := R.own j ds' e
      exact ⟨b, zs, h1, h2, by rw [upd_ne fun z => hj (R.ownU i j a hO (by rw [← z]; exact h1))]; exact h3, h4.off hb ha⟩
  · obtain ⟨⟨zs, h1⟩, h2, h3⟩ := R.ownH j b e
    refine ⟨?_, h2, h3⟩
    by_cases q : b = a
    · rw [q, upd_same]
      exact ⟨_, rfl⟩
    · rw [upd_ne q]
      exact ⟨zs, h1⟩
  · obtain ⟨b, zs, h1, h2, h3⟩ := R.st n ds' e
    exact ⟨b, zs, h1, by rw [upd_ne fun z => (R.ownH i a hO).2.2 (by rw [← z]; exact List.mem_of_getElem? h1)]; exact h2, h3.off hb ha⟩
/-- an own list is no longer changed -/
def offAt (O : Nat → Option Addr) (i : Nat) : Nat → Option Addr := fun j => if j = i then none else O j
theorem Rep.frz (R : Rep K M O G σ H r m) {i : Nat} {ds : List D} (hr : r[i]? = some (.own ds)) : Rep K M (offAt O i) G σ H (r.set i (.val (.lst ds))) m := by
  obtain ⟨a, xs, h1, h2, h3, h4⟩ := R.own i ds hr
  have hi : i < r.length := (List.getElem?_eq_some_iff.mp hr).1
  have up : ∀ b, Bad M (offAt O i) G b → Bad M O G b := fun b z => by
    rcases z with z | z | ⟨j, z⟩
    · exact .inl z
    · exact .inr (.inl z)
    · unfold offAt at z
      split at z
      · cases z
      · exact .inr (.inr ⟨j, z⟩)
  have na : ¬ Bad M (offAt O i) G a := fun z => by
    rcases z with z | z | ⟨j, z⟩
    · exact (R.ownH i a h1).2.1 z
    · exact (R.ownH i a h1).2.2 z
    · unfold offAt at z
      split at z
      · cases z
      · rename_i hj
        exact hj (R.ownU j i a z h1)
  refine ⟨R.dom, by rw [List.length_set]; exact R.len, fun j d e => ?_, fun j ds' e => ?_, fun j k b e1 e2 => ?_, fun j b e => ?_, fun n ds' e => ?_, R.stl, R.stU, R.stM⟩
  · by_cases hj : i = j
    · subst hj
      rw [List.getElem?_set_self hi] at e
      cases e
      exact ⟨.ref a, h2, .lst na h3 (h4.mono up)⟩
    · rw [List.getElem?_set_ne hj] at e
      obtain ⟨v, h1, h2⟩ := R.val j d e
      exact ⟨v, h1, h2.mono up⟩
  · by_cases hj : i = j
    · subst hj
      rw [List.getElem?_set_self hi] at e
      cases e
    · rw [List.getElem?_set_ne hj] at e
      obtain ⟨b, zs, q1, q2, q3, q4⟩ := R.own j ds' e
      exact ⟨b, zs, by unfold offAt; rw [if_neg (Ne.symm hj)]; exact q1, q2, q3, q4.mono up⟩
  · unfold offAt at e1 e2
    split at e1
    · cases e1
    · split at e2
      · cases e2
      · exact R.ownU j k b e1 e2
  · unfold offAt at e
    split at e
    · cases e
    · exact R.ownH j b e
  · obtain ⟨b, zs, q1, q2, q3⟩ := R.st n ds' e
    exact ⟨b, zs, q1, q2, q3.mono up⟩
/-- a list of the store is changed -/
theorem Rep.setSt (R : Rep K M O G σ H r m) {n : Nat} {a : Addr} {es : List D} {xs ys : List V} (hg : G[n]? = some a) (ha : H a = some (.lst xs)) (h : Rps K (Bad M O G) G H es ys) :
    Rep K M O G σ (upd H a (.lst ys)) r (m.set n es) := by
  have hb : Bad M O G a := .inr (.inl (List.mem_of_getElem? hg))
  have hn : n < m.length := by rw [← R.stl]; exact (List.getElem?_eq_some_iff.mp hg).1
  refine ⟨fun b z => ?_, R.len, fun j d e => ?_, fun j ds' e => ?_, R.ownU, fun j b e => ?_, fun k ds' e => ?_, by rw [List.length_set]; exact R.stl, R.stU, R.stM⟩
  · by_cases e : b = a
    · rw [e, upd_same]
      exact fun q => nomatch q
    · rw [upd_ne e]
      exact R.dom b z
  · obtain ⟨v, h1, h2⟩ := R.val j d e
    exact ⟨v, h1, h2.off hb ha⟩
  · obtain ⟨b, zs, h1, h2, h3, h4⟩ := R.own j ds' e
    exact ⟨b, zs, h1, h2, by rw [upd_ne fun z => (R.ownH j b h1).2.2 (by rw [z]; exact List.mem_of_getElem? hg)]; exact h3, h4.off hb ha⟩
  · obtain ⟨⟨zs, h1⟩, h2, h3⟩ := R.ownH j b e
    exact ⟨⟨zs, by rw [upd_ne fun z => h3 (by rw [z]; exact List.mem_of_getElem? hg)]; exact h1⟩, h2, h3⟩
  · by_cases hk : n = k
    · subst hk
      rw [List.getElem?_set_self hn] at e
      cases e
      exact ⟨a, ys, hg, upd_same, h.off hb ha⟩
    · rw [List.getElem?_set_ne hk] at e
      obtain ⟨b, zs, h1, h2, h3⟩ := R.st k ds' e
      refine ⟨b, zs, h1, ?_, h3.off hb ha⟩
      rw [upd_ne fun z => ?_]
      · exact h2
      · obtain ⟨q1, q2⟩ := List.getElem?_eq_some_iff.mp hg
        obtain ⟨q3, q4⟩ := List.getElem?_eq_some_iff.mp h1
        exact hk ((List.getElem_inj R.stU).mp (q2.trans (z.symm.trans q4.symm)))
/-- a new list of the store -/
theorem Rep.newSt (R : Rep K (Plus M p) O G σ H r m) {ds : List D} {xs : List V} (hm : ¬ M p) (hp : H p = some (.lst xs)) (h : Rps K (Bad (Plus M p) O G) G H ds xs) :
    Rep K M O (G ++ [p]) σ H r (m ++ [ds]) := by
  have hO : ∀ j, O j ≠ some p := fun j e => (R.ownH j p e).2.1 (.inr rfl)
  have hG : p ∉ G := fun e => R.stM p e (.inr rfl)
  have up : ∀ a, Bad M O (G ++ [p]) a → Bad (Plus M p) O G a := fun a b => by
    rcases b with b | b | b
    · exact .inl (.inl b)
    · rcases List.mem_append.mp b with b | b
      · exact .inr (.inl b)
      · exact .inl (.inr (by simpa using b))
    · exact .inr (.inr b)
  have pre : ∀ (n : Nat) (a : Addr), G[n]? = some a → (G ++ [p])[n]? = some a := fun n a e => by
    rw [List.getElem?_append_left (List.getElem?_eq_some_iff.mp e).1]
    exact e
  have mv : ∀ {d : D} {v : V}, Rp K (Bad (Plus M p) O G) G H d v → Rp K (Bad M O (G ++ [p])) (G ++ [p]) H d v := fun {d v} q =>
    Rp.move (fun a ys n e => ⟨fun z => n (up a z), e⟩) (fun _ _ e => e) (fun _ _ e => e) pre q
  have mvs : ∀ {d : List D} {v : List V}, Rps K (Bad (Plus M p) O G) G H d v → Rps K (Bad M O (G ++ [p])) (G ++ [p]) H d v := fun {d v} q =>
    Rps.move (fun a ys n e => ⟨fun z => n (up a z), e⟩) (fun _ _ e => e) (fun _ _ e => e) pre q
  refine ⟨fun a z => R.dom a (.inl z), R.len, fun j d e => ?_, fun j ds' e => ?_, R.ownU, fun j a e => ?_, fun n ds' e => ?_, by rw [List.length_append, List.length_append, R.stl] <;> rfl, ?_, fun a e z => ?_⟩
  · obtain ⟨v, h1, h2⟩ := R.val j d e
    exact ⟨v, h1, mv h2⟩
  · obtain ⟨a, zs, h1, h2, h3, h4⟩ := R.own j ds' e
    exact ⟨a, zs, h1, h2, h3, mvs h4⟩
  · obtain ⟨h1, h2, h3⟩ := R.ownH j a e
    refine ⟨h1, fun z => h2 (.inl z), fun z => ?_⟩
    rcases List.mem_append.mp z with z | z
    · exact h3 z
    · have : a = p := by simpa using z
      exact hO j (by rw [← this]; exact e)
  · by_cases hn : n < m.length
    · rw [List.getElem?_append_left hn] at e
      obtain ⟨a, zs, h1, h2, h3⟩ := R.st n ds' e
      exact ⟨a, zs, pre n a h1, h2, mvs h3⟩
    · have hl : n < (m ++ [ds]).length := (List.getElem?_eq_some_iff.mp e).1
      rw [List.length_append, List.length_singleton] at hl
      have en : n = m.length := by omega
      subst en
      rw [List.getElem?_append_right (Nat.le_refl _), Nat.sub_self] at e
      cases e
      exact ⟨p, xs, by rw [List.getElem?_append_right (by rw [R.stl]; exact Nat.le_refl _), R.stl, Nat.sub_self]; rfl, hp, mvs h⟩
  · rw [List.nodup_append]
    exact ⟨R.stU, by simp, fun a ha b hb => by
      have : b = p := by simpa using hb
      rw [this]
      rintro rfl
      exact hG ha⟩
  · rcases List.mem_append.mp e with e | e
    · exact R.stM a e (.inl z)
    · have : a = p := by simpa using e
      exact hm (by rw [← this]; exact z)
end
end Mi

set_option linter.all false
set_option maxRecDepth 100000
set_option maxHeartbeats 4000000
/-! Mi8: readings; what a loop walks; comprehensions. -/
namespace Mi
open PySem PySem.Spec PyProof.Rows L2

abbrev Rel (α β : Type) := (Addr → Prop) → List Addr → Hp → α → β → Prop
/-- behind an evaluation -/
def Want (K : PySem.W.Frag) (M : Addr → Prop) (O : Nat → Option Addr) (σ : L2.St) (r : List Slot) {α β : Type} (P : Rel α β) (G : List Addr) (H : Hp) (x : Res α) (Q : β → Hp → Prop) : Prop :=
  match x with
  | .ok d m' => ∀ v H' G', Grow G H G' H' → Rep K M O G' σ H' r m' → P (Bad M O G') G' H' d v → Q v H'
  | .ex _ _ _ => False
  | .bad => False
/-- a reading -/
def tG (K : PySem.W.Frag) {α β : Type} (P : Rel α β) (f : List Slot → Mu → Res α) : L2.St → Hp → (β → Hp → Prop) → Prop := fun σ H Q =>
  ∃ M O G r m, Rep K M O G σ H r m ∧ Want K M O σ r P G H (f r m) Q
abbrev rB : Rel Bool Bool := fun _ _ _ a b => a = b
inductive Rws (K : PySem.W.Frag) (B : Addr → Prop) (G : List Addr) (H : Hp) : List D → List V → Prop
  | nil : Rws K B G H [] []
  | cons {d : D} {ds : List D} {v : V} {vs : List V} : Rw K B G H d v → Rws K B G H ds vs → Rws K B G H (d :: ds) (v :: vs)

section
variable {K : PySem.W.Frag} {M : Addr → Prop} {O : Nat → Option Addr} {σ : L2.St} {r : List Slot} {α β γ δ : Type} {P : Rel α β} {P' : Rel γ δ} {G G1 : List Addr} {H H1 : Hp} {m : Mu}
theorem Want.grow {x : Res α} {Q : β → Hp → Prop} (w : Want K M O σ r P G H x Q) (g : Grow G H G1 H1) : Want K M O σ r P G1 H1 x Q := by
  cases x with
  | ok d m => exact fun v H' G' g' R p => w v H' G' (g.trans g') R p
  | ex c a m => exact w
  | bad => exact w
theorem Want.mono {x : Res α} {Q Q' : β → Hp → Prop} (w : Want K M O σ r P G H x Q) (h : ∀ v H', Q v H' → Q' v H') : Want K M O σ r P G H x Q' := by
  cases x with
  | ok d m => exact fun v H' G' g' R p => h _ _ (w v H' G' g' R p)
  | ex c a m => exact w
  | bad => exact w
theorem Want.bind {x : Res α} {k : α → Mu → Res γ} {Q : δ → Hp → Prop} (w : Want K M O σ r P' G H (x.bind k) Q) :
    Want K M O σ r P G H x fun v H1 => ∃ d m1 G1, Grow G H G1 H1 ∧ Rep K M O G1 σ H1 r m1 ∧ P (Bad M O G1) G1 H1 d v ∧ Want K M O σ r P' G1 H1 (k d m1) Q := by
  cases x with
  | ok d m => exact fun v H' G' g R p => ⟨d, m, G', g, R, p, w.grow g⟩
  | ex c a m => exact w
  | bad => exact w
/-- a value worked out of values -/
theorem Want.fits {o : Option D} {Q : VK} (R : Rep K M O G σ H r m) (w : Want K M O σ r (Rp K) G H (.of o m) Q) : Fits K (Bad M O G) G H o Q := by
  cases o with
  | none => exact False.elim w
  | some d => exact ⟨d, rfl, fun v H' s p => w v H' G (Grow.same s) (R.same s) p⟩
theorem Want.bool {o : Option Bool} {Q : VK} (R : Rep K M O G σ H r m) (w : Want K M O σ r (Rp K) G H (.of (o.map .bl) m) Q) : ∃ b, o = some b ∧ Q (.bl b) H := by
  cases o with
  | none => exact False.elim w
  | some d => exact ⟨d, rfl, w _ H G (Grow.refl G H) R (.bl d)⟩
theorem Want.here {d : α} {v : β} {Q : β → Hp → Prop} (R : Rep K M O G σ H r m) (w : Want K M O σ r P G H (.ok d m) Q) (p : P (Bad M O G) G H d v) : Q v H := w v H G (Grow.refl G H) R p
theorem tG.imp {K : PySem.W.Frag} {P : Rel α β} {f : List Slot → Mu → Res α} {Q Q' : β → Hp → Prop} (h : ∀ v H', Q v H' → Q' v H') (t : tG K P f σ H Q) : tG K P f σ H Q' := by
  obtain ⟨M, O, G, r, m, R, w⟩ := t
  exact ⟨M, O, G, r, m, R, w.mono h⟩

theorem Rws.of : ∀ {ds : List D} {vs : List V} {B : Addr → Prop}, Rps K B G H ds vs → Rws K B G H ds vs
  | _, _, _, .nil => .nil
  | _, _, _, .cons a b => .cons (.inl a) (Rws.of b)
theorem Rws.map {K : PySem.W.Frag} {B B' : Addr → Prop} {G G' : List Addr} {H H' : Hp} (h : ∀ d v, Rw K B G H d v → Rw K B' G' H' d v) : ∀ {ds : List D} {vs : List V}, Rws K B G H ds vs → Rws K B' G' H' ds vs
  | _, _, .nil => .nil
  | _, _, .cons a b => .cons (h _ _ a) (Rws.map h b)
theorem Rws.same {B : Addr → Prop} {ds : List D} {vs : List V} (s : Same H H1) (h : Rws K B G H ds vs) : Rws K B G H1 ds vs := h.map fun _ _ => Rw.same s
theorem Rws.length {B : Addr → Prop} : ∀ {ds : List D} {vs : List V}, Rws K B G H ds vs → ds.length = vs.length
  | _, _, .nil => rfl
  | _, _, .cons _ t => by rw [List.length_cons, List.length_cons, Rws.length t]
end

section
variable {X : Cx}
theorem pe_imp {e : Expr} {t t' : TE} (h : PE X e t) (i : ∀ σ H Q, t' σ H Q → t σ H Q) : PE X e t' := ⟨fun pins s σ H Q I w => h.run pins s σ H Q I (i σ H Q w)⟩
theorem pt_imp {e : Expr} {t t' : TT} (h : PT X e t) (i : ∀ σ H Q, t' σ H Q → t σ H Q) : PT X e t' := ⟨fun pins s σ H Q I w => h.run pins s σ H Q I (i σ H Q w)⟩
theorem pw_imp {e : Expr} {t t' : TT} (h : PW X e t) (i : ∀ σ H Q, t' σ H Q → t σ H Q) : PW X e t' := ⟨fun wh pins s σ H Q I w => h.run wh pins s σ H Q I (i σ H Q w)⟩
theorem pa_imp {e : List Expr} {t t' : TA} (h : PA X e t) (i : ∀ σ H Q, t' σ H Q → t σ H Q) : PA X e t' := ⟨fun pos pins s σ H Q I w => h.run pos pins s σ H Q I (i σ H Q w)⟩
end

/-! ### what a loop walks -/
/-- J gives the items xs, whatever grows meanwhile, so long as the things walked stand -/
def Feeds (K : PySem.W.Frag) (J : It) (xs ds : List D) (vs : List V) : Prop :=
  (∀ (i : Nat) (x : D) (B : Addr → Prop) (G : List Addr) (H : Hp), Rws K B G H ds vs → xs[i]? = some x → J.go i H ∧ ∀ v H', J.yld i H v H' → Same H H' ∧ Rp K B G H' x v) ∧
  ∀ (i : Nat) (B : Addr → Prop) (G : List Addr) (H : Hp), Rws K B G H ds vs → xs.length ≤ i → J.stop i H
/-- the reading of what is walked -/
def tIt (K : PySem.W.Frag) (P : Rel (List D) (List V)) (f : List Slot → Mu → Res (List D)) (ik : IK) : TI := fun σ H R => ∃ M O G r m, Rep K M O G σ H r m ∧ match f r m with
  | .ok ds m' => ∃ xs, itemsD ik ds = some xs ∧ ∀ J H' G' vs, Grow G H G' H' → Rep K M O G' σ H' r m' → P (Bad M O G') G' H' ds vs → Feeds K J xs ds vs → R J H'
  | _ => False

theorem Rws.one {K : PySem.W.Frag} {B : Addr → Prop} {G : List Addr} {H : Hp} {d : D} {v : V} (h : Rws K B G H [d] [v]) : Rw K B G H d v := by
  cases h with
  | cons a _ => exact a
theorem Rws.two {K : PySem.W.Frag} {B : Addr → Prop} {G : List Addr} {H : Hp} {d e : D} {v w : V} (h : Rws K B G H [d, e] [v, w]) : Rw K B G H d v ∧ Rw K B G H e w := by
  cases h with
  | cons a t => exact ⟨a, t.one⟩
theorem Rws.inv1 {K : PySem.W.Frag} {B : Addr → Prop} {G : List Addr} {H : Hp} {d : D} {vs : List V} (h : Rws K B G H [d] vs) : ∃ v, vs = [v] ∧ Rw K B G H d v := by
  cases h with
  | cons a t =>
    cases t
    exact ⟨_, rfl, a⟩
theorem Rws.inv2 {K : PySem.W.Frag} {B : Addr → Prop} {G : List Addr} {H : Hp} {d e : D} {vs : List V} (h : Rws K B G H [d, e] vs) : ∃ v w, vs = [v, w] ∧ Rw K B G H d v ∧ Rw K B G H e w := by
  cases h with
  | cons a t =>
    obtain ⟨w, rfl, b⟩ := t.inv1
    exact ⟨_, _, rfl, a, b⟩

section
variable {K : PySem.W.Frag} {B : Addr → Prop} {G : List Addr} {H : Hp}
theorem sqL_inj {a : Addr} {xs ys : List V} (h : H a = some (.lst xs)) (h2 : H a = some (.lst ys)) : xs = ys := by
  rw [h] at h2
  cases h2
  rfl
theorem rw_lst {d : List D} {a : Addr} (h : Rw K B G H (.lst d) (.ref a)) : ∃ xs, H a = some (.lst xs) ∧ Rps K B G H d xs := by
  obtain ⟨b, xs, e, h1, h2⟩ := h.lst
  cases e
  exact ⟨xs, h1, h2⟩
theorem rw_tup {d : List D} {a : Addr} (h : Rw K B G H (.tup d) (.ref a)) : ∃ xs, SqT K H a xs ∧ Rps K B G H d xs := by
  obtain ⟨b, xs, e, h1, h2⟩ := h.tup
  cases e
  exact ⟨xs, h1, h2⟩
theorem feeds_lst {ds : List D} {a : Addr} : Feeds K (Itl K a) ds [.lst ds] [.ref a] := by
  refine ⟨fun i x B G H h e => ?_, fun i B G H h e => ?_⟩
  · obtain ⟨xs, h1, h2⟩ := rw_lst h.one
    obtain ⟨v, h3, h4⟩ := h2.get e
    refine ⟨⟨xs, v, SqL.of h1, h3⟩, fun w H' ⟨q1, q2⟩ => ?_⟩
    subst q1
    have := q2 xs (SqL.of h1)
    rw [h3] at this
    cases this
    exact ⟨Same.refl _, h4⟩
  · obtain ⟨xs, h1, h2⟩ := rw_lst h.one
    exact ⟨xs, SqL.of h1, by rw [← h2.length]; exact e⟩
theorem feeds_tup {ds : List D} {a : Addr} : Feeds K (Itt K a) ds [.tup ds] [.ref a] := by
  refine ⟨fun i x B G H h e => ?_, fun i B G H h e => ?_⟩
  · obtain ⟨xs, h1, h2⟩ := rw_tup h.one
    obtain ⟨v, h3, h4⟩ := h2.get e
    refine ⟨⟨xs, v, h1, h3⟩, fun w H' ⟨q1, q2⟩ => ?_⟩
    subst q1
    have := q2 xs h1
    rw [h3] at this
    cases this
    exact ⟨Same.refl _, h4⟩
  · obtain ⟨xs, h1, h2⟩ := rw_tup h.one
    exact ⟨xs, h1, by rw [← h2.length]; exact e⟩
theorem feeds_str {x : Str} {v : V} : Feeds K (Its x) (x.cps.toList.map sign1) [.str x] [v] := by
  refine ⟨fun i d B G H h e => ?_, fun i B G H h e => ?_⟩
  · rw [List.getElem?_map] at e
    cases q : x.cps.toList[i]? with
    | none =>
      rw [q] at e
      cases e
    | some c =>
      rw [q] at e
      cases e
      rw [Array.getElem?_toList] at q
      refine ⟨(Array.getElem?_eq_some_iff.mp q).1, fun w H' ⟨q1, c', q2, q3⟩ => ?_⟩
      subst q1 q3
      rw [q] at q2
      cases q2
      exact ⟨Same.refl _, .str _⟩
  · rw [List.length_map, Array.length_toList] at e
    exact e
theorem rng_get : ∀ (n : Nat) (a : Int) (i : Nat), (rng a n)[i]? = if i < n then some (.int (a + i)) else none
  | 0, a, i => by simp [rng]
  | n + 1, a, 0 => by simp [rng]
  | n + 1, a, i + 1 => by
    have := rng_get n (a + 1) i
    simp only [rng, List.getElem?_cons_succ, this]
    by_cases h : i < n
    · rw [if_pos h, if_pos (by omega)]
      congr 2
      omega
    · rw [if_neg h, if_neg (by omega)]
theorem rng_len : ∀ (n : Nat) (a : Int), (rng a n).length = n
  | 0, _ => rfl
  | n + 1, a => by rw [rng, List.length_cons, rng_len n]
theorem feeds_rng {a : Int} {n : Nat} {ds : List D} {vs : List V} : Feeds K (Itr a n) (rng a n) ds vs := by
  refine ⟨fun i d B G H h e => ?_, fun i B G H h e => ?_⟩
  · rw [rng_get] at e
    split at e
    · rename_i hi
      cases e
      exact ⟨hi, fun w H' ⟨q1, q2⟩ => by subst q1 q2; exact ⟨Same.refl _, .int _⟩⟩
    · cases e
  · rw [rng_len] at e
    exact e
theorem enums_get : ∀ (xs : List D) (a : Int) (i : Nat), (enums a xs)[i]? = xs[i]?.map fun x => D.tup [.int (a + i), x]
  | [], a, i => by simp [enums]
  | x :: xs, a, 0 => by simp [enums]
  | x :: xs, a, i + 1 => by
    have := enums_get xs (a + 1) i
    simp only [enums, List.getElem?_cons_succ, this]
    congr 1
    funext y
    congr 3
    omega
theorem enums_len : ∀ (xs : List D) (a : Int), (enums a xs).length = xs.length
  | [], _ => rfl
  | x :: xs, a => by rw [enums, List.length_cons, List.length_cons, enums_len xs]
theorem feeds_enum {ds : List D} {a : Addr} : Feeds K (Ite K a) (enums 0 ds) [.lst ds] [.ref a] := by
  refine ⟨fun i x B G H h e => ?_, fun i B G H h e => ?_⟩
  · obtain ⟨xs, h1, h2⟩ := rw_lst h.one
    rw [enums_get] at e
    cases q : ds[i]? with
    | none =>
      rw [q] at e
      cases e
    | some y =>
      rw [q] at e
      cases e
      obtain ⟨v, h3, h4⟩ := h2.get q
      refine ⟨⟨xs, v, SqL.of h1, h3⟩, fun w H' ⟨T, z, q1, q2, q3, q4⟩ => ?_⟩
      subst q1 q3
      have := q4 xs (SqL.of h1)
      rw [h3] at this
      cases this
      refine ⟨same_upd q2, Rp.newT q2 (.cons ?_ (.cons h4 .nil))⟩
      have e0 : (0 : Int) + (i : Int) = (i : Int) := by omega
      rw [e0]
      exact .int _
  · obtain ⟨xs, h1, h2⟩ := rw_lst h.one
    exact ⟨xs, SqL.of h1, by rw [← h2.length]; rw [enums_len] at e; exact e⟩
theorem pairs_get : ∀ (xs ys : List D) (i : Nat) (x : D), (pairs xs ys)[i]? = some x → ∃ a b, xs[i]? = some a ∧ ys[i]? = some b ∧ x = .tup [a, b]
  | [], ys, i, x, e => by simp [pairs] at e
  | a :: xs, [], i, x, e => by simp [pairs] at e
  | a :: xs, b :: ys, 0, x, e => by
    simp [pairs] at e
    exact ⟨a, b, rfl, rfl, e.symm⟩
  | a :: xs, b :: ys, i + 1, x, e => by
    have e' : (pairs xs ys)[i]? = some x := by simpa [pairs] using e
    obtain ⟨c, d, h1, h2, h3⟩ := pairs_get xs ys i x e'
    exact ⟨c, d, by simpa using h1, by simpa using h2, h3⟩
theorem pairs_len : ∀ (xs ys : List D) (i : Nat), (pairs xs ys).length ≤ i → xs.length ≤ i ∨ ys.length ≤ i
  | [], ys, i, e => .inl (Nat.zero_le _)
  | a :: xs, [], i, e => .inr (Nat.zero_le _)
  | a :: xs, b :: ys, 0, e => by simp [pairs] at e
  | a :: xs, b :: ys, i + 1, e => by
    have e' : (pairs xs ys).length ≤ i := by simpa [pairs] using e
    rcases pairs_len xs ys i e' with h | h
    · exact .inl (by simpa using h)
    · exact .inr (by simpa using h)
theorem feeds_zipL {ds es : List D} {a b : Addr} : Feeds K (Itz K a b) (pairs ds es) [.lst ds, .lst es] [.ref a, .ref b] := by
  refine ⟨fun i x B G H h e => ?_, fun i B G H h e => ?_⟩
  · obtain ⟨q1, q2⟩ := h.two
    obtain ⟨xs, h1, h2⟩ := rw_lst q1
    obtain ⟨ys, h3, h4⟩ := rw_lst q2
    obtain ⟨c, d, e1, e2, rfl⟩ := pairs_get _ _ _ _ e
    obtain ⟨v, h5, h6⟩ := h2.get e1
    obtain ⟨w, h7, h8⟩ := h4.get e2
    refine ⟨⟨xs, ys, v, w, SqL.of h1, SqL.of h3, h5, h7⟩, fun u H' ⟨T, z, z', p1, p2, p3, p4, p5⟩ => ?_⟩
    subst p1 p3
    have t1 := p4 xs (SqL.of h1)
    have t2 := p5 ys (SqL.of h3)
    rw [h5] at t1
    rw [h7] at t2
    cases t1
    cases t2
    exact ⟨same_upd p2, Rp.newT p2 (.cons h6 (.cons h8 .nil))⟩
  · obtain ⟨q1, q2⟩ := h.two
    obtain ⟨xs, h1, h2⟩ := rw_lst q1
    obtain ⟨ys, h3, h4⟩ := rw_lst q2
    exact ⟨xs, ys, SqL.of h1, SqL.of h3, by rw [← h2.length, ← h4.length]; exact pairs_len _ _ _ e⟩
theorem feeds_zipT {ds es : List D} {a b : Addr} : Feeds K (RZ.ItzT K a b) (pairs ds es) [.tup ds, .tup es] [.ref a, .ref b] := by
  refine ⟨fun i x B G H h e => ?_, fun i B G H h e => ?_⟩
  · obtain ⟨q1, q2⟩ := h.two
    obtain ⟨xs, h1, h2⟩ := rw_tup q1
    obtain ⟨ys, h3, h4⟩ := rw_tup q2
    obtain ⟨c, d, e1, e2, rfl⟩ := pairs_get _ _ _ _ e
    obtain ⟨v, h5, h6⟩ := h2.get e1
    obtain ⟨w, h7, h8⟩ := h4.get e2
    refine ⟨⟨xs, ys, v, w, h1, h3, h5, h7⟩, fun u H' ⟨T, z, z', p1, p2, p3, p4, p5⟩ => ?_⟩
    subst p1 p3
    have t1 := p4 xs h1
    have t2 := p5 ys h3
    rw [h5] at t1
    rw [h7] at t2
    cases t1
    cases t2
    exact ⟨same_upd p2, Rp.newT p2 (.cons h6 (.cons h8 .nil))⟩
  · obtain ⟨q1, q2⟩ := h.two
    obtain ⟨xs, h1, h2⟩ := rw_tup q1
    obtain ⟨ys, h3, h4⟩ := rw_tup q2
    exact ⟨xs, ys, h1, h3, by rw [← h2.length, ← h4.length]; exact pairs_len _ _ _ e⟩
end
end Mi

set_option linter.all false
set_option maxRecDepth 100000
set_option maxHeartbeats 4000000
/-! Mi9: targets; comprehensions. -/
namespace Mi
open PySem PySem.Spec PyProof.Rows L2

/-! ### targets -/
def NmOk (X : Cx) (i : Nat) (x : Str) : Prop := X.N[i]? = some x ∧ Loc X.env.scope x ∧ (X.fn x = true ∨ X.env.scope.names.lookup x = some .local)
def TgL (X : Cx) : List Nat → List Expr → Prop
  | [], [] => True
  | i :: is, .Name x _ :: ts => NmOk X i x ∧ TgL X is ts
  | _, _ => False
def TgOk (X : Cx) : Tgt → Expr → Prop
  | .nm i, .Name x _ => NmOk X i x
  | .tp is, .Tuple ts _ _ => TgL X is ts
  | _, _ => False
abbrev tgS := tgSlots
def setSt (σ : L2.St) (is : List Nat) (vs : List V) : L2.St := (is.zip vs).foldl (fun σ p => σ.set p.1 (some p.2)) σ
def gNames (is : List Nat) : TGs := fun vs σ H Q => vs.length = is.length ∧ Q (setSt σ is vs) H
theorem pgs_names {X : Cx} (hN : X.N.Nodup) : ∀ {is : List Nat} {ts : List Expr}, TgL X is ts → PGs X ts (gNames is)
  | [], [], _ => ⟨fun pins s σ H vs us Q I r h => by
    obtain ⟨e, h⟩ := h
    have : vs = [] := List.eq_nil_of_length_eq_zero e
    subst this
    exact pgs_nil.run pins s σ H [] us Q I r ⟨rfl, h⟩⟩
  | i :: is, .Name x p :: ts, h => ⟨fun pins s σ H vs us Q I r hq => by
    obtain ⟨⟨h1, h2, h3⟩, h4⟩ := h
    obtain ⟨e, hq⟩ := hq
    cases vs with
    | nil => cases e
    | cons v vs =>
      refine (pgs_cons (pg_name (pos := p) hN h1 h2 h3) (pgs_names hN h4)).run pins s σ H _ us Q I r ⟨v, vs, rfl, ?_⟩
      exact ⟨by simpa using e, hq⟩⟩
  | [], _ :: _, h => h.elim
  | _ :: _, [], h => h.elim
  | _ :: _, .BoolOp .. :: _, h => h.elim
  | _ :: _, .NamedExpr .. :: _, h => h.elim
  | _ :: _, .BinOp .. :: _, h => h.elim
  | _ :: _, .UnaryOp .. :: _, h => h.elim
  | _ :: _, .Lambda .. :: _, h => h.elim
  | _ :: _, .IfExp .. :: _, h => h.elim
  | _ :: _, .Dict .. :: _, h => h.elim
  | _ :: _, .Set .. :: _, h => h.elim
  | _ :: _, .ListComp .. :: _, h => h.elim
  | _ :: _, .SetComp .. :: _, h => h.elim
  | _ :: _, .DictComp .. :: _, h => h.elim
  | _ :: _, .GeneratorExp .. :: _, h => h.elim
  | _ :: _, .Yield .. :: _, h => h.elim
  | _ :: _, .Compare .. :: _, h => h.elim
  | _ :: _, .Call .. :: _, h => h.elim
  | _ :: _, .Constant .. :: _, h => h.elim
  | _ :: _, .Attribute .. :: _, h => h.elim
  | _ :: _, .Subscript .. :: _, h => h.elim
  | _ :: _, .Starred .. :: _, h => h.elim
  | _ :: _, .List .. :: _, h => h.elim
  | _ :: _, .Tuple .. :: _, h => h.elim
  | _ :: _, .Slice .. :: _, h => h.elim
theorem tgL_len {X : Cx} {env : Env} : ∀ {is : List Nat} {ts : List Expr}, TgL X is ts → (assignEach ts env).length = is.length ∧ (assignEach ts env).findIdx? (·.1) = none := by
  intro is
  induction is with
  | nil =>
    intro ts h
    cases ts with
    | nil => exact ⟨rfl, rfl⟩
    | cons _ _ => exact h.elim
  | cons i is ih =>
    intro ts h
    cases ts with
    | nil => exact h.elim
    | cons t ts =>
      cases t <;> first | exact h.elim | skip
      obtain ⟨h1, h2⟩ := ih h.2
      refine ⟨by simpa [assignEach] using h1, ?_⟩
      simp [assignEach]
      intro a hm
      have := (List.findIdx?_eq_none_iff.mp h2) (true, a) hm
      simp at this
theorem bindT_inv {t : Tgt} {x : D} {r r' : List Slot} (h : bindT t x r = some r') : (∃ i, t = .nm i ∧ r' = r.set i (.val x)) ∨ ∃ is ds, t = .tp is ∧ x = .tup ds ∧ is.length = ds.length ∧ r' = setAll r is ds := by
  unfold bindT at h
  split at h
  · cases h
    exact .inl ⟨_, rfl, rfl⟩
  · split at h
    · cases h
      exact .inr ⟨_, _, rfl, rfl, by assumption, rfl⟩
    · cases h
  · cases h
theorem wipe_set {i : Nat} {v : Option V} : ∀ {vs : List Nat} {σ : L2.St}, i ∈ vs → wipe (σ.set i v) vs = wipe σ vs
  | [], _, h => by cases h
  | w :: vs, σ, h => by
    unfold wipe
    by_cases e : i ∈ vs
    · rw [wipe_set e]
    · rcases List.mem_cons.mp h with q | q
      · subst q
        have : ∀ {vs : List Nat}, i ∉ vs → wipe (σ.set i v) vs = (wipe σ vs).set i v := by
          intro vs
          induction vs with
          | nil => intro _; rfl
          | cons y ys ih =>
            intro hn
            unfold wipe
            rw [ih fun z => hn (List.mem_cons_of_mem _ z), List.set_comm _ _ fun z => hn (by rw [z]; exact List.mem_cons_self)]
        rw [this e, List.set_set]
      · exact absurd q e
theorem wipe_wipe (σ : L2.St) : ∀ vs : List Nat, wipe (wipe σ vs) vs = wipe σ vs := by
  intro vs
  refine List.ext_getElem? fun i => ?_
  by_cases h : i ∈ vs
  · have q : ∀ (τ : L2.St), (wipe τ vs)[i]? = if i < τ.length then some none else none := by
      intro τ
      induction vs with
      | nil => cases h
      | cons w ws ih =>
        unfold wipe
        by_cases e : w = i
        · subst e
          by_cases hl : w < τ.length
          · rw [List.getElem?_set_self (by rw [wipe_length]; exact hl), if_pos hl]
          · rw [List.getElem?_eq_none (by rw [List.length_set, wipe_length]; omega), if_neg hl]
        · rw [List.getElem?_set_ne e]
          exact ih ((List.mem_cons.mp h).resolve_left fun z => e z.symm)
    rw [q, q, wipe_length]
  · rw [wipe_get h]
theorem wipe_setSt {vs : List Nat} : ∀ {is : List Nat} {ws : List V} {σ : L2.St}, (∀ i ∈ is, i ∈ vs) → wipe (setSt σ is ws) vs = wipe σ vs
  | [], _, _, _ => by simp [setSt]
  | _ :: _, [], _, _ => by simp [setSt]
  | i :: is, w :: ws, σ, h => by
    have e : setSt σ (i :: is) (w :: ws) = setSt (σ.set i (some w)) is ws := rfl
    rw [e, wipe_setSt fun j hj => h j (List.mem_cons_of_mem _ hj), wipe_set (h i List.mem_cons_self)]
section
variable {K : PySem.W.Frag} {M : Addr → Prop} {O : Nat → Option Addr} {G : List Addr} {H : Hp} {m : Mu}
theorem Rep.setAll : ∀ {is : List Nat} {ds : List D} {vs : List V} {σ : L2.St} {r : List Slot}, Rep K M O G σ H r m → Rps K (Bad M O G) G H ds vs → Rep K M O G (Mi.setSt σ is vs) H (Mi.setAll r is ds) m
  | [], _, _, _, _, R, _ => by simpa [Mi.setSt, Mi.setAll] using R
  | _ :: _, _, _, _, _, R, .nil => by simpa [Mi.setSt, Mi.setAll] using R
  | i :: is, d :: ds, v :: vs, σ, r, R, .cons h t => by
    show Rep K M O G (Mi.setSt (σ.set i (some v)) is vs) H (Mi.setAll (r.set i (.val d)) is ds) m
    exact Rep.setAll (R.set h) t
end
/-- a target's reading -/
def tTg (K : PySem.W.Frag) (t : Tgt) : TG := fun v σ H Q => ∃ M O G r m x r', Rep K M O G σ H r m ∧ Rp K (Bad M O G) G H x v ∧ bindT t x r = some r' ∧
  ∀ σ', Rep K M O G σ' H r' m → (∀ vs, (∀ i ∈ tgS t, i ∈ vs) → wipe σ' vs = wipe σ vs) → Q σ' H
theorem pg_tg {X : Cx} (hN : X.N.Nodup) (hc : X.calm = true) {t : Tgt} {e : Expr} (h : TgOk X t e) : PG X e (tTg X.K t) := by
  refine ⟨fun pins s σ H v u Q I rv hq => ?_⟩
  obtain ⟨M, O, G, r, m, x, r', R, p, b, hq⟩ := hq
  rcases bindT_inv b with ⟨i, rfl, rfl⟩ | ⟨is, ds, rfl, rfl, hl, rfl⟩
  · cases e <;> first | exact h.elim | skip
    obtain ⟨h1, h2, h3⟩ := h
    exact (pg_name hN h1 h2 h3).run pins s σ H v u Q I rv (hq _ (R.set p) fun vs hv => wipe_set (hv i (by simp [tgSlots])))
  · cases e <;> first | exact h.elim | skip
    rename_i ts k pos
    cases p with
    | @tup a xs _ p1 p2 =>
      have hh : TgL X is ts := h
      have e2 := p2.length
      refine (pg_tup (n := is.length) hc (pgs_names hN hh) (tgL_len hh).1 (tgL_len hh).2).run pins s σ H _ u Q I rv ⟨a, xs, rfl, p1, by omega, by omega, ?_⟩
      exact hq _ (R.setAll p2) fun vs hv => wipe_setSt hv

/-! ### comprehensions -/
section
variable {K : PySem.W.Frag} {M : Addr → Prop} {O : Nat → Option Addr} {G G1 : List Addr} {H H1 : Hp} {m : Mu}
/-- .. none of the own lists looked at is at p -/
def RwN (K : PySem.W.Frag) (B : Addr → Prop) (G : List Addr) (H : Hp) (p : Addr) (d : D) (v : V) : Prop := Rp K B G H d v ∨ ∃ ds a xs, d = .lst ds ∧ v = .ref a ∧ H a = some (.lst xs) ∧ Rps K B G H ds xs ∧ a ∉ G ∧ a ≠ p
inductive RwNs (K : PySem.W.Frag) (B : Addr → Prop) (G : List Addr) (H : Hp) (p : Addr) : List D → List V → Prop
  | nil : RwNs K B G H p [] []
  | cons {d : D} {ds : List D} {v : V} {vs : List V} : RwN K B G H p d v → RwNs K B G H p ds vs → RwNs K B G H p (d :: ds) (v :: vs)
theorem RwN.rw {B : Addr → Prop} {p : Addr} {d : D} {v : V} (h : RwN K B G H p d v) : Rw K B G H d v := h.imp id fun ⟨ds, a, xs, h1, h2, h3, h4, h5, _⟩ => ⟨ds, a, xs, h1, h2, h3, h4, h5⟩
theorem RwNs.rws {B : Addr → Prop} {p : Addr} : ∀ {ds : List D} {vs : List V}, RwNs K B G H p ds vs → Rws K B G H ds vs
  | _, _, .nil => .nil
  | _, _, .cons a b => .cons a.rw b.rws
theorem RwNs.map {B B' : Addr → Prop} {p : Addr} {G' : List Addr} {H' : Hp} (h : ∀ d v, RwN K B G H p d v → RwN K B' G' H' p d v) : ∀ {ds : List D} {vs : List V}, RwNs K B G H p ds vs → RwNs K B' G' H' p ds vs
  | _, _, .nil => .nil
  | _, _, .cons a b => .cons (h _ _ a) (b.map h)
/-- a new list is laid: it is forbidden -/
theorem Rws.forbid {σ : L2.St} {r : List Slot} (R : Rep K M O G σ H r m) {p : Addr} (hp : H p = none) {xs : List V} : ∀ {ds : List D} {vs : List V}, Rws K (Bad M O G) G H ds vs → RwNs K (Bad (Plus M p) O G) G (upd H p (.lst xs)) p ds vs
  | _, _, .nil => .nil
  | _, _, .cons a b => .cons (by
      rcases Rw.forbid (xs := xs) R hp a with q | ⟨es, a', ys, e1, e2, e3, e4, e5⟩
      · exact .inl q
      · rcases a with z | ⟨es2, a2, ys2, f1, f2, f3, f4, f5⟩
        · have := Rps.forbid (xs := xs) R hp (.cons z .nil)
          cases this with
          | cons q _ => exact .inl q
        · rw [e2] at f2
          cases f2
          refine .inr ⟨es, a', ys, e1, e2, e3, e4, e5, fun z => ?_⟩
          rw [z, hp] at f3
          cases f3) (Rws.forbid R hp b)
theorem RwN.grow {σ : L2.St} {r : List Slot} (R : Rep K M O G σ H r m) (g : Grow G H G1 H1) {p : Addr} {d : D} {v : V} (h : RwN K (Bad M O G) G H p d v) : RwN K (Bad M O G1) G1 H1 p d v := by
  rcases h with h | ⟨ds, a, xs, e, e2, h1, h2, h3, h4⟩
  · exact .inl (R.rp g h)
  · exact .inr ⟨ds, a, xs, e, e2, (g.keep a _ h1 h3).1, R.rps g h2, (g.keep a _ h1 h3).2, h4⟩
theorem RwN.off {B : Addr → Prop} {p : Addr} {xs ys : List V} (hb : B p) (hp : H p = some (.lst xs)) {d : D} {v : V} (h : RwN K B G H p d v) : RwN K B G (upd H p (.lst ys)) p d v := by
  rcases h with h | ⟨ds, a, zs, e, e2, h1, h2, h3, h4⟩
  · exact .inl (h.off hb hp)
  · exact .inr ⟨ds, a, zs, e, e2, by rw [upd_ne h4]; exact h1, h2.off hb hp, h3, h4⟩
/-- .. though the list at p has changed (it was not there at first) -/
theorem Grow.off {p : Addr} {o : HO} (g : Grow G H G1 H1) (hp : H p = none) : Grow G H G1 (upd H1 p o) := ⟨fun a o' e n => ⟨by
  rw [upd_ne fun z => by rw [z, hp] at e; cases e]
  exact (g.keep a o' e n).1, (g.keep a o' e n).2⟩, g.pre⟩
/-- back from a comprehension's slots to the def's -/
theorem Rep.back {σ σ2 : L2.St} {r r2 : List Slot} {m2 : Mu} (R : Rep K M O G σ H r m) (g : Grow G H G1 H1) (R2 : Rep K M O G1 σ2 H1 r2 m2) : Rep K M O G1 σ H1 r m2 := R.up g R2.down
/-- a list that this step alone keeps, looked at -/
theorem Rep.hold {σ : L2.St} {r : List Slot} {p : Addr} (R : Rep K (Plus M p) O G σ H r m) (hm : ¬ M p) {xs : List V} {ds : List D} (hp : H p = some (.lst xs)) (h : Rps K (Bad (Plus M p) O G) G H ds xs) : Rep K M O G σ H r m ∧ Rp K (Bad M O G) G H (.lst ds) (.ref p) := by
  have up : ∀ a, Bad M O G a → Bad (Plus M p) O G a := fun a b => b.mono (fun _ z => .inl z) fun _ i z => ⟨i, z⟩
  refine ⟨R.weakM fun a z => .inl z, .lst (fun b => ?_) hp (h.mono up)⟩
  rcases b with b | b | ⟨i, b⟩
  · exact hm b
  · exact R.stM p b (.inr rfl)
  · exact (R.ownH i p b).2.1 (.inr rfl)
end

/-- behind an evaluation that makes a new list, which nobody else holds yet -/
def WantN (K : PySem.W.Frag) (M : Addr → Prop) (O : Nat → Option Addr) (σ : L2.St) (r : List Slot) (G : List Addr) (H : Hp) (x : Res D) (Q : VK) : Prop :=
  match x with
  | .ok (.lst ds) m' => ∀ p xs H' G', H p = none → Grow G H G' H' → ¬ M p → Rep K (Plus M p) O G' σ H' r m' → H' p = some (.lst xs) → Rps K (Bad (Plus M p) O G') G' H' ds xs → Q (.ref p) H'
  | _ => False
def tN (K : PySem.W.Frag) (f : List Slot → Mu → Res D) : TE := fun σ H Q => ∃ M O G r m, Rep K M O G σ H r m ∧ WantN K M O σ r G H (f r m) Q
def lstO : Res D → Bool
  | .ok (.lst _) _ => true
  | .ok _ _ => false
  | _ => true
theorem Want.new {K : PySem.W.Frag} {M : Addr → Prop} {O : Nat → Option Addr} {σ : L2.St} {r : List Slot} {G : List Addr} {H : Hp} {x : Res D} {Q : VK} (w : Want K M O σ r (Rp K) G H x Q) (h : lstO x = true) : WantN K M O σ r G H x Q := by
  cases x with
  | ex _ _ _ => exact w
  | bad => exact w
  | ok d m =>
    cases d <;> first | (cases h; done) | skip
    intro p xs H' G' _ g hM R hp hx
    obtain ⟨Rf, pf⟩ := R.hold hM hp hx
    exact w _ H' G' g Rf pf
theorem mapIf_nil {c : D → Mu → Res Bool} {f : D → Mu → Res D} {m : Mu} : mapIfR c f [] m = .ok [] m := by simp [mapIfR]
/-- the items, with a test of each (or none) -/
theorem comp_core {X : Cx} {fi : List Slot → Mu → Res (List D)} {ik : IK} {t : Tgt} {own : List (Str × Nat)} {c : List Slot → Mu → Res Bool} {f : List Slot → Mu → Res D} {tt : TT} {te : TE}
    (ht : ∀ σ H Q, tG X.K rB c σ H Q → tt σ H Q) (he : ∀ σ H Q, tG X.K (Rp X.K) f σ H Q → te σ H Q) (hv : ∀ i ∈ tgS t, i ∈ own.map (·.2)) {σ : L2.St} {H : Hp} {Q : VK}
    {M : Addr → Prop} {O : Nat → Option Addr} {G : List Addr} {r : List Slot} {m : Mu} (R : Rep X.K M O G σ H r m)
    (w : WantN X.K M O σ r G H ((fi r m).bind fun ds m => match itemsD ik ds with
      | some xs => lstR (mapIfR (fun x m => match bindT t x (wipeS r (own.map (·.2))) with | some r' => c r' m | none => .bad)
          (fun x m => match bindT t x (wipeS r (own.map (·.2))) with | some r' => f r' m | none => .bad) xs m)
      | none => .bad) Q) : tLc (tIt X.K (Rws X.K) fi ik) (tTg X.K t) tt te (own.map (·.2)) σ H Q := by
  refine ⟨M, O, G, r, m, R, ?_⟩
  generalize fi r m = y at w
  cases y with
  | ex _ _ _ => exact False.elim w
  | bad => exact False.elim w
  | ok ds m1 =>
    show ∃ xs, _
    replace w : WantN X.K M O σ r G H (match itemsD ik ds with
      | some xs => lstR (mapIfR (fun x m => match bindT t x (wipeS r (own.map (·.2))) with | some r' => c r' m | none => .bad)
          (fun x m => match bindT t x (wipeS r (own.map (·.2))) with | some r' => f r' m | none => .bad) xs m1)
      | none => .bad) Q := w
    cases e : itemsD ik ds with
    | none =>
      rw [e] at w
      exact False.elim w
    | some xs =>
      rw [e] at w
      dsimp only at w
      refine ⟨xs, rfl, fun J H1 G1 svs g1 R1 S1 F p hp => ?_⟩
      generalize hC : (fun (x : D) (m : Mu) => match bindT t x (wipeS r (own.map (·.2))) with | some r' => c r' m | none => Res.bad) = C at w
      generalize hF : (fun (x : D) (m : Mu) => match bindT t x (wipeS r (own.map (·.2))) with | some r' => f r' m | none => Res.bad) = F' at w
      cases e2 : mapIfR C F' xs m1 with
      | ex _ _ _ =>
        rw [e2] at w
        exact False.elim w
      | bad =>
        rw [e2] at w
        exact False.elim w
      | ok ys mz =>
        rw [e2] at w
        have w' : fit ys.length = true ∧ WantN X.K M O σ r G H (.ok (.lst ys) mz) Q := by
          by_cases hf : fit ys.length = true
          · exact ⟨hf, by simpa [lstR, hf] using w⟩
          · have : False := by simpa [lstR, hf, WantN] using w
            exact this.elim
        obtain ⟨hfit, w⟩ := w'
        have hM : ¬ M p := fun z => R1.dom p z hp
        -- the invariant
        refine ⟨fun i k Hh => k = xs.length - i ∧ i ≤ xs.length ∧ ∃ Gh mh done rest acc, Rep X.K (Plus M p) O Gh σ Hh r mh ∧ Grow G1 H1 Gh Hh ∧ RwNs X.K (Bad (Plus M p) O Gh) Gh Hh p ds svs ∧
          Hh p = some (.lst acc) ∧ Rps X.K (Bad (Plus M p) O Gh) Gh Hh done acc ∧ mapIfR C F' (xs.drop i) mh = .ok rest mz ∧ ys = done ++ rest, ⟨xs.length, by simp, Nat.zero_le _, G1, m1, [], ys, [], R1.forbid hp, (Grow.refl G1 H1).off hp, S1.forbid R1 hp, upd_same, .nil, by simpa using e2, rfl⟩, ?_⟩
        rintro i k Hh ⟨rfl, hi, Gh, mh, done, rest, acc, Rh, gh, Sh, hD, hacc, hmap, hys⟩
        by_cases hlt : i < xs.length
        · obtain ⟨hgo, hyl⟩ := F.1 i xs[i] _ _ _ Sh.rws (List.getElem?_eq_getElem hlt)
          refine .inr ⟨hgo, fun Hn => xs.length - (i + 1) = xs.length - (i + 1) ∧ i + 1 ≤ xs.length ∧ ∃ Gh mh done rest acc, Rep X.K (Plus M p) O Gh σ Hn r mh ∧ Grow G1 H1 Gh Hn ∧ RwNs X.K (Bad (Plus M p) O Gh) Gh Hn p ds svs ∧
            Hn p = some (.lst acc) ∧ Rps X.K (Bad (Plus M p) O Gh) Gh Hn done acc ∧ mapIfR C F' (xs.drop (i + 1)) mh = .ok rest mz ∧ ys = done ++ rest, fun H' h' => ⟨_, by omega, h'⟩, fun v H2 hy => ?_⟩
          obtain ⟨s2, p2⟩ := hyl v H2 hy
          have R2 := Rh.same s2
          have RW := R2.wipe (own.map (·.2))
          rw [List.drop_eq_getElem_cons hlt] at hmap
          cases eb : bindT t xs[i] (wipeS r (own.map (·.2))) with
          | none =>
            have : mapIfR C F' (xs[i] :: xs.drop (i + 1)) mh = .bad := by
              rw [← hC]
              simp [mapIfR, eb]
            rw [this] at hmap
            cases hmap
          | some r2 =>
            have hc : C xs[i] mh = c r2 mh := by
              rw [← hC]
              simp [eb]
            have hf' : ∀ m', F' xs[i] m' = f r2 m' := fun m' => by
              rw [← hF]
              simp [eb]
            refine ⟨Plus M p, O, Gh, _, mh, xs[i], r2, RW, p2, eb, fun σ2 R3 hw => ⟨?_, ?_⟩⟩
            · rw [hw _ hv]
              exact wipe_wipe _ _
            refine ht _ _ _ ⟨Plus M p, O, Gh, r2, mh, R3, ?_⟩
            rw [← hc]
            cases ec : C xs[i] mh with
            | bad => simp [mapIfR, ec] at hmap
            | ex _ _ _ => simp [mapIfR, ec] at hmap
            | ok b m3 =>
              intro b' H3 G3 g3 R4 eb'
              cases eb'
              have g2 : Grow Gh Hh G3 H3 := (Grow.same s2).trans g3
              have RB : Rep X.K (Plus M p) O G3 σ H3 r m3 := Rh.back g2 R4
              have Sh3 := Sh.map fun _ _ => RwN.grow Rh g2
              have hpG : ∀ {Gx : List Addr} {Hx : Hp} {mx : Mu} {σx : L2.St} {rx : List Slot}, Rep X.K (Plus M p) O Gx σx Hx rx mx → p ∉ Gx := fun Rx z => Rx.stM p z (.inr rfl)
              have hD3 : H3 p = some (.lst acc) := (g2.keep p _ hD (hpG Rh)).1
              cases b with
              | false =>
                refine ⟨rfl, hlt, G3, m3, done, rest, acc, RB, gh.trans g2, Sh3, hD3, Rh.rps g2 hacc, ?_, hys⟩
                simpa [mapIfR, ec] using hmap
              | true =>
                refine he _ _ _ ⟨Plus M p, O, G3, r2, m3, R4, ?_⟩
                rw [← hf']
                cases ef : F' xs[i] m3 with
                | bad => simp [mapIfR, ec, ef] at hmap
                | ex _ _ _ => simp [mapIfR, ec, ef] at hmap
                | ok y m4 =>
                  intro yv H4 G4 g4 R5 py
                  have g5 : Grow Gh Hh G4 H4 := g2.trans g4
                  have hD4 : H4 p = some (.lst acc) := (g5.keep p _ hD (hpG Rh)).1
                  have hacc4 := Rh.rps g5 hacc
                  cases er : mapIfR C F' (xs.drop (i + 1)) m4 with
                  | bad => simp [mapIfR, ec, ef, er] at hmap
                  | ex _ _ _ => simp [mapIfR, ec, ef, er] at hmap
                  | ok zs m5 =>
                    have hz : y :: zs = rest ∧ m5 = mz := by simpa [mapIfR, ec, ef, er] using hmap
                    obtain ⟨hz1, hz2⟩ := hz
                    subst hz2
                    refine ⟨acc, hD4, ?_, rfl, hlt, G4, m4, done ++ [y], zs, acc ++ [yv], (Rh.back g5 R5).offM (.inr rfl) hD4, (gh.trans g5).off hp, (Sh.map fun _ _ => RwN.grow Rh g5).map fun _ _ => RwN.off (.inl (.inr rfl)) hD4, upd_same, ?_, er, ?_⟩
                    · have h1 := hacc.length
                      have h2 : ys.length ≤ sizeLine := fit_le hfit
                      rw [hys, ← hz1, List.length_append, List.length_cons] at h2
                      omega
                    · exact (hacc4.append (.cons py .nil)).off (.inl (.inr rfl)) hD4
                    · rw [hys, ← hz1]
                      simp
        · have ei : i = xs.length := by omega
          subst ei
          refine .inl ⟨F.2 _ _ _ _ Sh.rws (Nat.le_refl _), ?_⟩
          rw [List.drop_length] at hmap
          have hz : rest = [] ∧ mz = mh := by simpa [mapIfR] using hmap.symm
          obtain ⟨rfl, rfl⟩ := hz
          rw [List.append_nil] at hys
          subst hys
          have hp0 : H p = none := by
            cases eh : H p with
            | none => rfl
            | some o =>
              by_cases hg : p ∈ G
              · obtain ⟨n, hn⟩ := List.getElem?_of_mem hg
                exact absurd (List.mem_of_getElem? ((g1.trans gh).pre n p hn)) fun z => Rh.stM p z (.inr rfl)
              · have := (g1.keep p o eh hg).1
                rw [hp] at this
                cases this
          exact w p acc Hh Gh hp0 (g1.trans gh) hM Rh hD hacc
end Mi

set_option linter.all false
set_option maxRecDepth 100000
set_option maxHeartbeats 4000000
/-! Mi10: what a def promises; the readings of the forms. -/
namespace Mi
open PySem PySem.Spec PyProof.Rows L2

/-! ### what is known of the whole -/
def WantF (K : PySem.W.Frag) (M : Addr → Prop) (G : List Addr) (H : Hp) (x : Res D) (Q : VK) : Prop :=
  match x with
  | .ok d m' => ∀ v H' G', Grow G H G' H' → RepF K M G' H' m' → Rp K (BadF M G') G' H' d v → Q v H'
  | .ex _ _ _ => False
  | .bad => False
def permL {α : Type} (l : List α) (ord : List Nat) : List α := ord.filterMap fun i => l[i]?
/-- a def runs as the small one says -/
structure FOk (P : Program) (w : World) (K : PySem.W.Frag) (mg : Str → Option Value) (base : Heap) (k : Nat) (kws : List (Nat × List Str × List Nat)) (x : Str) (call : List D → Mu → Res D) (fa : Addr) (fd : FuncData) (ps : List Str) : Prop where
  at_ : mg x = some (.ref fa)
  keep : PySem.W.keepIn K (.ref fa) = true
  pos : ∀ us : List Value, us.length = ps.length → bindArgs fd ⟨us, []⟩ = pure (ps.zip us)
  kw : ∀ q ∈ kws, ∀ us ws : List Value, us.length = q.1 → ws.length = q.2.1.length → (permL (us ++ ws) q.2.2).length = ps.length → bindArgs fd ⟨us, q.2.1.zip ws⟩ = pure (ps.zip (permL (us ++ ws) q.2.2))
  len : ∀ ds m, call ds m ≠ .bad → ds.length = ps.length
  run : ∀ (A : Around) (outer : List Env) (s : Shared) (H : Hp) (args : Args) (us : List Value) (vs : List V) (ds : List D) (G : List Addr) (m : Mu) (M : Addr → Prop) (Q : VK), Room k A → A.guards = some [] → L2.Env0 P w K mg base A outer s H →
    BindsTo s fd args (ps.zip us) → Vals vs us → RepF K M G H m → Rps K (BadF M G) G H ds vs → WantF K M G H (call ds m) Q → codeAny (model P w) A (.call (.ref fa) args) (CR CX0 outer P w H s Q E0) s
def bltNames : List Str := ["len", "all", "any", "sum", "tuple", "list", "sorted", "abs", "int", "str", "repr", "max", "min", "divmod", "bool", "isinstance", "range", "enumerate", "zip"]
def kwsOf (C : Cc) (f : Nat) : List (Nat × List Str × List Nat) := C.kws.filterMap fun q => if q.1 = f then some q.2 else none
/-- what the context gives -/
structure Kn (C : Cc) (g : Mi.Env0) (k : Nat) (X : Cx) : Prop where
  N : X.N = C.N
  nd : C.N.Nodup
  calm : X.calm = true
  room : Room k X.A
  gd : X.A.guards = some []
  blt : ∀ x ∈ bltNames, X.mg x = none
  con : ∀ (i : Nat) (x : Str) (d : D), C.gls[i]? = some x → g.consts[i]? = some d → ∃ u v, X.mg x = some u ∧ RelV v u ∧ ∀ B G H, Rp X.K B G H d v
  fn : ∀ (f : Nat) (x : Str), C.fns[f]? = some x → ∃ fa fd ps, FOk X.prog X.w X.K X.mg X.base k (kwsOf C f) x (g.call f) fa fd ps
theorem Kn.blk {C : Cc} {g : Mi.Env0} {k : Nat} {X : Cx} (h : Kn C g k X) (s : Shared) (H : Hp) (scope : Scope) (cenv : Env) (fp : List Addr) : Kn C g k (X.blk s H scope cenv fp) :=
  ⟨h.N, h.nd, h.calm, h.room, h.gd, h.blt, h.con, h.fn⟩
theorem Kn.units {C : Cc} {g : Mi.Env0} {k : Nat} {X : Cx} (h : Kn C g k X) : X.A.units + 64 < cLine := h.room.units

/-! ### readings in rows -/
def Stab (K : PySem.W.Frag) {α β : Type} (P : Rel α β) : Prop := ∀ {M : Addr → Prop} {O : Nat → Option Addr} {G : List Addr} {σ : L2.St} {H : Hp} {r : List Slot} {m : Mu} {G1 : List Addr} {H1 : Hp} {x : α} {v : β},
  Rep K M O G σ H r m → Grow G H G1 H1 → P (Bad M O G) G H x v → P (Bad M O G1) G1 H1 x v
theorem stab_rp {K : PySem.W.Frag} : Stab K (Rp K) := fun R g h => R.rp g h
theorem stab_rw {K : PySem.W.Frag} : Stab K (Rw K) := fun R g h => R.rw g h
theorem stab_rps {K : PySem.W.Frag} : Stab K (Rps K) := fun R g h => R.rps g h
theorem stab_rb {K : PySem.W.Frag} : Stab K rB := fun _ _ h => h
section
variable {K : PySem.W.Frag} {α β γ δ ε ζ η θ : Type} {Pa : Rel α β} {Pb : Rel γ δ} {Pd : Rel η θ} {Pc : Rel ε ζ} {σ : L2.St} {H : Hp}
theorem tG1 {fa : List Slot → Mu → Res α} {k : List Slot → α → Mu → Res ε} {Q : ζ → Hp → Prop} (h : tG K Pc (fun r m => (fa r m).bind fun x m => k r x m) σ H Q) :
    tG K Pa fa σ H fun v H1 => ∃ M O G r m x, Rep K M O G σ H1 r m ∧ Pa (Bad M O G) G H1 x v ∧ Want K M O σ r Pc G H1 (k r x m) Q := by
  obtain ⟨M, O, G, r, m, R, w⟩ := h
  refine ⟨M, O, G, r, m, R, (Want.bind (P := Pa) w).mono fun v H' ⟨d, m1, G1, g1, R1, p1, w1⟩ => ⟨M, O, G1, r, m1, d, R1, p1, w1⟩⟩
theorem tG2 (sa : Stab K Pa) {fa : List Slot → Mu → Res α} {fb : List Slot → Mu → Res γ} {k : List Slot → α → γ → Mu → Res ε} {Q : ζ → Hp → Prop}
    (h : tG K Pc (fun r m => (fa r m).bind fun x m => (fb r m).bind fun y m => k r x y m) σ H Q) :
    tG K Pa fa σ H fun v H1 => tG K Pb fb σ H1 fun u H2 => ∃ M O G r m x y, Rep K M O G σ H2 r m ∧ Pa (Bad M O G) G H2 x v ∧ Pb (Bad M O G) G H2 y u ∧ Want K M O σ r Pc G H2 (k r x y m) Q := by
  refine (tG1 (Pa := Pa) h).imp fun v H1 ⟨M, O, G, r, m, x, R, p, w⟩ => ?_
  refine ⟨M, O, G, r, m, R, (Want.bind (P := Pb) w).mono fun u H2 ⟨y, m2, G2, g2, R2, p2, w2⟩ => ⟨M, O, G2, r, m2, x, y, R2, sa R g2 p, p2, w2⟩⟩
theorem tG3 (sa : Stab K Pa) (sb : Stab K Pb) {fa : List Slot → Mu → Res α} {fb : List Slot → Mu → Res γ} {fd : List Slot → Mu → Res η} {k : List Slot → α → γ → η → Mu → Res ε} {Q : ζ → Hp → Prop}
    (h : tG K Pc (fun r m => (fa r m).bind fun x m => (fb r m).bind fun y m => (fd r m).bind fun z m => k r x y z m) σ H Q) :
    tG K Pa fa σ H fun v H1 => tG K Pb fb σ H1 fun u H2 => tG K Pd fd σ H2 fun t H3 => ∃ M O G r m x y z, Rep K M O G σ H3 r m ∧ Pa (Bad M O G) G H3 x v ∧ Pb (Bad M O G) G H3 y u ∧ Pd (Bad M O G) G H3 z t ∧ Want K M O σ r Pc G H3 (k r x y z m) Q := by
  refine (tG2 (Pa := Pa) (Pb := Pb) sa h).imp fun v H1 hv => hv.imp fun u H2 ⟨M, O, G, r, m, x, y, R, p, q, w⟩ => ?_
  refine ⟨M, O, G, r, m, R, (Want.bind (P := Pd) w).mono fun t H3 ⟨z, m3, G3, g3, R3, p3, w3⟩ => ⟨M, O, G3, r, m3, x, y, z, R3, sa R g3 p, sb R g3 q, p3, w3⟩⟩
/-- the evaluation ends with a value -/
theorem Want.ok {M : Addr → Prop} {O : Nat → Option Addr} {r : List Slot} {G : List Addr} {x : Res ε} {Q : ζ → Hp → Prop} (w : Want K M O σ r Pc G H x Q) : ∃ d m, x = .ok d m := by
  cases x with
  | ok d m => exact ⟨d, m, rfl⟩
  | ex _ _ _ => exact False.elim w
  | bad => exact False.elim w
theorem bind_ok {x : Res α} {k : α → Mu → Res ε} {d : ε} {m : Mu} (h : x.bind k = .ok d m) : ∃ a m1, x = .ok a m1 ∧ k a m1 = .ok d m := by
  cases x with
  | ok a m1 => exact ⟨a, m1, rfl, h⟩
  | ex _ _ _ => cases h
  | bad => cases h
theorem of_ok {o : Option D} {m m' : Mu} {d : D} (h : Res.of o m = .ok d m') : o = some d := by
  cases o with
  | none => cases h
  | some a =>
    cases h
    rfl
theorem Want.asB {M : Addr → Prop} {O : Nat → Option Addr} {r : List Slot} {G : List Addr} {x : Res D} {Q : Bool → Hp → Prop} (w : Want K M O σ r rB G H (Mi.asB x) Q) : Want K M O σ r (Rp K) G H x fun v H1 => ∃ c, v = .bl c ∧ Q c H1 := by
  cases x with
  | ex _ _ _ => exact False.elim w
  | bad => exact False.elim w
  | ok d m =>
    cases d <;> first | exact False.elim w | skip
    intro v H' G' g R p
    cases p
    exact ⟨_, rfl, w _ H' G' g R rfl⟩
theorem tG_asB {f : List Slot → Mu → Res D} {Q : Bool → Hp → Prop} (h : tG K rB (fun r m => Mi.asB (f r m)) σ H Q) : tG K (Rp K) f σ H fun v H1 => ∃ c, v = .bl c ∧ Q c H1 := by
  obtain ⟨M, O, G, r, m, R, w⟩ := h
  exact ⟨M, O, G, r, m, R, w.asB⟩
/-- two ways to the same -/
theorem tG.eq {f f' : List Slot → Mu → Res ε} {Q : ζ → Hp → Prop} (h : tG K Pc f σ H Q) (e : ∀ r m, f r m = f' r m) : tG K Pc f' σ H Q := by
  obtain ⟨M, O, G, r, m, R, w⟩ := h
  exact ⟨M, O, G, r, m, R, by rw [← e]; exact w⟩
theorem tG.again {M : Addr → Prop} {O : Nat → Option Addr} {r : List Slot} {G : List Addr} {m : Mu} {f : List Slot → Mu → Res ε} {Q : ζ → Hp → Prop} (R : Rep K M O G σ H r m) (w : Want K M O σ r Pc G H (f r m) Q) : tG K Pc f σ H Q := ⟨M, O, G, r, m, R, w⟩
theorem rp_rw {K : PySem.W.Frag} {f : List Slot → Mu → Res D} {Q : VK} (h : tG K (Rw K) f σ H Q) : tG K (Rp K) f σ H Q := by
  obtain ⟨M, O, G, r, m, R, w⟩ := h
  refine ⟨M, O, G, r, m, R, ?_⟩
  cases e : f r m with
  | ok d m' =>
    rw [e] at w
    exact fun v H' G' g R' p => w v H' G' g R' (.inl p)
  | ex _ _ _ =>
    rw [e] at w
    exact w
  | bad =>
    rw [e] at w
    exact w
end

/-! ### the forms, one by one -/
section
variable {X : Cx} {a b c : Expr} {fa fb fc : List Slot → Mu → Res D} {pos p : Pos}
abbrev sE (X : Cx) (e : Expr) (f : List Slot → Mu → Res D) : Prop := PE X e (tG X.K (Rp X.K) f)
abbrev sX (X : Cx) (e : Expr) (f : List Slot → Mu → Res D) : Prop := PE X e (tG X.K (Rw X.K) f)
abbrev sT (X : Cx) (e : Expr) (f : List Slot → Mu → Res D) : Prop := PT X e (tG X.K rB fun r m => asB (f r m))
abbrev sA (X : Cx) (es : List Expr) (f : List Slot → Mu → Res (List D)) : Prop := PA X es (tG X.K (Rps X.K) f)

theorem f_const (d : D) (v : V) (h : PE X a (tC v)) (hd : ∀ B G H, Rp X.K B G H d v) : sE X a fun _ m => .ok d m :=
  pe_imp h fun σ H Q ⟨M, O, G, r, m, R, w⟩ => w v H G (Grow.refl G H) R (hd _ _ _)
theorem f_var {i : Nat} (h : PE X a (tVar i)) : sE X a fun r m => match r[i]? with | some (.val d) => .ok d m | _ => .bad :=
  pe_imp h fun σ H Q ⟨M, O, G, r, m, R, w⟩ => by
    dsimp only at w
    cases e : r[i]? with
    | none =>
      rw [e] at w
      exact False.elim w
    | some sl =>
      rw [e] at w
      cases sl with
      | val d =>
        obtain ⟨v, h1, h2⟩ := R.val i d e
        exact ⟨v, h1, w v H G (Grow.refl G H) R h2⟩
      | un => exact False.elim w
      | own ds => exact False.elim w
theorem f_view {i : Nat} (h : PE X a (tVar i)) : sX X a fun r m => match r[i]? with | some (.own ds) => .ok (.lst ds) m | some (.val d) => .ok d m | _ => .bad :=
  pe_imp h fun σ H Q ⟨M, O, G, r, m, R, w⟩ => by
    dsimp only at w
    cases e : r[i]? with
    | none =>
      rw [e] at w
      exact False.elim w
    | some sl =>
      rw [e] at w
      cases sl with
      | val d =>
        obtain ⟨v, h1, h2⟩ := R.val i d e
        exact ⟨v, h1, w v H G (Grow.refl G H) R (.inl h2)⟩
      | un => exact False.elim w
      | own ds =>
        obtain ⟨q, xs, h1, h2, h3, h4⟩ := R.own i ds e
        exact ⟨.ref q, h2, w _ H G (Grow.refl G H) R (.inr ⟨ds, q, xs, rfl, rfl, h3, h4, (R.ownH i q h1).2.2⟩)⟩
theorem f_rw (h : sE X a fa) : sX X a fa := pe_imp h fun _ _ _ w => rp_rw w
/-- operations -/
def eR2 (K : PySem.W.Frag) (f : D → D → Option D) : R2 := fun x y H Q => ∃ B G, r2 K B G f x y H Q
theorem f_op {o : Operator} (ha : sX X a fa) (hb : sX X b fb) : sE X (.BinOp a o b pos) fun r m => (fa r m).bind fun x m => (fb r m).bind fun y m => .of (binop o x y) m :=
  pe_imp (pe_op (r := eR2 X.K (binop o)) (fun pins s σ H x y v u Q I rx ry ⟨_, _, h⟩ => bin_sound o pins s σ H x y v u Q I rx ry h) ha hb) fun σ H Q h =>
    (tG2 stab_rw h).imp fun v H1 h1 => h1.imp fun u H2 ⟨M, O, G, r, m, x, y, R, p, q, w⟩ => ⟨_, _, x, y, p, q, R.fr, w.fits R⟩
theorem f_neg (ha : sE X a fa) : sE X (.UnaryOp .USub a pos) fun r m => (fa r m).bind fun x m => .of (negop x) m :=
  pe_imp (pe_un (r := fun x H Q => ∃ B G, r1 X.K B G negop x H Q) (fun pins s σ H x v Q I rx ⟨_, _, h⟩ => neg_sound pins s σ H x v Q I rx h) ha) fun σ H Q h =>
    (tG1 h).imp fun v H1 ⟨M, O, G, r, m, x, R, p, w⟩ => ⟨_, _, x, .inl p, R.fr, w.fits R⟩
def eB2 (K : PySem.W.Frag) (f : D → D → Option Bool) : R2 := fun x y H Q => ∃ B G, rB2 K B G f x y H Q
theorem cmpE (hu : X.A.units + 64 < cLine) (o : CmpOp) : OpR X (compareOp o) (eB2 X.K (cmpop o)) := fun pins s σ H x y v u Q I rx ry ⟨_, _, h⟩ => cmp_sound hu o pins s σ H x y v u Q I rx ry h
theorem cmp_read {K : PySem.W.Frag} {o : CmpOp} {σ : L2.St} {H : Hp} {Q : VK} (h : tG K (Rp K) (fun r m => (fa r m).bind fun x m => (fb r m).bind fun y m => .of ((cmpop o x y).map .bl) m) σ H Q) :
    tOp (eB2 K (cmpop o)) (tG K (Rw K) fa) (tG K (Rw K) fb) σ H Q :=
  (tG2 (Pa := Rw K) (Pb := Rw K) stab_rw h).imp fun v H1 h1 => h1.imp fun u H2 ⟨M, O, G, r, m, x, y, R, p, q, w⟩ => ⟨_, _, x, y, p, q, w.bool R⟩
theorem f_cmp (hu : X.A.units + 64 < cLine) {o : CmpOp} (ha : sX X a fa) (hb : sX X b fb) (hm : behindInMarks o b = false) :
    sE X (.Compare a [o] [b] pos) fun r m => (fa r m).bind fun x m => (fb r m).bind fun y m => .of ((cmpop o x y).map .bl) m :=
  pe_imp (pe_cmpR (cmpE hu o) ha hb hm) fun σ H Q h => cmp_read h
theorem ft_cmp (hu : X.A.units + 64 < cLine) {o : CmpOp} (ha : sX X a fa) (hb : sX X b fb) (hm : behindInMarks o b = false) :
    sT X (.Compare a [o] [b] pos) fun r m => (fa r m).bind fun x m => (fb r m).bind fun y m => .of ((cmpop o x y).map .bl) m :=
  pt_imp (pt_cmpR (cmpE hu o) ha hb hm) fun σ H Q h => cmp_read (tG_asB h)
abbrev chainR (o q : CmpOp) (fa fb fc : List Slot → Mu → Res D) (r : List Slot) (m : Mu) : Res D := (fa r m).bind fun x m => (fb r m).bind fun y m => match cmpop o x y with
    | some true => (fc r m).bind fun z m => .of ((cmpop q y z).map .bl) m
    | some false => .ok (.bl false) m
    | none => .bad
theorem chain_read {K : PySem.W.Frag} {o q : CmpOp} {σ : L2.St} {H : Hp} {Q : VK} (h : tG K (Rp K) (chainR o q fa fb fc) σ H Q) :
    tChain (eB2 K (cmpop o)) (eB2 K (cmpop q)) (tG K (Rp K) fa) (tG K (Rp K) fb) (tG K (Rp K) fc) σ H Q := by
  refine (tG2 (Pa := Rp K) (Pb := Rp K) stab_rp h).imp fun v H1 h1 => h1.imp fun u H2 ⟨M, O, G, r, m, x, y, R, p1, p2, w⟩ => ?_
  cases e : cmpop o x y with
  | none =>
    rw [e] at w
    exact False.elim w
  | some t =>
    rw [e] at w
    cases t with
    | false => exact ⟨_, _, x, y, .inl p1, .inl p2, false, e, false, rfl, w _ H2 G (Grow.refl G H2) R (.bl false)⟩
    | true =>
      refine ⟨_, _, x, y, .inl p1, .inl p2, true, e, true, rfl, ?_⟩
      refine ⟨M, O, G, r, m, R, (Want.bind (P := Rp K) w).mono fun t' H3 ⟨z, m3, G3, g3, R3, p3, w3⟩ => ⟨_, _, y, z, .inl (R.rp g3 p2), .inl p3, w3.bool R3⟩⟩
theorem f_cmp2 (hu : X.A.units + 64 < cLine) {o q : CmpOp} (ha : sE X a fa) (hb : sE X b fb) (hc : sE X c fc) (hm : lastMarks [o, q] [b, c] = false) : sE X (.Compare a [o, q] [b, c] pos) (chainR o q fa fb fc) :=
  pe_imp (pe_chain (cmpE hu o) (cmpE hu q) ha hb hc hm) fun σ H Q h => chain_read h
theorem ft_cmp2 (hu : X.A.units + 64 < cLine) {o q : CmpOp} (ha : sE X a fa) (hb : sE X b fb) (hc : sE X c fc) (hm : lastMarks [o, q] [b, c] = false) : sT X (.Compare a [o, q] [b, c] pos) (chainR o q fa fb fc) :=
  pt_imp (pt_chain (cmpE hu o) (cmpE hu q) ha hb hc hm) fun σ H Q h => chain_read (tG_asB h)

/-! truth -/
abbrev notR (fa : List Slot → Mu → Res D) (r : List Slot) (m : Mu) : Res D := (asB (fa r m)).bind fun b m => .ok (.bl (!b)) m
theorem f_not (ha : sE X a fa) : sE X (.UnaryOp .Not a pos) (notR fa) :=
  pe_imp (pe_not ha) fun σ H Q h => tG_asB ((tG1 (Pa := rB) h).imp fun c H1 ⟨M, O, G, r, m, x, R, e, w⟩ => by
    cases e
    exact w _ H1 G (Grow.refl G H1) R (.bl _))
theorem ft_not (ha : sT X a fa) : sT X (.UnaryOp .Not a pos) (notR fa) :=
  pt_imp (pt_not ha) fun σ H Q h => (tG1 (Pa := rB) (fa := fun r m => asB (fa r m)) (k := fun _ b m => .ok (!b) m) (Pc := rB) (h.eq fun r m => by
    show asB (notR fa r m) = _
    unfold notR
    cases fa r m with
    | ok d m => cases d <;> rfl
    | ex _ _ _ => rfl
    | bad => rfl)).imp fun c H1 ⟨M, O, G, r, m, x, R, e, w⟩ => by
      cases e
      exact w _ H1 G (Grow.refl G H1) R rfl
theorem tt_read {K : PySem.W.Frag} {σ : L2.St} {H : Hp} {ε ζ : Type} {Pc : Rel ε ζ} {k1 k2 : List Slot → Mu → Res ε} {Q : ζ → Hp → Prop} (h : tG K Pc (fun r m => (asB (fa r m)).bind fun t m => if t then k1 r m else k2 r m) σ H Q) :
    tG K rB (fun r m => asB (fa r m)) σ H fun c H1 => if c = true then tG K Pc k1 σ H1 Q else tG K Pc k2 σ H1 Q :=
  (tG1 (Pa := rB) (fa := fun r m => asB (fa r m)) (k := fun r t m => if t then k1 r m else k2 r m) h).imp fun c H1 ⟨M, O, G, r, m, x, R, e, w⟩ => by
    cases e
    cases c with
    | true => exact tG.again R w
    | false => exact tG.again R w
theorem bool_here {K : PySem.W.Frag} {σ : L2.St} {H : Hp} {b : Bool} {Q : VK} (h : tG K (Rp K) (fun _ m => .ok (.bl b) m) σ H Q) : Q (.bl b) H := by
  obtain ⟨M, O, G, r, m, R, w⟩ := h
  exact w _ H G (Grow.refl G H) R (.bl b)
theorem bool_hereT {K : PySem.W.Frag} {σ : L2.St} {H : Hp} {b : Bool} {Q : Bool → Hp → Prop} (h : tG K rB (fun _ m => .ok b m) σ H Q) : Q b H := by
  obtain ⟨M, O, G, r, m, R, w⟩ := h
  exact w _ H G (Grow.refl G H) R rfl
theorem f_ite (hc : sT X c fc) (ha : sE X a fa) (hb : sE X b fb) : sE X (.IfExp c a b pos) fun r m => (asB (fc r m)).bind fun t m => if t then fa r m else fb r m :=
  pe_imp (pe_ifExp hc ha hb) fun σ H Q h => tt_read h
theorem asB_ite {x : Res D} {f h : Mu → Res D} : asB ((asB x).bind fun t m => if t then f m else h m) = (asB x).bind fun t m => if t then asB (f m) else asB (h m) := by
  cases x with
  | ok d m => cases d <;> first | rfl | (rename_i b; cases b <;> rfl)
  | ex _ _ _ => rfl
  | bad => rfl
theorem pt_ifExp {tc ta tb : TT} (hc : PT X c tc) (ha : PT X a ta) (hb : PT X b tb) : PT X (.IfExp c a b pos) (fun σ H Q => tc σ H fun d H1 => if d = true then ta σ H1 Q else tb σ H1 Q) := by
  refine ⟨fun pins s σ H Q I h => ?_⟩
  refine isTrue_IfExp (thn (hc.run pins s σ H _ I h) fun d s1 ⟨H1, I1, q1⟩ => ?_)
  cases d with
  | true => exact ha.run pins s1 σ H1 Q I1 q1
  | false => exact hb.run pins s1 σ H1 Q I1 q1
theorem ft_ite (hc : sT X c fc) (ha : sT X a fa) (hb : sT X b fb) : sT X (.IfExp c a b pos) fun r m => (asB (fc r m)).bind fun t m => if t then fa r m else fb r m :=
  pt_imp (pt_ifExp hc ha hb) fun σ H Q h => tt_read (h.eq fun r m => asB_ite)
/-- and, or -/
theorem f_and {rest : List Expr} (ha : sE X a fa) (hb : sE X (.BoolOp .And (b :: rest) pos) fb) : sE X (.BoolOp .And (a :: b :: rest) pos) fun r m => (asB (fa r m)).bind fun t m => if t then fb r m else .ok (.bl false) m :=
  pe_imp (pe_and ha hb) fun σ H Q h => (tG_asB (tt_read h)).imp fun v H1 ⟨c, e, w⟩ => ⟨c, e, by
    cases c with
    | true => exact w
    | false => exact bool_here w⟩
theorem f_or {rest : List Expr} (ha : sE X a fa) (hb : sE X (.BoolOp .Or (b :: rest) pos) fb) : sE X (.BoolOp .Or (a :: b :: rest) pos) fun r m => (asB (fa r m)).bind fun t m => if t then .ok (.bl true) m else fb r m :=
  pe_imp (pe_or ha hb) fun σ H Q h => (tG_asB (tt_read h)).imp fun v H1 ⟨c, e, w⟩ => ⟨c, e, by
    cases c with
    | false => exact w
    | true => exact bool_here w⟩
abbrev sW (X : Cx) (e : Expr) (f : List Slot → Mu → Res D) : Prop := PW X e (tG X.K rB fun r m => asB (f r m))
theorem fw_and {rest : List Expr} (ha : sT X a fa) (hb : sW X (.BoolOp .And (b :: rest) pos) fb) : sW X (.BoolOp .And (a :: b :: rest) pos) fun r m => (asB (fa r m)).bind fun t m => if t then fb r m else .ok (.bl false) m :=
  pw_imp (pw_and ha hb) fun σ H Q h => (tt_read (h.eq fun r m => asB_ite)).imp fun c H1 w => by
    cases c with
    | true => exact w
    | false => exact bool_hereT w
theorem fw_or {rest : List Expr} (ha : sT X a fa) (hb : sW X (.BoolOp .Or (b :: rest) pos) fb) : sW X (.BoolOp .Or (a :: b :: rest) pos) fun r m => (asB (fa r m)).bind fun t m => if t then .ok (.bl true) m else fb r m :=
  pw_imp (pw_or ha hb) fun σ H Q h => (tt_read (h.eq fun r m => asB_ite)).imp fun c H1 w => by
    cases c with
    | false => exact w
    | true => exact bool_hereT w
/-- a value as a test -/
theorem ft_val (h : sE X a fa) (he : ∀ whole, isTrue a X.env whole = (do let v ← whole; standAt a.pos; holding [v] (truthy v))) : sT X a fa :=
  pt_imp (pt_val h he) fun σ H Q w => tG_asB w

/-! argument lists, displays -/
theorem f_nil : sA X [] fun _ m => .ok [] m := pa_imp pa_nil fun σ H Q ⟨M, O, G, r, m, R, w⟩ => w [] H G (Grow.refl G H) R .nil
theorem f_cons {es : List Expr} {fs : List Slot → Mu → Res (List D)} (ha : sE X a fa) (hr : sA X es fs) (hs : starEach (a :: es) X.env = (false, eval a X.env) :: starEach es X.env) :
    sA X (a :: es) fun r m => (fa r m).bind fun d m => (fs r m).bind fun ds m => .ok (d :: ds) m :=
  pa_imp (pa_cons ha hr hs) fun σ H Q h => (tG2 (Pa := Rp X.K) (Pb := Rps X.K) stab_rp h).imp fun v H1 h1 => h1.imp fun vs H2 ⟨M, O, G, r, m, x, xs, R, p, q, w⟩ => w _ H2 G (Grow.refl G H2) R (.cons p q)
abbrev sXs (X : Cx) (es : List Expr) (f : List Slot → Mu → Res (List D)) : Prop := PA X es (tG X.K (Rws X.K) f)
theorem stab_rws {K : PySem.W.Frag} : Stab K (Rws K) := fun R g h => h.map fun _ _ z => R.rw g z
theorem f_nilx : sXs X [] fun _ m => .ok [] m := pa_imp pa_nil fun σ H Q ⟨M, O, G, r, m, R, w⟩ => w [] H G (Grow.refl G H) R .nil
theorem f_consx {es : List Expr} {fs : List Slot → Mu → Res (List D)} (ha : sX X a fa) (hr : sXs X es fs) (hs : starEach (a :: es) X.env = (false, eval a X.env) :: starEach es X.env) :
    sXs X (a :: es) fun r m => (fa r m).bind fun d m => (fs r m).bind fun ds m => .ok (d :: ds) m :=
  pa_imp (pa_cons ha hr hs) fun σ H Q h => (tG2 (Pa := Rw X.K) (Pb := Rws X.K) stab_rw h).imp fun v H1 h1 => h1.imp fun vs H2 ⟨M, O, G, r, m, x, xs, R, p, q, w⟩ => w _ H2 G (Grow.refl G H2) R (.cons p q)
theorem size100 {n : Nat} (h : n ≤ 100) : n ≤ sizeLine := by
  rw [sizeLine_eq]
  omega
theorem f_tup {es : List Expr} {k : Nat} {fs : List Slot → Mu → Res (List D)} (h : sA X es fs) (hl : ∀ r m ds m', fs r m = .ok ds m' → ds.length ≤ 100) : sE X (.Tuple es k pos) fun r m => (fs r m).bind fun ds m => .ok (.tup ds) m :=
  pe_imp (pe_tup h) fun σ H Q ⟨M, O, G, r, m, R, w⟩ => ⟨M, O, G, r, m, R, by
    obtain ⟨dd, mm, e⟩ := w.ok
    obtain ⟨ds, m1, e1, e2⟩ := bind_ok e
    dsimp only at w
    rw [e1] at w ⊢
    exact fun vs H1 G1 g1 R1 p1 => ⟨by rw [← p1.length]; exact size100 (hl _ _ _ _ e1), fun q hq => w _ _ G1 (g1.trans (Grow.same (same_upd hq))) (R1.same (same_upd hq)) (Rp.newT hq p1)⟩⟩
theorem f_lst {es : List Expr} {fs : List Slot → Mu → Res (List D)} (h : sA X es fs) (hl : ∀ r m ds m', fs r m = .ok ds m' → ds.length ≤ 100) : sE X (.List es pos) fun r m => (fs r m).bind fun ds m => .ok (.lst ds) m :=
  pe_imp (pe_lst h) fun σ H Q ⟨M, O, G, r, m, R, w⟩ => ⟨M, O, G, r, m, R, by
    obtain ⟨dd, mm, e⟩ := w.ok
    obtain ⟨ds, m1, e1, e2⟩ := bind_ok e
    dsimp only at w
    rw [e1] at w ⊢
    exact fun vs H1 G1 g1 R1 p1 => ⟨by rw [← p1.length]; exact size100 (hl _ _ _ _ e1), fun q hq => w _ _ G1 (g1.trans (Grow.same (same_upd hq))) (R1.same (same_upd hq)) (Rp.newL R1.fr hq p1)⟩⟩

/-! built-in calls -/
theorem f_b1 (hc : X.calm = true) (hg : X.A.guards = some []) (hu : X.A.units + 64 < cLine) {bb : B1} (hgl : Gl X bb.name) (hm : X.mg bb.name = none) (ha : sX X a fa) (hs : starEach [a] X.env = (false, eval a X.env) :: starEach [] X.env) :
    sE X (.Call (.Name bb.name p) [a] [] pos) fun r m => (fa r m).bind fun x m => .of (b1op bb x) m := by
  have hr : CallR X (b1val bb) (fun xs H Q => ∃ B G, rc1 X.K B G (b1op bb) xs H Q) := fun pins s σ H xs us Q I r ⟨_, _, h⟩ => b1_sound hc hg hu bb pins s σ H xs us Q I r h
  have pa : PA X [a] (tCons (tG X.K (Rw X.K) fa) tNil) := pa_cons ha pa_nil hs
  have main : PE X (.Call (.Name bb.name p) [a] [] pos) (tCB (fun xs H Q => ∃ B G, rc1 X.K B G (b1op bb) xs H Q) (tCons (tG X.K (Rw X.K) fa) tNil)) := by
    cases bb
    · exact pe_callB hr hgl hm boot_len pa (by decide) (by decide) hs rfl
    · exact pe_callB hr hgl hm boot_all pa (by decide) (by decide) hs rfl
    · exact pe_callB hr hgl hm boot_any pa (by decide) (by decide) hs rfl
    · exact pe_callB hr hgl hm boot_sum pa (by decide) (by decide) hs rfl
    · exact pe_callTy hr hgl hm PyProof.Rows.boot_tuple pa (by decide) (by decide) hs rfl
    · exact pe_callTy hr hgl hm PyProof.Rows.boot_list pa (by decide) (by decide) hs rfl
    · exact pe_callB hr hgl hm boot_sorted pa (by decide) (by decide) hs rfl
    · exact pe_callB hr hgl hm boot_abs pa (by decide) (by decide) hs rfl
    · exact pe_callTy hr hgl hm PyProof.Rows.boot_int pa (by decide) (by decide) hs rfl
    · exact pe_callTy hr hgl hm PyProof.Rows.boot_str pa (by decide) (by decide) hs rfl
    · exact pe_callB hr hgl hm boot_repr pa (by decide) (by decide) hs rfl
    · exact pe_callB hr hgl hm boot_max pa (by decide) (by decide) hs rfl
    · exact pe_callB hr hgl hm boot_min pa (by decide) (by decide) hs rfl
  exact pe_imp main fun σ H Q h => (tG1 (Pa := Rw X.K) h).imp fun v H1 ⟨M, O, G, r, m, x, R, p, w⟩ => ⟨_, _, x, v, rfl, p, R.fr, w.fits R⟩
theorem f_b2 (hc : X.calm = true) {bb : B2} (hgl : Gl X bb.name) (hm : X.mg bb.name = none) (ha : sE X a fa) (hb : sE X b fb) (hs : starEach [a, b] X.env = (false, eval a X.env) :: starEach [b] X.env) (hs2 : starEach [b] X.env = (false, eval b X.env) :: starEach [] X.env) :
    sE X (.Call (.Name bb.name p) [a, b] [] pos) fun r m => (fa r m).bind fun x m => (fb r m).bind fun y m => .of (b2op bb x y) m := by
  have hr : CallR X (b2val bb) (fun xs H Q => ∃ B G, rc2 X.K B G (b2op bb) xs H Q) := fun pins s σ H xs us Q I r ⟨_, _, h⟩ => b2_sound hc bb pins s σ H xs us Q I r h
  have pa : PA X [a, b] (tCons (tG X.K (Rp X.K) fa) (tCons (tG X.K (Rp X.K) fb) tNil)) := pa_cons ha (pa_cons hb pa_nil hs2) hs
  have hp : (backTo pos (starEach [b] X.env)).any (·.1) = false := by
    rw [hs2]
    rfl
  have main : PE X (.Call (.Name bb.name p) [a, b] [] pos) (tCB (fun xs H Q => ∃ B G, rc2 X.K B G (b2op bb) xs H Q) (tCons (tG X.K (Rp X.K) fa) (tCons (tG X.K (Rp X.K) fb) tNil))) := by
    cases bb
    · exact pe_callB hr hgl hm boot_max pa (by decide) (by decide) hs hp
    · exact pe_callB hr hgl hm boot_min pa (by decide) (by decide) hs hp
    · exact pe_callB hr hgl hm boot_divmod pa (by decide) (by decide) hs hp
  exact pe_imp main fun σ H Q h => (tG2 (Pa := Rp X.K) (Pb := Rp X.K) stab_rp h).imp fun v H1 h1 => h1.imp fun u H2 ⟨M, O, G, r, m, x, y, R, p, q, w⟩ => ⟨_, _, x, y, v, u, rfl, .inl p, .inl q, R.fr, w.fits R⟩
theorem f_max3 (hc : X.calm = true) (hgl : Gl X "max") (hm : X.mg "max" = none) (ha : sE X a fa) (hb : sE X b fb) (hd : sE X c fc) (hs : starEach [a, b, c] X.env = (false, eval a X.env) :: starEach [b, c] X.env) (hs2 : starEach [b, c] X.env = (false, eval b X.env) :: starEach [c] X.env) (hs3 : starEach [c] X.env = (false, eval c X.env) :: starEach [] X.env) :
    sE X (.Call (.Name "max" p) [a, b, c] [] pos) fun r m => (fa r m).bind fun x m => (fb r m).bind fun y m => (fc r m).bind fun z m => .of (max3D x y z) m := by
  have hr : CallR X (.builtin "max") (fun xs H Q => ∃ B G, rc3 X.K B G max3D xs H Q) := fun pins s σ H xs us Q I r ⟨_, _, h⟩ => max3_sound hc pins s σ H xs us Q I r h
  have hp : (backTo pos (starEach [b, c] X.env)).any (·.1) = false := by
    rw [hs2, hs3]
    rfl
  exact pe_imp (pe_callB hr hgl hm boot_max (pa_cons ha (pa_cons hb (pa_cons hd pa_nil hs3) hs2) hs) (by decide) (by decide) hs hp) fun σ H Q h =>
    (tG3 (Pa := Rp X.K) (Pb := Rp X.K) (Pd := Rp X.K) stab_rp stab_rp h).imp fun v H1 h1 => h1.imp fun u H2 h2 => h2.imp fun t H3 ⟨M, O, G, r, m, x, y, z, R, p, q, q', w⟩ => ⟨_, _, x, y, z, v, u, t, rfl, .inl p, .inl q, .inl q', R.fr, w.fits R⟩
end
end Mi

set_option linter.all false
set_option maxRecDepth 100000
set_option maxHeartbeats 4000000
/-! Mi11: more forms: isinstance, methods, items, parts, calls of defs, what is walked, comprehensions. -/
namespace Mi
open PySem PySem.Spec PyProof.Rows L2
section
variable {X : Cx} {a b c : Expr} {fa fb fc : List Slot → Mu → Res D} {pos p : Pos}
/-! isinstance -/
theorem gl_of {x : Str} (h : glB X.env.scope x = true) : Gl X x ∧ (x == ("__debug__" : Str)) = false ∧ x ≠ "__name__" := by
  unfold glB at h
  split at h
  · rename_i e
    refine ⟨e, ?_⟩
    unfold nmOk at h
    simp only [Bool.and_eq_true, Bool.not_eq_true'] at h
    refine ⟨h.1.1, fun z => ?_⟩
    rw [z] at h
    simp at h
  · cases h
theorem boot_ty : ∀ t : Ty, bootBuiltins t.name = some (.type t.py)
  | .int => PyProof.Rows.boot_int | .bool => PyProof.Rows.boot_bool | .str => PyProof.Rows.boot_str | .list => PyProof.Rows.boot_list | .tuple => PyProof.Rows.boot_tuple | .seq => PyProof.Rows.boot_tuple
theorem f_isa {t : Ty} (ht : t ≠ .seq) {pq : Pos} (hg : Gl X "isinstance") (hm : X.mg "isinstance" = none) (hg2 : glB X.env.scope t.name = true) (hm2 : X.mg t.name = none) (ha : sE X a fa) (hs : starEach [a, .Name t.name pq] X.env = (false, eval a X.env) :: starEach [.Name t.name pq] X.env) :
    sE X (.Call (.Name "isinstance" p) [a, .Name t.name pq] [] pos) fun r m => (fa r m).bind fun x m => .of ((isaD t x).map .bl) m := by
  obtain ⟨g1, g2, g3⟩ := gl_of hg2
  have hb : PE X (.Name t.name pq) (tC (.ty t.py)) := pe_bltn g1 hm2 (boot_ty t) rfl g3 g2
  refine pe_imp (pe_callB call_isi hg hm boot_isinstance (pa_cons ha (pa_cons hb pa_nil rfl) hs) (by decide) (by decide) hs rfl) fun σ H Q h =>
    (tG1 (Pa := Rp X.K) h).imp fun v H1 ⟨M, O, G, r, m, x, R, p, w⟩ => ?_
  obtain ⟨bb, e, q⟩ := w.bool R
  obtain ⟨n, en⟩ := isa_ty e
  exact ⟨v, _, _, _, bb, rfl, .ty _, tyx_of (.inl p) en, kit_isa ht e en, q⟩
theorem f_isaS {pq pr ps : Pos} {kk : Nat} (hg : Gl X "isinstance") (hm : X.mg "isinstance" = none) (hg2 : glB X.env.scope "list" = true) (hm2 : X.mg "list" = none) (hg3 : glB X.env.scope "tuple" = true) (hm3 : X.mg "tuple" = none) (ha : sE X a fa)
    (hs : starEach [a, .Tuple [.Name "list" pq, .Name "tuple" pr] kk ps] X.env = (false, eval a X.env) :: starEach [.Tuple [.Name "list" pq, .Name "tuple" pr] kk ps] X.env) :
    sE X (.Call (.Name "isinstance" p) [a, .Tuple [.Name "list" pq, .Name "tuple" pr] kk ps] [] pos) fun r m => (fa r m).bind fun x m => .of ((isaD .seq x).map .bl) m := by
  obtain ⟨g1, g2, g3⟩ := gl_of hg2
  obtain ⟨g4, g5, g6⟩ := gl_of hg3
  have hb : PE X (.Name "list" pq) (tC (.ty "list")) := pe_bltn g1 hm2 PyProof.Rows.boot_list rfl g3 g2
  have hb2 : PE X (.Name "tuple" pr) (tC (.ty "tuple")) := pe_bltn g4 hm3 PyProof.Rows.boot_tuple rfl g6 g5
  have hb3 := pe_tup (x1 := kk) (pos := ps) (pa_cons hb (pa_cons hb2 pa_nil rfl) rfl)
  refine pe_imp (pe_callB call_isiT hg hm boot_isinstance (pa_cons ha (pa_cons hb3 pa_nil rfl) hs) (by decide) (by decide) hs rfl) fun σ H Q h =>
    (tG1 (Pa := Rp X.K) h).imp fun v H1 ⟨M, O, G, r, m, x, R, p, w⟩ => ?_
  refine ⟨by show 2 ≤ sizeLine; decide, fun q hq => ?_⟩
  have R2 := R.same (same_upd (o := .tup [V.ty "list", V.ty "tuple"]) hq)
  have w2 := w.grow (Grow.same (same_upd (o := .tup [V.ty "list", V.ty "tuple"]) hq))
  obtain ⟨bb, e, q'⟩ := w2.bool R2
  obtain ⟨n, en⟩ := isa_ty e
  exact ⟨v, q, _, _, _, bb, rfl, upd_same, .cons (.ty _) (.cons (.ty _) .nil), tyx_of (.inl (p.same (same_upd hq))) en, kit_seq e en, q'⟩
/-! methods -/
theorem m1_str {k : M1} {x y d : D} (h : m1op k x y = some d) : ∃ z, x = .str z := by
  cases k <;> cases x <;> first | exact ⟨_, rfl⟩ | (cases y <;> cases h)
theorem f_m1 {k : M1} {ap : Pos} (ha : sE X a fa) (hb : sX X b fb) (hs : starEach [b] X.env = [(false, eval b X.env)]) (hbase : attributeBase a k.name X.env (eval a X.env) = eval a X.env) (hline : (ap.endLine == pos.line) = true) :
    sE X (.Call (.Attribute a k.name ap) [b] [] pos) fun r m => (fa r m).bind fun x m => (fb r m).bind fun y m => .of (m1op k x y) m := by
  have main : PE X (.Call (.Attribute a k.name ap) [b] [] pos) (tM1 (fun x xs H Q => ∃ B G, rm1 X.K B G (m1op k) x xs H Q) (tG X.K (Rp X.K) fa) (tG X.K (Rw X.K) fb)) := by
    cases k
    · exact pe_m1 F.slot_str_split F.type_str_split (fun pins s σ H x xs v us Q I rx rs ⟨_, _, h⟩ => split_sound pins s σ H x xs v us Q I rx rs h) ha hb hs hbase hline
    · exact pe_m1 F.slot_str_join F.type_str_join (fun pins s σ H x xs v us Q I rx rs ⟨_, _, h⟩ => join_sound pins s σ H x xs v us Q I rx rs h) ha hb hs hbase hline
    · exact pe_m1 F.slot_str_startswith F.type_str_startswith (fun pins s σ H x xs v us Q I rx rs ⟨_, _, h⟩ => starts_sound pins s σ H x xs v us Q I rx rs h) ha hb hs hbase hline
  refine pe_imp main fun σ H Q h => ?_
  refine (tG1 (Pa := Rp X.K) h).imp fun v H1 ⟨M, O, G, r, m, x, R, p, w⟩ => ⟨?_, ?_⟩
  · obtain ⟨d, m', e⟩ := w.ok
    obtain ⟨y, m1, e1, e2⟩ := bind_ok e
    obtain ⟨z, rfl⟩ := m1_str (of_ok e2)
    cases p
    exact ⟨z, rfl⟩
  · exact ⟨M, O, G, r, m, R, (Want.bind (P := Rw X.K) w).mono fun u H2 ⟨y, m2, G2, g2, R2, p2, w2⟩ => ⟨_, _, x, y, u, rfl, .inl (R.rp g2 p), p2, R2.fr, w2.fits R2⟩⟩
/-! items and parts -/
theorem f_idx (ha : sX X a fa) (hb : sE X b fb) (hp : PlainIx b) : sE X (.Subscript a b pos) fun r m => (fa r m).bind fun x m => (fb r m).bind fun y m => .of (idxD m x y) m :=
  pe_imp (pe_ix (r := fun x y H Q => ∃ B G m, rIdx X.K B G m x y H Q) (fun value slice pins s σ H x y v u Q I rx ry ⟨_, _, _, h⟩ hs => idx_sound value slice pins s σ H x y v u Q I rx ry h hs) ha hb hp) fun σ H Q h =>
    (tG2 (Pa := Rw X.K) (Pb := Rp X.K) stab_rw h).imp fun v H1 h1 => h1.imp fun u H2 ⟨M, O, G, r, m, x, y, R, p, q, w⟩ => ⟨Bad M O G, G, m, x, y, p, .inl q, R.st, by
      obtain ⟨d, e, hq⟩ := w.fits R
      exact ⟨d, e, fun v hv => hq v H2 (Same.refl H2) hv⟩⟩
def eSl (K : PySem.W.Frag) : V → Option Int → Option Int → Hp → VK → Prop := fun x lo hi H Q => ∃ B G, rSl K B G x lo hi H Q
theorem slE : SlR X (eSl X.K) := fun pins s σ H x v vl vu lo hi sl Q I rx hs pl pu ⟨_, _, h⟩ => sl_sound pins s σ H x v vl vu lo hi sl Q I rx hs pl pu h
theorem slI_int {x y z d : D} (h : slI x y z = some d) : ∃ i j, y = .int i ∧ z = .int j := by
  unfold slI at h
  split at h
  · exact ⟨_, _, rfl, rfl⟩
  · cases h
theorem slLI_int {x y d : D} (h : slLI x y = some d) : ∃ i, y = .int i := by
  unfold slLI at h
  split at h
  · exact ⟨_, rfl⟩
  · cases h
theorem slHI_int {x y d : D} (h : slHI x y = some d) : ∃ i, y = .int i := by
  unfold slHI at h
  split at h
  · exact ⟨_, rfl⟩
  · cases h
theorem f_slB {ps : Pos} (ha : sX X a fa) (hb : sE X b fb) (hc : sE X c fc) : sE X (.Subscript a (.Slice (some b) (some c) none ps) pos) fun r m => (fa r m).bind fun x m => (fb r m).bind fun y m => (fc r m).bind fun z m => .of (slI x y z) m := by
  refine pe_imp (pe_slice slE ha (po_some hb) (po_some hc)) fun σ H Q h => ?_
  refine (tG1 (Pa := Rw X.K) h).imp fun v H1 ⟨M, O, G, r, m, x, R, p, w⟩ => ?_
  refine ⟨M, O, G, r, m, R, (Want.bind (P := Rp X.K) w).mono fun u H2 ⟨y, m2, G2, g2, R2, p2, w2⟩ => ?_⟩
  obtain ⟨d, m', e⟩ := w2.ok
  obtain ⟨z, m1, e1, e2⟩ := bind_ok e
  obtain ⟨i, j, rfl, rfl⟩ := slI_int (of_ok e2)
  cases p2
  refine ⟨i, rfl, M, O, G2, r, m2, R2, (Want.bind (P := Rp X.K) w2).mono fun t H3 ⟨z, m3, G3, g3, R3, p3, w3⟩ => ?_⟩
  obtain ⟨d, m', e⟩ := w3.ok
  obtain ⟨i', j, f1, rfl⟩ := slI_int (of_ok e)
  cases p3
  exact ⟨j, rfl, _, _, x, R.rw (g2.trans g3) p, R3.fr, w3.fits R3⟩
theorem f_slL {ps : Pos} (ha : sX X a fa) (hb : sE X b fb) : sE X (.Subscript a (.Slice (some b) none none ps) pos) fun r m => (fa r m).bind fun x m => (fb r m).bind fun y m => .of (slLI x y) m := by
  refine pe_imp (pe_slice slE ha (po_some hb) po_none) fun σ H Q h => ?_
  refine (tG1 (Pa := Rw X.K) h).imp fun v H1 ⟨M, O, G, r, m, x, R, p, w⟩ => ?_
  refine ⟨M, O, G, r, m, R, (Want.bind (P := Rp X.K) w).mono fun u H2 ⟨y, m2, G2, g2, R2, p2, w2⟩ => ?_⟩
  obtain ⟨d, m', e⟩ := w2.ok
  obtain ⟨i, rfl⟩ := slLI_int (of_ok e)
  cases p2
  exact ⟨i, rfl, _, _, x, R.rw g2 p, R2.fr, w2.fits R2⟩
theorem f_slH {ps : Pos} (ha : sX X a fa) (hb : sE X b fb) : sE X (.Subscript a (.Slice none (some b) none ps) pos) fun r m => (fa r m).bind fun x m => (fb r m).bind fun y m => .of (slHI x y) m := by
  refine pe_imp (pe_slice slE ha po_none (po_some hb)) fun σ H Q h => ?_
  refine (tG1 (Pa := Rw X.K) h).imp fun v H1 ⟨M, O, G, r, m, x, R, p, w⟩ => ?_
  refine ⟨M, O, G, r, m, R, (Want.bind (P := Rp X.K) w).mono fun u H2 ⟨y, m2, G2, g2, R2, p2, w2⟩ => ?_⟩
  obtain ⟨d, m', e⟩ := w2.ok
  obtain ⟨i, rfl⟩ := slHI_int (of_ok e)
  cases p2
  exact ⟨i, rfl, _, _, x, R.rw g2 p, R2.fr, w2.fits R2⟩
/-! calls of defs -/
theorem run_mi {C : Cc} {g : Mi.Env0} {k : Nat} (hk : Kn C g k X) {kws : List (Nat × List Str × List Nat)} {x : Str} {cal : List D → Mu → Res D} {f : Addr} {fd : FuncData} {ps : List Str} (F : FOk X.prog X.w X.K X.mg X.base k kws x cal f fd ps)
    {pins : List (Addr × Obj)} {σ : L2.St} {H : Hp} {s : Shared} {Q : VK} {us1 : List Value} {kw1 : List (Str × Value)} {us : List Value} {vs : List V} {ds : List D} {M : Addr → Prop} {O : Nat → Option Addr} {G : List Addr} {r : List Slot} {m : Mu}
    (I : Inv X pins σ H s) (hb : bindArgs fd ⟨us1, kw1⟩ = pure (ps.zip us)) (rv : Vals vs us) (R : Rep X.K M O G σ H r m) (p : Rps X.K (Bad M O G) G H ds vs) (w : Want X.K M O σ r (Rp X.K) G H (cal ds m) Q) :
    wpAny (model X.prog X.w) X.A (call (.ref f) us1 kw1) (EP X pins σ Q) X.xe s := by
  have p' : Rps X.K (BadF (Held M O) G) G H ds vs := by
    rw [bad_held']
    exact p
  have w' : WantF X.K (Held M O) G H (cal ds m) Q := by
    cases e : cal ds m with
    | ex _ _ _ =>
      rw [e] at w
      exact w
    | bad =>
      rw [e] at w
      exact w
    | ok d m' =>
      rw [e] at w
      intro v H' G' gr R' pv
      have pv : Rp X.K (BadF (Held M O) G') G' H' d v := pv
      rw [bad_held'] at pv
      exact w v H' G' gr (R.up gr R') pv
  refine wpAny_call (codeAny_mono (F.run X.A X.stack s H ⟨us1, kw1⟩ us vs ds G m (Held M O) Q hk.room hk.gd I.env0 (.of_eq hb) rv R.down p' w') fun r s' hq => ?_)
  cases r with
  | error e => exact False.elim hq
  | ok fl =>
    cases fl with
    | ret u => exact I.after hq
    | next => exact False.elim hq
    | brk => exact False.elim hq
    | cont => exact False.elim hq
theorem call_len {C : Cc} {g : Mi.Env0} {kws : List (Nat × List Str × List Nat)} {x : Str} {k : Nat} {cal : List D → Mu → Res D} {f : Addr} {fd : FuncData} {ps : List Str} (F : FOk X.prog X.w X.K X.mg X.base k kws x cal f fd ps)
    {M : Addr → Prop} {O : Nat → Option Addr} {σ : L2.St} {r : List Slot} {G : List Addr} {H : Hp} {ds : List D} {m : Mu} {Q : VK} (w : Want X.K M O σ r (Rp X.K) G H (cal ds m) Q) : ds.length = ps.length := F.len ds m fun e => by
  rw [e] at w
  exact w
theorem f_call {C : Cc} {g : Mi.Env0} {k f : Nat} {x : Str} (hk : Kn C g k X) (hf : C.fns[f]? = some x) (hg : glB X.env.scope x = true) {es : List Expr} {fs : List Slot → Mu → Res (List D)} (ha : sA X (a :: es) fs)
    (hs : starEach (a :: es) X.env = (false, eval a X.env) :: starEach es X.env) (hpl : (backTo pos (starEach es X.env)).any (·.1) = false) : sE X (.Call (.Name x p) (a :: es) [] pos) fun r m => (fs r m).bind fun ds m => g.call f ds m := by
  obtain ⟨fa, fd, ps, F⟩ := hk.fn f x hf
  obtain ⟨g1, g2, g3⟩ := gl_of hg
  refine ⟨fun pins s σ H Q I h => ?_⟩
  refine wpAny_Call_Name_kw (ld_glob I g1 F.at_ ?_ g2)
  refine PySem.W.callWith_K (h₀ := X.base) I.ok.mod.kin F.keep (thn (ha.run pos pins s σ H _ I (tG1 (Pa := Rps X.K) h)) fun us s1 ⟨vs, H1, I1, rv, M, O, G, r, m, ds, R, pd, w⟩ => ⟨I1.kIn, ?_⟩) hs hpl
  refine run_mi hk F I1 (F.pos us ?_) rv R pd w
  rw [← rv.length, ← pd.length]
  exact call_len (C := C) (g := g) F w
theorem f_call0 {C : Cc} {g : Mi.Env0} {k f : Nat} {x : Str} (hk : Kn C g k X) (hf : C.fns[f]? = some x) (hg : glB X.env.scope x = true) : sE X (.Call (.Name x p) [] [] pos) fun r m => g.call f [] m := by
  obtain ⟨fa, fd, ps, F⟩ := hk.fn f x hf
  obtain ⟨g1, g2, g3⟩ := gl_of hg
  refine ⟨fun pins s σ H Q I h => ?_⟩
  obtain ⟨M, O, G, r, m, R, w⟩ := h
  refine wpAny_Call_Name_kw (ld_glob I g1 F.at_ ?_ g2)
  refine PySem.W.callWith_K0 I.kIn F.keep (run_mi (us1 := []) hk F I (F.pos [] ?_) .nil R .nil w)
  exact call_len (C := C) (g := g) F w
abbrev sK (X : Cx) (es : List Keyword) (f : List Slot → Mu → Res (List D)) : Prop := PK X es (tG X.K (Rps X.K) f)
theorem pk_imp {e : List Keyword} {t t' : TA} (h : PK X e t) (i : ∀ σ H Q, t' σ H Q → t σ H Q) : PK X e t' := ⟨fun pos pins s σ H Q I w => h.run pos pins s σ H Q I (i σ H Q w)⟩
theorem f_knil : sK X [] fun _ m => .ok [] m := pk_imp pk_nil fun σ H Q ⟨M, O, G, r, m, R, w⟩ => w [] H G (Grow.refl G H) R .nil
theorem f_kcons {nm : Option Str} {kp : Pos} {es : List Keyword} {fs : List Slot → Mu → Res (List D)} (ha : sE X a fa) (hr : sK X es fs) :
    sK X (⟨nm, a, kp⟩ :: es) fun r m => (fa r m).bind fun d m => (fs r m).bind fun ds m => .ok (d :: ds) m :=
  pk_imp (pk_cons ha hr) fun σ H Q h => (tG2 (Pa := Rp X.K) (Pb := Rps X.K) stab_rp h).imp fun v H1 h1 => h1.imp fun vs H2 ⟨M, O, G, r, m, x, xs, R, p, q, w⟩ => w _ H2 G (Grow.refl G H2) R (.cons p q)
theorem perm_ok {xs ys : List D} : ∀ {ord : List Nat} {l : List D}, permD xs ys ord = some l → l = permL (xs ++ ys) ord ∧ ∀ i ∈ ord, i < (xs ++ ys).length
  | [], l, h => by
    cases h
    exact ⟨rfl, fun i hi => by cases hi⟩
  | i :: r, l, h => by
    unfold permD at h
    rw [List.foldr_cons] at h
    cases e1 : (xs ++ ys)[i]? with
    | none =>
      rw [e1] at h
      cases h
    | some d =>
      rw [e1] at h
      cases e2 : permD xs ys r with
      | none =>
        unfold permD at e2
        rw [e2] at h
        cases h
      | some l' =>
        obtain ⟨h1, h2⟩ := perm_ok e2
        unfold permD at e2
        rw [e2] at h
        cases h
        refine ⟨?_, fun j hj => ?_⟩
        · unfold permL
          rw [List.filterMap_cons, e1, h1]
          rfl
        · rcases List.mem_cons.mp hj with z | z
          · rw [z]
            exact (List.getElem?_eq_some_iff.mp e1).1
          · exact h2 j z
theorem perm_len {α : Type} {l : List α} : ∀ {ord : List Nat}, (∀ i ∈ ord, i < l.length) → (permL l ord).length = ord.length
  | [], _ => rfl
  | i :: r, h => by
    unfold permL
    rw [List.filterMap_cons, List.getElem?_eq_getElem (h i List.mem_cons_self)]
    show (_ :: permL l r).length = _
    rw [List.length_cons, List.length_cons, perm_len fun j hj => h j (List.mem_cons_of_mem _ hj)]
theorem perm_vals {vs : List V} {us : List Value} (r : Vals vs us) : ∀ {ord : List Nat}, (∀ i ∈ ord, i < vs.length) → Vals (permL vs ord) (permL us ord)
  | [], _ => .nil
  | i :: o, h => by
    have hi := h i List.mem_cons_self
    obtain ⟨u, h1, h2⟩ := r.get (List.getElem?_eq_getElem hi)
    unfold permL
    rw [List.filterMap_cons, List.filterMap_cons, List.getElem?_eq_getElem hi, h1]
    exact .cons h2 (perm_vals r fun j hj => h j (List.mem_cons_of_mem _ hj))
theorem perm_rps {K : PySem.W.Frag} {B : Addr → Prop} {G : List Addr} {H : Hp} {ds : List D} {vs : List V} (r : Rps K B G H ds vs) : ∀ {ord : List Nat}, (∀ i ∈ ord, i < ds.length) → Rps K B G H (permL ds ord) (permL vs ord)
  | [], _ => .nil
  | i :: o, h => by
    have hi := h i List.mem_cons_self
    obtain ⟨u, h1, h2⟩ := r.get (List.getElem?_eq_getElem hi)
    unfold permL
    rw [List.filterMap_cons, List.filterMap_cons, List.getElem?_eq_getElem hi, h1]
    exact .cons h2 (perm_rps r fun j hj => h j (List.mem_cons_of_mem _ hj))
theorem kw_all {kws : List Keyword} {ks : List Str} {env : Env} (h : kwNames kws = ks.map some) : (backToKw pos (keywordEach kws env)).all (·.1.isSome) = true ∧ (backToKw pos (keywordEach kws env)).filterMap (·.1) = ks ∧ (backToKw pos (keywordEach kws env)).any (·.1.isNone) = false ∧ kws.length = ks.length := by
  induction kws generalizing ks with
  | nil =>
    cases ks with
    | nil => exact ⟨rfl, rfl, rfl, rfl⟩
    | cons _ _ => cases h
  | cons q r ih =>
    obtain ⟨nm, v, kp⟩ := q
    cases ks with
    | nil => cases h
    | cons y ys =>
      have h1 : nm = some y ∧ kwNames r = ys.map some := by simpa [kwNames] using h
      obtain ⟨rfl, h2⟩ := h1
      obtain ⟨i1, i2, i3, i4⟩ := ih h2
      refine ⟨?_, ?_, ?_, by rw [List.length_cons, List.length_cons, i4]⟩
      · simpa [keywordEach, backToKw] using i1
      · simpa [keywordEach, backToKw] using i2
      · simpa [keywordEach, backToKw] using i3
theorem kw_fin {C : Cc} {g : Mi.Env0} {k f : Nat} {x : Str} (hk : Kn C g k X) {fa : Addr} {fd : FuncData} {ps : List Str} (F : FOk X.prog X.w X.K X.mg X.base k (kwsOf C f) x (g.call f) fa fd ps) {ks : List Str} {ord : List Nat} {n : Nat} (hin : (f, n, ks, ord) ∈ C.kws)
    {pins : List (Addr × Obj)} {s : Shared} {σ : L2.St} {H : Hp} {Q : VK} {us ws : List Value} {vs zs : List V} {ds ds2 : List D} {M : Addr → Prop} {O : Nat → Option Addr} {G : List Addr} {r : List Slot} {m : Mu} (I : Inv X pins σ H s) (rv : Vals vs us) (rz : Vals zs ws) (l1 : ds.length = n) (l2 : ds2.length = ks.length)
    (R : Rep X.K M O G σ H r m) (p1 : Rps X.K (Bad M O G) G H ds vs) (p2 : Rps X.K (Bad M O G) G H ds2 zs) (w : Want X.K M O σ r (Rp X.K) G H (match permD ds ds2 ord with | some l => g.call f l m | none => .bad) Q) :
    wpAny (model X.prog X.w) X.A (call (.ref fa) us (ks.zip ws)) (EP X pins σ Q) X.xe s := by
  have hin' : (n, ks, ord) ∈ kwsOf C f := List.mem_filterMap.mpr ⟨_, hin, by simp⟩
  cases e : permD ds ds2 ord with
  | none =>
    rw [e] at w
    exact False.elim w
  | some l =>
    rw [e] at w
    obtain ⟨e1, e2⟩ := perm_ok e
    subst e1
    have pp := p1.append p2
    have vv : ∀ i ∈ ord, i < (vs ++ zs).length := by rw [← pp.length]; exact e2
    have uv := (rv.append rz).length
    have hl := call_len (C := C) (g := g) F w
    refine run_mi hk F I (F.kw _ hin' us ws ?_ ?_ ?_) (perm_vals (rv.append rz) vv) R (perm_rps pp e2) w
    · rw [← rv.length, ← p1.length, l1]
    · rw [← rz.length, ← p2.length, l2]
    · rw [← hl, perm_len e2, perm_len (by rw [← uv]; exact vv)]
theorem f_callk {C : Cc} {g : Mi.Env0} {k f : Nat} {x : Str} (hk : Kn C g k X) (hf : C.fns[f]? = some x) (hg : glB X.env.scope x = true) {es : List Expr} {kws : List Keyword} {ks : List Str} {ord : List Nat} {fs fk : List Slot → Mu → Res (List D)} {n : Nat}
    (ha : sA X (a :: es) fs) (hn : ∀ r m ds m', fs r m = .ok ds m' → ds.length = n) (hn2 : ∀ r m ds m', fk r m = .ok ds m' → ds.length = ks.length) (hkk : sK X kws fk) (hkn : kwNames kws = ks.map some) (hin : (f, n, ks, ord) ∈ C.kws)
    (hs : starEach (a :: es) X.env = (false, eval a X.env) :: starEach es X.env) (hpl : (backTo pos (starEach es X.env)).any (·.1) = false) :
    sE X (.Call (.Name x p) (a :: es) kws pos) fun r m => (fs r m).bind fun ds m => (fk r m).bind fun ds2 m => match permD ds ds2 ord with
      | some l => g.call f l m
      | none => .bad := by
  obtain ⟨fa, fd, ps, F⟩ := hk.fn f x hf
  obtain ⟨g1, g2, g3⟩ := gl_of hg
  obtain ⟨k1, k2, k3, k4⟩ := kw_all (pos := pos) (env := X.env) hkn
  refine ⟨fun pins s σ H Q I h => ?_⟩
  refine wpAny_Call_Name_kw (ld_glob I g1 F.at_ ?_ g2)
  have hp2 : ((backTo pos (starEach (a :: es) X.env)).any (·.1) || (backToKw pos (keywordEach kws X.env)).any (·.1.isNone)) = false := by
    rw [k3, hs]
    show (false || (backTo pos (starEach es X.env)).any (·.1) || false) = false
    rw [hpl]
    rfl
  obtain ⟨M, O, G, r, m, R, w⟩ := h
  refine PySem.W.callWith_KW (h₀ := X.base) I.ok.mod.kin F.keep k1 (thn (ha.run pos pins s σ H (fun vs H1 => ∃ ds m1 G1, Grow G H G1 H1 ∧ Rep X.K M O G1 σ H1 r m1 ∧ Rps X.K (Bad M O G1) G1 H1 ds vs ∧ ds.length = n ∧ Want X.K M O σ r (Rp X.K) G1 H1 ((fk r m1).bind fun ds2 m => match permD ds ds2 ord with
      | some l => g.call f l m
      | none => .bad) Q) I ⟨M, O, G, r, m, R, ?_⟩) fun us s1 ⟨vs, H1, I1, rv, ds, m1, G1, gr, R1, p1, l1, w1⟩ => ?_) hp2 hs
  · have wb := Want.bind (P := Rps X.K) w
    cases e : fs r m with
    | ex _ _ _ =>
      rw [e] at wb
      exact wb
    | bad =>
      rw [e] at wb
      exact wb
    | ok ds m1 =>
      dsimp only at w
      rw [e] at w
      exact fun v H' G' gg RR pp => ⟨ds, m1, G', gg, RR, pp, hn _ _ _ _ e, w.grow gg⟩
  · refine thn (hkk.run pos pins s1 σ H1 (fun zs H2 => ∃ ds2 m2 G2, Grow G1 H1 G2 H2 ∧ Rep X.K M O G2 σ H2 r m2 ∧ Rps X.K (Bad M O G2) G2 H2 ds2 zs ∧ ds2.length = ks.length ∧ Want X.K M O σ r (Rp X.K) G2 H2 (match permD ds ds2 ord with
      | some l => g.call f l m2
      | none => .bad) Q) I1 ⟨M, O, G1, r, m1, R1, ?_⟩) fun ws s2 ⟨zs, H2, I2, rz, ds2, m2, G2, gr2, R2, p2, l2, w2⟩ => ⟨I2.kIn, ?_⟩
    · have wb := Want.bind (P := Rps X.K) w1
      cases e : fk r m1 with
      | ex _ _ _ =>
        rw [e] at wb
        exact wb
      | bad =>
        rw [e] at wb
        exact wb
      | ok ds2 m2 =>
        rw [e] at w1
        exact fun v H' G' gg RR pp => ⟨ds2, m2, G', gg, RR, pp, hn2 _ _ _ _ e, w1.grow gg⟩
    · rw [k2]
      exact kw_fin hk F hin I2 rv rz l1 l2 R2 (R1.rps gr2 p1) p2 w2
theorem f_callk0 {C : Cc} {g : Mi.Env0} {k f : Nat} {x : Str} (hk : Kn C g k X) (hf : C.fns[f]? = some x) (hg : glB X.env.scope x = true) {kws : List Keyword} {ks : List Str} {ord : List Nat} {fk : List Slot → Mu → Res (List D)}
    (hn2 : ∀ r m ds m', fk r m = .ok ds m' → ds.length = ks.length) (hkk : sK X kws fk) (hkn : kwNames kws = ks.map some) (hin : (f, 0, ks, ord) ∈ C.kws) :
    sE X (.Call (.Name x p) [] kws pos) fun r m => (fk r m).bind fun ds2 m => match permD [] ds2 ord with
      | some l => g.call f l m
      | none => .bad := by
  obtain ⟨fa, fd, ps, F⟩ := hk.fn f x hf
  obtain ⟨g1, g2, g3⟩ := gl_of hg
  obtain ⟨k1, k2, k3, k4⟩ := kw_all (pos := pos) (env := X.env) hkn
  refine ⟨fun pins s σ H Q I h => ?_⟩
  refine wpAny_Call_Name_kw (ld_glob I g1 F.at_ ?_ g2)
  have hp2 : ((backTo pos (starEach [] X.env)).any (·.1) || (backToKw pos (keywordEach kws X.env)).any (·.1.isNone)) = false := by
    rw [k3]
    rfl
  obtain ⟨M, O, G1, r, m1, R1, w1⟩ := h
  refine PySem.W.callWith_KW0 I.kIn F.keep k1 ?_ hp2
  refine thn (hkk.run pos pins s σ H (fun zs H2 => ∃ ds2 m2 G2, Grow G1 H G2 H2 ∧ Rep X.K M O G2 σ H2 r m2 ∧ Rps X.K (Bad M O G2) G2 H2 ds2 zs ∧ ds2.length = ks.length ∧ Want X.K M O σ r (Rp X.K) G2 H2 (match permD [] ds2 ord with
      | some l => g.call f l m2
      | none => .bad) Q) I ⟨M, O, G1, r, m1, R1, ?_⟩) fun ws s2 ⟨zs, H2, I2, rz, ds2, m2, G2, gr2, R2, p2, l2, w2⟩ => ⟨I2.kIn, ?_⟩
  · have wb := Want.bind (P := Rps X.K) w1
    cases e : fk r m1 with
    | ex _ _ _ =>
      rw [e] at wb
      exact wb
    | bad =>
      rw [e] at wb
      exact wb
    | ok ds2 m2 =>
      dsimp only at w1
      rw [e] at w1
      exact fun v H' G' gg RR pp => ⟨ds2, m2, G', gg, RR, pp, hn2 _ _ _ _ e, w1.grow gg⟩
  · rw [k2]
    exact kw_fin (us := []) hk F hin I2 .nil rz rfl l2 R2 .nil p2 w2
/-! what is walked -/
abbrev sI (X : Cx) (tg e : Expr) (P : Rel (List D) (List V)) (f : List Slot → Mu → Res (List D)) (ik : IK) : Prop := PI X tg e (tIt X.K P f ik)
abbrev InRw (K : PySem.W.Frag) (P : Rel (List D) (List V)) : Prop := ∀ {B : Addr → Prop} {G : List Addr} {H : Hp} {ds : List D} {vs : List V}, P B G H ds vs → Rws K B G H ds vs
theorem rw_str {K : PySem.W.Frag} {B : Addr → Prop} {G : List Addr} {H : Hp} {x : Str} {v : V} (h : Rw K B G H (.str x) v) : v = .str x := h.str
theorem f_it1 {tg : Expr} {Pa : Rel D V} {P : Rel (List D) (List V)} (h1 : ∀ {B : Addr → Prop} {G : List Addr} {H : Hp} {d : D} {v : V}, Pa B G H d v → Rw X.K B G H d v) (h2 : ∀ {B : Addr → Prop} {G : List Addr} {H : Hp} {d : D} {v : V}, Pa B G H d v → P B G H [d] [v])
    (ha : PE X a (tG X.K Pa fa)) : sI X tg a P (fun r m => (fa r m).bind fun d m => .ok [d] m) .seq := by
  refine ⟨fun pins s σ H R I h => ?_⟩
  obtain ⟨M, O, G, r, m, Rm, w⟩ := h
  dsimp only at w
  cases e : fa r m with
  | ex _ _ _ =>
    rw [e] at w
    exact False.elim w
  | bad =>
    rw [e] at w
    exact False.elim w
  | ok d m1 =>
    rw [e] at w
    replace w : ∃ xs, itemsD .seq [d] = some xs ∧ ∀ J H' G' vs, Grow G H G' H' → Rep X.K M O G' σ H' r m1 → P (Bad M O G') G' H' [d] vs → Feeds X.K J xs [d] vs → R J H' := w
    obtain ⟨xs, e2, w⟩ := w
    have rd : ∀ {Q : VK}, (∀ v H' G', Grow G H G' H' → Rep X.K M O G' σ H' r m1 → Pa (Bad M O G') G' H' d v → Q v H') → tG X.K Pa fa σ H Q := fun {Q} h => ⟨M, O, G, r, m, Rm, by
      rw [e]
      exact h⟩
    unfold itemsD at e2
    cases d with
    | lst ds =>
      cases e2
      refine (pi_list ha).run pins s σ H R I (rd fun v H' G' g R' p => ?_)
      obtain ⟨q, ys, rfl, h3, h4⟩ := (h1 p).lst
      exact ⟨q, rfl, ⟨ys, SqL.of h3⟩, w _ H' G' [.ref q] g R' (h2 p) feeds_lst⟩
    | tup ds =>
      cases e2
      refine (pi_tup ha).run pins s σ H R I (rd fun v H' G' g R' p => ?_)
      obtain ⟨q, ys, rfl, h3, h4⟩ := (h1 p).tup
      exact ⟨q, rfl, ⟨ys, h3⟩, w _ H' G' [.ref q] g R' (h2 p) feeds_tup⟩
    | str x =>
      cases e2
      refine (pi_str ha).run pins s σ H R I (rd fun v H' G' g R' p => ?_)
      exact ⟨x, (h1 p).str, w _ H' G' [v] g R' (h2 p) feeds_str⟩
    | non => cases e2
    | bl _ => cases e2
    | int _ => cases e2
    | ref _ => cases e2
    | scr _ => cases e2
theorem it_read {K : PySem.W.Frag} {P : Rel (List D) (List V)} (hP : InRw K P) {f : List Slot → Mu → Res (List D)} {ik : IK} {σ : L2.St} {H : Hp} {R : It → Hp → Prop} (h : tIt K P f ik σ H R) : tG K P f σ H fun vs H1 => ∃ B G ds xs, Rws K B G H1 ds vs ∧ itemsD ik ds = some xs ∧ ∀ J, Feeds K J xs ds vs → R J H1 := by
  obtain ⟨M, O, G, r, m, Rm, w⟩ := h
  refine ⟨M, O, G, r, m, Rm, ?_⟩
  cases e : f r m with
  | ex _ _ _ =>
    rw [e] at w
    exact False.elim w
  | bad =>
    rw [e] at w
    exact False.elim w
  | ok ds m1 =>
    rw [e] at w
    obtain ⟨xs, e2, w⟩ := w
    exact fun vs H' G' g R' p => ⟨_, _, ds, xs, hP p, e2, fun J F => w J H' G' vs g R' p F⟩
theorem inR_lt {i : Int} (h : inR i = true) : -(2 ^ 62) ≤ i ∧ i < 2 ^ 62 := by
  have := of_decide_eq_true h
  omega
theorem items_r1 {ds xs : List D} (h : itemsD .range1 ds = some xs) : ∃ j, ds = [.int j] ∧ inR j = true ∧ xs = rng 0 j.toNat := by
  rcases ds with _ | ⟨d, _ | ⟨e, r⟩⟩
  · cases h
  · cases d <;> first | (cases h; done) | skip
    rename_i j
    have h : (if inR j = true then some (rng 0 j.toNat) else none) = some xs := h
    split at h
    · cases h
      exact ⟨j, rfl, by assumption, rfl⟩
    · cases h
  · cases d <;> cases h
theorem items_r2 {ds xs : List D} (h : itemsD .range2 ds = some xs) : ∃ i j, ds = [.int i, .int j] ∧ (inR i && inR j) = true ∧ xs = rng i (j - i).toNat := by
  rcases ds with _ | ⟨d, _ | ⟨e, _ | ⟨e2, r⟩⟩⟩
  · cases h
  · cases d <;> cases h
  · cases d <;> cases e <;> first | (cases h; done) | skip
    rename_i i j
    have h : (if (inR i && inR j) = true then some (rng i (j - i).toNat) else none) = some xs := h
    split at h
    · cases h
      exact ⟨i, j, rfl, by assumption, rfl⟩
    · cases h
  · cases d <;> cases e <;> cases h
theorem items_en {ds xs : List D} (h : itemsD .enum ds = some xs) : ∃ ys, ds = [.lst ys] ∧ xs = enums 0 ys := by
  rcases ds with _ | ⟨d, _ | ⟨e, r⟩⟩
  · cases h
  · cases d <;> first | (cases h; done) | skip
    cases h
    exact ⟨_, rfl, rfl⟩
  · cases d <;> cases h
theorem items_z {ds xs : List D} (h : itemsD .zip ds = some xs) : ∃ ys zs, (ds = [.lst ys, .lst zs] ∨ ds = [.tup ys, .tup zs]) ∧ xs = pairs ys zs := by
  rcases ds with _ | ⟨d, _ | ⟨e, _ | ⟨e2, r⟩⟩⟩
  · cases h
  · cases d <;> cases h
  · cases d <;> cases e <;> first | (cases h; done) | skip
    · cases h
      exact ⟨_, _, .inl rfl, rfl⟩
    · cases h
      exact ⟨_, _, .inr rfl, rfl⟩
  · cases d <;> cases e <;> cases h
theorem f_rng1 {tg : Expr} {P : Rel (List D) (List V)} (hP : InRw X.K P) {fs : List Slot → Mu → Res (List D)} (hg : Gl X "range") (hm : X.mg "range" = none) (ha : PA X [a] (tG X.K P fs)) (hs : starEach [a] X.env = [(false, eval a X.env)]) : sI X tg (.Call (.Name "range" p) [a] [] pos) P fs .range1 := by
  refine ⟨fun pins s σ H R I h => (pi_range1 hg hm ha hs).run pins s σ H R I ((it_read hP h).imp fun vs H1 ⟨B, G, ds, xs, rv, e, hq⟩ => ?_)⟩
  obtain ⟨j, rfl, hj, rfl⟩ := items_r1 e
  obtain ⟨v, rfl, r1⟩ := rv.inv1
  have := r1.int
  subst this
  exact ⟨j, rfl, (inR_lt hj).1, (inR_lt hj).2, hq _ feeds_rng⟩
theorem f_rng2 {tg : Expr} {P : Rel (List D) (List V)} (hP : InRw X.K P) {fs : List Slot → Mu → Res (List D)} (hg : Gl X "range") (hm : X.mg "range" = none) (ha : PA X [a, b] (tG X.K P fs)) (hs : starEach [a, b] X.env = [(false, eval a X.env), (false, eval b X.env)]) (hs2 : starEach [b] X.env = [(false, eval b X.env)]) : sI X tg (.Call (.Name "range" p) [a, b] [] pos) P fs .range2 := by
  refine ⟨fun pins s σ H R I h => (pi_range2 hg hm ha hs hs2).run pins s σ H R I ((it_read hP h).imp fun vs H1 ⟨B, G, ds, xs, rv, e, hq⟩ => ?_)⟩
  obtain ⟨i, j, rfl, hj, rfl⟩ := items_r2 e
  rw [Bool.and_eq_true] at hj
  obtain ⟨v, w, rfl, r1, r2⟩ := rv.inv2
  have h1 := r1.int
  have h2 := r2.int
  subst h1 h2
  exact ⟨i, j, rfl, ⟨(inR_lt hj.1).1, (inR_lt hj.1).2, (inR_lt hj.2).1, (inR_lt hj.2).2⟩, hq _ feeds_rng⟩
theorem f_enum {elts : List Expr} {kk : Nat} {tpos : Pos} {P : Rel (List D) (List V)} (hP : InRw X.K P) {fs : List Slot → Mu → Res (List D)} (hg : Gl X "enumerate") (hm : X.mg "enumerate" = none) (ha : PA X [a] (tG X.K P fs)) (hs : starEach [a] X.env = [(false, eval a X.env)]) : sI X (.Tuple elts kk tpos) (.Call (.Name "enumerate" p) [a] [] pos) P fs .enum := by
  refine ⟨fun pins s σ H R I h => (pi_enum hg hm ha hs).run pins s σ H R I ((it_read hP h).imp fun vs H1 ⟨B, G, ds, xs, rv, e, hq⟩ => ?_)⟩
  obtain ⟨zs, rfl, rfl⟩ := items_en e
  obtain ⟨v, rfl, r1⟩ := rv.inv1
  obtain ⟨q, ys, rfl, h1, h2⟩ := r1.lst
  exact ⟨q, ys, rfl, SqL.of h1, hq _ feeds_enum⟩
theorem f_zip {elts : List Expr} {kk : Nat} {tpos : Pos} {P : Rel (List D) (List V)} (hP : InRw X.K P) {fs : List Slot → Mu → Res (List D)} (hg : Gl X "zip") (hm : X.mg "zip" = none) (ha : PA X [a, b] (tG X.K P fs)) (hs : starEach [a, b] X.env = (false, eval a X.env) :: starEach [b] X.env) (hpl : (backTo pos (starEach [b] X.env)).any (·.1) = false) :
    sI X (.Tuple elts kk tpos) (.Call (.Name "zip" p) [a, b] [] pos) P fs .zip := by
  refine ⟨fun pins s σ H R I h => (RZ.pi_zipA hg hm ha hs hpl).run pins s σ H R I ((it_read hP h).imp fun vs H1 ⟨B, G, ds, xs, rv, e, hq⟩ => ?_)⟩
  obtain ⟨ys0, zs0, rfl | rfl, rfl⟩ := items_z e
  · obtain ⟨v, w, rfl, r1, r2⟩ := rv.inv2
    obtain ⟨q, ys, rfl, h1, h2⟩ := r1.lst
    obtain ⟨q', ys', rfl, h1', h2'⟩ := r2.lst
    exact ⟨q, q', ys, ys', rfl, .inl ⟨SqL.of h1, SqL.of h1', hq _ feeds_zipL⟩⟩
  · obtain ⟨v, w, rfl, r1, r2⟩ := rv.inv2
    obtain ⟨q, ys, rfl, h1, h2⟩ := r1.tup
    obtain ⟨q', ys', rfl, h1', h2'⟩ := r2.tup
    exact ⟨q, q', ys, ys', rfl, .inr ⟨h1, h1', hq _ feeds_zipT⟩⟩
end
end Mi

set_option linter.all false
set_option maxRecDepth 100000
set_option maxHeartbeats 8000000
/-! Mi12: an expression that a tree stands for runs as the tree says. -/
namespace Mi
open PySem PySem.Spec PyProof.Rows L2

theorem mapR_if {c : D → Mu → Res Bool} {f : D → Mu → Res D} (h : ∀ x m, c x m = .ok true m ∨ f x m = .bad ∧ c x m = .bad) : ∀ (xs : List D) (m : Mu), mapR f xs m = mapIfR c f xs m
  | [], m => rfl
  | x :: xs, m => by
    unfold mapR mapIfR
    rcases h x m with e | ⟨e1, e2⟩
    · rw [e]
      dsimp only
      cases f x m with
      | ok y m1 =>
        dsimp only
        rw [mapR_if h xs m1]
      | ex _ _ _ => rfl
      | bad => rfl
    · rw [e1, e2]
section
variable {X : Cx} {a b c : Expr} {fa fb fc : List Slot → Mu → Res D} {pos p : Pos}
theorem f_bad {e : Expr} {P : Rel D V} : PE X e (tG X.K P fun _ _ => .bad) := ⟨fun _ _ _ _ _ _ ⟨_, _, _, _, _, _, w⟩ => False.elim w⟩
theorem loc_of {sc : Scope} {x : Str} (h : locB sc x = true) : sc.names.lookup x = some .local ∨ sc.names.lookup x = some .cell := by
  unfold locB at h
  split at h
  · exact .inl (by assumption)
  · exact .inr (by assumption)
  · cases h
theorem vis_of {sc : Scope} {x : Str} (h : visB sc x = true) : Vis sc x := by
  unfold visB at h
  split at h
  · exact .inl (by assumption)
  · exact .inr (.inl (by assumption))
  · exact .inr (.inr (by assumption))
  · cases h
theorem slot_of {C : Cc} {i : Nat} {x : Str} (h : slotB C i x = true) : C.N[i]? = some x := of_decide_eq_true h
theorem nm_of {x : Str} (h : nmOk x = true) : (x == ("__debug__" : Str)) = false ∧ (x == ("__classdict__" : Str)) = false := by
  unfold nmOk at h
  simp only [Bool.and_eq_true, Bool.not_eq_true'] at h
  exact ⟨h.1.1, h.1.2⟩
/-- the targets of a comprehension -/
theorem tgL_blk {C : Cc} {g : Mi.Env0} {k : Nat} (hk : Kn C g k X) {scope : Scope} (s : Shared) (H : Hp) (cl : List (Str × Addr)) (CC : Addr) (fp : List Addr) : ∀ {is : List Nat} {ts : List Expr}, is.length = ts.length →
    ((is.zip ts).all fun p => match p.2 with | .Name x _ => slotB C p.1 x && locB scope x && nmOk x | _ => false) = true → TgL (X.blk s H scope (compEnvC scope cl CC X.env) fp) is ts
  | [], [], _, _ => trivial
  | i :: is, t :: ts, hl, h => by
    rw [List.zip_cons_cons, List.all_cons, Bool.and_eq_true] at h
    obtain ⟨h1, h2⟩ := h
    split at h1
    · rename_i x q e
      have e : t = .Name x q := e
      subst e
      simp only [Bool.and_eq_true] at h1
      refine ⟨?_, tgL_blk hk s H cl CC fp (by simpa using hl) h2⟩
      refine ⟨by rw [← slot_of h1.1.1]; exact congrArg (fun l => l[i]?) hk.N, ?_, ?_⟩
      · rcases loc_of h1.1.2 with q | q
        · exact .inl (lookup_relS_keep (by decide) q)
        · exact .inr (lookup_relS_keep (by decide) q)
      · rcases loc_of h1.1.2 with q | q
        · exact .inr (lookup_relS_keep (by decide) q)
        · refine .inl ?_
          show (scope.names.lookup x == some .cell) = true
          rw [q]
          decide
    · cases h1
  | [], _ :: _, hl, _ => by cases hl
  | _ :: _, [], hl, _ => by cases hl
theorem tg_blk {C : Cc} {g : Mi.Env0} {k : Nat} (hk : Kn C g k X) {scope : Scope} {t : Tgt} {e : Expr} (h : okT C scope t e = true) (s : Shared) (H : Hp) (cl : List (Str × Addr)) (CC : Addr) (fp : List Addr) : TgOk (X.blk s H scope (compEnvC scope cl CC X.env) fp) t e := by
  unfold okT at h
  split at h
  · simp only [Bool.and_eq_true] at h
    have := tgL_blk hk (scope := scope) s H cl CC fp (is := [_]) (ts := [.Name _ ‹Pos›]) rfl (by simp only [List.zip_cons_cons, List.zip_nil_right, List.all_cons, List.all_nil, Bool.and_true, Bool.and_eq_true]; exact h)
    exact this.1
  · simp only [Bool.and_eq_true, decide_eq_true_eq] at h
    exact tgL_blk hk s H cl CC fp h.1 h.2
  · cases h

theorem tg_own {own : List (Str × Nat)} {t : Tgt} {ik : IK} {e : Expr} (h : okTg own t ik e = true) : (∀ i ∈ tgSlots t, i ∈ own.map (·.2)) ∧ (ik = .enum ∨ ik = .zip → tupT e = true) := by
  unfold okTg at h
  rw [Bool.and_eq_true, List.all_eq_true] at h
  refine ⟨fun i hi => by simpa using h.1 i hi, fun q => ?_⟩
  rcases q with rfl | rfl <;> exact h.2
/-- a comprehension: as a value, stored at once -/
structure COk (X : Cx) (ast : Expr) (f : List Slot → Mu → Res D) : Prop where
  v : PE X ast (tN X.K f)
  s : ∀ (i : Nat) (y : Str) (py spos : Pos), X.N[i]? = some y → X.env.scope.names.lookup y = some .local → swapsWith ast (some (.Name y py)) spos.line X.env = pure true → PS X (.Assign [.Name y py] ast spos) (tAsg (tN X.K f) (gName i))
  l : ∀ r m, lstO (f r m) = true
theorem COk.e {X : Cx} {ast : Expr} {f : List Slot → Mu → Res D} (h : COk X ast f) : sE X ast f := pe_imp h.v fun σ H Q ⟨M, O, G, r, m, R, w⟩ => ⟨M, O, G, r, m, R, w.new (h.l r m)⟩
theorem ps_imp {st : Stmt} {t t' : TS} (h : PS X st t) (i : ∀ D σ H, t' D σ H → t D σ H) : PS X st t' := ⟨fun pins s σ H D I w => h.run pins s σ H D I (i D σ H w)⟩
theorem lstO_R {x : Res (List D)} : lstO (lstR x) = true := by
  cases x with
  | ok ys m =>
    unfold lstR
    dsimp only
    split <;> rfl
  | ex _ _ _ => rfl
  | bad => rfl
theorem lstO_comp {x : Res (List D)} {ik : IK} {F : List D → Mu → Res (List D)} : lstO (x.bind fun ds m => match itemsD ik ds with | some xs => lstR (F xs m) | none => .bad) = true := by
  cases x with
  | ok ds m =>
    show lstO (match itemsD ik ds with | some xs => lstR (F xs m) | none => .bad) = true
    cases itemsD ik ds with
    | none => rfl
    | some xs => exact lstO_R
  | ex _ _ _ => rfl
  | bad => rfl
theorem f_comp {C : Cc} {g : Mi.Env0} {k : Nat} (hk : Kn C g k X) {tg iter elt : Expr} {scope : Scope} {own : List (Str × Nat)} {t : Tgt} {ik : IK} {fi : List Slot → Mu → Res (List D)} {f : List Slot → Mu → Res D} (hb : blkC C.N X.env.scope scope own = true) (ho : okTg own t ik tg = true) (ht : okT C scope t tg = true)
    (hi : sI X tg iter (Rws X.K) fi ik) (he : ∀ (s : Shared) (H : Hp) (CC : Addr) (cl : List (Str × Addr)) (fp : List Addr), sE (X.blk s H scope (compEnvC scope cl CC X.env) fp) elt f) (hs : ∀ x, foldedSetIterable iter X.env x = pure x) :
    COk X (.ListComp elt [⟨tg, iter, [], 0⟩] scope pos) fun r m => (fi r m).bind fun ds m => match itemsD ik ds with
      | some xs => lstR (mapR (fun x m => match bindT t x (wipeS r (own.map (·.2))) with | some r' => f r' m | none => .bad) xs m)
      | none => .bad := by
  have hn : X.N.Nodup := by
    rw [hk.N]
    exact hk.nd
  have hb' : BlkOk X.N X.env.scope scope own := blkOk_by (by rw [hk.N]; exact hb)
  have rd : ∀ σ H Q, tN X.K (fun r m => (fi r m).bind fun ds m => match itemsD ik ds with
      | some xs => lstR (mapR (fun x m => match bindT t x (wipeS r (own.map (·.2))) with | some r' => f r' m | none => .bad) xs m)
      | none => .bad) σ H Q → tLc (tIt X.K (Rws X.K) fi ik) (tTg X.K t) tYes (tG X.K (Rp X.K) f) (own.map (·.2)) σ H Q := fun σ H Q ⟨M, O, G, r, m, R, w⟩ => by
    refine comp_core (c := fun _ m => .ok true m) (f := f) (fun σ H Q h => bool_hereT h) (fun σ H Q h => h) (tg_own ho).1 R ?_
    have e : ∀ xs m, mapR (fun x m => match bindT t x (wipeS r (own.map (·.2))) with | some r' => f r' m | none => .bad) xs m = mapIfR (fun x m => match bindT t x (wipeS r (own.map (·.2))) with | some r' => .ok true m | none => .bad) (fun x m => match bindT t x (wipeS r (own.map (·.2))) with | some r' => f r' m | none => .bad) xs m := mapR_if fun x m => by
      cases bindT t x (wipeS r (own.map (·.2))) with
      | none => exact .inr ⟨rfl, rfl⟩
      | some _ => exact .inl rfl
    simp only [e] at w
    exact w
  refine ⟨?_, fun i y py spos hy hyl hsw => ?_, fun r m => lstO_comp (F := fun xs m => mapR (fun x m => match bindT t x (wipeS r (own.map (·.2))) with | some r' => f r' m | none => .bad) xs m)⟩
  · exact pe_imp (pe_lc (g := tTg X.K t) (te := tG X.K (Rp X.K) f) (tt := tYes) hk.calm hn hi hb' (fun s H CC cl fp => pg_tg (X := X.blk s H scope (compEnvC scope cl CC X.env) fp) hn hk.calm (tg_blk hk ht s H cl CC fp)) (fun s H CC cl fp => pts_nil) (fun s H CC cl fp => he s H CC cl fp) hs) rd
  · exact ps_imp (ps_setLc (g := tTg X.K t) (te := tG X.K (Rp X.K) f) (tt := tYes) hk.calm hn hy hyl hsw hi hb' (fun s H CC cl fp => pg_tg (X := X.blk s H scope (compEnvC scope cl CC X.env) fp) hn hk.calm (tg_blk hk ht s H cl CC fp)) (fun s H CC cl fp => pts_nil) (fun s H CC cl fp => he s H CC cl fp) hs) fun D σ H w => rd _ _ _ w
theorem f_compIf {C : Cc} {g : Mi.Env0} {k : Nat} (hk : Kn C g k X) {tg iter elt cnd : Expr} {scope : Scope} {own : List (Str × Nat)} {t : Tgt} {ik : IK} {fi : List Slot → Mu → Res (List D)} {f fq : List Slot → Mu → Res D} (hb : blkC C.N X.env.scope scope own = true) (ho : okTg own t ik tg = true) (ht : okT C scope t tg = true)
    (hi : sI X tg iter (Rws X.K) fi ik) (he : ∀ (s : Shared) (H : Hp) (CC : Addr) (cl : List (Str × Addr)) (fp : List Addr), sE (X.blk s H scope (compEnvC scope cl CC X.env) fp) elt f) (hq : ∀ (s : Shared) (H : Hp) (CC : Addr) (cl : List (Str × Addr)) (fp : List Addr), sT (X.blk s H scope (compEnvC scope cl CC X.env) fp) cnd fq)
    (hs : ∀ x, foldedSetIterable iter X.env x = pure x) :
    COk X (.ListComp elt [⟨tg, iter, [cnd], 0⟩] scope pos) fun r m => (fi r m).bind fun ds m => match itemsD ik ds with
      | some xs => lstR (mapIfR (fun x m => match bindT t x (wipeS r (own.map (·.2))) with | some r' => asB (fq r' m) | none => .bad) (fun x m => match bindT t x (wipeS r (own.map (·.2))) with | some r' => f r' m | none => .bad) xs m)
      | none => .bad := by
  have hn : X.N.Nodup := by
    rw [hk.N]
    exact hk.nd
  have hb' : BlkOk X.N X.env.scope scope own := blkOk_by (by rw [hk.N]; exact hb)
  refine ⟨?_, fun i y py spos hy hyl hsw => ?_, fun r m => lstO_comp (F := fun xs m => mapIfR (fun x m => match bindT t x (wipeS r (own.map (·.2))) with | some r' => asB (fq r' m) | none => .bad) (fun x m => match bindT t x (wipeS r (own.map (·.2))) with | some r' => f r' m | none => .bad) xs m)⟩
  · exact pe_imp (pe_lc (g := tTg X.K t) (te := tG X.K (Rp X.K) f) (tt := tG X.K rB fun r m => asB (fq r m)) hk.calm hn hi hb' (fun s H CC cl fp => pg_tg (X := X.blk s H scope (compEnvC scope cl CC X.env) fp) hn hk.calm (tg_blk hk ht s H cl CC fp)) (fun s H CC cl fp => pts_one (hq s H CC cl fp)) (fun s H CC cl fp => he s H CC cl fp) hs) fun σ H Q ⟨M, O, G, r, m, R, w⟩ =>
      comp_core (c := fun r m => asB (fq r m)) (f := f) (fun σ H Q h => h) (fun σ H Q h => h) (tg_own ho).1 R w
  · exact ps_imp (ps_setLc (g := tTg X.K t) (te := tG X.K (Rp X.K) f) (tt := tG X.K rB fun r m => asB (fq r m)) hk.calm hn hy hyl hsw hi hb' (fun s H CC cl fp => pg_tg (X := X.blk s H scope (compEnvC scope cl CC X.env) fp) hn hk.calm (tg_blk hk ht s H cl CC fp)) (fun s H CC cl fp => pts_one (hq s H CC cl fp)) (fun s H CC cl fp => he s H CC cl fp) hs) fun D σ H ⟨M, O, G, r, m, R, w⟩ =>
      comp_core (c := fun r m => asB (fq r m)) (f := f) (fun σ H Q h => h) (fun σ H Q h => h) (tg_own ho).1 R w
end

/-! ### shapes of the text -/
def tame : Expr → Bool
  | .Starred .. => false
  | .Set .. => false
  | .Slice .. => false
  | _ => true
theorem tame_star {a : Expr} {es : List Expr} {env : Env} (h : tame a = true) : starEach (a :: es) env = (false, eval a env) :: starEach es env := by
  cases a <;> first | rfl | cases h
theorem tame_ix {a : Expr} (h : tame a = true) : PlainIx a := by
  intro o i
  cases a <;> first | rfl | cases h
theorem tame_in {a : Expr} {o : CmpOp} (h : tame a = true) : behindInMarks o a = false := by
  cases a <;> first | rfl | cases h
theorem tame_fold {a : Expr} {env : Env} (h : tame a = true) (x : Value) : foldedSetIterable a env x = pure x := by
  cases a <;> first | rfl | cases h
theorem base_ok {a : Expr} {n : Str} {env : Env} (h : noCall0 a = true) : attributeBase a n env (eval a env) = eval a env := by
  cases a <;> first | rfl | skip
  rename_i f as kws pos
  cases f <;> first | rfl | skip
  cases as with
  | nil => cases h
  | cons _ _ => rfl
def plainT : Expr → Bool
  | .UnaryOp .Not _ _ => false
  | .BoolOp .. => false
  | .IfExp .. => false
  | .Compare .. => false
  | _ => true
theorem plain_true {a : Expr} {env : Env} (h : plainT a = true) : ∀ whole, isTrue a env whole = (do let v ← whole; standAt a.pos; holding [v] (truthy v)) := by
  intro w
  cases a <;> first | rfl | cases h | skip
  rename_i o x q
  cases o <;> first | rfl | cases h

structure EOk (X : Cx) (g : Mi.Env0) (e : Ex) (ast : Expr) : Prop where
  v : sE X ast (ev g e)
  x : sX X ast fun r m => vx r e m (ev g e r m)
  t : sT X ast (ev g e)
  tm : tame ast = true
structure LOk (X : Cx) (g : Mi.Env0) (es : Exs) (as : List Expr) : Prop where
  a : sA X as (evs g es)
  x : sXs X as (evx g es)
  k : ∀ kws : List Keyword, kws.map (·.value) = as → sK X kws (evs g es)
  and_ : ∀ pos, sE X (.BoolOp .And as pos) (evAnd g es)
  or_ : ∀ pos, sE X (.BoolOp .Or as pos) (evOr g es)
  andT : ∀ pos, sW X (.BoolOp .And as pos) (evAnd g es)
  orT : ∀ pos, sW X (.BoolOp .Or as pos) (evOr g es)
  pl : ∀ pos, (backTo pos (starEach as X.env)).any (·.1) = false
  tm : ∀ a ∈ as, tame a = true
  len : as.length = es.len
/-- of the expression form alone, where it is plain -/
theorem eok {X : Cx} {g : Mi.Env0} {e : Ex} {ast : Expr} (h : sE X ast (ev g e)) (tm : tame ast = true) (pt : plainT ast = true) (nv : ∀ r m x, vx r e m x = x) : EOk X g e ast :=
  ⟨h, pe_imp (f_rw h) fun σ H Q w => w.eq fun r m => nv r m _, ft_val h (plain_true pt), tm⟩
theorem eok2 {X : Cx} {g : Mi.Env0} {e : Ex} {ast : Expr} (h : sE X ast (ev g e)) (t : sT X ast (ev g e)) (tm : tame ast = true) (nv : ∀ r m x, vx r e m x = x) : EOk X g e ast :=
  ⟨h, pe_imp (f_rw h) fun σ H Q w => w.eq fun r m => nv r m _, t, tm⟩
theorem se_of {X : Cx} {ast : Expr} {f f' : List Slot → Mu → Res D} (h : sE X ast f) (e : ∀ r m, f' r m = f r m) : sE X ast f' := pe_imp h fun σ H Q w => w.eq e
theorem st_of {X : Cx} {ast : Expr} {f f' : List Slot → Mu → Res D} (h : sT X ast f) (e : ∀ r m, f' r m = f r m) : sT X ast f' := pt_imp h fun σ H Q w => w.eq fun r m => by rw [e]
theorem evs_len {g : Mi.Env0} : ∀ (es : Exs) (r : List Slot) (m : Mu) (ds : List D) (m' : Mu), evs g es r m = .ok ds m' → ds.length = es.len
  | .nil, r, m, ds, m', h => by
    simp only [evs] at h
    cases h
    rfl
  | .cons e es, r, m, ds, m', h => by
    simp only [evs] at h
    obtain ⟨d, m1, h1, h2⟩ := bind_ok h
    obtain ⟨l, m2, h3, h4⟩ := bind_ok h2
    cases h4
    rw [List.length_cons, evs_len es r m1 l _ h3]
    rfl
end Mi

set_option linter.all false
set_option maxRecDepth 100000
set_option maxHeartbeats 8000000
/-! Mi13: every expression. -/
namespace Mi
open PySem PySem.Spec PyProof.Rows L2

theorem LOk.one {X : Cx} {g : Mi.Env0} {es : Exs} {a : Expr} (h : LOk X g es [a]) : tame a = true := h.tm a (by simp)
theorem LOk.two {X : Cx} {g : Mi.Env0} {es : Exs} {a b : Expr} (h : LOk X g es [a, b]) : tame a = true ∧ tame b = true := ⟨h.tm a (by simp), h.tm b (by simp)⟩
theorem it_ok {C : Cc} {g : Mi.Env0} {k : Nat} {X : Cx} (hk : Kn C g k X) {ik : IK} {its : Exs} {it tg : Expr} {P : Rel (List D) (List V)} (hP : InRw X.K P) {fs : List Slot → Mu → Res (List D)} (hL : ∀ as, okEs C X.env.scope its as = true → (∀ a ∈ as, tame a = true) ∧ PA X as (tG X.K P fs)) (h : okIt C X.env.scope ik its it = true) (ht : ik = .enum ∨ ik = .zip → tupT tg = true)
    (h1 : ∀ a, okEs C X.env.scope its [a] = true → ∃ (fa : List Slot → Mu → Res D) (Pa : Rel D V), tame a = true ∧ PE X a (tG X.K Pa fa) ∧ (∀ r m, fs r m = (fa r m).bind fun d m => .ok [d] m) ∧ (∀ {B : Addr → Prop} {G : List Addr} {H : Hp} {d : D} {v : V}, Pa B G H d v → Rw X.K B G H d v) ∧ (∀ {B : Addr → Prop} {G : List Addr} {H : Hp} {d : D} {v : V}, Pa B G H d v → P B G H [d] [v])) : sI X tg it P fs ik ∧ ∀ x, foldedSetIterable it X.env x = pure x := by
  cases ik with
  | seq =>
    obtain ⟨fa, Pa, q1, q2, q3, q4, q5⟩ := h1 it (by unfold okIt okItB at h; exact h)
    refine ⟨?_, tame_fold q1⟩
    have := f_it1 (tg := tg) (P := P) q4 q5 q2
    refine ⟨fun pins s σ H R I w => this.run pins s σ H R I ?_⟩
    obtain ⟨M, O, G, r, m, R1, w⟩ := w
    refine ⟨M, O, G, r, m, R1, ?_⟩
    rw [q3] at w
    exact w
  | range1 =>
    unfold okIt okItB at h
    dsimp only at h
    split at h
    · simp only [Bool.and_eq_true, decide_eq_true_eq] at h
      obtain ⟨⟨rfl, h2⟩, h3⟩ := h
      have q := hL _ h3
      exact ⟨f_rng1 hP (gl_of h2).1 (hk.blt _ (by simp [bltNames])) q.2 (tame_star (q.1 _ (by simp))), fun x => rfl⟩
    · cases h
  | range2 =>
    unfold okIt okItB at h
    dsimp only at h
    split at h
    · simp only [Bool.and_eq_true, decide_eq_true_eq] at h
      obtain ⟨⟨rfl, h2⟩, h3⟩ := h
      have q := hL _ h3
      exact ⟨f_rng2 hP (gl_of h2).1 (hk.blt _ (by simp [bltNames])) q.2 (by rw [tame_star (q.1 _ (by simp)), tame_star (q.1 _ (by simp))]; rfl) (tame_star (q.1 _ (by simp))), fun x => rfl⟩
    · cases h
  | enum =>
    unfold okIt okItB at h
    dsimp only at h
    split at h
    · simp only [Bool.and_eq_true, decide_eq_true_eq] at h
      obtain ⟨⟨rfl, h2⟩, h3⟩ := h
      have q := hL _ h3
      have ht := ht (.inl rfl)
      cases tg <;> first | cases ht | skip
      exact ⟨f_enum hP (gl_of h2).1 (hk.blt _ (by simp [bltNames])) q.2 (tame_star (q.1 _ (by simp))), fun x => rfl⟩
    · cases h
  | zip =>
    unfold okIt okItB at h
    dsimp only at h
    split at h
    · simp only [Bool.and_eq_true, decide_eq_true_eq] at h
      obtain ⟨⟨rfl, h2⟩, h3⟩ := h
      have q := hL _ h3
      have ht := ht (.inr rfl)
      cases tg <;> first | cases ht | skip
      exact ⟨f_zip hP (gl_of h2).1 (hk.blt _ (by simp [bltNames])) q.2 (tame_star (q.1 _ (by simp))) (by rw [tame_star (q.1 _ (by simp))]; rfl), fun x => rfl⟩
    · cases h
theorem it_okx {C : Cc} {g : Mi.Env0} {k : Nat} {X : Cx} (hk : Kn C g k X) {ik : IK} {its : Exs} {it tg : Expr} (hL : ∀ as, okEs C X.env.scope its as = true → LOk X g its as) (h : okIt C X.env.scope ik its it = true) (ht : ik = .enum ∨ ik = .zip → tupT tg = true)
    (h1 : ∀ a, okEs C X.env.scope its [a] = true → ∃ e, its = .cons e .nil ∧ EOk X g e a) : sI X tg it (Rws X.K) (evx g its) ik ∧ ∀ x, foldedSetIterable it X.env x = pure x :=
  it_ok hk (P := Rws X.K) (fun h => h) (fun as q => ⟨(hL as q).tm, (hL as q).x⟩) h ht fun a q0 => by
    obtain ⟨e, rfl, q⟩ := h1 a q0
    exact ⟨_, Rw X.K, q.tm, q.x, fun r m => by simp only [evx] <;> rfl, fun h => h, fun h => .cons h .nil⟩
/-- .. for a for, whose things are values -/
theorem it_oks {C : Cc} {g : Mi.Env0} {k : Nat} {X : Cx} (hk : Kn C g k X) {ik : IK} {its : Exs} {it tg : Expr} (hL : ∀ as, okEs C X.env.scope its as = true → LOk X g its as) (h : okIt C X.env.scope ik its it = true) (ht : ik = .enum ∨ ik = .zip → tupT tg = true)
    (h1 : ∀ a, okEs C X.env.scope its [a] = true → ∃ e, its = .cons e .nil ∧ EOk X g e a) : sI X tg it (Rps X.K) (evs g its) ik ∧ ∀ x, foldedSetIterable it X.env x = pure x :=
  it_ok hk (P := Rps X.K) (fun h => Rws.of h) (fun as q => ⟨(hL as q).tm, (hL as q).a⟩) h ht fun a q0 => by
    obtain ⟨e, rfl, q⟩ := h1 a q0
    exact ⟨_, Rp X.K, q.tm, q.v, fun r m => by simp only [evs] <;> rfl, fun h => .inl h, fun h => .cons h .nil⟩
theorem vx_id {e : Ex} (h : ∀ i, e ≠ .view i) : ∀ r m x, vx r e m x = x := by
  intro r m x
  cases e <;> first | rfl | exact absurd rfl (h _)
theorem b1_in : ∀ b : B1, b.name ∈ bltNames := by intro b; cases b <;> simp [bltNames, B1.name]
theorem b2_in : ∀ b : B2, b.name ∈ bltNames := by intro b; cases b <;> simp [bltNames, B2.name]
theorem ty_in : ∀ b : Ty, b.name ∈ bltNames := by intro b; cases b <;> simp [bltNames, Ty.name]
theorem gl_con {C : Cc} {g : Mi.Env0} {k : Nat} {X : Cx} (hk : Kn C g k X) {i : Nat} {x : Str} {p : Pos} (h1 : C.gls[i]? = some x) (h2 : glB X.env.scope x = true) : sE X (.Name x p) (fun r m => Res.of g.consts[i]? m) := by
  cases e : g.consts[i]? with
  | none => exact ⟨fun _ _ _ _ _ _ ⟨_, _, _, _, _, _, w⟩ => False.elim w⟩
  | some d =>
    obtain ⟨u, v, q1, q2, q3⟩ := hk.con i x d h1 e
    obtain ⟨g1, g2, g3⟩ := gl_of h2
    exact f_const d v (pe_glob g1 q1 q2 g2) q3

mutual
theorem main_E (C : Cc) (g : Mi.Env0) (k : Nat) : ∀ (e : Ex) (X : Cx) (ast : Expr), Kn C g k X → okE C X.env.scope e ast = true → EOk X g e ast
  | .cst c, X, ast, hk, h => by
    unfold okE at h
    split at h
    · simp only [Bool.and_eq_true, decide_eq_true_eq] at h
      obtain ⟨rfl, h2⟩ := h
      refine eok ?_ rfl rfl (fun _ _ _ => rfl)
      cases c <;> first | (cases h2; done) | skip
      · exact se_of (f_const .non .non pe_non fun _ _ _ => .non) fun r m => by simp only [ev] <;> rfl
      · exact se_of (f_const (.bl _) (.bl _) pe_bl fun _ _ _ => .bl _) fun r m => by simp only [ev] <;> rfl
      · exact se_of (f_const (.int _) (.int _) pe_int fun _ _ _ => .int _) fun r m => by simp only [ev] <;> rfl
      · exact se_of (f_const (.str _) (.str _) pe_str fun _ _ _ => .str _) fun r m => by simp only [ev] <;> rfl
    · cases h
  | .var i, X, ast, hk, h => by
    unfold okE at h
    split at h
    · simp only [Bool.and_eq_true] at h
      obtain ⟨⟨h1, h2⟩, h3⟩ := h
      exact eok (se_of (f_var (pe_var (by rw [hk.N]; exact slot_of h1) (vis_of h2) (nm_of h3).1 (nm_of h3).2)) fun r m => by simp only [ev] <;> rfl) rfl rfl (fun _ _ _ => rfl)
    · cases h
  | .view i, X, ast, hk, h => by
    unfold okE at h
    split at h
    · simp only [Bool.and_eq_true] at h
      obtain ⟨⟨h1, h2⟩, h3⟩ := h
      rename_i y q
      have b : sE X (.Name y q) (ev g (.view i)) := se_of (f_bad (X := X)) fun r m => by simp only [ev]
      exact ⟨b, pe_imp (f_view (pe_var (by rw [hk.N]; exact slot_of h1) (vis_of h2) (nm_of h3).1 (nm_of h3).2)) fun σ H Q w => w.eq fun r m => by simp only [vx] <;> rfl, ft_val b (plain_true rfl), rfl⟩
    · cases h
  | .glb i, X, ast, hk, h => by
    unfold okE at h
    split at h
    · simp only [Bool.and_eq_true, decide_eq_true_eq] at h
      exact eok (se_of (gl_con hk h.1 h.2) fun r m => by simp only [ev]) rfl rfl (fun _ _ _ => rfl)
    · cases h
  | .tup es, X, ast, hk, h => by
    unfold okE at h
    split at h
    · simp only [Bool.and_eq_true, decide_eq_true_eq] at h
      have q := main_L C g k es X _ hk h.2
      exact eok (se_of (f_tup q.a fun r m ds m' e => by rw [evs_len es r m ds m' e]; exact h.1) fun r m => by simp only [ev]) rfl rfl (fun _ _ _ => rfl)
    · cases h
  | .lst es, X, ast, hk, h => by
    unfold okE at h
    split at h
    · simp only [Bool.and_eq_true, decide_eq_true_eq] at h
      have q := main_L C g k es X _ hk h.2
      exact eok (se_of (f_lst q.a fun r m ds m' e => by rw [evs_len es r m ds m' e]; exact h.1) fun r m => by simp only [ev]) rfl rfl (fun _ _ _ => rfl)
    · cases h
  | .op o a b, X, ast, hk, h => by
    unfold okE at h
    split at h
    · simp only [Bool.and_eq_true, decide_eq_true_eq] at h
      obtain ⟨⟨rfl, h2⟩, h3⟩ := h
      have qa := main_E C g k a X _ hk h2
      have qb := main_E C g k b X _ hk h3
      exact eok (se_of (f_op qa.x qb.x) fun r m => by simp only [ev]) rfl rfl (fun _ _ _ => rfl)
    · cases h
  | .neg a, X, ast, hk, h => by
    unfold okE at h
    split at h
    · have qa := main_E C g k a X _ hk h
      exact eok (se_of (f_neg qa.v) fun r m => by simp only [ev]) rfl rfl (fun _ _ _ => rfl)
    · cases h
  | .not a, X, ast, hk, h => by
    unfold okE at h
    split at h
    · have qa := main_E C g k a X _ hk h
      exact eok2 (se_of (f_not qa.v) fun r m => by simp only [ev]) (st_of (ft_not qa.t) fun r m => by simp only [ev]) rfl (fun _ _ _ => rfl)
    · cases h
  | .cmp o a b, X, ast, hk, h => by
    unfold okE at h
    split at h
    · simp only [Bool.and_eq_true, decide_eq_true_eq] at h
      obtain ⟨⟨rfl, h2⟩, h3⟩ := h
      have qa := main_E C g k a X _ hk h2
      have qb := main_E C g k b X _ hk h3
      exact eok2 (se_of (f_cmp hk.units qa.x qb.x (tame_in qb.tm)) fun r m => by simp only [ev]) (st_of (ft_cmp hk.units qa.x qb.x (tame_in qb.tm)) fun r m => by simp only [ev]) rfl (fun _ _ _ => rfl)
    · cases h
  | .cmp2 o p a b c, X, ast, hk, h => by
    unfold okE at h
    split at h
    · simp only [Bool.and_eq_true, decide_eq_true_eq] at h
      obtain ⟨⟨⟨⟨rfl, rfl⟩, h2⟩, h3⟩, h4⟩ := h
      have qa := main_E C g k a X _ hk h2
      have qb := main_E C g k b X _ hk h3
      have qc := main_E C g k c X _ hk h4
      exact eok2 (se_of (f_cmp2 hk.units qa.v qb.v qc.v (tame_in qc.tm)) fun r m => by simp only [ev, chainR] <;> rfl) (st_of (ft_cmp2 hk.units qa.v qb.v qc.v (tame_in qc.tm)) fun r m => by simp only [ev, chainR] <;> rfl) rfl (fun _ _ _ => rfl)
    · cases h
  | .and es, X, ast, hk, h => by
    unfold okE at h
    split at h
    · have q := main_L C g k es X _ hk h
      exact eok2 (se_of (q.and_ _) fun r m => by simp only [ev]) (st_of (q.andT _).pt fun r m => by simp only [ev]) rfl (fun _ _ _ => rfl)
    · cases h
  | .or es, X, ast, hk, h => by
    unfold okE at h
    split at h
    · have q := main_L C g k es X _ hk h
      exact eok2 (se_of (q.or_ _) fun r m => by simp only [ev]) (st_of (q.orT _).pt fun r m => by simp only [ev]) rfl (fun _ _ _ => rfl)
    · cases h
  | .ite c a b, X, ast, hk, h => by
    unfold okE at h
    split at h
    · simp only [Bool.and_eq_true] at h
      obtain ⟨⟨h1, h2⟩, h3⟩ := h
      have qc := main_E C g k c X _ hk h1
      have qa := main_E C g k a X _ hk h2
      have qb := main_E C g k b X _ hk h3
      exact eok2 (se_of (f_ite qc.t qa.v qb.v) fun r m => by simp only [ev]) (st_of (ft_ite qc.t qa.t qb.t) fun r m => by simp only [ev]) rfl (fun _ _ _ => rfl)
    · cases h
  | .call f es, X, ast, hk, h => by
    unfold okE at h
    split at h
    · simp only [Bool.and_eq_true, decide_eq_true_eq] at h
      obtain ⟨⟨h1, h2⟩, h3⟩ := h
      have q := main_L C g k es X _ hk h3
      rename_i x p as pos
      cases as with
      | nil =>
        have hz : es.len = 0 := q.len.symm
        cases es with
        | cons _ _ => cases hz
        | nil => exact eok (se_of (f_call0 hk h1 h2) fun r m => by simp only [ev, evs] <;> rfl) rfl rfl (fun _ _ _ => rfl)
      | cons a r => exact eok (se_of (f_call hk h1 h2 q.a (tame_star (q.tm a (by simp))) (by
          have := q.pl pos
          rw [tame_star (q.tm a (by simp))] at this
          simpa [backTo] using this)) fun r m => by simp only [ev]) rfl rfl (fun _ _ _ => rfl)
    · cases h
  | .callk f es ks ord es2, X, ast, hk, h => by
    unfold okE at h
    split at h
    · simp only [Bool.and_eq_true, decide_eq_true_eq] at h
      obtain ⟨⟨⟨⟨⟨h1, h2⟩, h3⟩, h4⟩, h5⟩, h6⟩ := h
      have q := main_L C g k es X _ hk h3
      have q2 := main_L C g k es2 X _ hk h5
      rename_i x p as kws pos
      have hl2 : es2.len = ks.length := by
        rw [← q2.len, List.length_map]
        have := congrArg List.length h4
        simpa [kwNames] using this
      have hn2 : ∀ r m ds m', evs g es2 r m = .ok ds m' → ds.length = ks.length := fun r m ds m' e => by rw [evs_len es2 r m ds m' e, hl2]
      cases as with
      | nil =>
        have hz : es.len = 0 := q.len.symm
        cases es with
        | cons _ _ => cases hz
        | nil => exact eok (se_of (f_callk0 hk h1 h2 hn2 (q2.k kws rfl) h4 h6) fun r m => by simp only [ev, evs] <;> rfl) rfl rfl (fun _ _ _ => rfl)
      | cons a r => exact eok (se_of (f_callk hk h1 h2 q.a (fun r m ds m' e => evs_len es r m ds m' e) hn2 (q2.k kws rfl) h4 h6 (tame_star (q.tm a (by simp))) (by
          have := q.pl pos
          rw [tame_star (q.tm a (by simp))] at this
          simpa [backTo] using this)) fun r m => by simp only [ev] <;> rfl) rfl rfl (fun _ _ _ => rfl)
    · cases h
  | .b1 b a, X, ast, hk, h => by
    unfold okE at h
    split at h
    · simp only [Bool.and_eq_true, decide_eq_true_eq] at h
      obtain ⟨⟨rfl, h2⟩, h3⟩ := h
      have qa := main_E C g k a X _ hk h3
      exact eok (se_of (f_b1 hk.calm hk.gd hk.units (gl_of h2).1 (hk.blt _ (b1_in b)) qa.x (tame_star qa.tm)) fun r m => by simp only [ev]) rfl rfl (fun _ _ _ => rfl)
    · cases h
  | .b2 b a c, X, ast, hk, h => by
    unfold okE at h
    split at h
    · simp only [Bool.and_eq_true, decide_eq_true_eq] at h
      obtain ⟨⟨⟨rfl, h2⟩, h3⟩, h4⟩ := h
      have qa := main_E C g k a X _ hk h3
      have qc := main_E C g k c X _ hk h4
      exact eok (se_of (f_b2 hk.calm (gl_of h2).1 (hk.blt _ (b2_in b)) qa.v qc.v (tame_star qa.tm) (tame_star qc.tm)) fun r m => by simp only [ev]) rfl rfl (fun _ _ _ => rfl)
    · cases h
  | .max3 a b c, X, ast, hk, h => by
    unfold okE at h
    split at h
    · simp only [Bool.and_eq_true, decide_eq_true_eq] at h
      obtain ⟨⟨⟨⟨rfl, h2⟩, h3⟩, h4⟩, h5⟩ := h
      have qa := main_E C g k a X _ hk h3
      have qb := main_E C g k b X _ hk h4
      have qc := main_E C g k c X _ hk h5
      exact eok (se_of (f_max3 hk.calm (gl_of h2).1 (hk.blt _ (by simp [bltNames])) qa.v qb.v qc.v (tame_star qa.tm) (tame_star qb.tm) (tame_star qc.tm)) fun r m => by simp only [ev]) rfl rfl (fun _ _ _ => rfl)
    · cases h
  | .isa t a, X, ast, hk, h => by
    unfold okE at h
    split at h
    · simp only [Bool.and_eq_true, decide_eq_true_eq] at h
      obtain ⟨⟨⟨rfl, h2⟩, h3⟩, h4⟩ := h
      have qa := main_E C g k a X _ hk h3
      refine eok ?_ rfl rfl (fun _ _ _ => rfl)
      unfold okTy at h4
      split at h4
      · simp only [Bool.and_eq_true, decide_eq_true_eq, bne_iff_ne] at h4
        obtain ⟨⟨h5, rfl⟩, h6⟩ := h4
        exact se_of (f_isa h5 (gl_of h2).1 (hk.blt _ (by simp [bltNames])) h6 (hk.blt _ (ty_in t)) qa.v (tame_star qa.tm)) fun r m => by simp only [ev]
      · simp only [Bool.and_eq_true, decide_eq_true_eq, beq_iff_eq] at h4
        obtain ⟨⟨⟨⟨rfl, rfl⟩, rfl⟩, h6⟩, h7⟩ := h4
        exact se_of (f_isaS (gl_of h2).1 (hk.blt _ (by simp [bltNames])) h6 (hk.blt _ (by simp [bltNames])) h7 (hk.blt _ (by simp [bltNames])) qa.v (tame_star qa.tm)) fun r m => by simp only [ev]
      · cases h4
    · cases h
  | .m1 kk a b, X, ast, hk, h => by
    unfold okE at h
    split at h
    · simp only [Bool.and_eq_true, decide_eq_true_eq] at h
      obtain ⟨⟨⟨⟨rfl, h2⟩, h3⟩, h4⟩, h5⟩ := h
      have qa := main_E C g k a X _ hk h4
      have qb := main_E C g k b X _ hk h5
      exact eok (se_of (f_m1 qa.v qb.x (tame_star qb.tm) (base_ok h3) h2) fun r m => by simp only [ev]) rfl rfl (fun _ _ _ => rfl)
    · cases h
  | .idx a i, X, ast, hk, h => by
    unfold okE at h
    split at h
    · simp only [Bool.and_eq_true] at h
      have qa := main_E C g k a X _ hk h.1
      have qb := main_E C g k i X _ hk h.2
      exact eok (se_of (f_idx qa.x qb.v (tame_ix qb.tm)) fun r m => by simp only [ev]) rfl rfl (fun _ _ _ => rfl)
    · cases h
  | .slB a i j, X, ast, hk, h => by
    unfold okE at h
    split at h
    · simp only [Bool.and_eq_true] at h
      have qa := main_E C g k a X _ hk h.1.1
      have qb := main_E C g k i X _ hk h.1.2
      have qc := main_E C g k j X _ hk h.2
      exact eok (se_of (f_slB qa.x qb.v qc.v) fun r m => by simp only [ev]) rfl rfl (fun _ _ _ => rfl)
    · cases h
  | .slL a i, X, ast, hk, h => by
    unfold okE at h
    split at h
    · simp only [Bool.and_eq_true] at h
      have qa := main_E C g k a X _ hk h.1
      have qb := main_E C g k i X _ hk h.2
      exact eok (se_of (f_slL qa.x qb.v) fun r m => by simp only [ev]) rfl rfl (fun _ _ _ => rfl)
    · cases h
  | .slH a i, X, ast, hk, h => by
    unfold okE at h
    split at h
    · simp only [Bool.and_eq_true] at h
      have qa := main_E C g k a X _ hk h.1
      have qb := main_E C g k i X _ hk h.2
      exact eok (se_of (f_slH qa.x qb.v) fun r m => by simp only [ev]) rfl rfl (fun _ _ _ => rfl)
    · cases h
  | .comp own elt tg ik its, X, ast, hk, h => by
    unfold okE at h
    split at h
    · simp only [Bool.and_eq_true] at h
      obtain ⟨⟨⟨⟨h1, h2⟩, h3⟩, h4⟩, h5⟩ := h
      have hL : ∀ as, okEs C X.env.scope its as = true → LOk X g its as := fun as q => main_L C g k its X as hk q
      have h1' : ∀ a, okEs C X.env.scope its [a] = true → ∃ e, its = .cons e .nil ∧ EOk X g e a := main_1 C g k its X hk
      have qi := it_okx hk hL h5 (tg_own h2).2 h1'
      exact eok (se_of (f_comp hk h1 h2 h4 qi.1 (fun s H CC cl fp => (main_E C g k elt _ _ (hk.blk s H _ _ fp) h3).v) qi.2).e fun r m => by simp only [ev] <;> rfl) rfl rfl (fun _ _ _ => rfl)
    · cases h
  | .compIf own elt tg ik its c, X, ast, hk, h => by
    unfold okE at h
    split at h
    · simp only [Bool.and_eq_true] at h
      obtain ⟨⟨⟨⟨⟨h1, h2⟩, h3⟩, h6⟩, h4⟩, h5⟩ := h
      have hL : ∀ as, okEs C X.env.scope its as = true → LOk X g its as := fun as q => main_L C g k its X as hk q
      have h1' : ∀ a, okEs C X.env.scope its [a] = true → ∃ e, its = .cons e .nil ∧ EOk X g e a := main_1 C g k its X hk
      have qi := it_okx hk hL h5 (tg_own h2).2 h1'
      exact eok (se_of (f_compIf hk h1 h2 h4 qi.1 (fun s H CC cl fp => (main_E C g k elt _ _ (hk.blk s H _ _ fp) h3).v) (fun s H CC cl fp => (main_E C g k c _ _ (hk.blk s H _ _ fp) h6).t) qi.2).e fun r m => by simp only [ev] <;> rfl) rfl rfl (fun _ _ _ => rfl)
    · cases h
theorem main_1 (C : Cc) (g : Mi.Env0) (k : Nat) : ∀ (es : Exs) (X : Cx), Kn C g k X → ∀ a, okEs C X.env.scope es [a] = true → ∃ e, es = .cons e .nil ∧ EOk X g e a
  | .nil, X, hk, a, h => by
    simp [okEs] at h
  | .cons e .nil, X, hk, a, h => by
    simp only [okEs, Bool.and_eq_true] at h
    exact ⟨e, rfl, main_E C g k e X a hk h.1⟩
  | .cons e (.cons _ _), X, hk, a, h => by
    simp [okEs] at h
theorem main_L (C : Cc) (g : Mi.Env0) (k : Nat) : ∀ (es : Exs) (X : Cx) (as : List Expr), Kn C g k X → okEs C X.env.scope es as = true → LOk X g es as
  | .nil, X, as, hk, h => by
    cases as with
    | cons _ _ => simp [okEs] at h
    | nil =>
      refine ⟨?_, ?_, ?_, ?_, ?_, ?_, ?_, ?_, ?_, rfl⟩
      · exact pa_imp f_nil fun σ H Q w => w.eq fun r m => by simp only [evs]
      · exact pa_imp f_nilx fun σ H Q w => w.eq fun r m => by simp only [evx]
      · intro kws e
        cases kws with
        | nil => exact pk_imp f_knil fun σ H Q w => w.eq fun r m => by simp only [evs]
        | cons _ _ => cases e
      · exact fun pos => se_of f_bad fun r m => by simp only [evAnd]
      · exact fun pos => se_of f_bad fun r m => by simp only [evOr]
      · exact fun pos => ⟨fun _ _ _ _ _ _ _ ⟨_, _, _, _, _, _, w⟩ => by
          simp only [evAnd] at w
          exact False.elim w⟩
      · exact fun pos => ⟨fun _ _ _ _ _ _ _ ⟨_, _, _, _, _, _, w⟩ => by
          simp only [evOr] at w
          exact False.elim w⟩
      · exact fun _ => rfl
      · exact fun a ha => by cases ha
  | .cons e es, X, as, hk, h => by
    cases as with
    | nil => simp [okEs] at h
    | cons a as =>
      simp only [okEs, Bool.and_eq_true] at h
      have q := main_E C g k e X a hk h.1
      have t := main_L C g k es X as hk h.2
      have hs := tame_star (env := X.env) (es := as) q.tm
      refine ⟨?_, ?_, ?_, ?_, ?_, ?_, ?_, ?_, ?_, ?_⟩
      · exact pa_imp (f_cons q.v t.a hs) fun σ H Q w => w.eq fun r m => by simp only [evs]
      · exact pa_imp (f_consx q.x t.x hs) fun σ H Q w => w.eq fun r m => by simp only [evx]
      · intro kws ek
        cases kws with
        | nil => cases ek
        | cons kw kws =>
          obtain ⟨nm, v, kp⟩ := kw
          have e1 : v = a ∧ kws.map (·.value) = as := by simpa using ek
          obtain ⟨rfl, e2⟩ := e1
          exact pk_imp (f_kcons q.v (t.k kws e2)) fun σ H Q w => w.eq fun r m => by simp only [evs]
      · intro pos
        cases es with
        | nil =>
          have : as = [] := List.eq_nil_of_length_eq_zero t.len
          subst this
          exact se_of (pe_one q.v) fun r m => by simp only [evAnd]
        | cons e2 es2 =>
          cases as with
          | nil => cases t.len
          | cons b as2 => exact se_of (f_and q.v (t.and_ pos)) fun r m => by simp only [evAnd]
      · intro pos
        cases es with
        | nil =>
          have : as = [] := List.eq_nil_of_length_eq_zero t.len
          subst this
          exact se_of (pe_one q.v) fun r m => by simp only [evOr]
        | cons e2 es2 =>
          cases as with
          | nil => cases t.len
          | cons b as2 => exact se_of (f_or q.v (t.or_ pos)) fun r m => by simp only [evOr]
      · intro pos
        cases es with
        | nil =>
          have : as = [] := List.eq_nil_of_length_eq_zero t.len
          subst this
          exact pw_imp (pw_and1 q.t) fun σ H Q w => w.eq fun r m => by simp only [evAnd]
        | cons e2 es2 =>
          cases as with
          | nil => cases t.len
          | cons b as2 => exact pw_imp (fw_and q.t (t.andT pos)) fun σ H Q w => w.eq fun r m => by simp only [evAnd]
      · intro pos
        cases es with
        | nil =>
          have : as = [] := List.eq_nil_of_length_eq_zero t.len
          subst this
          exact pw_imp (pw_or1 q.t) fun σ H Q w => w.eq fun r m => by simp only [evOr]
        | cons e2 es2 =>
          cases as with
          | nil => cases t.len
          | cons b as2 => exact pw_imp (fw_or q.t (t.orT pos)) fun σ H Q w => w.eq fun r m => by simp only [evOr]
      · intro pos
        have := t.pl pos
        rw [hs]
        simpa [backTo] using this
      · intro b hb
        rcases List.mem_cons.mp hb with z | z
        · rw [z]
          exact q.tm
        · exact t.tm b z
      · rw [List.length_cons, t.len]
        rfl
end
/-- a comprehension as a statement stores it -/
def isComp : Ex → Bool
  | .comp .. => true
  | .compIf .. => true
  | _ => false
theorem tN.eq {K : PySem.W.Frag} {f f' : List Slot → Mu → Res D} {σ : L2.St} {H : Hp} {Q : VK} (h : tN K f σ H Q) (e : ∀ r m, f r m = f' r m) : tN K f' σ H Q := by
  obtain ⟨M, O, G, r, m, R, w⟩ := h
  exact ⟨M, O, G, r, m, R, by rw [← e]; exact w⟩
theorem COk.of {X : Cx} {ast : Expr} {f f' : List Slot → Mu → Res D} (h : COk X ast f) (e : ∀ r m, f' r m = f r m) : COk X ast f' :=
  ⟨pe_imp h.v fun σ H Q w => w.eq e, fun i y py spos h1 h2 h3 => ps_imp (h.s i y py spos h1 h2 h3) fun D σ H w => tN.eq w e, fun r m => by rw [e]; exact h.l r m⟩
theorem main_C (C : Cc) (g : Mi.Env0) (k : Nat) {e : Ex} {X : Cx} {ast : Expr} (hk : Kn C g k X) (h : okE C X.env.scope e ast = true) (hc : isComp e = true) : COk X ast (ev g e) := by
  cases e <;> first | (cases hc; done) | skip
  · unfold okE at h
    split at h
    · simp only [Bool.and_eq_true] at h
      obtain ⟨⟨⟨⟨h1, h2⟩, h3⟩, h4⟩, h5⟩ := h
      have qi := it_okx hk (fun as q => main_L C g k _ X as hk q) h5 (tg_own h2).2 (main_1 C g k _ X hk)
      exact (f_comp hk h1 h2 h4 qi.1 (fun s H CC cl fp => (main_E C g k _ _ _ (hk.blk s H _ _ fp) h3).v) qi.2).of fun r m => by simp only [ev] <;> rfl
    · cases h
  · unfold okE at h
    split at h
    · simp only [Bool.and_eq_true] at h
      obtain ⟨⟨⟨⟨⟨h1, h2⟩, h3⟩, h6⟩, h4⟩, h5⟩ := h
      have qi := it_okx hk (fun as q => main_L C g k _ X as hk q) h5 (tg_own h2).2 (main_1 C g k _ X hk)
      exact (f_compIf hk h1 h2 h4 qi.1 (fun s H CC cl fp => (main_E C g k _ _ _ (hk.blk s H _ _ fp) h3).v) (fun s H CC cl fp => (main_E C g k _ _ _ (hk.blk s H _ _ fp) h6).t) qi.2).of fun r m => by simp only [ev] <;> rfl
    · cases h
end Mi

set_option linter.all false
set_option maxRecDepth 100000
set_option maxHeartbeats 8000000
/-! Mi14: statements: their readings, one by one. -/
namespace Mi
open PySem PySem.Spec PyProof.Rows L2

/-- what a statement does to the heap: all but the store's lists and the def's own stands as it stood -/
structure GrowS (O : Nat → Option Addr) (G : List Addr) (H : Hp) (O' : Nat → Option Addr) (G' : List Addr) (H' : Hp) : Prop where
  keep : ∀ a o, H a = some o → a ∉ G → (∀ i, O i ≠ some a) → H' a = some o ∧ a ∉ G' ∧ ∀ i, O' i ≠ some a
  pre : ∀ (n : Nat) a, G[n]? = some a → G'[n]? = some a
section
variable {K : PySem.W.Frag} {M : Addr → Prop} {O O1 O2 : Nat → Option Addr} {G G1 G2 : List Addr} {σ σ1 : L2.St} {H H1 H2 : Hp} {r r1 : List Slot} {m m1 : Mu}
theorem GrowS.refl : GrowS O G H O G H := ⟨fun _ _ h n k => ⟨h, n, k⟩, fun _ _ h => h⟩
theorem GrowS.trans (a : GrowS O G H O1 G1 H1) (b : GrowS O1 G1 H1 O2 G2 H2) : GrowS O G H O2 G2 H2 :=
  ⟨fun c o h n k => let ⟨h1, n1, k1⟩ := a.keep c o h n k; b.keep c o h1 n1 k1, fun n c h => b.pre n c (a.pre n c h)⟩
theorem Grow.s (g : Grow G H G1 H1) : GrowS O G H O G1 H1 := ⟨fun a o h n k => ⟨(g.keep a o h n).1, (g.keep a o h n).2, k⟩, g.pre⟩
theorem Grow.own (g : Grow G H G1 H1) {p : Addr} (hp : H p = none) {i : Nat} : GrowS O G H (ownAt O i p) G1 H1 := ⟨fun b o eb nb kb => ⟨(g.keep b o eb nb).1, (g.keep b o eb nb).2, fun j => by
  unfold ownAt
  split
  · exact fun z => by
      cases z
      rw [hp] at eb
      cases eb
  · exact kb j⟩, g.pre⟩
theorem nbad {a : Addr} (h : ¬ Bad M O G a) : ¬ M a ∧ a ∉ G ∧ ∀ i, O i ≠ some a := ⟨fun z => h (.inl z), fun z => h (.inr (.inl z)), fun i z => h (.inr (.inr ⟨i, z⟩))⟩
theorem bad_not {a : Addr} (h1 : ¬ M a) (h2 : a ∉ G) (h3 : ∀ i, O i ≠ some a) : ¬ Bad M O G a := fun z => z.elim h1 fun z => z.elim h2 fun ⟨i, z⟩ => h3 i z
theorem Rep.nlst (R : Rep K M O G σ H r m) {a : Addr} {o : HO} (h : H a = some o) (n : ∀ xs, o ≠ .lst xs) : a ∉ G ∧ ∀ i, O i ≠ some a := by
  refine ⟨fun z => ?_, fun i z => ?_⟩
  · obtain ⟨xs, e⟩ := R.lst z
    rw [h] at e
    cases e
    exact n xs rfl
  · obtain ⟨⟨xs, e⟩, _⟩ := R.ownH i a z
    rw [h] at e
    cases e
    exact n xs rfl
theorem Rps.gs (R : Rep K M O G σ H r m) (g : GrowS O G H O1 G1 H1) {d : List D} {v : List V} (h : Rps K (Bad M O G) G H d v) : Rps K (Bad M O1 G1) G1 H1 d v :=
  Rps.move (fun a xs n e => by
    obtain ⟨n1, n2, n3⟩ := nbad n
    obtain ⟨k1, k2, k3⟩ := g.keep a _ e n2 n3
    exact ⟨bad_not n1 k2 k3, k1⟩) (fun a xs e => by
      rcases e with ⟨o, e⟩ | e
      · obtain ⟨n2, n3⟩ := R.nlst e fun xs z => nomatch z
        exact .inl ⟨o, (g.keep a _ e n2 n3).1⟩
      · exact .inr e) (fun a xs e => by
        rcases e with (e | ⟨o, e⟩) | e
        · obtain ⟨n2, n3⟩ := R.nlst e fun xs z => nomatch z
          exact .inl (.inl (g.keep a _ e n2 n3).1)
        · obtain ⟨n2, n3⟩ := R.nlst e fun xs z => nomatch z
          exact .inl (.inr ⟨o, (g.keep a _ e n2 n3).1⟩)
        · exact .inr e) g.pre h
end
/-- behind a statement -/
def WantS (K : PySem.W.Frag) (M : Addr → Prop) (O : Nat → Option Addr) (G : List Addr) (H : Hp) (x : SRes) (D : Ends) : Prop :=
  match x with
  | .nx r' m' => ∀ O' G' σ' H', GrowS O G H O' G' H' → Rep K M O' G' σ' H' r' m' → D.nx σ' H'
  | .rt d m' => ∀ v r' σ' O' G' H', GrowS O G H O' G' H' → Rep K M O' G' σ' H' r' m' → Rp K (Bad M O' G') G' H' d v → D.rt v H'
  | .ex _ _ _ => False
  | .bad => False
def tS (K : PySem.W.Frag) (f : List Slot → Mu → SRes) : TS := fun D σ H => ∃ M O G r m, Rep K M O G σ H r m ∧ WantS K M O G H (f r m) D
section
variable {K : PySem.W.Frag} {M : Addr → Prop} {O O1 : Nat → Option Addr} {G G1 : List Addr} {σ : L2.St} {H H1 : Hp} {r : List Slot} {m : Mu} {α β : Type} {P : Rel α β} {D D' : Ends}
theorem WantS.grow {x : SRes} (w : WantS K M O G H x D) (g : GrowS O G H O1 G1 H1) : WantS K M O1 G1 H1 x D := by
  cases x with
  | nx r m => exact fun O' G' σ' H' g' R => w O' G' σ' H' (g.trans g') R
  | rt d m => exact fun v r' σ' O' G' H' g' R p => w v r' σ' O' G' H' (g.trans g') R p
  | ex _ _ _ => exact w
  | bad => exact w
theorem WantS.st {x : Res α} {f : α → Mu → SRes} (w : WantS K M O G H (x.st f) D) :
    Want K M O σ r P G H x fun v H1 => ∃ d m1 G1, Grow G H G1 H1 ∧ Rep K M O G1 σ H1 r m1 ∧ P (Bad M O G1) G1 H1 d v ∧ WantS K M O G1 H1 (f d m1) D := by
  cases x with
  | ok d m => exact fun v H' G' g R p => ⟨d, m, G', g, R, p, w.grow g.s⟩
  | ex _ _ _ => exact w
  | bad => exact w
theorem tS1 {fa : List Slot → Mu → Res α} {k : List Slot → α → Mu → SRes} (h : tS K (fun r m => (fa r m).st fun x m => k r x m) D σ H) :
    tG K P fa σ H fun v H1 => ∃ M O G r m x, Rep K M O G σ H1 r m ∧ P (Bad M O G) G H1 x v ∧ WantS K M O G H1 (k r x m) D := by
  obtain ⟨M, O, G, r, m, R, w⟩ := h
  exact ⟨M, O, G, r, m, R, (WantS.st (P := P) w).mono fun v H1 ⟨d, m1, G1, _, R1, p, w1⟩ => ⟨M, O, G1, r, m1, d, R1, p, w1⟩⟩
theorem WantS.here {r' : List Slot} {m' : Mu} {σ' : L2.St} (w : WantS K M O G H (.nx r' m') D) {O' : Nat → Option Addr} {G' : List Addr} {H' : Hp} (g : GrowS O G H O' G' H') (R : Rep K M O' G' σ' H' r' m') : D.nx σ' H' := w O' G' σ' H' g R
theorem tS.eq {f f' : List Slot → Mu → SRes} (h : tS K f D σ H) (e : ∀ r m, f r m = f' r m) : tS K f' D σ H := by
  obtain ⟨M, O, G, r, m, R, w⟩ := h
  exact ⟨M, O, G, r, m, R, by rw [← e]; exact w⟩
theorem tS.again (R : Rep K M O G σ H r m) {f : List Slot → Mu → SRes} (w : WantS K M O G H (f r m) D) : tS K f D σ H := ⟨M, O, G, r, m, R, w⟩
end

section
variable {X : Cx} {a b c : Expr} {pos p : Pos} {fa : List Slot → Mu → Res D}
abbrev zS (X : Cx) (s : Stmt) (f : List Slot → Mu → SRes) : Prop := PS X s (tS X.K f)
abbrev zSs (X : Cx) (s : List Stmt) (f : List Slot → Mu → SRes) : Prop := PSs X s (tS X.K f)
theorem pss_imp {st : List Stmt} {t t' : TS} (h : PSs X st t) (i : ∀ D σ H, t' D σ H → t D σ H) : PSs X st t' := ⟨fun pins s σ H D I w => h.run pins s σ H D I (i D σ H w)⟩
theorem zs_of {s : Stmt} {f f' : List Slot → Mu → SRes} (h : zS X s f) (e : ∀ r m, f' r m = f r m) : zS X s f' := ps_imp h fun D σ H w => w.eq e
theorem zss_of {s : List Stmt} {f f' : List Slot → Mu → SRes} (h : zSs X s f) (e : ∀ r m, f' r m = f r m) : zSs X s f' := pss_imp h fun D σ H w => w.eq e
theorem z_nil : zSs X [] fun r m => .nx r m := pss_imp pss_nil fun D σ H ⟨M, O, G, r, m, R, w⟩ => w O G σ H .refl R
theorem z_cons {s : Stmt} {ss : List Stmt} {f1 f2 : List Slot → Mu → SRes} (h1 : zS X s f1) (h2 : zSs X ss f2) : zSs X (s :: ss) fun r m => match f1 r m with
    | .nx r m => f2 r m
    | o => o :=
  pss_imp (pss_cons h1 h2) fun D σ H ⟨M, O, G, r, m, R, w⟩ => ⟨M, O, G, r, m, R, by
    dsimp only at w
    cases e : f1 r m with
    | nx r1 m1 =>
      rw [e] at w
      exact fun O' G' σ' H' g R' => ⟨M, O', G', r1, m1, R', w.grow g⟩
    | rt d m1 =>
      rw [e] at w
      exact w
    | ex _ _ _ =>
      rw [e] at w
      exact w
    | bad =>
      rw [e] at w
      exact w⟩
theorem z_false {s : Stmt} {f : List Slot → Mu → SRes} (h : ∀ r m, (∃ c a m', f r m = .ex c a m') ∨ f r m = .bad) : zS X s f := ⟨fun pins s σ H D I ⟨M, O, G, r, m, R, w⟩ => by
  rcases h r m with ⟨_, _, _, e⟩ | e
  · rw [e] at w
    exact False.elim w
  · rw [e] at w
    exact False.elim w⟩
theorem z_cond {A B : List Stmt} {f1 f2 : List Slot → Mu → SRes} (hc : sT X c fa) (h1 : zSs X A f1) (h2 : zSs X B f2) : zS X (.If c A B pos) fun r m => (asB (fa r m)).st fun t m => if t then f1 r m else f2 r m :=
  ps_imp (ps_if hc h1 h2) fun D σ H h => (tS1 (P := rB) (fa := fun r m => asB (fa r m)) (k := fun r t m => if t then f1 r m else f2 r m) h).imp fun t H1 ⟨M, O, G, r, m, x, R, e, w⟩ => by
    cases e
    cases t with
    | true => exact tS.again R w
    | false => exact tS.again R w
theorem z_ret (ha : sE X a fa) : zS X (.Return (some a) pos) fun r m => (fa r m).st fun d m => .rt d m :=
  ps_imp (ps_ret ha) fun D σ H h => (tS1 (P := Rp X.K) h).imp fun v H1 ⟨M, O, G, r, m, x, R, p, w⟩ => w v r σ O G H1 .refl R p
theorem z_retN : zS X (.Return none pos) fun r m => .rt .non m :=
  ps_imp ps_retN fun D σ H ⟨M, O, G, r, m, R, w⟩ => w _ r σ O G H .refl R .non
theorem z_retr {es : List Expr} {p2 : Pos} {fs : List Slot → Mu → Res (List D)} (h : sA X es fs) (hl : ∀ r m ds m', fs r m = .ok ds m' → ds.length ≤ 100) : zS X (.Return (some (.List es p2)) pos) fun r m => (fs r m).st fun ds m => .rt (.ref m.length) (m ++ [ds]) :=
  ps_imp (ps_ret (pe_lst h)) fun D σ H ⟨M, O, G, r, m, R, w⟩ => ⟨M, O, G, r, m, R, by
    dsimp only at w
    cases e1 : fs r m with
    | ex _ _ _ =>
      rw [e1] at w
      exact w
    | bad =>
      rw [e1] at w
      exact w
    | ok ds m1 =>
      rw [e1] at w
      intro vs H1 G1 g1 R1 p1
      refine ⟨by rw [← p1.length]; exact size100 (hl _ _ _ _ e1), fun q hq => ?_⟩
      have R2 := R1.forbid (xs := vs) hq
      have hM : ¬ M q := fun z => R1.dom q z hq
      have p2 := Rps.forbid (xs := vs) R1 hq p1
      have R3 := R2.newSt hM upd_same p2
      refine w (.ref q) r σ O (G1 ++ [q]) _ (g1.s.trans ⟨fun b o eb nb kb => ?_, fun n b hb => ?_⟩) R3 (.ref ?_)
      · have hne : b ≠ q := ne_of_none eb hq
        refine ⟨by rw [upd_ne hne]; exact eb, fun z => ?_, kb⟩
        rcases List.mem_append.mp z with z | z
        · exact nb z
        · exact hne (by simpa using z)
      · rw [List.getElem?_append_left (List.getElem?_eq_some_iff.mp hb).1]
        exact hb
      · rw [List.getElem?_append_right (by rw [R1.stl]; exact Nat.le_refl _), R1.stl, Nat.sub_self]
        rfl⟩
theorem z_drop (ha : sE X a fa) (hs : swapsWith a none pos.line X.env = pure false) : zS X (.Expr a pos) fun r m => (fa r m).st fun _ m => .nx r m :=
  ps_imp (ps_expr ha hs) fun D σ H h => (tS1 (P := Rp X.K) h).imp fun v H1 ⟨M, O, G, r, m, x, R, p, w⟩ => w O G σ H1 .refl R
/-- name = value -/
theorem z_set {i : Nat} {s : Stmt} (h : PS X s (tAsg (tG X.K (Rp X.K) fa) (gName i))) : zS X s fun r m => (fa r m).st fun d m => .nx (r.set i (.val d)) m :=
  ps_imp h fun D σ H h => (tS1 (P := Rp X.K) h).imp fun v H1 ⟨M, O, G, r, m, x, R, p, w⟩ => w O G _ H1 .refl (R.set p)
/-- name = a new list -/
theorem z_seto {i : Nat} {s : Stmt} (h : PS X s (tAsg (tN X.K fa) (gName i))) : zS X s fun r m => (fa r m).st fun d m => match d with | .lst ds => .nx (r.set i (.own ds)) m | _ => .bad :=
  ps_imp h fun D σ H ⟨M, O, G, r, m, R, w⟩ => ⟨M, O, G, r, m, R, by
    dsimp only at w
    cases e1 : fa r m with
    | ex _ _ _ =>
      rw [e1] at w
      exact w
    | bad =>
      rw [e1] at w
      exact w
    | ok d m1 =>
      rw [e1] at w
      cases d <;> first | exact False.elim w | skip
      intro q xs H' G' hq g hM R' hp px
      exact w _ G' _ H' (g.own hq) (R'.newOwn hM hp px)⟩
theorem GrowS.mut {O : Nat → Option Addr} {G : List Addr} {H : Hp} {i : Nat} {q : Addr} {h : HO} (hO : O i = some q) : GrowS O G H O G (upd H q h) :=
  ⟨fun b o eb nb kb => ⟨by rw [upd_ne fun z => kb i (by rw [z]; exact hO)]; exact eb, nb, kb⟩, fun _ _ h => h⟩
theorem GrowS.mutG {O : Nat → Option Addr} {G : List Addr} {H : Hp} {q : Addr} {h : HO} (hO : q ∈ G) : GrowS O G H O G (upd H q h) :=
  ⟨fun b o eb nb kb => ⟨by rw [upd_ne fun z => nb (by rw [z]; exact hO)]; exact eb, nb, kb⟩, fun _ _ h => h⟩
/-- an own list's slot, through a value's evaluation -/
theorem own_slot {r : List Slot} {i : Nat} {x : Res D} {K : PySem.W.Frag} {M : Addr → Prop} {O : Nat → Option Addr} {G : List Addr} {H : Hp} {D0 : Ends} {f : List D → D → Mu → SRes}
    (w : WantS K M O G H (x.st fun d m => match r[i]? with | some (.own ds) => f ds d m | _ => .bad) D0) : (∃ ds, r[i]? = some (.own ds)) := by
  cases x with
  | ex _ _ _ => exact False.elim w
  | bad => exact False.elim w
  | ok d m =>
    cases e : r[i]? with
    | none =>
      have w : WantS K M O G H (match r[i]? with | some (.own ds) => f ds d m | _ => .bad) D0 := w
      rw [e] at w
      exact False.elim w
    | some sl =>
      have w : WantS K M O G H (match r[i]? with | some (.own ds) => f ds d m | _ => .bad) D0 := w
      rw [e] at w
      cases sl with
      | own ds => exact ⟨ds, rfl⟩
      | un => exact False.elim w
      | val _ => exact False.elim w
/-- name.append(value), an own list -/
theorem z_app {i : Nat} {o : Expr} {ap p2 : Pos} (ho : PE X o (tVar i)) (ha : sE X a fa) (hbase : attributeBase o "append" X.env (eval o X.env) = eval o X.env) (hline : (ap.endLine == p.line) = true) (hs : starEach [a] X.env = (false, eval a X.env) :: starEach [] X.env) :
    zS X (.Expr (.Call (.Attribute o "append" ap) [a] [] p) p2) fun r m => (fa r m).st fun d m => match r[i]? with
    | some (.own ds) => if fit (ds.length + 1) then .nx (r.set i (.own (ds ++ [d]))) m else .bad
    | _ => .bad := by
  refine ps_imp (ps_expr (pe_bm PySem.F.plainAttrs_list PySem.F.slot_list_append PySem.F.type_list_append mt_append ho (pa_cons ha pa_nil hs) hbase (by rw [hs]; rfl) hline hs rfl) rfl) fun D σ H ⟨M, O, G, r, m, R, w⟩ => ?_
  dsimp only at w
  obtain ⟨ds, hr⟩ := own_slot (f := fun ds d m => if fit (ds.length + 1) then .nx (r.set i (.own (ds ++ [d]))) m else .bad) w
  obtain ⟨q, xs, hq1, hq2, hq3, hq4⟩ := R.own i ds hr
  refine ⟨.ref q, hq2, .inl ⟨rfl, xs, SqL.of hq3⟩, M, O, G, r, m, R, (WantS.st (P := Rp X.K) w).mono fun v H1 ⟨d, m1, G1, g1, R1, pv, w1⟩ => ?_⟩
  rw [hr] at w1
  dsimp only at w1
  split at w1
  · rename_i hf
    have hx := (g1.keep q _ hq3 (R.ownH i q hq1).2.2).1
    have hx4 := R.rps g1 hq4
    refine ⟨q, xs, v, rfl, rfl, hx, ?_, ?_⟩
    · have := fit_le hf
      rw [hq4.length] at this
      omega
    · exact w1 O G1 σ _ (GrowS.mut hq1) (R1.mutOwn hr hq1 hx (hx4.append (.cons pv .nil)))
  · exact False.elim w1
/-- r[c] = value, a list of the store -/
theorem z_setr {i c : Nat} {o ie : Expr} {p2 p3 : Pos} (ho : PE X o (tVar i)) (hi : PE X ie (tC (.int c))) (hnl : ∀ l u t q, ie ≠ .Slice l u t q) (ha : sE X a fa) (hw : swappedStores [.Subscript o ie p3] a X.env = pure none) :
    zS X (.Assign [.Subscript o ie p3] a p2) fun r m => (fa r m).st fun d m => match r[i]? with
    | some (.val (.ref n)) => match m[n]? with
      | some xs => if c < xs.length then .nx r (m.set n (xs.set c d)) else .bad
      | none => .bad
    | _ => .bad := by
  have hasg : ∀ v, assign (.Subscript o ie p3) X.env v = (do
      let ov ← holding [v] (eval o X.env)
      let iv ← holding [v, ov] (eval ie X.env)
      standAt p3
      holding [v, ov, iv] (setItem ov iv v)
      release [v, ov, iv] []) := by
    intro v
    cases ie <;> first | rfl | exact absurd rfl (hnl _ _ _ _)
  have hsw : swapsWithSole [.Subscript o ie p3] a p2.line X.env = pure false := by
    unfold swapsWithSole swapsWith
    cases a <;> rfl
  refine ps_imp (ps_asg ha (pg_sub ho hi set_list hasg) hsw hw rfl) fun D σ H h => ?_
  refine (tS1 (P := Rp X.K) h).imp fun v H1 ⟨M, O, G, r, m, d, R, pv, w⟩ => ?_
  cases e : r[i]? with
  | none =>
    rw [e] at w
    exact False.elim w
  | some sl =>
    rw [e] at w
    cases sl with
    | un => exact False.elim w
    | own _ => exact False.elim w
    | val d2 =>
      cases d2 <;> first | exact False.elim w | skip
      rename_i n
      obtain ⟨v2, h1, h2⟩ := R.val i _ e
      cases h2 with
      | ref hg =>
        rename_i q
        cases em : m[n]? with
        | none =>
          dsimp only at w
          rw [em] at w
          exact False.elim w
        | some xs =>
          dsimp only at w
          rw [em] at w
          dsimp only at w
          split at w
          · rename_i hc
            obtain ⟨q', ys, g1, g2, g3⟩ := R.st n xs em
            rw [hg] at g1
            cases g1
            refine ⟨.ref q, h1, q, ys, c, c, rfl, rfl, g2, ?_, ?_⟩
            · unfold ixN
              rw [if_pos (by omega), if_pos (by rw [← g3.length]; omega)]
              rfl
            · exact w O G σ _ (GrowS.mutG (List.mem_of_getElem? hg)) (R.setSt hg g2 (g3.set pv c))
          · exact False.elim w
/-- r[c], name = a pair -/
theorem z_setrp {i c j : Nat} {o ie : Expr} {y : Str} {p2 p3 py pt : Pos} {kt : Nat} (hc : X.calm = true) (hN : X.N.Nodup) (ho : PE X o (tVar i)) (hi : PE X ie (tC (.int c))) (hnl : ∀ l u t q, ie ≠ .Slice l u t q) (hy : NmOk X j y) (ha : sE X a fa) (hw : swappedStores [.Tuple [.Subscript o ie p3, .Name y py] kt pt] a X.env = pure none) :
    zS X (.Assign [.Tuple [.Subscript o ie p3, .Name y py] kt pt] a p2) fun r m => (fa r m).st fun d m => match r[i]?, d with
    | some (.val (.ref n)), .tup [x, y] => match m[n]? with
      | some xs => if c < xs.length then .nx (r.set j (.val y)) (m.set n (xs.set c x)) else .bad
      | none => .bad
    | _, _ => .bad := by
  have hasg : ∀ v, assign (.Subscript o ie p3) X.env v = (do
      let ov ← holding [v] (eval o X.env)
      let iv ← holding [v, ov] (eval ie X.env)
      standAt p3
      holding [v, ov, iv] (setItem ov iv v)
      release [v, ov, iv] []) := by
    intro v
    cases ie <;> first | rfl | exact absurd rfl (hnl _ _ _ _)
  have hsw : swapsWithSole [.Tuple [.Subscript o ie p3, .Name y py] kt pt] a p2.line X.env = pure false := by
    unfold swapsWithSole swapsWith
    cases a <;> rfl
  refine ps_imp (ps_asg ha (pg_tup (n := 2) hc (pgs_cons (pg_sub ho hi set_list hasg) (pgs_cons (pg_name hN hy.1 hy.2.1 hy.2.2) pgs_nil))) hsw hw rfl) fun D σ H h => ?_
  refine (tS1 (P := Rp X.K) h).imp fun v H1 ⟨M, O, G, r, m, d, R, pv, w⟩ => ?_
  cases e : r[i]? with
  | none =>
    rw [e] at w
    cases d <;> exact False.elim w
  | some sl =>
    rw [e] at w
    cases sl with
    | un => cases d <;> exact False.elim w
    | own _ => cases d <;> exact False.elim w
    | val d2 =>
      cases d2 <;> first | (cases d <;> exact False.elim w) | skip
      rename_i n
      cases d <;> first | exact False.elim w | skip
      rename_i ds
      rcases ds with _ | ⟨x1, _ | ⟨x2, _ | ⟨x3, ds⟩⟩⟩
      · exact False.elim w
      · exact False.elim w
      · obtain ⟨v2, h1, h2⟩ := R.val i _ e
        cases h2 with
        | ref hg =>
          rename_i q
          cases em : m[n]? with
          | none =>
            dsimp only at w
            rw [em] at w
            exact False.elim w
          | some xs =>
            dsimp only at w
            rw [em] at w
            dsimp only at w
            split at w
            · rename_i hc
              obtain ⟨q', ys, g1, g2, g3⟩ := R.st n xs em
              rw [hg] at g1
              cases g1
              cases pv with
              | @tup ta txs _ pv1 pv2 =>
                cases pv2 with
                | cons pa1 pv3 =>
                  cases pv3 with
                  | cons pa2 pv4 =>
                    cases pv4
                    refine ⟨ta, _, rfl, pv1, rfl, _, _, rfl, ⟨.ref q, h1, q, ys, c, c, rfl, rfl, g2, ?_, _, _, rfl, rfl, ?_⟩⟩
                    · unfold ixN
                      rw [if_pos (by omega), if_pos (by rw [← g3.length]; omega)]
                      rfl
                    · have hb : Bad M O G q := .inr (.inl (List.mem_of_getElem? hg))
                      exact w O G _ _ (GrowS.mutG (List.mem_of_getElem? hg)) ((R.setSt hg g2 (g3.set pa1 c)).set (pa2.off hb g2))
            · exact False.elim w
      · exact False.elim w
/-- name, name = value, value: plain names of a def -/
theorem z_par {i j : Nat} {x y : Str} {px py pt : Pos} {kt k2 : Nat} {pt2 : Pos} {fs : List Slot → Mu → Res (List D)} (hc : X.calm = true) (hN : X.N.Nodup) (hi : X.N[i]? = some x) (hj : X.N[j]? = some y) (hij : i ≠ j) (hx : X.env.scope.names.lookup x = some .local) (hy : X.env.scope.names.lookup y = some .local)
    (ha : sA X [a, b] fs) (hw : swappedStores [.Tuple [.Name x px, .Name y py] kt pt] (.Tuple [a, b] k2 pt2) X.env = pure (some [x, y])) :
    zS X (.Assign [.Tuple [.Name x px, .Name y py] kt pt] (.Tuple [a, b] k2 pt2) pos) fun r m => (fs r m).st fun ds m => if [i, j].length = ds.length then .nx (setAll r [i, j] ds) m else .bad :=
  ps_imp (ps_par hc hN hi hj hij hx hy ha hw rfl) fun D σ H h => (tS1 (P := Rps X.K) h).imp fun vs H1 ⟨M, O, G, r, m, ds, R, p, w⟩ => by
    split at w
    · rename_i hl
      rcases ds with _ | ⟨d1, _ | ⟨d2, _ | ⟨_, _⟩⟩⟩ <;> first | (cases hl; done) | skip
      cases p with
      | cons p1 p =>
        cases p with
        | cons p2 p =>
          cases p
          exact ⟨_, _, rfl, w O G _ _ .refl ((R.set p1).set p2)⟩
    · exact False.elim w
/-- .. the first a new list that nobody else holds -/
theorem z_parO {i j : Nat} {x y : Str} {px py pt : Pos} {kt k2 : Nat} {pt2 : Pos} {fb : List Slot → Mu → Res D} (hc : X.calm = true) (hN : X.N.Nodup) (hi : X.N[i]? = some x) (hj : X.N[j]? = some y) (hij : i ≠ j) (hx : X.env.scope.names.lookup x = some .local) (hy : X.env.scope.names.lookup y = some .local)
    (ha : PE X a (tN X.K fa)) (hb : sE X b fb) (hs : starEach [a, b] X.env = (false, eval a X.env) :: starEach [b] X.env) (hs2 : starEach [b] X.env = (false, eval b X.env) :: starEach [] X.env) (hw : swappedStores [.Tuple [.Name x px, .Name y py] kt pt] (.Tuple [a, b] k2 pt2) X.env = pure (some [x, y])) :
    zS X (.Assign [.Tuple [.Name x px, .Name y py] kt pt] (.Tuple [a, b] k2 pt2) pos) fun r m => ((fa r m).bind fun d1 m => (fb r m).bind fun d2 m => .ok [d1, d2] m).st fun ds m => match ds with
      | [.lst l, d2] => .nx ((r.set i (.own l)).set j (.val d2)) m
      | _ => .bad :=
  ps_imp (ps_par hc hN hi hj hij hx hy (pa_cons ha (pa_cons hb pa_nil hs2) hs) hw rfl) fun D σ H ⟨M, O, G, r, m, R, w⟩ => ⟨M, O, G, r, m, R, by
    dsimp only at w
    cases e1 : fa r m with
    | ex _ _ _ =>
      rw [e1] at w
      exact w
    | bad =>
      rw [e1] at w
      exact w
    | ok d1 m1 =>
      rw [e1] at w
      cases e2 : fb r m1 with
      | ex _ _ _ =>
        have w : WantS X.K M O G H (((fb r m1).bind fun d2 m => (Res.ok [d1, d2] m : Res (List Mi.D))).st fun ds m => match ds with
          | [.lst l, d2] => .nx ((r.set i (.own l)).set j (.val d2)) m
          | _ => .bad) D := w
        rw [e2] at w
        exact False.elim w
      | bad =>
        have w : WantS X.K M O G H (((fb r m1).bind fun d2 m => (Res.ok [d1, d2] m : Res (List Mi.D))).st fun ds m => match ds with
          | [.lst l, d2] => .nx ((r.set i (.own l)).set j (.val d2)) m
          | _ => .bad) D := w
        rw [e2] at w
        exact False.elim w
      | ok d2 m2 =>
        have w : WantS X.K M O G H (((fb r m1).bind fun d2 m => (Res.ok [d1, d2] m : Res (List Mi.D))).st fun ds m => match ds with
          | [.lst l, d2] => .nx ((r.set i (.own l)).set j (.val d2)) m
          | _ => .bad) D := w
        rw [e2] at w
        obtain ⟨l, rfl⟩ : ∃ l, d1 = .lst l := by
          cases d1 <;> first | exact ⟨_, rfl⟩ | exact False.elim w
        have w : WantS X.K M O G H (.nx ((r.set i (.own l)).set j (.val d2)) m2) D := w
        intro q xs H' G' hq g hM R' hp px
        refine ⟨Plus M q, O, G', r, m1, R', ?_⟩
        rw [e2]
        intro v H2 G2 g2 R2 p2
        refine ⟨_, _, rfl, ?_⟩
        have hp2 : H2 q = some (.lst xs) := (g2.keep q _ hp fun z => R'.stM q z (.inr rfl)).1
        have px2 := R'.rps g2 px
        have R3 := R2.newOwn (i := i) hM hp2 px2
        refine w _ G2 _ H2 ((g.trans g2).own hq) (R3.set (p2.mono fun a z => ?_))
        rcases z with z | z | ⟨k, z⟩
        · exact .inl (.inl z)
        · exact .inr (.inl z)
        · unfold ownAt at z
          split at z
          · cases z
            exact .inl (.inr rfl)
          · exact .inr (.inr ⟨k, z⟩)⟩
/-- names = a tuple -/
theorem z_unp {is : List Nat} {ts : List Expr} {kt : Nat} {pt : Pos} (hc : X.calm = true) (hN : X.N.Nodup) (ht : TgL X is ts) (ha : sE X a fa) (hs : swapsWithSole [.Tuple ts kt pt] a pos.line X.env = pure false) (hw : swappedStores [.Tuple ts kt pt] a X.env = pure none) :
    zS X (.Assign [.Tuple ts kt pt] a pos) fun r m => (fa r m).st fun d m => match d with | .tup ds => if is.length = ds.length then .nx (setAll r is ds) m else .bad | _ => .bad :=
  ps_imp (ps_asg ha (pg_tup (n := is.length) hc (pgs_names hN ht) (tgL_len ht).1 (tgL_len ht).2) hs hw rfl) fun D σ H h => (tS1 (P := Rp X.K) h).imp fun v H1 ⟨M, O, G, r, m, d, R, p, w⟩ => by
    cases d <;> first | exact False.elim w | skip
    rename_i ds
    dsimp only at w
    split at w
    · rename_i hl
      cases p with
      | @tup ta txs _ p1 p2 =>
        have hl2 := p2.length
        exact ⟨ta, txs, rfl, p1, by omega, by omega, w O G _ _ .refl (R.setAll p2)⟩
    · exact False.elim w

/-! loops -/
theorem z_while {B : List Stmt} {fb : List Slot → Mu → SRes} (po : PassesOwn (model X.prog X.w) X.A X.env X.xe) (hc : sT X c fa) (hb : zSs X B fb) (n : Nat) : zS X (.While c B [] pos) fun r m => whileR (fun r m => asB (fa r m)) fb n r m :=
  ps_imp (ps_while po hc hb) fun D σ H h => by
    refine ⟨fun j σ' H' => tS X.K (fun r m => whileR (fun r m => asB (fa r m)) fb j r m) D σ' H', ⟨n, h⟩, fun j σ' H' hw => ?_⟩
    cases j with
    | zero =>
      obtain ⟨M, O, G, r, m, R, w⟩ := hw
      exact False.elim w
    | succ j =>
      refine (tS1 (P := rB) (fa := fun r m => asB (fa r m)) (k := fun r b m => if b then (match fb r m with | .nx r m => whileR (fun r m => asB (fa r m)) fb j r m | o => o) else .nx r m) (hw.eq fun r m => ?_)).imp fun t H1 ⟨M, O, G, r, m, x, R, e, w⟩ => ?_
      · show whileR _ _ (j + 1) r m = _
        rw [whileR]
        all_goals rfl
      · cases e
        cases t with
        | false => exact w O G σ' H1 .refl R
        | true =>
          refine ⟨fun σ2 H2 => tS X.K (fun r m => whileR (fun r m => asB (fa r m)) fb j r m) D σ2 H2, fun σ2 H2 h2 => ⟨j, Nat.lt_succ_self j, h2⟩, M, O, G, r, m, R, ?_⟩
          rw [if_pos rfl] at w
          cases e : fb r m with
          | nx r1 m1 =>
            rw [e] at w
            exact fun O' G' σ2 H2 g R' => ⟨M, O', G', r1, m1, R', w.grow g⟩
          | rt d m1 =>
            rw [e] at w
            exact w
          | ex _ _ _ =>
            rw [e] at w
            exact w
          | bad =>
            rw [e] at w
            exact w
theorem z_for {tg iter : Expr} {B : List Stmt} {t : Tgt} {ik : IK} {fi : List Slot → Mu → Res (List D)} {fb : List Slot → Mu → SRes} (po : PassesOwn (model X.prog X.w) X.A X.env X.xe) (hc : X.calm = true) (hN : X.N.Nodup) (hi : sI X tg iter (Rps X.K) fi ik) (ht : TgOk X t tg) (hb : zSs X B fb) (hs : ∀ x, foldedSetIterable iter X.env x = pure x) :
    zS X (.For tg iter B [] pos) fun r m => (fi r m).st fun ds m => match itemsD ik ds with
    | some xs => forR (fun x r m => match bindT t x r with | some r' => fb r' m | none => .bad) xs r m
    | none => .bad :=
  ps_imp (ps_for po hc hi (pg_tg hN hc ht) hb hs) fun D σ H ⟨M, O, G, r, m, R, w⟩ => ⟨M, O, G, r, m, R, by
    dsimp only at w
    cases e1 : fi r m with
    | ex _ _ _ =>
      rw [e1] at w
      exact False.elim w
    | bad =>
      rw [e1] at w
      exact False.elim w
    | ok ds m1 =>
      rw [e1] at w
      have w : WantS X.K M O G H (match itemsD ik ds with
        | some xs => forR (fun x r m => match bindT t x r with | some r' => fb r' m | none => .bad) xs r m1
        | none => .bad) D := w
      show ∃ xs, _
      cases e2 : itemsD ik ds with
      | none =>
        rw [e2] at w
        exact False.elim w
      | some xs =>
        rw [e2] at w
        dsimp only at w
        refine ⟨xs, rfl, fun J H1 G1 svs g1 R1 S1 F => ?_⟩
        generalize hF : (fun (x : Mi.D) (r : List Slot) (m : Mu) => match bindT t x r with | some r' => fb r' m | none => SRes.bad) = F' at w
        refine ⟨fun i k σ' H' => k = xs.length - i ∧ i ≤ xs.length ∧ ∃ O' G' r' m', Rep X.K M O' G' σ' H' r' m' ∧ Rps X.K (Bad M O' G') G' H' ds svs ∧ WantS X.K M O' G' H' (forR F' (xs.drop i) r' m') D, ⟨xs.length, by simp, Nat.zero_le _, O, G1, r, m1, R1, S1, (w.grow g1.s)⟩, ?_⟩
        rintro i k σ2 H2 ⟨rfl, hi2, O2, G2, r2, m2, R2, S2, w2⟩
        by_cases hlt : i < xs.length
        · obtain ⟨hgo, hyl⟩ := F.1 i xs[i] _ _ _ (Rws.of S2) (List.getElem?_eq_getElem hlt)
          refine .inr ⟨hgo, fun σ' H' => xs.length - (i + 1) = xs.length - (i + 1) ∧ i + 1 ≤ xs.length ∧ ∃ O' G' r' m', Rep X.K M O' G' σ' H' r' m' ∧ Rps X.K (Bad M O' G') G' H' ds svs ∧ WantS X.K M O' G' H' (forR F' (xs.drop (i + 1)) r' m') D, fun σ' H' h' => ⟨_, by omega, h'⟩, fun v H3 hy => ?_⟩
          obtain ⟨s3, p3⟩ := hyl v H3 hy
          have R3 := R2.same s3
          have S3 := S2.same s3
          have w3 := w2.grow (Grow.same s3).s
          rw [List.drop_eq_getElem_cons hlt] at w3
          cases eb : bindT t xs[i] r2 with
          | none =>
            have : forR F' (xs[i] :: xs.drop (i + 1)) r2 m2 = .bad := by
              rw [← hF]
              simp [forR, eb]
            rw [this] at w3
            exact False.elim w3
          | some r3 =>
            have hf : F' xs[i] r2 m2 = fb r3 m2 := by
              rw [← hF]
              simp [eb]
            refine ⟨M, O2, G2, r2, m2, xs[i], r3, R3, p3, eb, fun σ4 R4 _ => ⟨M, O2, G2, r3, m2, R4, ?_⟩⟩
            rw [← hf]
            rw [forR] at w3
            cases e : F' xs[i] r2 m2 with
            | nx r5 m5 =>
              rw [e] at w3
              exact fun O' G' σ5 H5 g R5 => ⟨rfl, hlt, O', G', r5, m5, R5, S3.gs R3 g, w3.grow g⟩
            | rt d m5 =>
              rw [e] at w3
              exact w3
            | ex _ _ _ =>
              rw [e] at w3
              exact w3
            | bad =>
              rw [e] at w3
              exact w3
        · have ei : i = xs.length := by omega
          subst ei
          rw [List.drop_length] at w2
          exact .inl ⟨F.2 _ _ _ _ (Rws.of S2) (Nat.le_refl _), w2 O2 G2 σ2 H2 .refl R2⟩⟩
end
end Mi

set_option linter.all false
set_option maxRecDepth 100000
set_option maxHeartbeats 8000000
/-! Mi15: what comes of a call is spoilt. -/
namespace Mi
open PySem PySem.Spec PyProof.Rows L2
section
variable {K : PySem.W.Frag} {B B' : Addr → Prop} {G G' : List Addr} {H H' : Hp}
mutual
theorem Rp.plain (ht : ∀ a xs, SqT K H a xs → SqT K H' a xs) : ∀ {d : D} {v : V}, noList d = true → Rp K B G H d v → Rp K B' G' H' d v
  | _, _, _, .non => .non
  | _, _, _, .bl b => .bl b
  | _, _, _, .int i => .int i
  | _, _, _, .str x => .str x
  | _, _, n, .lst _ _ _ => by
    unfold noList at n
    cases n
  | _, _, n, .tup h1 h2 => .tup (ht _ _ h1) (Rps.plain ht (by unfold noList at n; exact n) h2)
  | _, _, n, .ref _ => by
    unfold noList at n
    cases n
  | _, _, n, .scr _ => by
    unfold noList at n
    cases n
theorem Rps.plain (ht : ∀ a xs, SqT K H a xs → SqT K H' a xs) : ∀ {ds : List D} {vs : List V}, noLists ds = true → Rps K B G H ds vs → Rps K B' G' H' ds vs
  | _, _, _, .nil => .nil
  | _, _, n, .cons h1 h2 => by
    unfold noLists at n
    rw [Bool.and_eq_true] at n
    exact .cons (Rp.plain ht n.1 h1) (Rps.plain ht n.2 h2)
end
end
/-- all that is there, but the store -/
def There (H : Hp) (G : List Addr) (a : Addr) : Prop := H a ≠ none ∧ a ∉ G
section
variable {X : Cx} {a : Expr} {pos p : Pos}
def tSc (K : PySem.W.Frag) (g : Mi.Env0) (f : Nat) (es : Exs) : TE := fun σ H Q => ∃ M O G r m, Rep K M O G σ H r m ∧ ∃ ds m1 d m2, evs g es r m = .ok ds m1 ∧ noLists ds = true ∧ m1.all noLists = true ∧ g.call f ds m1 = .ok d m2 ∧ m2.all noLists = true ∧
  ∀ v H1 G1 H2 G2, Grow G H G1 H1 → Rep K M O G1 σ H1 r m1 → Grow G1 H1 G2 H2 → RepF K (There H1 G1) G2 H2 m2 → Rp K (BadF (There H1 G1) G2) G2 H2 d v → Q v H2
theorem all_get {m : Mu} (h : m.all noLists = true) {n : Nat} {ds : List D} (e : m[n]? = some ds) : noLists ds = true := by
  rw [List.all_eq_true] at h
  exact h _ (List.mem_of_getElem? e)
theorem Rep.there {K : PySem.W.Frag} {M : Addr → Prop} {O : Nat → Option Addr} {G : List Addr} {σ : L2.St} {H : Hp} {r : List Slot} {m : Mu} (R : Rep K M O G σ H r m) (h : m.all noLists = true) : RepF K (There H G) G H m where
  dom := fun a z => z.1
  len := rfl
  val := fun i d h => by simp at h
  own := fun i d h => by simp at h
  ownU := fun i j a h => by cases h
  ownH := fun i a h => by cases h
  st := fun n ds e => let ⟨a, xs, h1, h2, h3⟩ := R.st n ds e; ⟨a, xs, h1, h2, h3.plain (fun _ _ q => q) (all_get h e)⟩
  stl := R.stl
  stU := R.stU
  stM := fun a h z => z.2 h
/-- back from it, a new list changed since -/
theorem Rep.upT {K : PySem.W.Frag} {M : Addr → Prop} {O : Nat → Option Addr} {G1 G2 : List Addr} {σ : L2.St} {H1 H2 : Hp} {r : List Slot} {m1 m2 : Mu} (R : Rep K M O G1 σ H1 r m1) (g : Grow G1 H1 G2 H2) (F : RepF K (There H1 G1) G2 H2 m2) (h : m2.all noLists = true) {q : Addr} {xs ys : List V} (hq : H2 q = some (.lst xs)) (hq1 : H1 q = none) (hq2 : q ∉ G2) :
    Rep K M O G2 σ (upd H2 q (.lst ys)) r m2 := by
  have hh : ∀ a, Held M O a → There H1 G1 a := fun a z => by
    rcases z with z | ⟨i, z⟩
    · exact ⟨R.dom a z, fun w => R.stM a w z⟩
    · obtain ⟨⟨xs, e⟩, _, n⟩ := R.ownH i a z
      exact ⟨by rw [e]; exact fun w => (nomatch w), n⟩
  have ht : ∀ a zs, SqT K H2 a zs → SqT K (upd H2 q (.lst ys)) a zs := fun a zs e => by
    rcases e with (e | ⟨o, e⟩) | e
    · exact .inl (.inl (by rw [upd_ne (ne_of e hq fun z => nomatch z)]; exact e))
    · exact .inl (.inr ⟨o, by rw [upd_ne (ne_of e hq fun z => nomatch z)]; exact e⟩)
    · exact .inr e
  refine R.up (g.off hq1) ⟨fun a z => ?_, rfl, fun i d h => (by simp at h), fun i d h => (by simp at h), fun i j a h => (by cases h), fun i a h => (by cases h), fun n ds e => ?_, F.stl, F.stU, fun a z w => F.stM a z (hh a w)⟩
  · by_cases e : a = q
    · rw [e, upd_same]
      exact fun w => nomatch w
    · rw [upd_ne e]
      exact F.dom a (hh a z)
  · obtain ⟨b, zs, h1, h2, h3⟩ := F.st n ds e
    refine ⟨b, zs, h1, ?_, h3.plain ht (all_get h e)⟩
    rw [upd_ne fun z => hq2 (by rw [← z]; exact List.mem_of_getElem? h1)]
    exact h2
theorem f_sc {C : Cc} {g : Mi.Env0} {k f : Nat} {x : Str} (hk : Kn C g k X) (hf : C.fns[f]? = some x) (hg : glB X.env.scope x = true) {as : List Expr} {es : Exs} (ha : sA X (a :: as) (evs g es))
    (hs : starEach (a :: as) X.env = (false, eval a X.env) :: starEach as X.env) (hpl : (backTo pos (starEach as X.env)).any (·.1) = false) : PE X (.Call (.Name x p) (a :: as) [] pos) (tSc X.K g f es) := by
  obtain ⟨fa, fd, ps, F⟩ := hk.fn f x hf
  obtain ⟨g1, g2, g3⟩ := gl_of hg
  refine ⟨fun pins s σ H Q I h => ?_⟩
  obtain ⟨M, O, G, r, m, R, ds, m1, d, m2, e1, n1, n2, e2, n3, w⟩ := h
  refine wpAny_Call_Name_kw (ld_glob I g1 F.at_ ?_ g2)
  refine PySem.W.callWith_K (h₀ := X.base) I.ok.mod.kin F.keep (thn (ha.run pos pins s σ H (fun vs H1 => ∃ G1, Grow G H G1 H1 ∧ Rep X.K M O G1 σ H1 r m1 ∧ Rps X.K (Bad M O G1) G1 H1 ds vs) I ⟨M, O, G, r, m, R, ?_⟩) fun us s1 ⟨vs, H1, I1, rv, G1, gr, R1, p1⟩ => ⟨I1.kIn, ?_⟩) hs hpl
  · rw [e1]
    exact fun vs H1 G1 gr R1 p1 => ⟨G1, gr, R1, p1⟩
  · have hl : us.length = ps.length := by
      rw [← rv.length, ← p1.length]
      exact F.len ds m1 (by rw [e2]; exact fun z => nomatch z)
    have p2 : Rps X.K (BadF (There H1 G1) G1) G1 H1 ds vs := p1.plain (fun _ _ q => q) n1
    refine wpAny_call (codeAny_mono (F.run X.A X.stack s1 H1 ⟨us, []⟩ us vs ds G1 m1 (There H1 G1) Q hk.room hk.gd I1.env0 (.of_eq (F.pos us hl)) rv (R1.there n2) p2 ?_) fun r s' hq => ?_)
    · rw [e2]
      exact fun v H' G' gg RF pv => w v H1 G1 H' G' gr R1 gg RF pv
    · cases r with
      | error e => exact False.elim hq
      | ok fl =>
        cases fl with
        | ret u => exact I1.after hq
        | next => exact False.elim hq
        | brk => exact False.elim hq
        | cont => exact False.elim hq
/-- the part at a written path of what came -/
def tSp1 (K : PySem.W.Frag) (g : Mi.Env0) (f : Nat) (es : Exs) (path : List Nat) : TE := fun σ H Q => ∃ M O G r m, Rep K M O G σ H r m ∧ ∃ ds m1 d m2 d', evs g es r m = .ok ds m1 ∧ noLists ds = true ∧ m1.all noLists = true ∧ g.call f ds m1 = .ok d m2 ∧ m2.all noLists = true ∧ pathD d path = some d' ∧
  ∀ v H1 G1 H2 G2, Grow G H G1 H1 → Rep K M O G1 σ H1 r m1 → Grow G1 H1 G2 H2 → RepF K (There H1 G1) G2 H2 m2 → Rp K (BadF (There H1 G1) G2) G2 H2 d' v → Q v H2
theorem sp_nil {e : Expr} {g : Mi.Env0} {f : Nat} {es : Exs} (h : PE X e (tSc X.K g f es)) : PE X e (tSp1 X.K g f es []) :=
  pe_imp h fun σ H Q ⟨M, O, G, r, m, R, ds, m1, d, m2, d', e1, n1, n2, e2, n3, e4, w⟩ => ⟨M, O, G, r, m, R, ds, m1, d, m2, e1, n1, n2, e2, n3, by
    cases e4
    exact w⟩
theorem sp_one {e : Expr} {j : Nat} {p2 p3 : Pos} {g : Mi.Env0} {f : Nat} {es : Exs} {i : Nat} (h : PE X e (tSc X.K g f es)) : PE X (.Subscript e (.Constant (.int i) j p2) p3) (tSp1 X.K g f es [i]) :=
  pe_imp (pe_ix ix_tup h pe_int (fun _ _ => rfl)) fun σ H Q ⟨M, O, G, r, m, R, ds, m1, d, m2, d', e1, n1, n2, e2, n3, e4, w⟩ => ⟨M, O, G, r, m, R, ds, m1, d, m2, e1, n1, n2, e2, n3, fun v H1 G1 H2 G2 g1 R1 g2 RF pv => by
    cases d <;> first | (cases e4; done) | skip
    rename_i xs
    cases pv with
    | @tup q ys _ q1 q2 =>
      have e5 : (match xs[i]? with | some d => pathD d [] | none => none) = some d' := e4
      cases e6 : xs[i]? with
      | none =>
        rw [e6] at e5
        cases e5
      | some d2 =>
        rw [e6] at e5
        have e7 : d2 = d' := by
          have : pathD d2 [] = some d' := e5
          cases d2 <;> (cases this; rfl)
        subst e7
        obtain ⟨v2, h5, h6⟩ := q2.get e6
        refine ⟨q, ys, i, v2, rfl, rfl, q1, ?_, w v2 H1 G1 H2 G2 g1 R1 g2 RF h6⟩
        have hl : i < ys.length := (List.getElem?_eq_some_iff.mp h5).1
        unfold L2.atI L2.ixN
        rw [if_pos (by omega), if_pos (by omega)]
        exact h5⟩
/-- .. a sign of nothing is put at its end -/
theorem z_spoil {o cst : Expr} {cv : V} {ap p2 : Pos} {g : Mi.Env0} {f : Nat} {es : Exs} {path : List Nat} {cc : Const} (ho : PE X o (tSp1 X.K g f es path)) (hcst : PE X cst (tC cv)) (hbase : attributeBase o "append" X.env (eval o X.env) = eval o X.env) (hline : (ap.endLine == p.line) = true) (hs : starEach [cst] X.env = (false, eval cst X.env) :: starEach [] X.env) :
    zS X (.Expr (.Call (.Attribute o "append" ap) [cst] [] p) p2) fun r m => match callOf g (.call f es) r m with
    | some (d, m) => (match pathD d path with | some (.lst xs) => if fit (xs.length + 1) then .nx r m else .bad | _ => .bad)
    | _ => .bad := by
  refine ps_imp (ps_expr (pe_bm PySem.F.plainAttrs_list PySem.F.slot_list_append PySem.F.type_list_append mt_append ho (pa_cons hcst pa_nil hs) hbase (by rw [hs]; rfl) hline hs rfl) rfl) fun D σ H ⟨M, O, G, r, m, R, w⟩ => ?_
  refine ⟨M, O, G, r, m, R, ?_⟩
  dsimp only at w
  unfold callOf at w
  dsimp only at w
  cases e1 : evs g es r m with
  | ex _ _ _ =>
    rw [e1] at w
    exact False.elim w
  | bad =>
    rw [e1] at w
    exact False.elim w
  | ok ds m1 =>
    rw [e1] at w
    dsimp only at w
    by_cases hn : (noLists ds && m1.all noLists) = true
    · rw [if_pos hn] at w
      rw [Bool.and_eq_true] at hn
      cases e2 : g.call f ds m1 with
      | ex _ _ _ =>
        rw [e2] at w
        exact False.elim w
      | bad =>
        rw [e2] at w
        exact False.elim w
      | ok d m2 =>
        rw [e2] at w
        dsimp only at w
        by_cases hn2 : m2.all noLists = true
        · rw [if_pos hn2] at w
          dsimp only at w
          cases e3 : pathD d path with
          | none =>
            rw [e3] at w
            exact False.elim w
          | some d' =>
            rw [e3] at w
            cases d' <;> first | exact False.elim w | skip
            rename_i xs
            dsimp only at w
            split at w
            · rename_i hf
              refine ⟨ds, m1, d, m2, _, rfl, hn.1, hn.2, e2, hn2, e3, fun v H1 G1 H2 G2 g1 R1 g2 RF pv => ?_⟩
              cases pv with
              | @lst q ys _ q1 q2 q3 =>
                have hq2 : q ∉ G2 := fun z => q1 (.inr (.inl z))
                have hq1 : H1 q = none := by
                  cases e : H1 q with
                  | none => rfl
                  | some o =>
                    refine absurd (.inl ⟨by rw [e]; exact fun z => (nomatch z), fun z => ?_⟩) q1
                    obtain ⟨n, hn⟩ := List.getElem?_of_mem z
                    exact hq2 (List.mem_of_getElem? (g2.pre n q hn))
                refine ⟨.inl ⟨rfl, ys, SqL.of q2⟩, q, ys, cv, rfl, rfl, q2, ?_, ?_⟩
                · have := fit_le hf
                  rw [q3.length] at this
                  omega
                · exact w O G2 σ _ (g1.s.trans (g2.off hq1).s) (R1.upT g2 RF hn2 q2 hq1 hq2)
            · exact False.elim w
        · rw [if_neg hn2] at w
          exact False.elim w
    · rw [if_neg hn] at w
      exact False.elim w
end
end Mi

set_option linter.all false
set_option maxRecDepth 100000
set_option maxHeartbeats 8000000
/-! Mi16: whether a tree stands for a statement; every statement. -/
namespace Mi
open PySem PySem.Spec PyProof.Rows L2

def compT : Expr → Bool
  | .ListComp .. => true
  | _ => false
def tupV : Expr → Bool
  | .Tuple .. => true
  | .List .. => true
  | _ => false
def nmTg (C : Cc) (sc : Scope) (i : Nat) (x : Str) : Bool := slotB C i x && locB sc x && nmOk x
/-- a, b = v, w by the exchange of the stores -/
def swapOk (sc : Scope) (x y : Str) (px py : Pos) (vs : List Expr) : Bool :=
  isLocal sc x && isLocal sc y && (px.line == py.line) && !(x == y) && decide (vs.length = 2) && !(vs.all (foldedForSure 8)) && !(vs.all (constantsAlone 8))
def newT : Ex → Bool
  | .lst _ => true
  | .comp .. => true
  | .compIf .. => true
  | _ => false
def okSp (C : Cc) (sc : Scope) (e : Ex) (path : List Nat) (o : Expr) : Bool := match e with
  | .call f es => (match path with
    | [] => (match o with | .Call (.Name x _) as [] _ => decide (C.fns[f]? = some x) && glB sc x && okEs C sc es as && !as.isEmpty | _ => false)
    | [i] => (match o with | .Subscript (.Call (.Name x _) as [] _) (.Constant (.int j) _ _) _ => decide (j = (i : Int)) && decide (C.fns[f]? = some x) && glB sc x && okEs C sc es as && !as.isEmpty | _ => false)
    | _ => false)
  | _ => false
def frzT : Stm → Bool
  | .frz _ => true
  | _ => false
/-- the exchange of two stores -/
def parB (C : Cc) (sc : Scope) (is : List Nat) (es : Exs) (own : List Nat) (ts vs : List Expr) : Bool := match ts with
  | [.Name x px, .Name y py] => swapOk sc x y px py vs && (match is with | [i, j] => nmTg C sc i x && nmTg C sc j y && okEs C sc es vs && (match own with | [] => true | [o] => decide (o = i) && (match es with | .cons e _ => newT e | _ => false) | _ => false) | _ => false)
  | _ => false
/-- names that are exchanged: locals that stand on the first one's line -/
def swNames (sc : Scope) (line : Nat) (ts : List Expr) : List Str := ts.filterMap fun
  | .Name id pos => if sc.names.lookup id == some .local && pos.line == line then some id else none
  | _ => none
/-- the tuple is made, then taken apart -/
def parN (C : Cc) (sc : Scope) (is : List Nat) (es : Exs) (own : List Nat) (ts vs : List Expr) : Bool :=
  own.isEmpty && ((swNames sc ((ts.head?.map (·.pos.line)).getD 0) ts).length != ts.length || vs.all (foldedForSure 8)) && okT C sc (.tp is) (.Tuple ts 0 ⟨0, 0, 0, 0⟩) && decide (es.len ≤ 100) && okEs C sc es vs
mutual
def okS (C : Cc) (sc : Scope) : Stm → Stmt → Bool
  | .set i e, s => match s with | .Assign [.Name x _] v _ => nmTg C sc i x && okE C sc e v | _ => false
  | .seto i e, s => match s with | .Assign [.Name x _] v _ => nmTg C sc i x && okE C sc e v && newT e | _ => false
  | .par is es own, s => match s with
    | .Assign [.Tuple ts _ _] (.Tuple vs _ _) _ => parB C sc is es own ts vs || parN C sc is es own ts vs
    | _ => false
  | .unp is e, s => match s with
    | .Assign [.Tuple ts _ _] v _ => okT C sc (.tp is) (.Tuple ts 0 ⟨0, 0, 0, 0⟩) && !tupV v && okE C sc e v
    | _ => false
  | .app i e, s => match s with | .Expr (.Call (.Attribute (.Name x _) n ap) [v] [] p) _ => decide (n = ("append" : Str)) && slotB C i x && visB sc x && nmOk x && (ap.endLine == p.line) && okE C sc e v | _ => false
  | .ext _ _, _ => false
  | .seti _ _ _, _ => false
  | .setr i c e, s => match s with | .Assign [.Subscript (.Name x _) (.Constant (.int j) _ _) _] v _ => decide (j = (c : Int)) && slotB C i x && visB sc x && nmOk x && okE C sc e v | _ => false
  | .setrp i c k e, s => match s with
    | .Assign [.Tuple [.Subscript (.Name x _) (.Constant (.int j) _ _) _, .Name y _] _ _] v _ => decide (j = (c : Int)) && slotB C i x && visB sc x && nmOk x && nmTg C sc k y && !tupV v && okE C sc e v
    | _ => false
  | .drop e, s => match s with | .Expr v _ => !compT v && okE C sc e v | _ => false
  | .spoil e path c, s => match s with | .Expr (.Call (.Attribute o n ap) [.Constant c' _ _] [] p) _ => decide (n = ("append" : Str)) && decide (c' = c) && okC c && (ap.endLine == p.line) && okSp C sc e path o | _ => false
  | .cond c a b, s => match s with | .If v A B _ => okE C sc c v && okSs C sc a A && okSs C sc b B | _ => false
  | .for_ tg ik its b, s => match s with
    | .For t it B [] _ => okT C sc tg t && (match ik with | .enum => tupT t | .zip => tupT t | _ => true) && okIt C sc ik its it && okSs C sc b B
    | _ => false
  | .while_ c b, s => match s with | .While v B [] _ => okE C sc c v && okSs C sc b B | _ => false
  | .ret e, s => match s with | .Return (some v) _ => okE C sc e v | _ => false
  | .retr es, s => match s with | .Return (some (.List as _)) _ => decide (es.len ≤ 100) && okEs C sc es as | _ => false
  | .retN, s => match s with | .Return none _ => true | _ => false
  | .raise _ _, _ => true
  | .frz _, _ => false
def okSs (C : Cc) (sc : Scope) : Stms → List Stmt → Bool
  | .nil, l => match l with | [] => true | _ => false
  | .cons s ss, l => if frzT s then okSs C sc ss l else match l with | x :: xs => okS C sc s x && okSs C sc ss xs | [] => false
end

/-- what a def's body has -/
structure KnS (C : Cc) (g : Mi.Env0) (k : Nat) (X : Cx) : Prop where
  kn : Kn C g k X
  all : ∀ x, X.fn x = true
  po : PassesOwn (model X.prog X.w) X.A X.env X.xe
  kind : X.env.scope.kind = .function
section
variable {C : Cc} {g : Mi.Env0} {k : Nat} {X : Cx}
theorem KnS.nd (h : KnS C g k X) : X.N.Nodup := by
  rw [h.kn.N]
  exact h.kn.nd
theorem KnS.nm (h : KnS C g k X) {i : Nat} {x : Str} (q : nmTg C X.env.scope i x = true) : NmOk X i x := by
  unfold nmTg at q
  simp only [Bool.and_eq_true] at q
  exact ⟨by rw [h.kn.N]; exact slot_of q.1.1, loc_of q.1.2, .inl (h.all x)⟩
theorem KnS.blk (h : KnS C g k X) : X.env.blockKind = .function := by
  unfold Env.blockKind
  rw [h.kind]
  rfl
theorem swaps_cases (h : KnS C g k X) {e : Ex} {v : Expr} (ok : okE C X.env.scope e v = true) (x : Str) (p : Pos) (line : Nat) :
    swapsWith v (some (.Name x p)) line X.env = pure false ∨ (isComp e = true ∧ X.env.scope.names.lookup x = some .local ∧ swapsWith v (some (.Name x p)) line X.env = pure true) := by
  cases v <;> first | exact .inl rfl | skip
  · rename_i elt gens scope vp
    have hc : isComp e = true := by
      cases e <;> first | rfl | (unfold okE at ok; cases ok)
    have hd : swapsWith (.ListComp elt gens scope vp) (some (.Name x p)) line X.env = pure (X.env.blockKind == .function && X.env.kindOf x == some .local && p.line == vp.line && !(scope.names.any fun (n, k) => n == x && (k == .local || k == .cell))) := rfl
    rw [hd]
    cases hb : (X.env.blockKind == .function && X.env.kindOf x == some .local && p.line == vp.line && !(scope.names.any fun (n, k) => n == x && (k == .local || k == .cell))) with
    | false => exact .inl rfl
    | true =>
      simp only [Bool.and_eq_true] at hb
      exact .inr ⟨hc, eq_of_beq hb.1.1.2, rfl⟩
  · unfold okE at ok
    cases e <;> cases ok
  · unfold okE at ok
    cases e <;> cases ok
theorem asg_val (h : KnS C g k X) {e : Ex} {v : Expr} {i : Nat} {x : Str} {p sp : Pos} (hn : NmOk X i x) (ok : okE C X.env.scope e v = true) : PS X (.Assign [.Name x p] v sp) (tAsg (tG X.K (Rp X.K) (ev g e)) (gName i)) := by
  have q := main_E C g k e X v h.kn ok
  rcases swaps_cases h ok x p sp.line with hs | ⟨hc, hl, hs⟩
  · exact ps_set h.nd hn.1 hn.2.1 q.v hs hn.2.2
  · have cc := main_C C g k h.kn ok hc
    exact ps_imp (cc.s i x p sp hn.1 hl hs) fun D σ H w => by
      obtain ⟨M, O, G, r, m, R, w⟩ := w
      exact ⟨M, O, G, r, m, R, w.new (cc.l r m)⟩
theorem lst_new {es : Exs} {as : List Expr} {p : Pos} (q : LOk X g es as) (hl : es.len ≤ 100) : PE X (.List as p) (tN X.K (ev g (.lst es))) :=
  pe_imp (pe_lst q.a) fun σ H Q ⟨M, O, G, r, m, R, w⟩ => ⟨M, O, G, r, m, R, by
    simp only [ev] at w
    cases e1 : evs g es r m with
    | ex _ _ _ =>
      rw [e1] at w
      exact w
    | bad =>
      rw [e1] at w
      exact w
    | ok ds m1 =>
      rw [e1] at w
      exact fun vs H1 G1 g1 R1 p1 => ⟨by rw [← p1.length, evs_len es r m ds m1 e1]; exact size100 hl, fun q hq => by
        have hp0 : H q = none := by
          cases eh : H q with
          | none => rfl
          | some o =>
            by_cases hg : q ∈ G
            · obtain ⟨n, hn⟩ := List.getElem?_of_mem hg
              obtain ⟨ys, hy⟩ := R1.lst (List.mem_of_getElem? (g1.pre n q hn))
              rw [hq] at hy
              cases hy
            · have := (g1.keep q o eh hg).1
              rw [hq] at this
              cases this
        exact w q vs _ G1 hp0 (g1.trans (Grow.same (same_upd hq))) (fun z => R1.dom q z hq) (R1.forbid hq) upd_same (Rps.forbid R1 hq p1)⟩⟩
theorem new_val (h : KnS C g k X) {e : Ex} {v : Expr} (ok : okE C X.env.scope e v = true) (hn : newT e = true) : PE X v (tN X.K (ev g e)) := by
  cases e <;> first | (cases hn; done) | skip
  · unfold okE at ok
    split at ok
    · simp only [Bool.and_eq_true, decide_eq_true_eq] at ok
      exact lst_new (main_L C g k _ X _ h.kn ok.2) ok.1
    · cases ok
  · exact (main_C C g k h.kn ok rfl).v
  · exact (main_C C g k h.kn ok rfl).v
theorem asg_new (h : KnS C g k X) {e : Ex} {v : Expr} {i : Nat} {x : Str} {p sp : Pos} (hn : NmOk X i x) (ok : okE C X.env.scope e v = true) (ht : newT e = true) : PS X (.Assign [.Name x p] v sp) (tAsg (tN X.K (ev g e)) (gName i)) := by
  rcases swaps_cases h ok x p sp.line with hs | ⟨hc, hl, hs⟩
  · exact ps_set h.nd hn.1 hn.2.1 (new_val h ok ht) hs hn.2.2
  · exact (main_C C g k h.kn ok hc).s i x p sp hn.1 hl hs
theorem swap_none (h : KnS C g k X) {ts vs : List Expr} {kt k2 : Nat} {pt pt2 : Pos} (q : ((swNames X.env.scope ((ts.head?.map (·.pos.line)).getD 0) ts).length != ts.length || vs.all (foldedForSure 8)) = true) :
    swappedStores [.Tuple ts kt pt] (.Tuple vs k2 pt2) X.env = pure none := by
  unfold swappedStores
  simp only [bind_pure_comp, pure_bind]
  split
  · rfl
  · split
    · rfl
    · rw [Bool.or_eq_true] at q
      rcases q with q | q
      · have q2 : ((swNames X.env.scope ((ts.head?.map (·.pos.line)).getD 0) ts).length != ts.length || (swNames X.env.scope ((ts.head?.map (·.pos.line)).getD 0) ts).eraseDups.length != (swNames X.env.scope ((ts.head?.map (·.pos.line)).getD 0) ts).length) = true := by rw [q, Bool.true_or]
        exact if_pos q2
      · split
        · rfl
        · first | rfl | rw [if_pos q]
theorem swap_two (h : KnS C g k X) {x y : Str} {px py pt pt2 : Pos} {kt k2 : Nat} {a b : Expr} (ha : tame a = true) (hb : tame b = true) (ok : swapOk X.env.scope x y px py [a, b] = true) :
    swappedStores [.Tuple [.Name x px, .Name y py] kt pt] (.Tuple [a, b] k2 pt2) X.env = pure (some [x, y]) ∧ X.env.scope.names.lookup x = some .local ∧ X.env.scope.names.lookup y = some .local ∧ x ≠ y := by
  unfold swapOk at ok
  simp only [Bool.and_eq_true, Bool.not_eq_true', beq_eq_false_iff_ne, ne_eq, beq_iff_eq] at ok
  obtain ⟨⟨⟨⟨⟨⟨h1, h2⟩, h3⟩, h4⟩, h5⟩, h6⟩, h7⟩ := ok
  have l1 : X.env.scope.names.lookup x = some .local := by
    unfold isLocal at h1
    split at h1
    · assumption
    · cases h1
  have l2 : X.env.scope.names.lookup y = some .local := by
    unfold isLocal at h2
    split at h2
    · assumption
    · cases h2
  refine ⟨?_, l1, l2, h4⟩
  have k1 : X.env.kindOf x = some .local := l1
  have k2 : X.env.kindOf y = some .local := l2
  have e1 : [x, y].eraseDups.length = 2 := by
    have : (y == x) = false := beq_eq_false_iff_ne.mpr fun z => h4 z.symm
    simp [List.eraseDups_cons, this]
  unfold swappedStores
  simp [h.blk, k1, k2, h3, h6, h7, Expr.pos, e1]
  rintro (q | q)
  · cases a <;> first | (cases q; done) | (cases ha; done)
  · cases b <;> first | (cases q; done) | (cases hb; done)
end
end Mi

set_option linter.all false
set_option maxRecDepth 100000
set_option maxHeartbeats 8000000
/-! Mi17: every statement. -/
namespace Mi
open PySem PySem.Spec PyProof.Rows L2
section
variable {C : Cc} {g : Mi.Env0} {k : Nat} {X : Cx}
theorem tgL_of (h : KnS C g k X) : ∀ {is : List Nat} {ts : List Expr}, is.length = ts.length → ((is.zip ts).all fun p => match p.2 with | .Name x _ => slotB C p.1 x && locB X.env.scope x && nmOk x | _ => false) = true → TgL X is ts
  | [], [], _, _ => trivial
  | i :: is, t :: ts, hl, q => by
    rw [List.zip_cons_cons, List.all_cons, Bool.and_eq_true] at q
    obtain ⟨h1, h2⟩ := q
    split at h1
    · rename_i x q e
      have e : t = .Name x q := e
      subst e
      exact ⟨h.nm h1, tgL_of h (by simpa using hl) h2⟩
    · cases h1
  | [], _ :: _, hl, _ => by cases hl
  | _ :: _, [], hl, _ => by cases hl
theorem tg_of (h : KnS C g k X) {t : Tgt} {e : Expr} (q : okT C X.env.scope t e = true) : TgOk X t e := by
  unfold okT at q
  split at q
  · exact h.nm q
  · simp only [Bool.and_eq_true, decide_eq_true_eq] at q
    exact tgL_of h q.1 q.2
  · cases q
theorem var_of (h : KnS C g k X) {i : Nat} {x : Str} {p : Pos} (h1 : slotB C i x = true) (h2 : visB X.env.scope x = true) (h3 : nmOk x = true) : PE X (.Name x p) (tVar i) := pe_var (by rw [h.kn.N]; exact slot_of h1) (vis_of h2) (nm_of h3).1 (nm_of h3).2
theorem cst_pe {c : Const} {j : Nat} {p : Pos} (h : okC c = true) : ∃ v, PE X (.Constant c j p) (tC v) := by
  cases c <;> first | (cases h; done) | exact ⟨_, pe_non⟩ | exact ⟨_, pe_bl⟩ | exact ⟨_, pe_int⟩ | exact ⟨_, pe_str⟩
theorem sw_tup {t : Expr} {v : Expr} {line : Nat} {env : Env} (h : ∀ n p, t ≠ .Name n p) : swapsWithSole [t] v line env = pure false := by
  unfold swapsWithSole swapsWith
  cases v <;> first | rfl | (cases t <;> first | rfl | exact absurd rfl (h _ _))
theorem stores_none {t : Expr} {v : Expr} {env : Env} (h : tupV v = false) : swappedStores [t] v env = pure none := by
  cases v <;> first | (cases h; done) | (cases t <;> rfl)
theorem sp_of (h : KnS C g k X) {e : Ex} {path : List Nat} {o : Expr} (q : okSp C X.env.scope e path o = true) : ∃ f es, e = .call f es ∧ PE X o (tSp1 X.K g f es path) ∧ noCall0 o = true := by
  unfold okSp at q
  split at q
  · rename_i f es
    refine ⟨f, es, rfl, ?_⟩
    split at q
    · split at q
      · simp only [Bool.and_eq_true, decide_eq_true_eq, Bool.not_eq_true'] at q
        obtain ⟨⟨⟨h1, h2⟩, h3⟩, h4⟩ := q
        rename_i x p as pos
        have L := main_L C g k es X _ h.kn h3
        cases as with
        | nil => cases h4
        | cons a r => exact ⟨sp_nil (f_sc h.kn h1 h2 L.a (tame_star (L.tm a (by simp))) (by
            have := L.pl pos
            rw [tame_star (L.tm a (by simp))] at this
            simpa [backTo] using this)), rfl⟩
      · cases q
    · split at q
      · simp only [Bool.and_eq_true, decide_eq_true_eq, Bool.not_eq_true'] at q
        obtain ⟨⟨⟨⟨h0, h1⟩, h2⟩, h3⟩, h4⟩ := q
        subst h0
        rename_i x p as pos j p2 p3
        have L := main_L C g k es X _ h.kn h3
        cases as with
        | nil => cases h4
        | cons a r => exact ⟨sp_one (f_sc h.kn h1 h2 L.a (tame_star (L.tm a (by simp))) (by
            have := L.pl pos
            rw [tame_star (L.tm a (by simp))] at this
            simpa [backTo] using this)), rfl⟩
      · cases q
    · cases q
  · cases q
theorem par_or {r : List Slot} {i j : Nat} (hij : i ≠ j) {d1 d2 : D} : ownAll (setAll r [i, j] [d1, d2]) [i] = none ∨ ∃ l, d1 = .lst l ∧ ownAll (setAll r [i, j] [d1, d2]) [i] = some ((r.set i (.own l)).set j (.val d2)) := by
  have e : setAll r [i, j] [d1, d2] = (r.set i (.val d1)).set j (.val d2) := rfl
  rw [e]
  simp only [ownAll]
  rw [List.getElem?_set_ne (Ne.symm hij)]
  by_cases hi : i < r.length
  · rw [List.getElem?_set_self hi]
    cases d1 <;> first | exact .inl rfl | skip
    refine .inr ⟨_, rfl, ?_⟩
    dsimp only
    rw [List.set_comm _ _ (Ne.symm hij), List.set_set]
  · rw [List.getElem?_eq_none (by rw [List.length_set]; omega)]
    exact .inl rfl
theorem par_two (h : KnS C g k X) {n : Nat} {is : List Nat} {es : Exs} {own : List Nat} {ts vs : List Expr} {kt k2 : Nat} {pt pt2 pos : Pos} (ok : parB C X.env.scope is es own ts vs = true) : zS X (.Assign [.Tuple ts kt pt] (.Tuple vs k2 pt2) pos) (evS g n (.par is es own)) := by
    unfold parB at ok
    split at ok
    · rename_i x px y py
      rw [Bool.and_eq_true] at ok
      obtain ⟨o1, o2⟩ := ok
      split at o2
      · rename_i i j
        simp only [Bool.and_eq_true] at o2
        obtain ⟨⟨⟨n1, n2⟩, o3⟩, o4⟩ := o2
        have hl : vs.length = 2 := by
          unfold swapOk at o1
          simp only [Bool.and_eq_true, decide_eq_true_eq] at o1
          exact o1.1.1.2
        rcases vs with _ | ⟨a, _ | ⟨b, _ | ⟨_, _⟩⟩⟩ <;> first | (cases hl; done) | skip
        have L := main_L C g k es X _ h.kn o3
        obtain ⟨sw, lx, ly, hxy⟩ := swap_two (kt := kt) (k2 := k2) (pt := pt) (pt2 := pt2) h (L.tm a (by simp)) (L.tm b (by simp)) o1
        have N1 := h.nm n1
        have N2 := h.nm n2
        have hij : i ≠ j := fun z => by
          subst z
          have := N1.1.symm.trans N2.1
          exact hxy (Option.some.inj this)
        split at o4
        · exact zs_of (z_par h.kn.calm h.nd N1.1 N2.1 hij lx ly L.a sw) fun r m => by simp only [evS, ownAll]
        · rw [Bool.and_eq_true, decide_eq_true_eq] at o4
          obtain ⟨rfl, o5⟩ := o4
          rcases es with _ | ⟨e1, _ | ⟨e2, _ | ⟨_, _⟩⟩⟩
          · cases o5
          · simp [okEs] at o3
          · simp only [okEs, Bool.and_eq_true] at o3
            have q2 := main_E C g k e2 X b h.kn o3.2.1
            refine ps_imp (z_parO h.kn.calm h.nd N1.1 N2.1 hij lx ly (new_val h o3.1 o5) q2.v (tame_star (L.tm a (by simp))) (tame_star (L.tm b (by simp))) sw) fun D σ H ⟨M, O, G, r, m, R, w⟩ => ⟨M, O, G, r, m, R, ?_⟩
            simp only [evS, evs] at w
            dsimp only
            cases e1v : ev g e1 r m with
            | ex _ _ _ =>
              rw [e1v] at w
              exact w
            | bad =>
              rw [e1v] at w
              exact w
            | ok d1 m1 =>
              rw [e1v] at w
              cases e2v : ev g e2 r m1 with
              | ex _ _ _ =>
                dsimp only [Res.bind] at w ⊢
                rw [e2v] at w ⊢
                exact w
              | bad =>
                dsimp only [Res.bind] at w ⊢
                rw [e2v] at w ⊢
                exact w
              | ok d2 m2 =>
                dsimp only [Res.bind] at w ⊢
                rw [e2v] at w ⊢
                dsimp only [Res.st] at w ⊢
                rw [if_pos (by rfl)] at w
                rcases par_or (r := r) hij (d1 := d1) (d2 := d2) with e | ⟨l, rfl, e⟩
                · rw [e] at w
                  exact False.elim w
                · rw [e] at w
                  exact w
          · simp [okEs] at o3
        · cases o4
      · cases o2
    · cases ok
theorem par_none (h : KnS C g k X) {n : Nat} {is : List Nat} {es : Exs} {own : List Nat} {ts vs : List Expr} {kt k2 : Nat} {pt pt2 pos : Pos} (ok : parN C X.env.scope is es own ts vs = true) : zS X (.Assign [.Tuple ts kt pt] (.Tuple vs k2 pt2) pos) (evS g n (.par is es own)) := by
  unfold parN at ok
  simp only [Bool.and_eq_true, decide_eq_true_eq, List.isEmpty_iff] at ok
  obtain ⟨⟨⟨⟨rfl, o1⟩, o2⟩, o3⟩, o4⟩ := ok
  have L := main_L C g k es X _ h.kn o4
  refine zs_of (z_unp h.kn.calm h.nd (tg_of h o2) (f_tup (k := k2) (pos := pt2) L.a fun r m ds m' e => by rw [evs_len es r m ds m' e]; exact o3) (sw_tup fun n p z => nomatch z) (swap_none h o1)) fun r m => ?_
  simp only [evS]
  cases evs g es r m with
  | ok ds m1 => rfl
  | ex _ _ _ => rfl
  | bad => rfl
end

mutual
theorem main_S (C : Cc) (g : Mi.Env0) (k n : Nat) : ∀ (s : Stm) (X : Cx) (ast : Stmt), KnS C g k X → okS C X.env.scope s ast = true → zS X ast (evS g n s)
  | .set i e, X, ast, h, ok => by
    unfold okS at ok
    split at ok
    · simp only [Bool.and_eq_true] at ok
      exact zs_of (z_set (asg_val h (h.nm ok.1) ok.2)) fun r m => by simp only [evS]
    · cases ok
  | .seto i e, X, ast, h, ok => by
    unfold okS at ok
    split at ok
    · simp only [Bool.and_eq_true] at ok
      exact zs_of (z_seto (asg_new h (h.nm ok.1.1) ok.1.2 ok.2)) fun r m => by simp only [evS] <;> rfl
    · cases ok
  | .par is es own, X, ast, h, ok => by
    unfold okS at ok
    split at ok
    · rw [Bool.or_eq_true] at ok
      exact ok.elim (par_two h) (par_none h)
    · cases ok
  | .unp is e, X, ast, h, ok => by
    unfold okS at ok
    split at ok
    · simp only [Bool.and_eq_true, Bool.not_eq_true'] at ok
      obtain ⟨⟨o1, o2⟩, o3⟩ := ok
      exact zs_of (z_unp h.kn.calm h.nd (tg_of h o1) (main_E C g k e X _ h.kn o3).v (sw_tup fun n p z => nomatch z) (stores_none o2)) fun r m => by simp only [evS] <;> rfl
    · cases ok
  | .app i e, X, ast, h, ok => by
    unfold okS at ok
    split at ok
    · simp only [Bool.and_eq_true, decide_eq_true_eq] at ok
      obtain ⟨⟨⟨⟨⟨rfl, o1⟩, o2⟩, o3⟩, o4⟩, o5⟩ := ok
      have q := main_E C g k e X _ h.kn o5
      exact zs_of (z_app (var_of h o1 o2 o3) q.v rfl o4 (tame_star q.tm)) fun r m => by simp only [evS] <;> rfl
    · cases ok
  | .ext _ _, X, ast, h, ok => by
    unfold okS at ok
    cases ok
  | .seti _ _ _, X, ast, h, ok => by
    unfold okS at ok
    cases ok
  | .setr i c e, X, ast, h, ok => by
    unfold okS at ok
    split at ok
    · simp only [Bool.and_eq_true, decide_eq_true_eq] at ok
      obtain ⟨⟨⟨⟨rfl, o1⟩, o2⟩, o3⟩, o4⟩ := ok
      have q := main_E C g k e X _ h.kn o4
      exact zs_of (z_setr (var_of h o1 o2 o3) pe_int (fun l u t q z => nomatch z) q.v (by cases ‹Expr› <;> rfl)) fun r m => by simp only [evS] <;> rfl
    · cases ok
  | .setrp i c j e, X, ast, h, ok => by
    unfold okS at ok
    split at ok
    · simp only [Bool.and_eq_true, decide_eq_true_eq, Bool.not_eq_true'] at ok
      obtain ⟨⟨⟨⟨⟨⟨rfl, o1⟩, o2⟩, o3⟩, o4⟩, o5⟩, o6⟩ := ok
      have q := main_E C g k e X _ h.kn o6
      exact zs_of (z_setrp h.kn.calm h.nd (var_of h o1 o2 o3) pe_int (fun l u t q z => nomatch z) (h.nm o4) q.v (stores_none o5)) fun r m => by simp only [evS] <;> rfl
    · cases ok
  | .drop e, X, ast, h, ok => by
    unfold okS at ok
    split at ok
    · simp only [Bool.and_eq_true, Bool.not_eq_true'] at ok
      have q := main_E C g k e X _ h.kn ok.2
      refine zs_of (z_drop q.v ?_) fun r m => by simp only [evS]
      rename_i v _
      have o := ok
      cases v <;> first | rfl | skip
      · cases o.1
      · have z := o.2
        unfold okE at z
        cases e <;> cases z
      · have z := o.2
        unfold okE at z
        cases e <;> cases z
    · cases ok
  | .spoil e path c, X, ast, h, ok => by
    unfold okS at ok
    split at ok
    · simp only [Bool.and_eq_true, decide_eq_true_eq] at ok
      obtain ⟨⟨⟨⟨rfl, rfl⟩, o1⟩, o2⟩, o3⟩ := ok
      obtain ⟨f, es, rfl, hp, hb⟩ := sp_of h o3
      obtain ⟨cv, hc⟩ := cst_pe (X := X) o1
      exact zs_of (z_spoil (cc := .none) hp hc (base_ok hb) o2 rfl) fun r m => by simp only [evS] <;> rfl
    · cases ok
  | .cond c a b, X, ast, h, ok => by
    unfold okS at ok
    split at ok
    · simp only [Bool.and_eq_true] at ok
      exact zs_of (z_cond (main_E C g k c X _ h.kn ok.1.1).t (main_Ss C g k n a X _ h ok.1.2) (main_Ss C g k n b X _ h ok.2)) fun r m => by simp only [evS]
    · cases ok
  | .for_ tg ik its b, X, ast, h, ok => by
    unfold okS at ok
    split at ok
    · simp only [Bool.and_eq_true] at ok
      obtain ⟨⟨⟨o1, o2⟩, o3⟩, o4⟩ := ok
      have qi := it_oks h.kn (its := its) (fun as q => main_L C g k its X as h.kn q) o3 (fun z => by rcases z with rfl | rfl <;> exact o2) (main_1 C g k its X h.kn)
      exact zs_of (z_for h.po h.kn.calm h.nd qi.1 (tg_of h o1) (main_Ss C g k n b X _ h o4) qi.2) fun r m => by simp only [evS] <;> rfl
    · cases ok
  | .while_ c b, X, ast, h, ok => by
    unfold okS at ok
    split at ok
    · simp only [Bool.and_eq_true] at ok
      exact zs_of (z_while h.po (main_E C g k c X _ h.kn ok.1).t (main_Ss C g k n b X _ h ok.2) n) fun r m => by simp only [evS]
    · cases ok
  | .ret e, X, ast, h, ok => by
    unfold okS at ok
    split at ok
    · exact zs_of (z_ret (main_E C g k e X _ h.kn ok).v) fun r m => by simp only [evS]
    · cases ok
  | .retr es, X, ast, h, ok => by
    unfold okS at ok
    split at ok
    · simp only [Bool.and_eq_true, decide_eq_true_eq] at ok
      exact zs_of (z_retr (main_L C g k es X _ h.kn ok.2).a fun r m ds m' e => by rw [evs_len es r m ds m' e]; exact ok.1) fun r m => by simp only [evS]
    · cases ok
  | .retN, X, ast, h, ok => by
    unfold okS at ok
    split at ok
    · exact zs_of z_retN fun r m => by simp only [evS]
    · cases ok
  | .raise c es, X, ast, h, ok => z_false fun r m => by
    simp only [evS]
    cases evs g es r m with
    | ok ds m1 => exact .inl ⟨_, _, _, rfl⟩
    | ex a b c => exact .inl ⟨_, _, _, rfl⟩
    | bad => exact .inr rfl
  | .frz _, X, ast, h, ok => by
    unfold okS at ok
    cases ok
theorem main_Ss (C : Cc) (g : Mi.Env0) (k n : Nat) : ∀ (s : Stms) (X : Cx) (ast : List Stmt), KnS C g k X → okSs C X.env.scope s ast = true → zSs X ast (evSs g n s)
  | .nil, X, ast, h, ok => by
    unfold okSs at ok
    split at ok
    · exact zss_of z_nil fun r m => by simp only [evSs]
    · cases ok
  | .cons s ss, X, ast, h, ok => by
    unfold okSs at ok
    cases hf : frzT s with
    | true =>
      rw [hf, if_pos rfl] at ok
      have q := main_Ss C g k n ss X ast h ok
      cases s <;> first | (cases hf; done) | skip
      rename_i i
      refine pss_imp q fun D σ H ⟨M, O, G, r, m, R, w⟩ => ?_
      simp only [evSs, evS] at w
      cases e : r[i]? with
      | none =>
        rw [e] at w
        exact False.elim w
      | some sl =>
        rw [e] at w
        cases sl with
        | un => exact False.elim w
        | val _ => exact False.elim w
        | own ds => exact ⟨M, offAt O i, G, _, m, R.frz e, w.grow ⟨fun a o e1 e2 e3 => ⟨e1, e2, fun j z => by
            unfold offAt at z
            split at z
            · cases z
            · exact e3 j z⟩, fun _ _ z => z⟩⟩
    | false =>
      rw [hf, if_neg Bool.false_ne_true] at ok
      split at ok
      · rw [Bool.and_eq_true] at ok
        exact zss_of (z_cons (main_S C g k n s X _ h ok.1) (main_Ss C g k n ss X _ h ok.2)) fun r m => by simp only [evSs] <;> rfl
      · cases ok
end
end Mi

set_option linter.all false
set_option maxRecDepth 100000
set_option maxHeartbeats 8000000
/-! Mi18: a def runs as its tree says; the law's end. -/
namespace Mi
open PySem PySem.Spec PyProof.Rows L2

theorem GrowS.plain {G G' : List Addr} {H H' : Hp} {O' : Nat → Option Addr} (g : GrowS (fun _ => none) G H O' G' H') : Grow G H G' H' :=
  ⟨fun a o h n => let ⟨h1, h2, _⟩ := g.keep a o h n (fun _ z => nomatch z); ⟨h1, h2⟩, g.pre⟩
section
variable {K : PySem.W.Frag} {M : Addr → Prop} {O : Nat → Option Addr} {G : List Addr} {σ : L2.St} {H : Hp} {r : List Slot} {m : Mu}
theorem bad_flat {a : Addr} (h : BadF M G a) : Bad M O G a := h.elim .inl fun z => z.elim (fun z => .inr (.inl z)) fun ⟨_, z⟩ => nomatch z
/-- at a def's end its own lists are nobody's -/
theorem Rep.flat (R : Rep K M O G σ H r m) : RepF K M G H m where
  dom := R.dom
  len := rfl
  val := fun i d h => by simp at h
  own := fun i d h => by simp at h
  ownU := fun i j a h => by cases h
  ownH := fun i a h => by cases h
  st := fun n ds e => let ⟨a, xs, h1, h2, h3⟩ := R.st n ds e; ⟨a, xs, h1, h2, h3.mono fun a => bad_flat⟩
  stl := R.stl
  stU := R.stU
  stM := R.stM
/-- at a def's start -/
theorem Rep.start {N : List Str} {ds : List D} {vs : List V} {fn : Fn} (F : RepF K M G H m) (p : Rps K (BadF M G) G H ds vs) (h1 : fn.many = N.length) (h2 : fn.pars = ds.length) : Rep K M (fun _ => none) G (L2.start N vs) H (startS fn ds) m where
  dom := F.dom
  len := by
    unfold startS L2.start
    rw [List.length_append, List.length_append, List.length_map, List.length_map, List.length_replicate, List.length_replicate, p.length, h1, h2, p.length]
  val := fun i d e => by
    unfold startS at e
    unfold L2.start
    by_cases hi : i < ds.length
    · rw [List.getElem?_append_left (by rw [List.length_map]; exact hi), List.getElem?_map, List.getElem?_eq_getElem hi] at e
      cases e
      obtain ⟨v, q1, q2⟩ := p.get (List.getElem?_eq_getElem hi)
      have hv : i < vs.length := (List.getElem?_eq_some_iff.mp q1).1
      refine ⟨v, ?_, q2⟩
      rw [List.getElem?_append_left (by rw [List.length_map]; exact hv), List.getElem?_map, q1]
      rfl
    · rw [List.getElem?_append_right (by rw [List.length_map]; omega)] at e
      rw [List.getElem?_replicate] at e
      split at e <;> cases e
  own := fun i d e => by
    unfold startS at e
    by_cases hi : i < ds.length
    · rw [List.getElem?_append_left (by rw [List.length_map]; exact hi), List.getElem?_map, List.getElem?_eq_getElem hi] at e
      cases e
    · rw [List.getElem?_append_right (by rw [List.length_map]; omega)] at e
      rw [List.getElem?_replicate] at e
      split at e <;> cases e
  ownU := fun i j a h => by cases h
  ownH := fun i a h => by cases h
  st := F.st
  stl := F.stl
  stU := F.stU
  stM := F.stM
end
/-- what is known of a text, at a depth of calls -/
structure Kb (P : Program) (w : World) (K : PySem.W.Frag) (mg : Str → Option Value) (base : Heap) (C : Cc) (g : Mi.Env0) (k : Nat) : Prop where
  nd : C.N.Nodup
  blt : ∀ x ∈ bltNames, mg x = none
  con : ∀ (i : Nat) (x : Str) (d : D), C.gls[i]? = some x → g.consts[i]? = some d → ∃ u v, mg x = some u ∧ RelV v u ∧ ∀ B G H, Rp K B G H d v
  fn : ∀ (f : Nat) (x : Str), C.fns[f]? = some x → ∃ fa fd ps, FOk P w K mg base k (kwsOf C f) x (g.call f) fa fd ps
theorem fok_of {P : Program} {w : World} {K : PySem.W.Frag} {mg : Str → Option Value} {base : Heap} {x qual : Str} {st : Stmt} {f : Addr} {fd : FuncData} (F : Fun K x qual st f fd) {ps : List Str} {C : Cc} {fs : List Fn} {consts : List D} {n k i : Nat} {fn : Fn} {kws : List (Nat × List Str × List Nat)}
    (S : FnScope C.N ps (defScope st)) (hmg : mg x = some (.ref f)) (hfs : fs[i]? = some fn) (hp : fn.pars = ps.length) (hm : fn.many = C.N.length) (ok : okSs C (defScope st) fn.body (defBody st) = true)
    (hpos : ∀ us : List Value, us.length = ps.length → bindArgs fd ⟨us, []⟩ = pure (ps.zip us))
    (hkw : ∀ q ∈ kws, ∀ us ws : List Value, us.length = q.1 → ws.length = q.2.1.length → (permL (us ++ ws) q.2.2).length = ps.length → bindArgs fd ⟨us, q.2.1.zip ws⟩ = pure (ps.zip (permL (us ++ ws) q.2.2)))
    (kb : Kb P w K mg base C ⟨consts, callF fs consts n k⟩ k) : FOk P w K mg base (k + 1) kws x (callF fs consts n (k + 1) i) f fd ps := by
  have hlen : ∀ ds m, callF fs consts n (k + 1) i ds m ≠ .bad → ds.length = ps.length := fun ds m h => by
    simp only [callF, hfs] at h
    by_cases hl : ds.length = fn.pars
    · rw [hl, hp]
    · rw [if_neg hl] at h
      exact absurd rfl h
  refine ⟨hmg, F.kp, hpos, hkw, hlen, fun A outer s H args us vs ds G m M Q hr hg e0 hb rv RF p wt => ?_⟩
  obtain ⟨oc, od, kV, doc, pm, an, cdv, ct, osl, rfl, lk, hcd⟩ := F.ex
  have hl : ds.length = ps.length := hlen ds m fun z => by
    rw [z] at wt
    exact wt
  have hv : vs.length = ps.length := by rw [← p.length, hl]
  refine LamX.run_ofS lk hcd S hr e0 hb rv hv fun hr2 => ?_
  have kn : KnS C ⟨consts, callF fs consts n k⟩ k (cxOf CX0 P w K mg base C.N qual (defScope st) f cdv A outer s H E0) :=
    ⟨⟨rfl, kb.nd, rfl, hr2, hg, kb.blt, kb.con, kb.fn⟩, fun _ => rfl, PassesOwn.leaving, S.kind⟩
  refine ⟨_, main_Ss C ⟨consts, callF fs consts n k⟩ k n fn.body _ _ kn ok, M, fun _ => none, G, startS fn ds, m, RF.start p hm (by rw [hp, hl]), ?_⟩
  have ec : callF fs consts n (k + 1) i ds m = endF (evSs ⟨consts, callF fs consts n k⟩ n fn.body (startS fn ds) m) := by
    simp only [callF, hfs]
    rw [if_pos (by rw [hl, hp])]
  rw [ec] at wt
  cases e : evSs ⟨consts, callF fs consts n k⟩ n fn.body (startS fn ds) m with
  | nx r1 m1 =>
    rw [e] at wt
    exact fun O' G' σ' H' gg R' => wt .non H' G' gg.plain R'.flat .non
  | rt d m1 =>
    rw [e] at wt
    exact fun v r' σ' O' G' H' gg R' pv => wt v H' G' gg.plain R'.flat (pv.mono fun a => bad_flat)
  | ex _ _ _ =>
    rw [e] at wt
    exact wt
  | bad =>
    rw [e] at wt
    exact wt
/-- a def that is not followed -/
theorem fok_bad {P : Program} {w : World} {K : PySem.W.Frag} {mg : Str → Option Value} {base : Heap} {x qual : Str} {st : Stmt} {f : Addr} {fd : FuncData} (F : Fun K x qual st f fd) {kws : List (Nat × List Str × List Nat)} {cal : List D → Mu → Res D} {k : Nat} {ps : List Str}
    (hmg : mg x = some (.ref f)) (hpos : ∀ us : List Value, us.length = ps.length → bindArgs fd ⟨us, []⟩ = pure (ps.zip us))
    (hkw : ∀ q ∈ kws, ∀ us ws : List Value, us.length = q.1 → ws.length = q.2.1.length → (permL (us ++ ws) q.2.2).length = ps.length → bindArgs fd ⟨us, q.2.1.zip ws⟩ = pure (ps.zip (permL (us ++ ws) q.2.2)))
    (hb : ∀ ds m, cal ds m = .bad) : FOk P w K mg base k kws x cal f fd ps :=
  ⟨hmg, F.kp, hpos, hkw, fun ds m h => absurd (hb ds m) h, fun A outer s H args us vs ds G m M Q hr hg e0 hbt rv RF p wt => by
    rw [hb] at wt
    exact False.elim wt⟩

/-! ### the law itself -/
section
variable {P : Program} {w : World} {K : PySem.W.Frag} {mg mb : Str → Option Value} {a fa : Addr} {s : Shared} {vs : List Value} {ns : List Int}
/-- nothing stands in the small heap but the script (or nothing at all) -/
structure Lone (P : Program) (w : World) (K : PySem.W.Frag) (a : Addr) (ns : List Int) (s : Shared) (H : Hp) : Prop where
  only : ∀ b, H b = none ∨ b = a ∧ K.lookup a = none ∧ ∃ o, H b = some (.frz o (.lst (ns.map V.int)))
  ok : HOk P w H s.heap
  sc : ScL K H a (ns.map V.int)
  lst : ∀ o, H a = some o → ∃ us, s.heap.get? a = some { cls := .type "list", data := .seq us }
theorem Lone.at (L : Lone P w K a ns s H) {b : Addr} {o : Obj} (hk : K.lookup b = some o) : H b = none := by
  rcases L.only b with z | ⟨rfl, z, _⟩
  · exact z
  · rw [z] at hk
    cases hk
theorem Lone.dict (L : Lone P w K a ns s H) {b : Addr} {o : Obj} {es : Array DictEntry} {ep : Nat} (h : s.heap.get? b = some o) (d : o.data = .dict es ep) : H b = none := by
  cases q : H b with
  | none => rfl
  | some u =>
    rcases L.only b with z | ⟨rfl, _, _⟩
    · rw [q] at z
      cases z
    · obtain ⟨us, e⟩ := L.lst u q
      rw [h] at e
      cases e
      cases d
theorem Lone.dir (L : Lone P w K a ns s H) {b : Addr} {mm : Str → Option Value} (h : s.heap.Ns b mm) : (hidT s.heap H).Ns b mm := by
  obtain ⟨o, es, ep, e, d, r⟩ := h
  exact ⟨o, es, ep, hidT_get e (L.dict e d), d, r⟩
theorem Lone.env (L : Lone P w K a ns s H) (KX : K.In s.heap) (hns : s.heap.Ns mainGlobals mg) (hb : s.heap.Ns builtinsNs mb) (hbb : ∀ x : Str, x ≠ "__name__" → mb x = bootBuiltins x) (hlim : s.heap.NoLimit) (hg : s.gens = #[]) :
    L2.Env0 P w K mg (hidT s.heap H) callerA [] s H := by
  have hK : K.In (hidT s.heap H) := fun b o e => hidT_get (KX b o e) (L.at e)
  have hN : (hidT s.heap H).NoLimit := by
    obtain ⟨mc, h1, h2⟩ := hlim
    exact ⟨mc, L.dir h1, h2⟩
  exact {
    frames := rfl
    mod := ⟨hK, L.dir hns, ⟨mb, L.dir hb, hbb⟩, hN⟩
    bs := fun b o e => of_hidT e
    bsz := by rw [hidT_size]; exact Nat.le_refl _
    funs := trivial
    frf := fun b z => by cases z
    hok := L.ok
    bare := .of_eq hg }
theorem Lone.old (L : Lone P w K a ns s H) {H' : Hp} {s' : Shared} (un : Un (frs []) [] H H' s.heap s'.heap) (ok : HOk P w H' s'.heap) : OldK s.heap s'.heap := by
  refine OldK.of_keep fun b o e => ?_
  rcases L.only b with z | ⟨_, _, o2, z⟩
  · exact un.keep b o e z (fun y => by cases y) (fun y => by cases y)
  · have z' := un.frzs b o2 _ z
    have p1 := (L.ok b _ z).1
    have p2 := (ok b _ z').1
    rw [e] at p1
    cases p1
    exact p2
theorem Lone.make (KX : K.In s.heap) (ha : s.heap.get? a = some { cls := .type "list", data := .seq vs.toArray }) (hi : IntsAre vs ns) (hl : ns.length ≤ sizeLine) : ∃ H : Hp, Lone P w K a ns s H := by
  have rv := vals_ints hi
  have le := hi.length
  cases hk : K.lookup a with
  | some o =>
    have e := KX a o hk
    rw [ha] at e
    cases e
    refine ⟨fun _ => none, fun b => .inl rfl, fun b u z => (by cases z), .inr ⟨_, vs.toArray, _, hk, rfl, rfl, rfl, ?_, ?_⟩, fun o z => (by cases z)⟩
    · rw [List.size_toArray, le]
      exact hl
    · rw [List.toList_toArray]
      exact rv
  | none =>
    have here : (fun b => if b = a then some (HO.frz { cls := .type "list", data := .seq vs.toArray } (.lst (ns.map V.int))) else none : Hp) a = some (.frz { cls := .type "list", data := .seq vs.toArray } (.lst (ns.map V.int))) := if_pos rfl
    refine ⟨fun b => if b = a then some (.frz { cls := .type "list", data := .seq vs.toArray } (.lst (ns.map V.int))) else none, fun b => ?_, fun b u z => ?_, .inl ⟨_, here⟩, fun o z => ⟨_, ha⟩⟩
    · by_cases q : b = a
      · subst q
        exact .inr ⟨rfl, hk, _, here⟩
      · exact .inl (if_neg q)
    · by_cases q : b = a
      · subst q
        have z := here.symm.trans z
        cases z
        refine ⟨ha, ?_, vs, _, rv, ha⟩
        rw [List.length_map]
        exact hl
      · have z := (if_neg q).symm.trans z
        cases z
/-- the law's call -/
theorem law_run2 (KX : K.In s.heap) (hns : s.heap.Ns mainGlobals mg) (hb : s.heap.Ns builtinsNs mb) (hbb : ∀ x : Str, x ≠ "__name__" → mb x = bootBuiltins x) (hlim : s.heap.NoLimit) (hg : s.gens = #[])
    (ha : s.heap.get? a = some { cls := .type "list", data := .seq vs.toArray }) (hi : IntsAre vs ns) (hl : ns.length ≤ sizeLine) {k : Nat} (hr : Room k callerA) {kws : List (Nat × List Str × List Nat)} {x : Str} {cal : List D → Mu → Res D}
    (F : ∀ base : Heap, K.In base → base.Ns mainGlobals mg → ∃ fd ps, FOk P w K mg base k kws x cal fa fd ps) {m' : Mu} (hres : cal [.scr ns] [] = .ok (.bl true) m') :
    codeAny (model P w) callerA (.call (.ref fa) ⟨[.ref a], []⟩) (fun r s' => r = .ok (.ret (.bool true)) ∧ OldK s.heap s'.heap ∧ s'.os = s.os ∧ AllBare s'.gens) s := by
  obtain ⟨H, L⟩ := Lone.make (P := P) (w := w) KX ha hi hl
  have e0 := L.env KX hns hb hbb hlim hg
  obtain ⟨fd, ps, F0⟩ := F _ e0.mod.kin e0.mod.glob
  have RF : RepF K (fun _ => False) [] H [] :=
    ⟨fun _ z => z.elim, rfl, fun i d h => (by simp at h), fun i d h => (by simp at h), fun i j a h => (by cases h), fun i a h => (by cases h), fun n ds h => (by simp at h), rfl, List.nodup_nil, fun a h => (by cases h)⟩
  have hlen : [D.scr ns].length = ps.length := F0.len _ [] (by rw [hres]; exact fun z => nomatch z)
  refine codeAny_mono (F0.run callerA [] s H ⟨[.ref a], []⟩ [.ref a] [.ref a] [.scr ns] [] [] (fun _ => False) (fun v _ => v = .bl true) hr rfl e0 (.of_eq (F0.pos [.ref a] hlen)) (.cons rfl .nil) RF (.cons (.scr L.sc) .nil) ?_) fun r s' h => ?_
  · rw [hres]
    exact fun v H' G' _ _ p => by
      cases p
      rfl
  · rcases r with e | fl
    · exact False.elim h
    · cases fl <;> first | exact False.elim h | skip
      obtain ⟨v, H', os, bare, un, ok', rv, q⟩ := h
      have q : v = .bl true := q
      subst q
      have ru : _ = Value.bool true := rv
      rw [ru]
      exact ⟨rfl, L.old un ok', os, bare⟩
end
end Mi

set_option linter.all false
set_option maxRecDepth 100000
set_option maxHeartbeats 8000000
/-! Mi19: a whole text. -/
namespace Mi
open PySem PySem.Spec PyProof.Rows L2

/-- what a text is: its trees, its names -/
structure Txt0 where
  fs : List Fn
  dn : List Str
  gn : List Str
  cn : List Str
  kwl : List (Nat × Nat × List Str × List Nat)
  consts : List D
abbrev Txt0.cc (T : Txt0) (N : List Str) : Cc := ⟨N, T.dn, T.gn, T.cn, T.kwl⟩
def badBody : Stms := .cons (.ret (.view 0)) .nil
abbrev PosOk (x : Str) (st : Stmt) (ps : List Str) : Prop := ∀ (kV doc pm : Value) (an : Option Addr) (cdv ct : Value) (us : List Value), us.length = ps.length → bindArgs (PySem.W.fnOf x x (defArgs st) (defBody st) (defScope st) .none kV doc pm an cdv ct) ⟨us, []⟩ = pure (ps.zip us)
abbrev KwOk (x : Str) (st : Stmt) (ps : List Str) (q : Nat × List Str × List Nat) : Prop := ∀ (kV doc pm : Value) (an : Option Addr) (cdv ct : Value) (us ws : List Value), us.length = q.1 → ws.length = q.2.1.length → (permL (us ++ ws) q.2.2).length = ps.length →
  bindArgs (PySem.W.fnOf x x (defArgs st) (defBody st) (defScope st) .none kV doc pm an cdv ct) ⟨us, q.2.1.zip ws⟩ = pure (ps.zip (permL (us ++ ws) q.2.2))
/-- what the text says of a def -/
structure Stat (T : Txt0) (i : Nat) (x : Str) (st : Stmt) (N ps : List Str) : Prop where
  sc : FnScope N ps (defScope st)
  tree : ∃ fn, T.fs[i]? = some fn ∧ fn.pars = ps.length ∧ fn.many = N.length ∧ okSs (T.cc N) (defScope st) fn.body (defBody st) = true
  pos : PosOk x st ps
  kw : ∀ q ∈ kwsOf (T.cc []) i, KwOk x st ps q
/-- .. and what stands behind the top -/
structure DefOk (K : PySem.W.Frag) (mg : Str → Option Value) (T : Txt0) (i : Nat) (x : Str) : Prop where
  ex : ∃ (st : Stmt) (fa : Addr) (fd : FuncData) (N ps : List Str), Stat T i x st N ps ∧ mg x = some (.ref fa) ∧ Fun K x x st fa fd
def AllIx (p : Nat → Str → Prop) : Nat → List Str → Prop
  | _, [] => True
  | i, x :: r => p i x ∧ AllIx p (i + 1) r
theorem allIx_get {p : Nat → Str → Prop} : ∀ {l : List Str} {i j : Nat} {x : Str}, AllIx p i l → l[j]? = some x → p (i + j) x
  | [], _, _, _, _, e => by simp at e
  | y :: r, i, 0, x, h, e => by
    simp at e
    subst e
    exact h.1
  | y :: r, i, j + 1, x, h, e => by
    have := allIx_get (j := j) (x := x) h.2 (by simpa using e)
    rw [show i + (j + 1) = i + 1 + j by omega]
    exact this
abbrev ConOk (K : PySem.W.Frag) (mg : Str → Option Value) (x : Str) (d : D) : Prop := ∃ u v, mg x = some u ∧ RelV v u ∧ ∀ B G H, Rp K B G H d v
def AllCon (K : PySem.W.Frag) (mg : Str → Option Value) : List Str → List D → Prop
  | x :: r, d :: s => ConOk K mg x d ∧ AllCon K mg r s
  | _, _ => True
theorem allCon_get {K : PySem.W.Frag} {mg : Str → Option Value} : ∀ {l : List Str} {ds : List D} {j : Nat} {x : Str} {d : D}, AllCon K mg l ds → l[j]? = some x → ds[j]? = some d → ConOk K mg x d
  | [], _, _, _, _, _, e, _ => by simp at e
  | _ :: _, [], _, _, _, _, _, e => by simp at e
  | y :: r, d' :: s, 0, x, d, h, e1, e2 => by
    simp at e1 e2
    subst e1 e2
    exact h.1
  | y :: r, d' :: s, j + 1, x, d, h, e1, e2 => allCon_get (j := j) h.2 (by simpa using e1) (by simpa using e2)
def AllNone (mg : Str → Option Value) : List Str → Prop
  | [] => True
  | x :: r => mg x = none ∧ AllNone mg r
theorem allNone_get {mg : Str → Option Value} : ∀ {l : List Str} {x : Str}, AllNone mg l → x ∈ l → mg x = none
  | _ :: _, x, h, m => by
    rcases List.mem_cons.mp m with e | e
    · rw [e]
      exact h.1
    · exact allNone_get h.2 e
theorem kwsOf_N {T : Txt0} {N : List Str} {i : Nat} : kwsOf (T.cc N) i = kwsOf (T.cc []) i := rfl
/-- every def, at every depth -/
theorem all_defs {P : Program} {w : World} {K : PySem.W.Frag} {mg : Str → Option Value} {base : Heap} {T : Txt0} {n : Nat} (hd : AllIx (DefOk K mg T) 0 T.dn) (hc : AllCon K mg T.gn T.consts) (hb : AllNone mg bltNames) :
    ∀ (k i : Nat) (x : Str), T.dn[i]? = some x → ∃ fa fd ps, FOk P w K mg base k (kwsOf (T.cc []) i) x (callF T.fs T.consts n k i) fa fd ps := by
  intro k
  induction k with
  | zero =>
    intro i x e
    have e' := allIx_get hd e
    rw [Nat.zero_add] at e'
    obtain ⟨st, fa, fd, N, ps, s, hm, F⟩ := e'.ex
    have pos := s.pos
    have kw := s.kw
    have F2 := F
    obtain ⟨oc, od, kV, doc, pm, an, cdv, ct, osl, rfl, lk, hcd⟩ := F.ex
    exact ⟨fa, _, ps, fok_bad F2 hm (pos kV doc pm an cdv ct) (fun q hq => kw q hq kV doc pm an cdv ct) fun _ _ => rfl⟩
  | succ k ih =>
    intro i x e
    have e' := allIx_get hd e
    rw [Nat.zero_add] at e'
    obtain ⟨st, fa, fd, N, ps, s, hm, F⟩ := e'.ex
    obtain ⟨fn, t1, t2, t3, t4⟩ := s.tree
    have pos := s.pos
    have kw := s.kw
    have F2 := F
    obtain ⟨oc, od, kV, doc, pm, an, cdv, ct, osl, rfl, lk, hcd⟩ := F.ex
    exact ⟨fa, _, ps, fok_of (C := T.cc N) F2 s.sc hm t1 t2 t3 t4 (pos kV doc pm an cdv ct) (fun q hq => kw q hq kV doc pm an cdv ct)
      ⟨s.sc.nd, fun x hx => allNone_get hb hx, fun j y d h1 h2 => allCon_get hc h1 h2, fun j y h => ih j y h⟩⟩
/-- what is needed behind the top -/
structure Behind (K : PySem.W.Frag) (mg : Str → Option Value) (T : Txt0) : Prop where
  defs : AllIx (DefOk K mg T) 0 T.dn
  cons : AllCon K mg T.gn T.consts
  none : AllNone mg bltNames
theorem walk_text {l : PySem.W.OpenLaw} {m k n iL : Nat} {q : Program} {loose : List Str} {XP : (Str → Option Value) → Heap → Prop} {YP : World → Heap → Prop} {d : DefRec} {K : Params → PySem.W.Frag} {T : Txt0}
    (hn : l.most = some m) (hn2 : m ≤ sizeLine) (hdf : d.params.defaults = []) (hr : Room k callerA) (hY : ∀ (w : World) (h : Heap), YP w h → (K w.params).In h) (hL : T.dn[iL]? = some d.name)
    (F : ∀ (w : World) (mg : Str → Option Value) (h : Heap), (K w.params).In h → h.Ns mainGlobals mg → XP mg h → Behind (K w.params) mg T)
    (hres : ∀ ns : List Int, ns.length ≤ m → ∃ m', callF T.fs T.consts n k iL [.scr ns] [] = .ok (.bl true) m') : PySem.W.WalkO q loose XP YP l.row.toRowW d [] (fun f vs => PySem.call f vs) := by
  refine Att.attach_call hn hdf fun w s₀ s mg mb fa o pm cd doc a vs ns G Y ho hd hcd hmg hobj hints hlen hg => ?_
  have KX := hY w _ Y
  have B := F w mg _ KX G.T.g G.X
  obtain ⟨m', e⟩ := hres ns hlen
  have key : ∀ base : Heap, ∃ fd ps, FOk l.prog w (K w.params) mg base k (kwsOf (T.cc []) iL) d.name (callF T.fs T.consts n k iL) fa fd ps := fun base => by
    obtain ⟨fa', fd, ps, F0⟩ := all_defs (P := l.prog) (w := w) (base := base) (n := n) B.defs B.cons B.none k iL d.name hL
    have := F0.at_.symm.trans hmg
    cases this
    exact ⟨fd, ps, F0⟩
  exact law_run2 KX G.T.g G.T.b G.T.builtins G.T.nolimit hg hobj hints (Nat.le_trans hlen hn2) hr (fun base _ _ => key base) e
section
variable {K : PySem.W.Frag} {mg : Str → Option Value} {h : Heap}
theorem con_int (KX : K.In h) (G : h.Ns mainGlobals mg) {x : Str} {i : Int} {t : Tok} (e : PySem.W.nsIn K mainGlobals x = some (some (.int i t))) : ConOk K mg x (.int i) := ⟨_, .int i, PySem.W.mg_of KX G e, ⟨t, rfl⟩, fun _ _ _ => .int i⟩
theorem con_str (KX : K.In h) (G : h.Ns mainGlobals mg) {x y : Str} {t : Tok} (e : PySem.W.nsIn K mainGlobals x = some (some (.str y t))) : ConOk K mg x (.str y) := ⟨_, .str y, PySem.W.mg_of KX G e, ⟨t, rfl⟩, fun _ _ _ => .str y⟩
theorem con_tup (KX : K.In h) (G : h.Ns mainGlobals mg) {x : Str} {a : Addr} {od : Option Addr} {its : Array Value} {n : Nat} {sl : Array (Option Value)} {ds : List D} {vs : List V} (e : PySem.W.nsIn K mainGlobals x = some (some (.ref a)))
    (l : K.lookup a = some ⟨.type "tuple", od, .seq its n, sl⟩) (hz : its.size ≤ sizeLine) (r : Vals vs its.toList) (p : ∀ B G H, Rps K B G H ds vs) : ConOk K mg x (.tup ds) :=
  ⟨_, .ref a, PySem.W.mg_of KX G e, rfl, fun B G H => .tup (.inr ⟨_, its, n, l, rfl, rfl, hz, r⟩) (p B G H)⟩
/-- items of a constant tuple: an int, a text -/
inductive Itm : D → V → Value → Prop
  | int (i : Int) (t : Tok) : Itm (.int i) (.int i) (.int i t)
  | str (x : Str) (t : Tok) : Itm (.str x) (.str x) (.str x t)
inductive Itms : List D → List V → List Value → Prop
  | nil : Itms [] [] []
  | cons {d : D} {v : V} {u : Value} {ds : List D} {vs : List V} {us : List Value} : Itm d v u → Itms ds vs us → Itms (d :: ds) (v :: vs) (u :: us)
theorem Itms.vals {ds : List D} {vs : List V} {us : List Value} (h : Itms ds vs us) : Vals vs us := by
  induction h with
  | nil => exact .nil
  | cons a _ ih =>
    refine .cons ?_ ih
    cases a <;> exact ⟨_, rfl⟩
theorem Itms.rps {ds : List D} {vs : List V} {us : List Value} (h : Itms ds vs us) (B : Addr → Prop) (G : List Addr) (H : Hp) : Rps K B G H ds vs := by
  induction h with
  | nil => exact .nil
  | cons a _ ih =>
    refine .cons ?_ ih
    cases a
    · exact .int _
    · exact .str _
theorem con_flat (KX : K.In h) (G : h.Ns mainGlobals mg) {x : Str} {a : Addr} {od : Option Addr} {its : Array Value} {n : Nat} {sl : Array (Option Value)} {ds : List D} {vs : List V} (e : PySem.W.nsIn K mainGlobals x = some (some (.ref a)))
    (l : K.lookup a = some ⟨.type "tuple", od, .seq its n, sl⟩) (hz : its.size ≤ 100) (r : Itms ds vs its.toList) : ConOk K mg x (.tup ds) := con_tup KX G e l (size100 hz) r.vals r.rps
theorem def_mk (KX : K.In h) (G : h.Ns mainGlobals mg) {T : Txt0} {i : Nat} {x : Str} {st : Stmt} {N ps : List Str} {f : Addr} {oc : Value} {od an : Option Addr} {osl : Array (Option Value)} {kV doc pm cdv ct : Value} (s : Stat T i x st N ps)
    (a : PySem.W.nsIn K mainGlobals x = some (some (.ref f))) (l : K.lookup f = some ⟨oc, od, .func (PySem.W.fnOf x x (defArgs st) (defBody st) (defScope st) .none kV doc pm an cdv ct), osl⟩) (c : PySem.W.codeIn K cdv x = true) (kp : PySem.W.keepIn K (.ref f) = true) : DefOk K mg T i x :=
  ⟨⟨st, f, _, N, ps, s, PySem.W.mg_of KX G a, fun_mk l c kp⟩⟩
end
end Mi

set_option linter.all false
set_option maxRecDepth 100000
set_option maxHeartbeats 4000000
/-! Mi20: plain laws of the small evaluation. -/
namespace Mi
open PySem PySem.Spec L2
section
variable {α β : Type} {g : Mi.Env0} {r : List Slot} {m : Mu} {n : Nat}
@[simp] theorem bind_ok' (a : α) (m : Mu) (f : α → Mu → Res β) : (Res.ok a m).bind f = f a m := rfl
@[simp] theorem st_ok' (a : α) (m : Mu) (f : α → Mu → SRes) : (Res.ok a m).st f = f a m := rfl
@[simp] theorem asB_ok (b : Bool) (m : Mu) : asB (.ok (.bl b) m) = .ok b m := rfl
@[simp] theorem of_some (d : D) (m : Mu) : Res.of (some d) m = .ok d m := rfl
@[simp] theorem ev_cst (c : Const) : ev g (.cst c) r m = .ok (cD c) m := by simp only [ev]
@[simp] theorem ev_var (i : Nat) : ev g (.var i) r m = match r[i]? with | some (.val d) => .ok d m | _ => .bad := by simp only [ev] <;> rfl
@[simp] theorem ev_glb (i : Nat) : ev g (.glb i) r m = .of g.consts[i]? m := by simp only [ev]
@[simp] theorem ev_tup (es : Exs) : ev g (.tup es) r m = (evs g es r m).bind fun ds m => .ok (.tup ds) m := by simp only [ev]
@[simp] theorem ev_lst (es : Exs) : ev g (.lst es) r m = (evs g es r m).bind fun ds m => .ok (.lst ds) m := by simp only [ev]
@[simp] theorem ev_op (o : Operator) (a b : Ex) : ev g (.op o a b) r m = (vx r a m (ev g a r m)).bind fun x m => (vx r b m (ev g b r m)).bind fun y m => .of (binop o x y) m := by simp only [ev]
@[simp] theorem ev_neg (a : Ex) : ev g (.neg a) r m = (ev g a r m).bind fun x m => .of (negop x) m := by simp only [ev]
@[simp] theorem ev_cmp (o : CmpOp) (a b : Ex) : ev g (.cmp o a b) r m = (vx r a m (ev g a r m)).bind fun x m => (vx r b m (ev g b r m)).bind fun y m => .of ((cmpop o x y).map .bl) m := by simp only [ev]
@[simp] theorem ev_cmp2 (o p : CmpOp) (a b c : Ex) : ev g (.cmp2 o p a b c) r m = (ev g a r m).bind fun x m => (ev g b r m).bind fun y m => match cmpop o x y with
    | some true => (ev g c r m).bind fun z m => .of ((cmpop p y z).map .bl) m
    | some false => .ok (.bl false) m
    | none => .bad := by simp only [ev] <;> rfl
@[simp] theorem ev_and (es : Exs) : ev g (.and es) r m = evAnd g es r m := by simp only [ev]
@[simp] theorem ev_or (es : Exs) : ev g (.or es) r m = evOr g es r m := by simp only [ev]
@[simp] theorem ev_not (a : Ex) : ev g (.not a) r m = (asB (ev g a r m)).bind fun b m => .ok (.bl (!b)) m := by simp only [ev]
@[simp] theorem ev_ite (c a b : Ex) : ev g (.ite c a b) r m = (asB (ev g c r m)).bind fun t m => if t then ev g a r m else ev g b r m := by simp only [ev]
@[simp] theorem ev_call (f : Nat) (es : Exs) : ev g (.call f es) r m = (evs g es r m).bind fun ds m => g.call f ds m := by simp only [ev]
@[simp] theorem ev_callk (f : Nat) (es es2 : Exs) (ks : List Str) (ord : List Nat) : ev g (.callk f es ks ord es2) r m = (evs g es r m).bind fun ds m => (evs g es2 r m).bind fun ds2 m => match permD ds ds2 ord with
    | some l => g.call f l m
    | none => .bad := by simp only [ev] <;> rfl
@[simp] theorem ev_b1 (b : B1) (a : Ex) : ev g (.b1 b a) r m = (vx r a m (ev g a r m)).bind fun x m => .of (b1op b x) m := by simp only [ev]
@[simp] theorem ev_b2 (b : B2) (a c : Ex) : ev g (.b2 b a c) r m = (ev g a r m).bind fun x m => (ev g c r m).bind fun y m => .of (b2op b x y) m := by simp only [ev]
@[simp] theorem ev_max3 (a b c : Ex) : ev g (.max3 a b c) r m = (ev g a r m).bind fun x m => (ev g b r m).bind fun y m => (ev g c r m).bind fun z m => .of (max3D x y z) m := by simp only [ev]
@[simp] theorem ev_isa (t : Ty) (a : Ex) : ev g (.isa t a) r m = (ev g a r m).bind fun x m => .of ((isaD t x).map .bl) m := by simp only [ev]
@[simp] theorem ev_m1 (k : M1) (a b : Ex) : ev g (.m1 k a b) r m = (ev g a r m).bind fun x m => (vx r b m (ev g b r m)).bind fun y m => .of (m1op k x y) m := by simp only [ev]
@[simp] theorem ev_idx (a i : Ex) : ev g (.idx a i) r m = (vx r a m (ev g a r m)).bind fun x m => (ev g i r m).bind fun y m => .of (idxD m x y) m := by simp only [ev]
@[simp] theorem ev_slB (a i j : Ex) : ev g (.slB a i j) r m = (vx r a m (ev g a r m)).bind fun x m => (ev g i r m).bind fun y m => (ev g j r m).bind fun z m => .of (slI x y z) m := by simp only [ev]
@[simp] theorem ev_slL (a i : Ex) : ev g (.slL a i) r m = (vx r a m (ev g a r m)).bind fun x m => (ev g i r m).bind fun y m => .of (slLI x y) m := by simp only [ev]
@[simp] theorem ev_slH (a i : Ex) : ev g (.slH a i) r m = (vx r a m (ev g a r m)).bind fun x m => (ev g i r m).bind fun y m => .of (slHI x y) m := by simp only [ev]
@[simp] theorem ev_comp (own : List (Str × Nat)) (elt : Ex) (tg : Tgt) (ik : IK) (its : Exs) : ev g (.comp own elt tg ik its) r m = (evx g its r m).bind fun ds m => match itemsD ik ds with
    | some xs => lstR (mapR (fun x m => match bindT tg x (wipeS r (own.map (·.2))) with
        | some r' => ev g elt r' m
        | none => .bad) xs m)
    | none => .bad := by simp only [ev] <;> rfl
@[simp] theorem ev_compIf (own : List (Str × Nat)) (elt : Ex) (tg : Tgt) (ik : IK) (its : Exs) (c : Ex) : ev g (.compIf own elt tg ik its c) r m = (evx g its r m).bind fun ds m => match itemsD ik ds with
    | some xs => lstR (mapIfR (fun x m => match bindT tg x (wipeS r (own.map (·.2))) with
        | some r' => asB (ev g c r' m)
        | none => .bad) (fun x m => match bindT tg x (wipeS r (own.map (·.2))) with
        | some r' => ev g elt r' m
        | none => .bad) xs m)
    | none => .bad := by simp only [ev] <;> rfl
@[simp] theorem evs_nil : evs g .nil r m = .ok [] m := by simp only [evs]
@[simp] theorem evs_cons (e : Ex) (es : Exs) : evs g (.cons e es) r m = (ev g e r m).bind fun d m => (evs g es r m).bind fun ds m => .ok (d :: ds) m := by simp only [evs]
@[simp] theorem evx_nil : evx g .nil r m = .ok [] m := by simp only [evx]
@[simp] theorem evx_cons (e : Ex) (es : Exs) : evx g (.cons e es) r m = (vx r e m (ev g e r m)).bind fun d m => (evx g es r m).bind fun ds m => .ok (d :: ds) m := by simp only [evx]
@[simp] theorem evAnd_one (e : Ex) : evAnd g (.cons e .nil) r m = ev g e r m := by simp only [evAnd]
@[simp] theorem evAnd_cons (e e2 : Ex) (es : Exs) : evAnd g (.cons e (.cons e2 es)) r m = (asB (ev g e r m)).bind fun b m => if b then evAnd g (.cons e2 es) r m else .ok (.bl false) m := by simp only [evAnd]
@[simp] theorem evOr_one (e : Ex) : evOr g (.cons e .nil) r m = ev g e r m := by simp only [evOr]
@[simp] theorem evOr_cons (e e2 : Ex) (es : Exs) : evOr g (.cons e (.cons e2 es)) r m = (asB (ev g e r m)).bind fun b m => if b then .ok (.bl true) m else evOr g (.cons e2 es) r m := by simp only [evOr]
@[simp] theorem vx_view (i : Nat) (x : Res D) : vx r (.view i) m x = match r[i]? with
    | some (.own ds) => .ok (.lst ds) m
    | some (.val d) => .ok d m
    | _ => .bad := rfl
@[simp] theorem vx_cst (c : Const) (x : Res D) : vx r (.cst c) m x = x := rfl
@[simp] theorem vx_var (c : Nat) (x : Res D) : vx r (.var c) m x = x := rfl
@[simp] theorem vx_glb (c : Nat) (x : Res D) : vx r (.glb c) m x = x := rfl
@[simp] theorem vx_tup (c : Exs) (x : Res D) : vx r (.tup c) m x = x := rfl
@[simp] theorem vx_lst (c : Exs) (x : Res D) : vx r (.lst c) m x = x := rfl
@[simp] theorem vx_op (o : Operator) (a b : Ex) (x : Res D) : vx r (.op o a b) m x = x := rfl
@[simp] theorem vx_neg (a : Ex) (x : Res D) : vx r (.neg a) m x = x := rfl
@[simp] theorem vx_not (a : Ex) (x : Res D) : vx r (.not a) m x = x := rfl
@[simp] theorem vx_cmp (o : CmpOp) (a b : Ex) (x : Res D) : vx r (.cmp o a b) m x = x := rfl
@[simp] theorem vx_and (a : Exs) (x : Res D) : vx r (.and a) m x = x := rfl
@[simp] theorem vx_or (a : Exs) (x : Res D) : vx r (.or a) m x = x := rfl
@[simp] theorem vx_ite (a b c : Ex) (x : Res D) : vx r (.ite a b c) m x = x := rfl
@[simp] theorem vx_call (f : Nat) (a : Exs) (x : Res D) : vx r (.call f a) m x = x := rfl
@[simp] theorem vx_callk (f : Nat) (a b : Exs) (k : List Str) (o : List Nat) (x : Res D) : vx r (.callk f a k o b) m x = x := rfl
@[simp] theorem vx_b1 (b : B1) (a : Ex) (x : Res D) : vx r (.b1 b a) m x = x := rfl
@[simp] theorem vx_b2 (b : B2) (a c : Ex) (x : Res D) : vx r (.b2 b a c) m x = x := rfl
@[simp] theorem vx_m1 (k : M1) (a c : Ex) (x : Res D) : vx r (.m1 k a c) m x = x := rfl
@[simp] theorem vx_idx (a c : Ex) (x : Res D) : vx r (.idx a c) m x = x := rfl
@[simp] theorem vx_slB (a c d : Ex) (x : Res D) : vx r (.slB a c d) m x = x := rfl
@[simp] theorem vx_slL (a c : Ex) (x : Res D) : vx r (.slL a c) m x = x := rfl
@[simp] theorem vx_slH (a c : Ex) (x : Res D) : vx r (.slH a c) m x = x := rfl
@[simp] theorem vx_comp (own : List (Str × Nat)) (elt : Ex) (tg : Tgt) (ik : IK) (its : Exs) (x : Res D) : vx r (.comp own elt tg ik its) m x = x := rfl
@[simp] theorem vx_compIf (own : List (Str × Nat)) (elt : Ex) (tg : Tgt) (ik : IK) (its : Exs) (c : Ex) (x : Res D) : vx r (.compIf own elt tg ik its c) m x = x := rfl
/-! statements -/
@[simp] theorem ss_nil : evSs g n .nil r m = .nx r m := by simp only [evSs]
@[simp] theorem ss_cons (s : Stm) (ss : Stms) : evSs g n (.cons s ss) r m = match evS g n s r m with
    | .nx r m => evSs g n ss r m
    | o => o := by simp only [evSs] <;> rfl
@[simp] theorem s_set (i : Nat) (e : Ex) : evS g n (.set i e) r m = (ev g e r m).st fun d m => .nx (r.set i (.val d)) m := by simp only [evS]
@[simp] theorem s_seto (i : Nat) (e : Ex) : evS g n (.seto i e) r m = (ev g e r m).st fun d m => match d with | .lst ds => .nx (r.set i (.own ds)) m | _ => .bad := by simp only [evS] <;> rfl
@[simp] theorem s_par (is own : List Nat) (es : Exs) : evS g n (.par is es own) r m = (evs g es r m).st fun ds m => if is.length = ds.length then (match ownAll (setAll r is ds) own with | some r => .nx r m | none => .bad) else .bad := by simp only [evS] <;> rfl
@[simp] theorem s_unp (is : List Nat) (e : Ex) : evS g n (.unp is e) r m = (ev g e r m).st fun d m => match d with | .tup ds => if is.length = ds.length then .nx (setAll r is ds) m else .bad | _ => .bad := by simp only [evS] <;> rfl
@[simp] theorem s_app (i : Nat) (e : Ex) : evS g n (.app i e) r m = (ev g e r m).st fun d m => match r[i]? with
    | some (.own ds) => if fit (ds.length + 1) then .nx (r.set i (.own (ds ++ [d]))) m else .bad
    | _ => .bad := by simp only [evS] <;> rfl
@[simp] theorem s_setr (i c : Nat) (e : Ex) : evS g n (.setr i c e) r m = (ev g e r m).st fun d m => match r[i]? with
    | some (.val (.ref a)) => match m[a]? with
      | some xs => if c < xs.length then .nx r (m.set a (xs.set c d)) else .bad
      | none => .bad
    | _ => .bad := by simp only [evS] <;> rfl
@[simp] theorem s_setrp (i c j : Nat) (e : Ex) : evS g n (.setrp i c j e) r m = (ev g e r m).st fun d m => match r[i]?, d with
    | some (.val (.ref a)), .tup [x, y] => match m[a]? with
      | some xs => if c < xs.length then .nx (r.set j (.val y)) (m.set a (xs.set c x)) else .bad
      | none => .bad
    | _, _ => .bad := by simp only [evS] <;> rfl
@[simp] theorem s_drop (e : Ex) : evS g n (.drop e) r m = (ev g e r m).st fun _ m => .nx r m := by simp only [evS]
@[simp] theorem s_spoil (e : Ex) (p : List Nat) (c : Const) : evS g n (.spoil e p c) r m = match callOf g e r m with
    | some (d, m) => (match pathD d p with | some (.lst xs) => if fit (xs.length + 1) then .nx r m else .bad | _ => .bad)
    | _ => .bad := by simp only [evS] <;> rfl
@[simp] theorem s_cond (c : Ex) (a b : Stms) : evS g n (.cond c a b) r m = (asB (ev g c r m)).st fun t m => if t then evSs g n a r m else evSs g n b r m := by simp only [evS]
@[simp] theorem s_for (tg : Tgt) (ik : IK) (its : Exs) (b : Stms) : evS g n (.for_ tg ik its b) r m = (evs g its r m).st fun ds m => match itemsD ik ds with
    | some xs => forR (fun x r m => match bindT tg x r with | some r' => evSs g n b r' m | none => .bad) xs r m
    | none => .bad := by simp only [evS] <;> rfl
@[simp] theorem s_while (c : Ex) (b : Stms) : evS g n (.while_ c b) r m = whileR (fun r m => asB (ev g c r m)) (fun r m => evSs g n b r m) n r m := by simp only [evS]
@[simp] theorem s_ret (e : Ex) : evS g n (.ret e) r m = (ev g e r m).st fun d m => .rt d m := by simp only [evS]
@[simp] theorem s_retr (es : Exs) : evS g n (.retr es) r m = (evs g es r m).st fun ds m => .rt (.ref m.length) (m ++ [ds]) := by simp only [evS]
@[simp] theorem s_retN : evS g n .retN r m = .rt .non m := by simp only [evS]
@[simp] theorem s_raise (c : Nat) (es : Exs) : evS g n (.raise c es) r m = (evs g es r m).st fun ds m => .ex c ds m := by simp only [evS]
@[simp] theorem s_frz (i : Nat) : evS g n (.frz i) r m = match r[i]? with | some (.own ds) => .nx (r.set i (.val (.lst ds))) m | _ => .bad := by simp only [evS] <;> rfl
@[simp] theorem endF_rt (d : D) (m : Mu) : endF (.rt d m) = .ok d m := rfl
@[simp] theorem endF_nx (m : Mu) : endF (.nx r m) = .ok .non m := rfl
end
/-! operations -/
@[simp] theorem cD_int (i : Int) : cD (.int i) = .int i := rfl
@[simp] theorem cD_str (i : Str) : cD (.str i) = .str i := rfl
@[simp] theorem cD_bl (i : Bool) : cD (.bool i) = .bl i := rfl
@[simp] theorem cD_non : cD .none = .non := rfl
@[simp] theorem le_int (i j : Int) : cmpop .LtE (.int i) (.int j) = some (decide (i ≤ j)) := rfl
@[simp] theorem lt_int' (i j : Int) : cmpop .Lt (.int i) (.int j) = some (decide (i < j)) := rfl
@[simp] theorem gt_int' (i j : Int) : cmpop .Gt (.int i) (.int j) = some (decide (j < i)) := rfl
@[simp] theorem ge_int' (i j : Int) : cmpop .GtE (.int i) (.int j) = some (decide (j ≤ i)) := rfl
@[simp] theorem is_non (a : D) : cmpop .Is a .non = some (isNon a) := rfl
@[simp] theorem isnt_non (a : D) : cmpop .IsNot a .non = some (!isNon a) := rfl
@[simp] theorem eq_cmp (a b : D) : cmpop .Eq a b = eqD a b := rfl
@[simp] theorem ne_cmp (a b : D) : cmpop .NotEq a b = (eqD a b).map not := rfl
@[simp] theorem in_cmp (a b : D) : cmpop .In a b = inD a b := rfl
@[simp] theorem nin_cmp (a b : D) : cmpop .NotIn a b = (inD a b).map not := rfl
@[simp] theorem eqD_int (i j : Int) : eqD (.int i) (.int j) = some (decide (i = j)) := by
  have e : (small (.int i) && small (.int j)) = true := by simp [small, PyData.depth]
  simp only [eqD, D.py, e, if_true, PyData.eqv]
  by_cases h : i = j <;> simp [h]
@[simp] theorem eqD_str (i j : Str) : eqD (.str i) (.str j) = some (decide (i = j)) := by
  have e : (small (.str i) && small (.str j)) = true := by simp [small, PyData.depth]
  simp only [eqD, D.py, e, if_true, PyData.eqv]
  by_cases h : i = j <;> simp [h]
@[simp] theorem eqD_bl (i j : Bool) : eqD (.bl i) (.bl j) = some (decide (i = j)) := by cases i <;> cases j <;> rfl
@[simp] theorem add_int (i j : Int) : binop .Add (.int i) (.int j) = some (.int (i + j)) := rfl
@[simp] theorem sub_int (i j : Int) : binop .Sub (.int i) (.int j) = some (.int (i - j)) := rfl
theorem mul_int {i j : Int} (h : i.natAbs.log2 + j.natAbs.log2 < 1000000) : binop .Mult (.int i) (.int j) = some (.int (i * j)) := if_pos (decide_eq_true h)
theorem div_int {i j : Int} (h : 0 < j) (h2 : j.natAbs.log2 < 9000) : binop .FloorDiv (.int i) (.int j) = some (.int (i / j)) := if_pos (decide_eq_true ⟨h, h2⟩)
theorem mod_int {i j : Int} (h : 0 < j) : binop .Mod (.int i) (.int j) = some (.int (i % j)) := if_pos (decide_eq_true h)
@[simp] theorem len_lst (xs : List D) : b1op .len (.lst xs) = some (.int xs.length) := rfl
@[simp] theorem len_tup (xs : List D) : b1op .len (.tup xs) = some (.int xs.length) := rfl
@[simp] theorem len_scr (xs : List Int) : b1op .len (.scr xs) = some (.int xs.length) := rfl
@[simp] theorem abs_int (i : Int) : b1op .abs (.int i) = some (.int (if i < 0 then -i else i)) := rfl
@[simp] theorem int_int (i : Int) : b1op .int (.int i) = some (.int i) := rfl
@[simp] theorem tup_lst (xs : List D) : b1op .tuple (.lst xs) = some (.tup xs) := rfl
@[simp] theorem tup_tup (xs : List D) : b1op .tuple (.tup xs) = some (.tup xs) := rfl
@[simp] theorem max_int (i j : Int) : b2op .max (.int i) (.int j) = some (.int (if j > i then j else i)) := rfl
@[simp] theorem min_int (i j : Int) : b2op .min (.int i) (.int j) = some (.int (if j < i then j else i)) := rfl
theorem dm_int {i j : Int} (h : 0 < j) (h2 : j < 1073741824) : b2op .divmod (.int i) (.int j) = some (.tup [.int (i / j), .int (i % j)]) := if_pos (decide_eq_true ⟨h, h2⟩)
theorem bls_map (l : List Bool) : bls? (l.map D.bl) = some l := by
  induction l with
  | nil => rfl
  | cons b r ih => simp [bls?, ih]
theorem ints_map (l : List Int) : ints? (l.map D.int) = some l := by
  induction l with
  | nil => rfl
  | cons b r ih => simp [ints?, ih]
theorem strs_map (l : List Str) : strs? (l.map D.str) = some l := by
  induction l with
  | nil => rfl
  | cons b r ih => simp [strs?, ih]
@[simp] theorem all_bls (l : List Bool) : b1op .all (.lst (l.map D.bl)) = some (.bl (l.all id)) := by simp [b1op, bls_map]
@[simp] theorem any_bls (l : List Bool) : b1op .any (.lst (l.map D.bl)) = some (.bl (l.any id)) := by simp [b1op, bls_map]
@[simp] theorem sum_ints (l : List Int) : b1op .sum (.lst (l.map D.int)) = some (.int l.sum) := by simp [b1op, ints_map]
theorem at_nat {α : Type} (xs : List α) (n : Nat) : atI xs (n : Int) = xs[n]? := by
  unfold atI ixN
  by_cases h : n < xs.length
  · rw [if_pos (by omega), if_pos (by omega)]
    rfl
  · rw [if_pos (by omega), if_neg (by omega), List.getElem?_eq_none (by omega)]
    rfl
theorem at_0 {α : Type} (xs : List α) : atI xs 0 = xs[0]? := at_nat xs 0
theorem at_1 {α : Type} (xs : List α) : atI xs 1 = xs[1]? := at_nat xs 1
theorem idx_l (m : Mu) (xs : List D) (i : Int) : idxD m (.lst xs) (.int i) = atI xs i := rfl
theorem idx_t (m : Mu) (xs : List D) (i : Int) : idxD m (.tup xs) (.int i) = atI xs i := rfl
@[simp] theorem idx_l0 (m : Mu) (xs : List D) : idxD m (.lst xs) (.int 0) = xs[0]? := at_0 xs
@[simp] theorem idx_t0 (m : Mu) (xs : List D) : idxD m (.tup xs) (.int 0) = xs[0]? := at_0 xs
@[simp] theorem idx_l1 (m : Mu) (xs : List D) : idxD m (.lst xs) (.int 1) = xs[1]? := at_1 xs
@[simp] theorem idx_t1 (m : Mu) (xs : List D) : idxD m (.tup xs) (.int 1) = xs[1]? := at_1 xs
@[simp] theorem items_seqL (xs : List D) : itemsD .seq [.lst xs] = some xs := rfl
@[simp] theorem items_seqT (xs : List D) : itemsD .seq [.tup xs] = some xs := rfl
@[simp] theorem bind_nm (i : Nat) (d : D) (r : List Slot) : bindT (.nm i) d r = some (r.set i (.val d)) := rfl
@[simp] theorem wipe_nil (r : List Slot) : wipeS r [] = r := rfl
@[simp] theorem wipe_cons (r : List Slot) (v : Nat) (vs : List Nat) : wipeS r (v :: vs) = (wipeS r vs).set v .un := rfl
/-- a comprehension whose turns leave the store as it is -/
theorem mapR_map {f : D → Mu → Res D} {h : D → D} {m : Mu} : ∀ {xs : List D}, (∀ x ∈ xs, f x m = .ok (h x) m) → mapR f xs m = .ok (xs.map h) m
  | [], _ => rfl
  | x :: xs, q => by
    rw [mapR, q x List.mem_cons_self]
    dsimp only
    rw [mapR_map fun y hy => q y (List.mem_cons_of_mem _ hy)]
    rfl
/-- .. whose turns keep a word of the store, each item something -/
theorem mapR_inv {f : D → Mu → Res D} {I : Mu → Prop} {P : D → Prop} : ∀ {xs : List D} {m : Mu}, I m → (∀ x ∈ xs, ∀ m, I m → ∃ y m', f x m = .ok y m' ∧ P y ∧ I m') → ∃ ys m', mapR f xs m = .ok ys m' ∧ ys.length = xs.length ∧ (∀ y ∈ ys, P y) ∧ I m'
  | [], m, h, _ => ⟨[], m, rfl, rfl, fun y hy => (by cases hy), h⟩
  | x :: xs, m, h, q => by
    obtain ⟨y, m1, e1, p1, h1⟩ := q x List.mem_cons_self m h
    obtain ⟨ys, m2, e2, l2, p2, h2⟩ := mapR_inv h1 fun z hz => q z (List.mem_cons_of_mem _ hz)
    refine ⟨y :: ys, m2, ?_, by rw [List.length_cons, List.length_cons, l2], fun z hz => ?_, h2⟩
    · rw [mapR, e1]
      dsimp only
      rw [e2]
    · rcases List.mem_cons.mp hz with e | e
      · rw [e]
        exact p1
      · exact p2 z e
theorem lstR_ok {ys : List D} {m : Mu} (h : ys.length ≤ 16777216) : lstR (.ok ys m) = .ok (.lst ys) m := by
  have : fit ys.length = true := decide_eq_true h
  simp [lstR, this]
theorem ev_comp_eq {g : Mi.Env0} {own : List (Str × Nat)} {elt : Ex} {tg : Tgt} {ik : IK} {its : Exs} {r : List Slot} {m m1 : Mu} {ds xs : List D} (h1 : evx g its r m = .ok ds m1) (h2 : itemsD ik ds = some xs) :
    ev g (.comp own elt tg ik its) r m = lstR (mapR (fun x m => match bindT tg x (wipeS r (own.map (·.2))) with
        | some r' => ev g elt r' m
        | none => .bad) xs m1) := by
  rw [ev_comp, h1, bind_ok', h2]
/-- a turn of a for -/
def forB (g : Mi.Env0) (n : Nat) (tg : Tgt) (b : Stms) (x : D) (r : List Slot) (m : Mu) : SRes := match bindT tg x r with | some r' => evSs g n b r' m | none => .bad
theorem s_for_eq {g : Mi.Env0} {n : Nat} {tg : Tgt} {ik : IK} {its : Exs} {b : Stms} {r : List Slot} {m m1 : Mu} {ds xs : List D} (h1 : evs g its r m = .ok ds m1) (h2 : itemsD ik ds = some xs) :
    evS g n (.for_ tg ik its b) r m = forR (forB g n tg b) xs r m1 := by
  rw [s_for, h1, st_ok', h2]
  rfl
theorem mapR_keep {f : D → Mu → Res D} {m : Mu} : ∀ {xs : List D}, (∀ x ∈ xs, ∃ y, f x m = .ok y m) → ∃ ys, mapR f xs m = .ok ys m ∧ ys.length = xs.length
  | [], _ => ⟨[], rfl, rfl⟩
  | x :: xs, h => by
    obtain ⟨y, e⟩ := h x List.mem_cons_self
    obtain ⟨ys, e2, l⟩ := mapR_keep fun z hz => h z (List.mem_cons_of_mem _ hz)
    refine ⟨y :: ys, ?_, by rw [List.length_cons, List.length_cons, l]⟩
    rw [mapR, e]
    dsimp only
    rw [e2]
end Mi

set_option linter.all false
set_option maxRecDepth 100000
set_option maxHeartbeats 4000000
namespace L92
open PySem PySem.Spec PyProof.Rows L2 Mi
def f0 : Fn := ⟨1, 1, (.cons (.ret (.and (.cons (.isa .int (.var 0)) (.cons (.not (.isa .bool (.var 0))) .nil)))) .nil)⟩
def f1 : Fn := ⟨3, 3, (.cons (.ret (.and (.cons (.call 0 (.cons (.var 0) .nil)) (.cons (.cmp2 .LtE .LtE (.var 1) (.var 0) (.var 2)) .nil)))) .nil)⟩
def f2 : Fn := ⟨1, 1, (.cons (.ret (.isa .seq (.var 0))) .nil)⟩
def f3 : Fn := ⟨2, 2, (.cons (.while_ (.cmp .Gt (.var 1) (.cst (.int 0))) (.cons (.par [0, 1] (.cons (.var 1) (.cons (.op .Mod (.b1 .int (.var 0)) (.var 1)) .nil)) []) .nil)) (.cons (.ret (.var 0)) .nil))⟩
def f4 : Fn := ⟨1, 1, (.cons (.cond (.or (.cons (.not (.isa .tuple (.var 0))) (.cons (.cmp .NotEq (.b1 .len (.var 0)) (.cst (.int 2))) (.cons (.not (.call 0 (.cons (.idx (.var 0) (.cst (.int 0))) .nil))) (.cons (.not (.call 0 (.cons (.idx (.var 0) (.cst (.int 1))) .nil))) .nil))))) (.cons (.ret (.cst (.bool false))) .nil) .nil) (.cons (.ret (.and (.cons (.cmp .GtE (.idx (.var 0) (.cst (.int 1))) (.cst (.int 1))) (.cons (.cmp .Eq (.call 3 (.cons (.b1 .abs (.idx (.var 0) (.cst (.int 0)))) (.cons (.idx (.var 0) (.cst (.int 1))) .nil))) (.cst (.int 1))) .nil)))) .nil))⟩
def f5 : Fn := ⟨1, 1, (.cons (.ret (.and (.cons (.call 4 (.cons (.var 0) .nil)) (.cons (.cmp .Lt (.b1 .abs (.idx (.var 0) (.cst (.int 0)))) (.glb 0)) (.cons (.cmp .Lt (.idx (.var 0) (.cst (.int 1))) (.glb 0)) .nil))))) .nil)⟩
def f6 : Fn := ⟨2, 1, (.cons (.cond (.or (.cons (.not (.isa .tuple (.var 0))) (.cons (.cmp .NotEq (.b1 .len (.var 0)) (.cst (.int 2))) (.cons (.not (.call 1 (.cons (.idx (.var 0) (.cst (.int 0))) (.cons (.cst (.int 1)) (.cons (.glb 1) .nil))))) .nil)))) (.cons (.ret (.cst (.bool false))) .nil) .nil) (.cons (.cond (.or (.cons (.not (.call 2 (.cons (.idx (.var 0) (.cst (.int 1))) .nil))) (.cons (.cmp .NotEq (.b1 .len (.idx (.var 0) (.cst (.int 1)))) (.idx (.glb 4) (.idx (.var 0) (.cst (.int 0))))) .nil))) (.cons (.ret (.cst (.bool false))) .nil) .nil) (.cons (.ret (.b1 .all (.comp [(Str.ofString "one", 1)] (.call 1 (.cons (.var 1) (.cons (.op .Sub (.cst (.int 0)) (.glb 2)) (.cons (.glb 2) .nil)))) (.nm 1) .seq (.cons (.idx (.var 0) (.cst (.int 1))) .nil)))) .nil)))⟩
def f7 : Fn := ⟨4, 2, (.cons (.cond (.or (.cons (.not (.isa .tuple (.var 1))) (.cons (.not (.b1 .all (.comp [(Str.ofString "one", 2)] (.call 1 (.cons (.var 2) (.cons (.cst (.int 0)) (.cons (.op .Sub (.var 0) (.cst (.int 1))) .nil)))) (.nm 2) .seq (.cons (.var 1) .nil)))) .nil))) (.cons (.ret (.cst (.bool false))) .nil) .nil) (.cons (.ret (.b1 .all (.comp [(Str.ofString "one", 2), (Str.ofString "late", 3)] (.cmp .Lt (.var 2) (.var 3)) (.tp [2, 3]) .zip (.cons (.var 1) (.cons (.slL (.var 1) (.cst (.int 1))) .nil))))) .nil))⟩
def f8 : Fn := ⟨3, 2, (.cons (.ret (.and (.cons (.call 2 (.cons (.var 1) .nil)) (.cons (.cmp .Eq (.b1 .len (.var 1)) (.var 0)) (.cons (.b1 .all (.comp [(Str.ofString "one", 2)] (.call 4 (.cons (.var 2) .nil)) (.nm 2) .seq (.cons (.var 1) .nil))) .nil))))) .nil)⟩
def f9 : Fn := ⟨2, 1, (.cons (.ret (.and (.cons (.cmp .NotEq (.var 0) (.cst (.str (Str.ofString "")))) (.cons (.b1 .all (.comp [(Str.ofString "sign", 1)] (.cmp .In (.var 1) (.glb 8)) (.nm 1) .seq (.cons (.var 0) .nil))) (.cons (.or (.cons (.cmp .NotEq (.idx (.var 0) (.cst (.int 0))) (.cst (.str (Str.ofString "0")))) (.cons (.cmp .Eq (.var 0) (.cst (.str (Str.ofString "0")))) .nil))) .nil))))) .nil)⟩
def f10 : Fn := ⟨4, 3, (.cons (.set 3 (.ite (.cmp .Eq (.slH (.var 0) (.cst (.int 1))) (.cst (.str (Str.ofString "-")))) (.slL (.var 0) (.cst (.int 1))) (.var 0))) (.cons (.cond (.or (.cons (.cmp .Gt (.b1 .len (.var 3)) (.glb 10)) (.cons (.not (.call 9 (.cons (.var 3) .nil))) (.cons (.cmp .Eq (.var 0) (.cst (.str (Str.ofString "-0")))) .nil)))) (.cons (.ret (.cst .none)) .nil) .nil) (.cons (.ret (.ite (.cmp2 .LtE .LtE (.var 1) (.b1 .int (.var 0)) (.var 2)) (.b1 .int (.var 0)) (.cst .none))) .nil)))⟩
def f11 : Fn := ⟨4, 3, (.cons (.ret (.b1 .any (.comp [(Str.ofString "number", 3)] (.m1 .startswith (.b1 .str (.var 3)) (.var 0)) (.nm 3) .range2 (.cons (.var 1) (.cons (.op .Add (.var 2) (.cst (.int 1))) .nil))))) .nil)⟩
def f12 : Fn := ⟨5, 1, (.cons (.set 1 (.m1 .split (.var 0) (.cst (.str (Str.ofString ":"))))) (.cons (.set 2 (.call 10 (.cons (.idx (.var 1) (.cst (.int 0))) (.cons (.cst (.int 1)) (.cons (.glb 1) .nil))))) (.cons (.cond (.or (.cons (.cmp .Is (.var 2) (.cst .none)) (.cons (.cmp .NotEq (.b1 .len (.var 1)) (.cst (.int 2))) .nil))) (.cons (.ret (.cst .none)) .nil) .nil) (.cons (.set 3 (.comp [(Str.ofString "part", 4)] (.call 10 (.cons (.var 4) (.cons (.op .Sub (.cst (.int 0)) (.glb 2)) (.cons (.glb 2) .nil)))) (.nm 4) .seq (.cons (.m1 .split (.idx (.var 1) (.cst (.int 1))) (.cst (.str (Str.ofString ",")))) .nil))) (.cons (.ret (.ite (.or (.cons (.cmp .In (.cst .none) (.var 3)) (.cons (.cmp .NotEq (.b1 .len (.var 3)) (.idx (.glb 4) (.var 2))) .nil))) (.cst .none) (.tup (.cons (.var 2) (.cons (.var 3) .nil))))) .nil)))))⟩
def f13 : Fn := ⟨5, 1, (.cons (.set 1 (.m1 .split (.var 0) (.cst (.str (Str.ofString ":"))))) (.cons (.cond (.cmp .Eq (.b1 .len (.var 1)) (.cst (.int 1))) (.cons (.ret (.call 11 (.cons (.var 0) (.cons (.cst (.int 1)) (.cons (.glb 1) .nil))))) .nil) .nil) (.cons (.par [2, 3] (.cons (.call 10 (.cons (.idx (.var 1) (.cst (.int 0))) (.cons (.cst (.int 1)) (.cons (.glb 1) .nil)))) (.cons (.m1 .split (.idx (.var 1) (.cst (.int 1))) (.cst (.str (Str.ofString ",")))) .nil)) []) (.cons (.cond (.or (.cons (.cmp .Is (.var 2) (.cst .none)) (.cons (.cmp .Gt (.b1 .len (.var 1)) (.cst (.int 2))) (.cons (.cmp .Gt (.b1 .len (.var 3)) (.idx (.glb 4) (.var 2))) .nil)))) (.cons (.ret (.cst (.bool false))) .nil) .nil) (.cons (.cond (.b1 .any (.comp [(Str.ofString "part", 4)] (.cmp .Is (.call 10 (.cons (.var 4) (.cons (.op .Sub (.cst (.int 0)) (.glb 2)) (.cons (.glb 2) .nil)))) (.cst .none)) (.nm 4) .seq (.cons (.slH (.var 3) (.neg (.cst (.int 1)))) .nil))) (.cons (.ret (.cst (.bool false))) .nil) .nil) (.cons (.ret (.call 11 (.cons (.idx (.var 3) (.neg (.cst (.int 1)))) (.cons (.op .Sub (.cst (.int 0)) (.glb 2)) (.cons (.glb 2) .nil))))) .nil))))))⟩
def f14 : Fn := ⟨3, 1, (.cons (.cond (.cmp .Eq (.var 0) (.glb 9)) (.cons (.ret (.tup .nil)) .nil) .nil) (.cons (.set 1 (.comp [(Str.ofString "part", 2)] (.call 10 (.cons (.var 2) (.cons (.cst (.int 0)) (.cons (.op .Sub (.glb 1) (.cst (.int 1))) .nil)))) (.nm 2) .seq (.cons (.m1 .split (.var 0) (.cst (.str (Str.ofString ",")))) .nil))) (.cons (.ret (.ite (.and (.cons (.cmp .NotIn (.cst .none) (.var 1)) (.cons (.call 7 (.cons (.glb 1) (.cons (.b1 .tuple (.var 1)) .nil))) .nil))) (.b1 .tuple (.var 1)) (.cst .none))) .nil)))⟩
def f15 : Fn := ⟨4, 1, (.cons (.set 1 (.m1 .split (.var 0) (.cst (.str (Str.ofString ","))))) (.cons (.cond (.cmp .In (.var 0) (.tup (.cons (.cst (.str (Str.ofString ""))) (.cons (.glb 9) .nil)))) (.cons (.ret (.cst (.bool true))) .nil) .nil) (.cons (.set 2 (.comp [(Str.ofString "part", 3)] (.call 10 (.cons (.var 3) (.cons (.cst (.int 0)) (.cons (.op .Sub (.glb 1) (.cst (.int 1))) .nil)))) (.nm 3) .seq (.cons (.slH (.var 1) (.neg (.cst (.int 1)))) .nil))) (.cons (.cond (.or (.cons (.cmp .In (.cst .none) (.var 2)) (.cons (.not (.call 7 (.cons (.glb 1) (.cons (.b1 .tuple (.var 2)) .nil)))) .nil))) (.cons (.ret (.cst (.bool false))) .nil) .nil) (.cons (.ret (.call 11 (.cons (.idx (.var 1) (.neg (.cst (.int 1)))) (.cons (.ite (.cmp .NotEq (.var 2) (.lst .nil)) (.op .Add (.idx (.var 2) (.neg (.cst (.int 1)))) (.cst (.int 1))) (.cst (.int 0))) (.cons (.op .Sub (.glb 1) (.cst (.int 1))) .nil))))) .nil)))))⟩
def f16 : Fn := ⟨2, 2, (.cons (.ret (.and (.cons (.cmp .LtE (.b1 .abs (.var 0)) (.op .Mult (.glb 3) (.var 1))) (.cons (.cmp .Eq (.call 3 (.cons (.b1 .abs (.var 0)) (.cons (.var 1) .nil))) (.cst (.int 1))) .nil)))) .nil)⟩
def f17 : Fn := ⟨4, 1, (.cons (.set 1 (.m1 .split (.var 0) (.cst (.str (Str.ofString "/"))))) (.cons (.set 2 (.call 10 (.cons (.idx (.var 1) (.cst (.int 0))) (.cons (.op .Sub (.cst (.int 1)) (.glb 0)) (.cons (.op .Sub (.glb 0) (.cst (.int 1))) .nil))))) (.cons (.set 3 (.ite (.cmp .Eq (.b1 .len (.var 1)) (.cst (.int 1))) (.cst (.int 1)) (.call 10 (.cons (.idx (.var 1) (.cst (.int 1))) (.cons (.cst (.int 2)) (.cons (.op .Sub (.glb 0) (.cst (.int 1))) .nil)))))) (.cons (.cond (.or (.cons (.cmp .Is (.var 2) (.cst .none)) (.cons (.cmp .Is (.var 3) (.cst .none)) (.cons (.cmp .Gt (.b1 .len (.var 1)) (.cst (.int 2))) (.cons (.not (.call 16 (.cons (.var 2) (.cons (.var 3) .nil)))) .nil))))) (.cons (.ret (.cst .none)) .nil) .nil) (.cons (.ret (.tup (.cons (.var 2) (.cons (.var 3) .nil)))) .nil)))))⟩
def f18 : Fn := ⟨7, 2, (.cons (.cond (.cmp .Eq (.var 1) (.cst (.str (Str.ofString "")))) (.cons (.ret (.cmp .NotEq (.var 0) (.cst (.int 0)))) .nil) .nil) (.cons (.cond (.or (.cons (.not (.call 9 (.cons (.var 1) .nil))) (.cons (.cmp .Eq (.var 1) (.cst (.str (Str.ofString "0")))) (.cons (.cmp .Eq (.var 0) (.cst (.int 0))) .nil)))) (.cons (.ret (.cst (.bool false))) .nil) .nil) (.cons (.par [3, 4] (.cons (.b1 .int (.var 1)) (.cons (.b1 .int (.var 1)) .nil)) []) (.cons (.for_ (.nm 2) .range1 (.cons (.op .Add (.op .Sub (.glb 10) (.b1 .len (.var 1))) (.cst (.int 1))) .nil) (.cons (.set 5 (.max3 (.cst (.int 2)) (.var 3) (.op .Sub (.cst (.int 0)) (.op .FloorDiv (.op .Sub (.cst (.int 0)) (.b1 .abs (.var 0))) (.glb 3))))) (.cons (.cond (.b1 .any (.comp [(Str.ofString "bottom", 6)] (.call 16 (.cons (.var 0) (.cons (.var 6) .nil))) (.nm 6) .range2 (.cons (.var 5) (.cons (.op .Add (.b2 .min (.var 4) (.op .Add (.var 5) (.cst (.int 100)))) (.cst (.int 1))) .nil)))) (.cons (.ret (.cst (.bool true))) .nil) .nil) (.cons (.par [3, 4] (.cons (.op .Mult (.cst (.int 10)) (.var 3)) (.cons (.op .Add (.op .Mult (.cst (.int 10)) (.var 4)) (.cst (.int 9))) .nil)) []) .nil)))) (.cons (.ret (.cst (.bool false))) .nil)))))⟩
def f19 : Fn := ⟨3, 1, (.cons (.set 1 (.m1 .split (.var 0) (.cst (.str (Str.ofString "/"))))) (.cons (.cond (.cmp .In (.var 0) (.tup (.cons (.cst (.str (Str.ofString ""))) (.cons (.cst (.str (Str.ofString "-"))) .nil)))) (.cons (.ret (.cst (.bool true))) .nil) .nil) (.cons (.set 2 (.call 10 (.cons (.idx (.var 1) (.cst (.int 0))) (.cons (.op .Sub (.cst (.int 1)) (.glb 0)) (.cons (.op .Sub (.glb 0) (.cst (.int 1))) .nil))))) (.cons (.cond (.or (.cons (.cmp .Is (.var 2) (.cst .none)) (.cons (.cmp .Gt (.b1 .len (.var 1)) (.cst (.int 2))) .nil))) (.cons (.ret (.cst (.bool false))) .nil) .nil) (.cons (.ret (.or (.cons (.cmp .Eq (.b1 .len (.var 1)) (.cst (.int 1))) (.cons (.call 18 (.cons (.var 2) (.cons (.idx (.var 1) (.cst (.int 1))) .nil))) .nil)))) .nil)))))⟩
def f20 : Fn := ⟨3, 1, (.cons (.set 1 (.comp [(Str.ofString "part", 2)] (.call 17 (.cons (.var 2) .nil)) (.nm 2) .seq (.cons (.m1 .split (.var 0) (.cst (.str (Str.ofString ",")))) .nil))) (.cons (.ret (.ite (.or (.cons (.cmp .In (.cst .none) (.var 1)) (.cons (.cmp .Gt (.b1 .len (.var 1)) (.glb 1)) .nil))) (.cst .none) (.var 1))) .nil))⟩
def f21 : Fn := ⟨3, 1, (.cons (.set 1 (.m1 .split (.var 0) (.cst (.str (Str.ofString ","))))) (.cons (.cond (.or (.cons (.cmp .Gt (.b1 .len (.var 1)) (.glb 1)) (.cons (.b1 .any (.comp [(Str.ofString "part", 2)] (.cmp .Is (.call 17 (.cons (.var 2) .nil)) (.cst .none)) (.nm 2) .seq (.cons (.slH (.var 1) (.neg (.cst (.int 1)))) .nil))) .nil))) (.cons (.ret (.cst (.bool false))) .nil) .nil) (.cons (.ret (.call 19 (.cons (.idx (.var 1) (.neg (.cst (.int 1)))) .nil))) .nil)))⟩
def f22 : Fn := ⟨2, 1, (.cons (.cond (.or (.cons (.not (.isa .seq (.var 0))) (.cons (.not (.cmp2 .LtE .LtE (.cst (.int 1)) (.b1 .len (.var 0)) (.glb 1))) .nil))) (.cons (.ret (.cst (.bool false))) .nil) .nil) (.cons (.cond (.or (.cons (.not (.call 8 (.cons (.b1 .len (.var 0)) (.cons (.var 0) .nil)))) (.cons (.not (.b1 .all (.comp [(Str.ofString "one", 1)] (.call 5 (.cons (.var 1) .nil)) (.nm 1) .seq (.cons (.var 0) .nil)))) .nil))) (.cons (.ret (.cst (.bool false))) .nil) .nil) (.cons (.ret (.b1 .all (.comp [(Str.ofString "one", 1)] (.cmp .LtE (.b1 .abs (.idx (.var 1) (.cst (.int 0)))) (.op .Mult (.glb 3) (.idx (.var 1) (.cst (.int 1))))) (.nm 1) .seq (.cons (.var 0) .nil)))) .nil)))⟩
def f23 : Fn := ⟨1, 1, (.cons (.ret (.ite (.cmp .Eq (.idx (.var 0) (.cst (.int 1))) (.cst (.int 1))) (.b1 .str (.idx (.var 0) (.cst (.int 0)))) (.op .Add (.op .Add (.b1 .str (.idx (.var 0) (.cst (.int 0)))) (.cst (.str (Str.ofString "/")))) (.b1 .str (.idx (.var 0) (.cst (.int 1))))))) .nil)⟩
def f24 : Fn := ⟨2, 1, (.cons (.ret (.ite (.cmp .Eq (.var 0) (.tup .nil)) (.glb 9) (.m1 .join (.cst (.str (Str.ofString ","))) (.comp [(Str.ofString "thing", 1)] (.b1 .str (.var 1)) (.nm 1) .seq (.cons (.var 0) .nil))))) .nil)⟩
def f25 : Fn := ⟨1, 1, (.cons (.ret (.and (.cons (.isa .str (.var 0)) (.cons (.cmp .In (.var 0) (.glb 7)) .nil)))) .nil)⟩
def f26 : Fn := ⟨2, 2, (.cons (.cond (.cmp .Eq (.var 0) (.glb 5)) (.cons (.ret (.call 6 (.cons (.var 1) .nil))) .nil) .nil) (.cons (.ret (.ite (.cmp .Eq (.var 0) (.glb 6)) (.call 7 (.cons (.glb 1) (.cons (.var 1) .nil))) (.call 22 (.cons (.var 1) .nil)))) .nil))⟩
def f27 : Fn := ⟨2, 2, (.cons (.cond (.cmp .Eq (.var 0) (.glb 5)) (.cons (.ret (.call 12 (.cons (.var 1) .nil))) .nil) .nil) (.cons (.ret (.ite (.cmp .Eq (.var 0) (.glb 6)) (.call 14 (.cons (.var 1) .nil)) (.call 20 (.cons (.var 1) .nil)))) .nil))⟩
def f28 : Fn := ⟨2, 2, (.cons (.cond (.cmp .Eq (.var 0) (.glb 5)) (.cons (.ret (.call 13 (.cons (.var 1) .nil))) .nil) .nil) (.cons (.ret (.ite (.cmp .Eq (.var 0) (.glb 6)) (.call 15 (.cons (.var 1) .nil)) (.call 21 (.cons (.var 1) .nil)))) .nil))⟩
def f29 : Fn := ⟨3, 2, (.cons (.cond (.cmp .IsNot (.call 27 (.cons (.var 0) (.cons (.var 1) .nil))) (.cst .none)) (.cons (.ret (.cst .none)) .nil) .nil) (.cons (.set 2 (.cst (.int 0))) (.cons (.while_ (.and (.cons (.cmp .Lt (.var 2) (.b1 .len (.var 1))) (.cons (.call 28 (.cons (.var 0) (.cons (.slH (.var 1) (.op .Add (.var 2) (.cst (.int 1)))) .nil))) .nil))) (.cons (.set 2 (.op .Add (.var 2) (.cst (.int 1)))) .nil)) (.cons (.ret (.var 2)) .nil))))⟩
def f30 : Fn := ⟨3, 2, (.cons (.set 2 (.call 29 (.cons (.var 0) (.cons (.var 1) .nil)))) (.cons (.cond (.cmp .IsNot (.var 2) (.cst .none)) (.cons (.raise 1 (.cons (.var 2) .nil)) .nil) .nil) (.cons (.ret (.call 27 (.cons (.var 0) (.cons (.var 1) .nil)))) .nil)))⟩
def f31 : Fn := ⟨2, 2, (.cons (.cond (.not (.call 25 (.cons (.var 0) .nil))) (.cons (.raise 3 (.cons (.var 0) .nil)) .nil) .nil) (.cons (.cond (.not (.isa .str (.var 1))) (.cons (.raise 4 (.cons (.var 1) .nil)) .nil) .nil) .nil))⟩
def f32 : Fn := ⟨3, 2, (.cons (.cond (.not (.call 25 (.cons (.var 0) .nil))) (.cons (.raise 3 (.cons (.var 0) .nil)) .nil) .nil) (.cons (.cond (.not (.call 26 (.cons (.var 0) (.cons (.var 1) .nil)))) (.cons (.raise 2 (.cons (.var 1) .nil)) .nil) .nil) (.cons (.cond (.cmp .Eq (.var 0) (.glb 5)) (.cons (.ret (.op .Add (.op .Add (.b1 .str (.idx (.var 1) (.cst (.int 0)))) (.cst (.str (Str.ofString ":")))) (.m1 .join (.cst (.str (Str.ofString ","))) (.comp [(Str.ofString "one", 2)] (.b1 .str (.var 2)) (.nm 2) .seq (.cons (.idx (.var 1) (.cst (.int 1))) .nil))))) .nil) .nil) (.cons (.ret (.ite (.cmp .Eq (.var 0) (.glb 6)) (.call 24 (.cons (.var 1) .nil)) (.m1 .join (.cst (.str (Str.ofString ","))) (.comp [(Str.ofString "one", 2)] (.call 23 (.cons (.var 2) .nil)) (.nm 2) .seq (.cons (.var 1) .nil))))) .nil))))⟩
def f33 : Fn := ⟨2, 2, (.cons (.drop (.call 31 (.cons (.var 0) (.cons (.var 1) .nil)))) (.cons (.ret (.call 29 (.cons (.var 0) (.cons (.var 1) .nil)))) .nil))⟩
def f34 : Fn := ⟨2, 2, (.cons (.drop (.call 31 (.cons (.var 0) (.cons (.var 1) .nil)))) (.cons (.ret (.call 30 (.cons (.var 0) (.cons (.var 1) .nil)))) .nil))⟩
def f35 : Fn := ⟨3, 2, (.cons (.set 2 (.ite (.cmp .Lt (.var 1) (.b1 .len (.var 0))) (.b1 .abs (.idx (.var 0) (.var 1))) (.op .Add (.op .Mult (.cst (.int 4283)) (.var 1)) (.cst (.int 2909))))) (.cons (.retr (.cons (.b2 .max (.cst (.int 0)) (.op .Sub (.var 2) (.op .Pow (.cst (.int 10)) (.cst (.int 18))))) (.cons (.op .Add (.op .Mod (.b1 .int (.op .Add (.op .Add (.op .Mult (.op .Mod (.b1 .int (.var 2)) (.cst (.int 2147483549))) (.cst (.int 45289))) (.op .Mult (.cst (.int 2909)) (.var 1))) (.cst (.int 4283)))) (.cst (.int 2147483563))) (.cst (.int 1))) .nil))) .nil))⟩
def f36 : Fn := ⟨3, 2, (.cons (.cond (.cmp .Gt (.idx (.var 0) (.cst (.int 0))) (.cst (.int 0))) (.cons (.setrp 0 0 2 (.b2 .divmod (.idx (.var 0) (.cst (.int 0))) (.var 1))) (.cons (.ret (.var 2)) .nil)) .nil) (.cons (.setr 0 1 (.op .Mod (.b1 .int (.op .Add (.op .Mult (.idx (.var 0) (.cst (.int 1))) (.cst (.int 40014))) (.cst (.int 3469)))) (.cst (.int 2147483563)))) (.cons (.ret (.op .Mod (.b1 .int (.op .FloorDiv (.op .Mod (.b1 .int (.op .Mult (.idx (.var 0) (.cst (.int 1))) (.idx (.var 0) (.cst (.int 1))))) (.cst (.int 2147483549))) (.cst (.int 17)))) (.var 1))) .nil)))⟩
def f37 : Fn := ⟨2, 2, (.cons (.ret (.idx (.var 1) (.call 36 (.cons (.var 0) (.cons (.b1 .len (.var 1)) .nil))))) .nil)⟩
def f38 : Fn := ⟨3, 1, (.cons (.par [1, 2] (.cons (.lst .nil) (.cons (.cst (.int 0)) .nil)) [1]) (.cons (.while_ (.cmp .Gt (.var 0) (.cst (.int 0))) (.cons (.cond (.cmp .Eq (.op .Mod (.b1 .int (.var 0)) (.cst (.int 2))) (.cst (.int 1))) (.cons (.app 1 (.var 2)) .nil) .nil) (.cons (.par [0, 2] (.cons (.op .FloorDiv (.var 0) (.cst (.int 2))) (.cons (.op .Add (.var 2) (.cst (.int 1))) .nil)) []) .nil))) (.cons (.ret (.b1 .tuple (.view 1))) .nil)))⟩
def f39 : Fn := ⟨1, 1, (.cons (.ret (.idx (.lst (.cons (.cst (.int 1)) (.cons (.cst (.int 2)) (.cons (.cst (.int 4)) (.cons (.cst (.int 8)) (.cons (.cst (.int 16)) (.cons (.cst (.int 32)) .nil))))))) (.var 0))) .nil)⟩
def f40 : Fn := ⟨2, 1, (.cons (.ret (.comp [(Str.ofString "number", 1)] (.call 38 (.cons (.var 1) .nil)) (.nm 1) .range1 (.cons (.call 39 (.cons (.var 0) .nil)) .nil))) .nil)⟩
def f41 : Fn := ⟨4, 2, (.cons (.par [2, 3] (.cons (.b1 .abs (.var 0)) (.cons (.var 1) .nil)) []) (.cons (.while_ (.cmp .Gt (.var 3) (.cst (.int 0))) (.cons (.par [2, 3] (.cons (.var 3) (.cons (.op .Mod (.b1 .int (.var 2)) (.var 3)) .nil)) []) .nil)) (.cons (.ret (.tup (.cons (.op .FloorDiv (.var 0) (.var 2)) (.cons (.op .FloorDiv (.var 1) (.var 2)) .nil)))) .nil)))⟩
def f42 : Fn := ⟨5, 2, (.cons (.par [2, 3] (.cons (.op .Add (.cst (.int 1)) (.call 36 (.cons (.var 0) (.cons (.var 1) .nil)))) (.cons (.call 37 (.cons (.var 0) (.cons (.lst (.cons (.cst (.int 2)) (.cons (.cst (.int 9)) (.cons (.cst (.int 99)) .nil)))) .nil))) .nil)) []) (.cons (.ret (.tup (.cons (.var 2) (.cons (.comp [(Str.ofString "lot", 4)] (.op .Sub (.call 36 (.cons (.var 0) (.cons (.op .Add (.op .Mult (.cst (.int 2)) (.var 3)) (.cst (.int 1))) .nil))) (.var 3)) (.nm 4) .seq (.cons (.call 40 (.cons (.var 2) .nil)) .nil)) .nil)))) .nil))⟩
def f43 : Fn := ⟨4, 2, (.cons (.set 2 (.call 37 (.cons (.var 0) (.cons (.lst (.cons (.cst (.int 2)) (.cons (.cst (.int 9)) (.cons (.cst (.int 999)) .nil)))) .nil)))) (.cons (.ret (.comp [(Str.ofString "thing", 3)] (.call 41 (.cons (.op .Sub (.call 36 (.cons (.var 0) (.cons (.op .Add (.op .Mult (.cst (.int 2)) (.var 2)) (.cst (.int 1))) .nil))) (.var 2)) (.cons (.call 37 (.cons (.var 0) (.cons (.lst (.cons (.cst (.int 1)) (.cons (.cst (.int 1)) (.cons (.cst (.int 2)) (.cons (.cst (.int 7)) (.cons (.op .Add (.op .Pow (.cst (.int 10)) (.cst (.int 11))) (.cst (.int 7))) .nil)))))) .nil))) .nil))) (.nm 3) .range1 (.cons (.var 1) .nil))) .nil))⟩
def f44 : Fn := ⟨1, 1, (.cons (.ret (.ite (.cmp .Eq (.idx (.var 0) (.cst (.int 1))) (.cst (.int 1))) (.b1 .str (.idx (.var 0) (.cst (.int 0)))) (.op .Add (.op .Add (.b1 .str (.idx (.var 0) (.cst (.int 0)))) (.cst (.str (Str.ofString "/")))) (.b1 .str (.idx (.var 0) (.cst (.int 1))))))) .nil)⟩
def f45 : Fn := ⟨2, 1, (.cons (.ret (.ite (.cmp .Eq (.var 0) (.tup .nil)) (.cst (.str (Str.ofString "-"))) (.m1 .join (.cst (.str (Str.ofString ","))) (.comp [(Str.ofString "thing", 1)] (.b1 .str (.var 1)) (.nm 1) .seq (.cons (.var 0) .nil))))) .nil)⟩
def f46 : Fn := ⟨3, 2, (.cons (.cond (.cmp .Eq (.var 0) (.cst (.str (Str.ofString "table")))) (.cons (.ret (.op .Add (.op .Add (.b1 .str (.idx (.var 1) (.cst (.int 0)))) (.cst (.str (Str.ofString ":")))) (.m1 .join (.cst (.str (Str.ofString ","))) (.comp [(Str.ofString "one", 2)] (.b1 .str (.var 2)) (.nm 2) .seq (.cons (.idx (.var 1) (.cst (.int 1))) .nil))))) .nil) .nil) (.cons (.ret (.ite (.cmp .Eq (.var 0) (.cst (.str (Str.ofString "lot")))) (.call 45 (.cons (.var 1) .nil)) (.m1 .join (.cst (.str (Str.ofString ","))) (.comp [(Str.ofString "one", 2)] (.call 44 (.cons (.var 2) .nil)) (.nm 2) .seq (.cons (.var 1) .nil))))) .nil))⟩
def f47 : Fn := ⟨3, 3, (.cons (.cond (.cmp .Eq (.var 1) (.cst (.str (Str.ofString "table")))) (.cons (.ret (.call 42 (.cons (.var 0) (.cons (.var 2) .nil)))) .nil) .nil) (.cons (.ret (.ite (.cmp .Eq (.var 1) (.cst (.str (Str.ofString "lot")))) (.call 38 (.cons (.call 36 (.cons (.var 0) (.cons (.cst (.int 32)) .nil))) .nil)) (.call 43 (.cons (.var 0) (.cons (.op .Add (.cst (.int 1)) (.call 36 (.cons (.var 0) (.cons (.cst (.int 5)) .nil)))) .nil))))) .nil))⟩
def f48 : Fn := ⟨7, 2, (.cons (.par [3, 4] (.cons (.call 47 (.cons (.var 0) (.cons (.var 1) (.cons (.cst (.int 5)) .nil)))) (.cons (.call 47 (.cons (.var 0) (.cons (.var 1) (.cons (.cst (.int 2)) .nil)))) .nil)) []) (.cons (.par [5, 6] (.cons (.call 46 (.cons (.var 1) (.cons (.var 3) .nil))) (.cons (.b1 .repr (.var 3)) .nil)) []) (.cons (.set 2 (.ite (.cmp .Eq (.var 1) (.cst (.str (Str.ofString "table")))) (.tup (.cons (.idx (.var 3) (.cst (.int 0))) (.cons (.b1 .tuple (.idx (.var 3) (.cst (.int 1)))) .nil))) (.b1 .tuple (.var 3)))) (.cons (.cond (.cmp .NotEq (.b1 .repr (.lst (.cons (.call 32 (.cons (.var 1) (.cons (.var 3) .nil))) (.cons (.callk 32 .nil [Str.ofString "kept_thing", Str.ofString "sort"] [1, 0] (.cons (.var 2) (.cons (.var 1) .nil))) .nil)))) (.b1 .repr (.lst (.cons (.var 5) (.cons (.var 5) .nil))))) (.cons (.ret (.cst (.bool false))) .nil) .nil) (.cons (.cond (.cmp .NotEq (.b1 .repr (.lst (.cons (.call 34 (.cons (.var 1) (.cons (.var 5) .nil))) (.cons (.callk 34 .nil [Str.ofString "written", Str.ofString "sort"] [1, 0] (.cons (.var 5) (.cons (.var 1) .nil))) .nil)))) (.b1 .repr (.lst (.cons (.var 3) (.cons (.var 3) .nil))))) (.cons (.ret (.cst (.bool false))) .nil) .nil) (.cons (.cond (.or (.cons (.cmp .IsNot (.call 33 (.cons (.var 1) (.cons (.var 5) .nil))) (.cst .none)) (.cons (.cmp .IsNot (.callk 33 .nil [Str.ofString "written", Str.ofString "sort"] [1, 0] (.cons (.var 5) (.cons (.var 1) .nil))) (.cst .none)) .nil))) (.cons (.ret (.cst (.bool false))) .nil) .nil) (.cons (.cond (.cmp .Eq (.var 1) (.cst (.str (Str.ofString "prices")))) (.cons (.spoil (.call 34 (.cons (.var 1) (.cons (.var 5) .nil))) [] .none) .nil) .nil) (.cons (.cond (.cmp .Eq (.var 1) (.cst (.str (Str.ofString "table")))) (.cons (.spoil (.call 34 (.cons (.var 1) (.cons (.var 5) .nil))) [1] .none) .nil) .nil) (.cons (.ret (.and (.cons (.cmp .Eq (.call 34 (.cons (.var 1) (.cons (.var 5) .nil))) (.var 3)) (.cons (.cmp .Eq (.b1 .repr (.var 3)) (.var 6)) (.cons (.cmp .Eq (.cmp .Eq (.call 32 (.cons (.var 1) (.cons (.var 4) .nil))) (.var 5)) (.cmp .Eq (.var 4) (.var 3))) .nil))))) .nil)))))))))⟩
def f49 : Fn := ⟨8, 1, (.cons (.set 1 (.tup (.cons (.cst (.int 5)) (.cons (.comp [(Str.ofString "lot", 7)] (.call 37 (.cons (.var 0) (.cons (.lst (.cons (.cst (.int 99)) (.cons (.neg (.cst (.int 99))) (.cons (.cst (.int 0)) (.cons (.neg (.cst (.int 1))) (.cons (.cst (.int 10)) .nil)))))) .nil))) (.nm 7) .range1 (.cons (.cst (.int 32)) .nil)) .nil)))) (.cons (.set 2 (.lst (.cons (.tup (.cons (.cst (.int 999)) (.cons (.cst (.int 1)) .nil))) (.cons (.tup (.cons (.neg (.cst (.int 999))) (.cons (.cst (.int 1)) .nil))) (.cons (.tup (.cons (.op .Sub (.op .Pow (.cst (.int 10)) (.cst (.int 12))) (.cst (.int 1))) (.cons (.op .Sub (.op .Pow (.cst (.int 10)) (.cst (.int 12))) (.cst (.int 2))) .nil))) (.cons (.tup (.cons (.op .Sub (.cst (.int 1)) (.op .Pow (.cst (.int 10)) (.cst (.int 12)))) (.cons (.cst (.int 1001001002)) .nil))) (.cons (.tup (.cons (.cst (.int 998001)) (.cons (.cst (.int 1000)) .nil))) .nil))))))) (.cons (.set 3 (.comp [(Str.ofString "thing", 5)] (.call 37 (.cons (.var 0) (.cons (.op .Add (.var 2) (.lst (.cons (.tup (.cons (.cst (.int 0)) (.cons (.cst (.int 1)) .nil))) (.cons (.tup (.cons (.cst (.int 1)) (.cons (.cst (.int 2)) .nil))) (.cons (.tup (.cons (.neg (.cst (.int 1))) (.cons (.op .Sub (.op .Pow (.cst (.int 10)) (.cst (.int 12))) (.cst (.int 1))) .nil))) .nil))))) .nil))) (.nm 5) .range1 (.cons (.cst (.int 5)) .nil))) (.cons (.for_ (.tp [4, 5]) .seq (.cons (.lst (.cons (.tup (.cons (.cst (.str (Str.ofString "table"))) (.cons (.var 1) .nil))) (.cons (.tup (.cons (.cst (.str (Str.ofString "prices"))) (.cons (.var 3) .nil))) (.cons (.tup (.cons (.cst (.str (Str.ofString "lot"))) (.cons (.tup (.cons (.cst (.int 0)) (.cons (.cst (.int 1)) (.cons (.cst (.int 2)) (.cons (.cst (.int 3)) (.cons (.cst (.int 4)) .nil)))))) .nil))) (.cons (.tup (.cons (.cst (.str (Str.ofString "lot"))) (.cons (.tup .nil) .nil))) (.cons (.tup (.cons (.cst (.str (Str.ofString "lot"))) (.cons (.tup (.cons (.cst (.int 4)) .nil)) .nil))) (.cons (.tup (.cons (.cst (.str (Str.ofString "prices"))) (.cons (.var 2) .nil))) .nil))))))) .nil) (.cons (.set 6 (.call 46 (.cons (.var 4) (.cons (.var 5) .nil)))) (.cons (.cond (.or (.cons (.cmp .NotEq (.call 32 (.cons (.var 4) (.cons (.var 5) .nil))) (.var 6)) (.cons (.cmp .NotEq (.call 34 (.cons (.var 4) (.cons (.var 6) .nil))) (.var 5)) .nil))) (.cons (.ret (.cst (.bool false))) .nil) .nil) .nil))) (.cons (.ret (.cst (.bool true))) .nil)))))⟩
def f50 : Fn := ⟨4, 1, (.cons (.for_ (.nm 1) .range1 (.cons (.b2 .max (.cst (.int 1)) (.b2 .min (.cst (.int 3)) (.b1 .len (.var 0)))) .nil) (.cons (.set 2 (.call 35 (.cons (.var 0) (.cons (.var 1) .nil)))) (.cons (.cond (.or (.cons (.not (.b1 .all (.comp [(Str.ofString "sort", 3)] (.call 48 (.cons (.var 2) (.cons (.var 3) .nil))) (.nm 3) .seq (.cons (.tup (.cons (.cst (.str (Str.ofString "table"))) (.cons (.cst (.str (Str.ofString "lot"))) (.cons (.cst (.str (Str.ofString "prices"))) .nil)))) .nil)))) (.cons (.not (.call 49 (.cons (.var 2) .nil))) .nil))) (.cons (.ret (.cst (.bool false))) .nil) .nil) .nil))) (.cons (.ret (.cst (.bool true))) .nil))⟩
def fns : List Fn := [f0, f1, f2, f3, f4, f5, f6, f7, f8, f9, f10, f11, f12, f13, f14, f15, f16, f17, f18, f19, f20, f21, f22, f23, f24, f25, f26, f27, f28, f29, f30, f31, f32, f33, f34, f35, f36, f37, f38, f39, f40, f41, f42, f43, f44, f45, f46, f47, f48, f49, f50]
def dnames : List Str := [Str.ofString "is_integer", Str.ofString "is_within", Str.ofString "is_list", Str.ofString "divisor", Str.ofString "is_fraction_of", Str.ofString "is_short", Str.ofString "is_table_of", Str.ofString "is_lot_of", Str.ofString "are_prices_of", Str.ofString "are_figures", Str.ofString "number_in", Str.ofString "is_number_begun", Str.ofString "table_in", Str.ofString "is_table_begun", Str.ofString "lot_in", Str.ofString "is_lot_begun", Str.ofString "is_price", Str.ofString "price_in", Str.ofString "is_bottom_begun", Str.ofString "is_price_begun", Str.ofString "prices_in", Str.ofString "are_prices_begun", Str.ofString "are_prices", Str.ofString "price_text", Str.ofString "lot_text", Str.ofString "is_sort", Str.ofString "is_thing_of", Str.ofString "read", Str.ofString "is_begun", Str.ofString "place_in", Str.ofString "read_thing", Str.ofString "check_text", Str.ofString "text_of", Str.ofString "wrong_place", Str.ofString "thing_of", Str.ofString "_law_pot", Str.ofString "_law_draw", Str.ofString "_law_pick", Str.ofString "_law_lot_of", Str.ofString "_law_size", Str.ofString "_law_lots", Str.ofString "_law_frac", Str.ofString "_law_table", Str.ofString "_law_prices", Str.ofString "_law_fraction", Str.ofString "_law_lot_text", Str.ofString "_law_written", Str.ofString "_law_some", Str.ofString "_law_one_right", Str.ofString "_law_full_right", Str.ofString "law"]
def gnames : List Str := [Str.ofString "MOST_DIGITS", Str.ofString "MOST_THINGS", Str.ofString "MOST_WORTH", Str.ofString "MOST_PRICE", Str.ofString "POWERS", Str.ofString "TABLE", Str.ofString "LOT", Str.ofString "SORTS", Str.ofString "FIGURES", Str.ofString "NO_THINGS", Str.ofString "MOST_FIGURES"]
def cnames : List Str := [Str.ofString "LotError", Str.ofString "BadText", Str.ofString "InvalidKept", Str.ofString "InvalidSort", Str.ofString "InvalidWritten"]
def kwl : List (Nat × Nat × List Str × List Nat) := [(33, 0, [Str.ofString "written", Str.ofString "sort"], [1, 0]), (32, 0, [Str.ofString "kept_thing", Str.ofString "sort"], [1, 0]), (34, 0, [Str.ofString "written", Str.ofString "sort"], [1, 0])]
def cc (N : List Str) : Cc := ⟨N, dnames, gnames, cnames, kwl⟩
def topS (i : Nat) : Stmt := PySem.Challenge.pw_lessandless_k92_whole_things_written_and.main.body.getD i (.Pass ⟨0, 0, 0, 0⟩)
abbrev s0 : Stmt := topS 8
def N0 : List Str := [Str.ofString "value"]
def P0 : List Str := [Str.ofString "value"]
abbrev s1 : Stmt := topS 9
def N1 : List Str := [Str.ofString "value", Str.ofString "least", Str.ofString "most"]
def P1 : List Str := [Str.ofString "value", Str.ofString "least", Str.ofString "most"]
abbrev s2 : Stmt := topS 10
def N2 : List Str := [Str.ofString "value"]
def P2 : List Str := [Str.ofString "value"]
abbrev s3 : Stmt := topS 11
def N3 : List Str := [Str.ofString "one", Str.ofString "late"]
def P3 : List Str := [Str.ofString "one", Str.ofString "late"]
abbrev s4 : Stmt := topS 12
def N4 : List Str := [Str.ofString "value"]
def P4 : List Str := [Str.ofString "value"]
abbrev s5 : Stmt := topS 13
def N5 : List Str := [Str.ofString "value"]
def P5 : List Str := [Str.ofString "value"]
abbrev s6 : Stmt := topS 19
def N6 : List Str := [Str.ofString "value", Str.ofString "one"]
def P6 : List Str := [Str.ofString "value"]
abbrev s7 : Stmt := topS 20
def N7 : List Str := [Str.ofString "many", Str.ofString "value", Str.ofString "one", Str.ofString "late"]
def P7 : List Str := [Str.ofString "many", Str.ofString "value"]
abbrev s8 : Stmt := topS 21
def N8 : List Str := [Str.ofString "many", Str.ofString "value", Str.ofString "one"]
def P8 : List Str := [Str.ofString "many", Str.ofString "value"]
abbrev s9 : Stmt := topS 30
def N9 : List Str := [Str.ofString "text", Str.ofString "sign"]
def P9 : List Str := [Str.ofString "text"]
abbrev s10 : Stmt := topS 31
def N10 : List Str := [Str.ofString "text", Str.ofString "least", Str.ofString "most", Str.ofString "bare"]
def P10 : List Str := [Str.ofString "text", Str.ofString "least", Str.ofString "most"]
abbrev s11 : Stmt := topS 32
def N11 : List Str := [Str.ofString "text", Str.ofString "least", Str.ofString "most", Str.ofString "number"]
def P11 : List Str := [Str.ofString "text", Str.ofString "least", Str.ofString "most"]
abbrev s12 : Stmt := topS 33
def N12 : List Str := [Str.ofString "text", Str.ofString "parts", Str.ofString "many", Str.ofString "worths", Str.ofString "part"]
def P12 : List Str := [Str.ofString "text"]
abbrev s13 : Stmt := topS 34
def N13 : List Str := [Str.ofString "text", Str.ofString "parts", Str.ofString "many", Str.ofString "rows", Str.ofString "part"]
def P13 : List Str := [Str.ofString "text"]
abbrev s14 : Stmt := topS 35
def N14 : List Str := [Str.ofString "text", Str.ofString "found", Str.ofString "part"]
def P14 : List Str := [Str.ofString "text"]
abbrev s15 : Stmt := topS 36
def N15 : List Str := [Str.ofString "text", Str.ofString "parts", Str.ofString "ahead", Str.ofString "part"]
def P15 : List Str := [Str.ofString "text"]
abbrev s16 : Stmt := topS 37
def N16 : List Str := [Str.ofString "top", Str.ofString "bottom"]
def P16 : List Str := [Str.ofString "top", Str.ofString "bottom"]
abbrev s17 : Stmt := topS 38
def N17 : List Str := [Str.ofString "text", Str.ofString "parts", Str.ofString "top", Str.ofString "bottom"]
def P17 : List Str := [Str.ofString "text"]
abbrev s18 : Stmt := topS 39
def N18 : List Str := [Str.ofString "top", Str.ofString "text", Str.ofString "more", Str.ofString "low", Str.ofString "high", Str.ofString "begin", Str.ofString "bottom"]
def P18 : List Str := [Str.ofString "top", Str.ofString "text"]
abbrev s19 : Stmt := topS 40
def N19 : List Str := [Str.ofString "text", Str.ofString "parts", Str.ofString "top"]
def P19 : List Str := [Str.ofString "text"]
abbrev s20 : Stmt := topS 41
def N20 : List Str := [Str.ofString "text", Str.ofString "found", Str.ofString "part"]
def P20 : List Str := [Str.ofString "text"]
abbrev s21 : Stmt := topS 42
def N21 : List Str := [Str.ofString "text", Str.ofString "parts", Str.ofString "part"]
def P21 : List Str := [Str.ofString "text"]
abbrev s22 : Stmt := topS 43
def N22 : List Str := [Str.ofString "value", Str.ofString "one"]
def P22 : List Str := [Str.ofString "value"]
abbrev s23 : Stmt := topS 44
def N23 : List Str := [Str.ofString "price"]
def P23 : List Str := [Str.ofString "price"]
abbrev s24 : Stmt := topS 45
def N24 : List Str := [Str.ofString "lot", Str.ofString "thing"]
def P24 : List Str := [Str.ofString "lot"]
abbrev s25 : Stmt := topS 46
def N25 : List Str := [Str.ofString "value"]
def P25 : List Str := [Str.ofString "value"]
abbrev s26 : Stmt := topS 47
def N26 : List Str := [Str.ofString "sort", Str.ofString "value"]
def P26 : List Str := [Str.ofString "sort", Str.ofString "value"]
abbrev s27 : Stmt := topS 48
def N27 : List Str := [Str.ofString "sort", Str.ofString "text"]
def P27 : List Str := [Str.ofString "sort", Str.ofString "text"]
abbrev s28 : Stmt := topS 49
def N28 : List Str := [Str.ofString "sort", Str.ofString "text"]
def P28 : List Str := [Str.ofString "sort", Str.ofString "text"]
abbrev s29 : Stmt := topS 50
def N29 : List Str := [Str.ofString "sort", Str.ofString "text", Str.ofString "place"]
def P29 : List Str := [Str.ofString "sort", Str.ofString "text"]
abbrev s30 : Stmt := topS 51
def N30 : List Str := [Str.ofString "sort", Str.ofString "text", Str.ofString "place"]
def P30 : List Str := [Str.ofString "sort", Str.ofString "text"]
abbrev s31 : Stmt := topS 52
def N31 : List Str := [Str.ofString "sort", Str.ofString "written"]
def P31 : List Str := [Str.ofString "sort", Str.ofString "written"]
abbrev s32 : Stmt := topS 53
def N32 : List Str := [Str.ofString "sort", Str.ofString "kept_thing", Str.ofString "one"]
def P32 : List Str := [Str.ofString "sort", Str.ofString "kept_thing"]
abbrev s33 : Stmt := topS 54
def N33 : List Str := [Str.ofString "sort", Str.ofString "written"]
def P33 : List Str := [Str.ofString "sort", Str.ofString "written"]
abbrev s34 : Stmt := topS 55
def N34 : List Str := [Str.ofString "sort", Str.ofString "written"]
def P34 : List Str := [Str.ofString "sort", Str.ofString "written"]
abbrev s35 : Stmt := topS 57
def N35 : List Str := [Str.ofString "script", Str.ofString "k", Str.ofString "cell"]
def P35 : List Str := [Str.ofString "script", Str.ofString "k"]
abbrev s36 : Stmt := topS 58
def N36 : List Str := [Str.ofString "pot", Str.ofString "many", Str.ofString "digit"]
def P36 : List Str := [Str.ofString "pot", Str.ofString "many"]
abbrev s37 : Stmt := topS 59
def N37 : List Str := [Str.ofString "pot", Str.ofString "some"]
def P37 : List Str := [Str.ofString "pot", Str.ofString "some"]
abbrev s38 : Stmt := topS 60
def N38 : List Str := [Str.ofString "number", Str.ofString "found", Str.ofString "thing"]
def P38 : List Str := [Str.ofString "number"]
abbrev s39 : Stmt := topS 61
def N39 : List Str := [Str.ofString "many"]
def P39 : List Str := [Str.ofString "many"]
abbrev s40 : Stmt := topS 62
def N40 : List Str := [Str.ofString "many", Str.ofString "number"]
def P40 : List Str := [Str.ofString "many"]
abbrev s41 : Stmt := topS 64
def N41 : List Str := [Str.ofString "top", Str.ofString "bottom", Str.ofString "one", Str.ofString "late"]
def P41 : List Str := [Str.ofString "top", Str.ofString "bottom"]
abbrev s42 : Stmt := topS 65
def N42 : List Str := [Str.ofString "pot", Str.ofString "most", Str.ofString "many", Str.ofString "far", Str.ofString "lot"]
def P42 : List Str := [Str.ofString "pot", Str.ofString "most"]
abbrev s43 : Stmt := topS 66
def N43 : List Str := [Str.ofString "pot", Str.ofString "many", Str.ofString "far", Str.ofString "thing"]
def P43 : List Str := [Str.ofString "pot", Str.ofString "many"]
abbrev s44 : Stmt := topS 67
def N44 : List Str := [Str.ofString "one"]
def P44 : List Str := [Str.ofString "one"]
abbrev s45 : Stmt := topS 68
def N45 : List Str := [Str.ofString "lot", Str.ofString "thing"]
def P45 : List Str := [Str.ofString "lot"]
abbrev s46 : Stmt := topS 69
def N46 : List Str := [Str.ofString "sort", Str.ofString "thing", Str.ofString "one"]
def P46 : List Str := [Str.ofString "sort", Str.ofString "thing"]
abbrev s47 : Stmt := topS 70
def N47 : List Str := [Str.ofString "pot", Str.ofString "sort", Str.ofString "most"]
def P47 : List Str := [Str.ofString "pot", Str.ofString "sort", Str.ofString "most"]
abbrev s48 : Stmt := topS 71
def N48 : List Str := [Str.ofString "pot", Str.ofString "sort", Str.ofString "other", Str.ofString "thing", Str.ofString "late", Str.ofString "form", Str.ofString "shown"]
def P48 : List Str := [Str.ofString "pot", Str.ofString "sort"]
abbrev s49 : Stmt := topS 72
def N49 : List Str := [Str.ofString "pot", Str.ofString "table", Str.ofString "great", Str.ofString "prices", Str.ofString "sort", Str.ofString "thing", Str.ofString "form", Str.ofString "lot"]
def P49 : List Str := [Str.ofString "pot"]
abbrev s50 : Stmt := topS 73
def N50 : List Str := [Str.ofString "script", Str.ofString "k", Str.ofString "pot", Str.ofString "sort"]
def P50 : List Str := [Str.ofString "script"]
def consts : List D := [(.int 1000000000000), (.int 5), (.int 99), (.int 999), (.tup [(.int 1), (.int 2), (.int 4), (.int 8), (.int 16), (.int 32)]), (.str (Str.ofString "table")), (.str (Str.ofString "lot")), (.tup [(.str (Str.ofString "table")), (.str (Str.ofString "lot")), (.str (Str.ofString "prices"))]), (.str (Str.ofString "0123456789")), (.str (Str.ofString "-")), (.int 12)]
def txt : Txt0 := ⟨fns, dnames, gnames, cnames, kwl, consts⟩
theorem st0 : Stat txt 0 (Str.ofString "is_integer") s0 N0 P0 := by
  refine ⟨⟨rfl, rfl, rfl, by decide +kernel, rfl, by decide +kernel, by decide +kernel⟩, ⟨f0, rfl, rfl, rfl, by decide +kernel⟩, ?_, ?_⟩
  · intro kV doc pm an cdv ct us hl
    have hl : us.length = 1 := hl
    match us, hl with
    | [_], _ => rfl
  · intro q hq
    have : kwsOf (txt.cc []) 0 = [] := rfl
    rw [this] at hq
    cases hq
theorem st1 : Stat txt 1 (Str.ofString "is_within") s1 N1 P1 := by
  refine ⟨⟨rfl, rfl, rfl, by decide +kernel, rfl, by decide +kernel, by decide +kernel⟩, ⟨f1, rfl, rfl, rfl, by decide +kernel⟩, ?_, ?_⟩
  · intro kV doc pm an cdv ct us hl
    have hl : us.length = 3 := hl
    match us, hl with
    | [_, _, _], _ => rfl
  · intro q hq
    have : kwsOf (txt.cc []) 1 = [] := rfl
    rw [this] at hq
    cases hq
theorem st2 : Stat txt 2 (Str.ofString "is_list") s2 N2 P2 := by
  refine ⟨⟨rfl, rfl, rfl, by decide +kernel, rfl, by decide +kernel, by decide +kernel⟩, ⟨f2, rfl, rfl, rfl, by decide +kernel⟩, ?_, ?_⟩
  · intro kV doc pm an cdv ct us hl
    have hl : us.length = 1 := hl
    match us, hl with
    | [_], _ => rfl
  · intro q hq
    have : kwsOf (txt.cc []) 2 = [] := rfl
    rw [this] at hq
    cases hq
theorem st3 : Stat txt 3 (Str.ofString "divisor") s3 N3 P3 := by
  refine ⟨⟨rfl, rfl, rfl, by decide +kernel, rfl, by decide +kernel, by decide +kernel⟩, ⟨f3, rfl, rfl, rfl, by decide +kernel⟩, ?_, ?_⟩
  · intro kV doc pm an cdv ct us hl
    have hl : us.length = 2 := hl
    match us, hl with
    | [_, _], _ => rfl
  · intro q hq
    have : kwsOf (txt.cc []) 3 = [] := rfl
    rw [this] at hq
    cases hq
theorem st4 : Stat txt 4 (Str.ofString "is_fraction_of") s4 N4 P4 := by
  refine ⟨⟨rfl, rfl, rfl, by decide +kernel, rfl, by decide +kernel, by decide +kernel⟩, ⟨f4, rfl, rfl, rfl, by decide +kernel⟩, ?_, ?_⟩
  · intro kV doc pm an cdv ct us hl
    have hl : us.length = 1 := hl
    match us, hl with
    | [_], _ => rfl
  · intro q hq
    have : kwsOf (txt.cc []) 4 = [] := rfl
    rw [this] at hq
    cases hq
theorem st5 : Stat txt 5 (Str.ofString "is_short") s5 N5 P5 := by
  refine ⟨⟨rfl, rfl, rfl, by decide +kernel, rfl, by decide +kernel, by decide +kernel⟩, ⟨f5, rfl, rfl, rfl, by decide +kernel⟩, ?_, ?_⟩
  · intro kV doc pm an cdv ct us hl
    have hl : us.length = 1 := hl
    match us, hl with
    | [_], _ => rfl
  · intro q hq
    have : kwsOf (txt.cc []) 5 = [] := rfl
    rw [this] at hq
    cases hq
theorem st6 : Stat txt 6 (Str.ofString "is_table_of") s6 N6 P6 := by
  refine ⟨⟨rfl, rfl, rfl, by decide +kernel, rfl, by decide +kernel, by decide +kernel⟩, ⟨f6, rfl, rfl, rfl, by decide +kernel⟩, ?_, ?_⟩
  · intro kV doc pm an cdv ct us hl
    have hl : us.length = 1 := hl
    match us, hl with
    | [_], _ => rfl
  · intro q hq
    have : kwsOf (txt.cc []) 6 = [] := rfl
    rw [this] at hq
    cases hq
theorem st7 : Stat txt 7 (Str.ofString "is_lot_of") s7 N7 P7 := by
  refine ⟨⟨rfl, rfl, rfl, by decide +kernel, rfl, by decide +kernel, by decide +kernel⟩, ⟨f7, rfl, rfl, rfl, by decide +kernel⟩, ?_, ?_⟩
  · intro kV doc pm an cdv ct us hl
    have hl : us.length = 2 := hl
    match us, hl with
    | [_, _], _ => rfl
  · intro q hq
    have : kwsOf (txt.cc []) 7 = [] := rfl
    rw [this] at hq
    cases hq
theorem st8 : Stat txt 8 (Str.ofString "are_prices_of") s8 N8 P8 := by
  refine ⟨⟨rfl, rfl, rfl, by decide +kernel, rfl, by decide +kernel, by decide +kernel⟩, ⟨f8, rfl, rfl, rfl, by decide +kernel⟩, ?_, ?_⟩
  · intro kV doc pm an cdv ct us hl
    have hl : us.length = 2 := hl
    match us, hl with
    | [_, _], _ => rfl
  · intro q hq
    have : kwsOf (txt.cc []) 8 = [] := rfl
    rw [this] at hq
    cases hq
theorem st9 : Stat txt 9 (Str.ofString "are_figures") s9 N9 P9 := by
  refine ⟨⟨rfl, rfl, rfl, by decide +kernel, rfl, by decide +kernel, by decide +kernel⟩, ⟨f9, rfl, rfl, rfl, by decide +kernel⟩, ?_, ?_⟩
  · intro kV doc pm an cdv ct us hl
    have hl : us.length = 1 := hl
    match us, hl with
    | [_], _ => rfl
  · intro q hq
    have : kwsOf (txt.cc []) 9 = [] := rfl
    rw [this] at hq
    cases hq
theorem st10 : Stat txt 10 (Str.ofString "number_in") s10 N10 P10 := by
  refine ⟨⟨rfl, rfl, rfl, by decide +kernel, rfl, by decide +kernel, by decide +kernel⟩, ⟨f10, rfl, rfl, rfl, by decide +kernel⟩, ?_, ?_⟩
  · intro kV doc pm an cdv ct us hl
    have hl : us.length = 3 := hl
    match us, hl with
    | [_, _, _], _ => rfl
  · intro q hq
    have : kwsOf (txt.cc []) 10 = [] := rfl
    rw [this] at hq
    cases hq
theorem st11 : Stat txt 11 (Str.ofString "is_number_begun") s11 N11 P11 := by
  refine ⟨⟨rfl, rfl, rfl, by decide +kernel, rfl, by decide +kernel, by decide +kernel⟩, ⟨f11, rfl, rfl, rfl, by decide +kernel⟩, ?_, ?_⟩
  · intro kV doc pm an cdv ct us hl
    have hl : us.length = 3 := hl
    match us, hl with
    | [_, _, _], _ => rfl
  · intro q hq
    have : kwsOf (txt.cc []) 11 = [] := rfl
    rw [this] at hq
    cases hq
theorem st12 : Stat txt 12 (Str.ofString "table_in") s12 N12 P12 := by
  refine ⟨⟨rfl, rfl, rfl, by decide +kernel, rfl, by decide +kernel, by decide +kernel⟩, ⟨f12, rfl, rfl, rfl, by decide +kernel⟩, ?_, ?_⟩
  · intro kV doc pm an cdv ct us hl
    have hl : us.length = 1 := hl
    match us, hl with
    | [_], _ => rfl
  · intro q hq
    have : kwsOf (txt.cc []) 12 = [] := rfl
    rw [this] at hq
    cases hq
theorem st13 : Stat txt 13 (Str.ofString "is_table_begun") s13 N13 P13 := by
  refine ⟨⟨rfl, rfl, rfl, by decide +kernel, rfl, by decide +kernel, by decide +kernel⟩, ⟨f13, rfl, rfl, rfl, by decide +kernel⟩, ?_, ?_⟩
  · intro kV doc pm an cdv ct us hl
    have hl : us.length = 1 := hl
    match us, hl with
    | [_], _ => rfl
  · intro q hq
    have : kwsOf (txt.cc []) 13 = [] := rfl
    rw [this] at hq
    cases hq
theorem st14 : Stat txt 14 (Str.ofString "lot_in") s14 N14 P14 := by
  refine ⟨⟨rfl, rfl, rfl, by decide +kernel, rfl, by decide +kernel, by decide +kernel⟩, ⟨f14, rfl, rfl, rfl, by decide +kernel⟩, ?_, ?_⟩
  · intro kV doc pm an cdv ct us hl
    have hl : us.length = 1 := hl
    match us, hl with
    | [_], _ => rfl
  · intro q hq
    have : kwsOf (txt.cc []) 14 = [] := rfl
    rw [this] at hq
    cases hq
theorem st15 : Stat txt 15 (Str.ofString "is_lot_begun") s15 N15 P15 := by
  refine ⟨⟨rfl, rfl, rfl, by decide +kernel, rfl, by decide +kernel, by decide +kernel⟩, ⟨f15, rfl, rfl, rfl, by decide +kernel⟩, ?_, ?_⟩
  · intro kV doc pm an cdv ct us hl
    have hl : us.length = 1 := hl
    match us, hl with
    | [_], _ => rfl
  · intro q hq
    have : kwsOf (txt.cc []) 15 = [] := rfl
    rw [this] at hq
    cases hq
theorem st16 : Stat txt 16 (Str.ofString "is_price") s16 N16 P16 := by
  refine ⟨⟨rfl, rfl, rfl, by decide +kernel, rfl, by decide +kernel, by decide +kernel⟩, ⟨f16, rfl, rfl, rfl, by decide +kernel⟩, ?_, ?_⟩
  · intro kV doc pm an cdv ct us hl
    have hl : us.length = 2 := hl
    match us, hl with
    | [_, _], _ => rfl
  · intro q hq
    have : kwsOf (txt.cc []) 16 = [] := rfl
    rw [this] at hq
    cases hq
theorem st17 : Stat txt 17 (Str.ofString "price_in") s17 N17 P17 := by
  refine ⟨⟨rfl, rfl, rfl, by decide +kernel, rfl, by decide +kernel, by decide +kernel⟩, ⟨f17, rfl, rfl, rfl, by decide +kernel⟩, ?_, ?_⟩
  · intro kV doc pm an cdv ct us hl
    have hl : us.length = 1 := hl
    match us, hl with
    | [_], _ => rfl
  · intro q hq
    have : kwsOf (txt.cc []) 17 = [] := rfl
    rw [this] at hq
    cases hq
theorem st18 : Stat txt 18 (Str.ofString "is_bottom_begun") s18 N18 P18 := by
  refine ⟨⟨rfl, rfl, rfl, by decide +kernel, rfl, by decide +kernel, by decide +kernel⟩, ⟨f18, rfl, rfl, rfl, by decide +kernel⟩, ?_, ?_⟩
  · intro kV doc pm an cdv ct us hl
    have hl : us.length = 2 := hl
    match us, hl with
    | [_, _], _ => rfl
  · intro q hq
    have : kwsOf (txt.cc []) 18 = [] := rfl
    rw [this] at hq
    cases hq
theorem st19 : Stat txt 19 (Str.ofString "is_price_begun") s19 N19 P19 := by
  refine ⟨⟨rfl, rfl, rfl, by decide +kernel, rfl, by decide +kernel, by decide +kernel⟩, ⟨f19, rfl, rfl, rfl, by decide +kernel⟩, ?_, ?_⟩
  · intro kV doc pm an cdv ct us hl
    have hl : us.length = 1 := hl
    match us, hl with
    | [_], _ => rfl
  · intro q hq
    have : kwsOf (txt.cc []) 19 = [] := rfl
    rw [this] at hq
    cases hq
theorem st20 : Stat txt 20 (Str.ofString "prices_in") s20 N20 P20 := by
  refine ⟨⟨rfl, rfl, rfl, by decide +kernel, rfl, by decide +kernel, by decide +kernel⟩, ⟨f20, rfl, rfl, rfl, by decide +kernel⟩, ?_, ?_⟩
  · intro kV doc pm an cdv ct us hl
    have hl : us.length = 1 := hl
    match us, hl with
    | [_], _ => rfl
  · intro q hq
    have : kwsOf (txt.cc []) 20 = [] := rfl
    rw [this] at hq
    cases hq
theorem st21 : Stat txt 21 (Str.ofString "are_prices_begun") s21 N21 P21 := by
  refine ⟨⟨rfl, rfl, rfl, by decide +kernel, rfl, by decide +kernel, by decide +kernel⟩, ⟨f21, rfl, rfl, rfl, by decide +kernel⟩, ?_, ?_⟩
  · intro kV doc pm an cdv ct us hl
    have hl : us.length = 1 := hl
    match us, hl with
    | [_], _ => rfl
  · intro q hq
    have : kwsOf (txt.cc []) 21 = [] := rfl
    rw [this] at hq
    cases hq
theorem st22 : Stat txt 22 (Str.ofString "are_prices") s22 N22 P22 := by
  refine ⟨⟨rfl, rfl, rfl, by decide +kernel, rfl, by decide +kernel, by decide +kernel⟩, ⟨f22, rfl, rfl, rfl, by decide +kernel⟩, ?_, ?_⟩
  · intro kV doc pm an cdv ct us hl
    have hl : us.length = 1 := hl
    match us, hl with
    | [_], _ => rfl
  · intro q hq
    have : kwsOf (txt.cc []) 22 = [] := rfl
    rw [this] at hq
    cases hq
theorem st23 : Stat txt 23 (Str.ofString "price_text") s23 N23 P23 := by
  refine ⟨⟨rfl, rfl, rfl, by decide +kernel, rfl, by decide +kernel, by decide +kernel⟩, ⟨f23, rfl, rfl, rfl, by decide +kernel⟩, ?_, ?_⟩
  · intro kV doc pm an cdv ct us hl
    have hl : us.length = 1 := hl
    match us, hl with
    | [_], _ => rfl
  · intro q hq
    have : kwsOf (txt.cc []) 23 = [] := rfl
    rw [this] at hq
    cases hq
theorem st24 : Stat txt 24 (Str.ofString "lot_text") s24 N24 P24 := by
  refine ⟨⟨rfl, rfl, rfl, by decide +kernel, rfl, by decide +kernel, by decide +kernel⟩, ⟨f24, rfl, rfl, rfl, by decide +kernel⟩, ?_, ?_⟩
  · intro kV doc pm an cdv ct us hl
    have hl : us.length = 1 := hl
    match us, hl with
    | [_], _ => rfl
  · intro q hq
    have : kwsOf (txt.cc []) 24 = [] := rfl
    rw [this] at hq
    cases hq
theorem st25 : Stat txt 25 (Str.ofString "is_sort") s25 N25 P25 := by
  refine ⟨⟨rfl, rfl, rfl, by decide +kernel, rfl, by decide +kernel, by decide +kernel⟩, ⟨f25, rfl, rfl, rfl, by decide +kernel⟩, ?_, ?_⟩
  · intro kV doc pm an cdv ct us hl
    have hl : us.length = 1 := hl
    match us, hl with
    | [_], _ => rfl
  · intro q hq
    have : kwsOf (txt.cc []) 25 = [] := rfl
    rw [this] at hq
    cases hq
theorem st26 : Stat txt 26 (Str.ofString "is_thing_of") s26 N26 P26 := by
  refine ⟨⟨rfl, rfl, rfl, by decide +kernel, rfl, by decide +kernel, by decide +kernel⟩, ⟨f26, rfl, rfl, rfl, by decide +kernel⟩, ?_, ?_⟩
  · intro kV doc pm an cdv ct us hl
    have hl : us.length = 2 := hl
    match us, hl with
    | [_, _], _ => rfl
  · intro q hq
    have : kwsOf (txt.cc []) 26 = [] := rfl
    rw [this] at hq
    cases hq
theorem st27 : Stat txt 27 (Str.ofString "read") s27 N27 P27 := by
  refine ⟨⟨rfl, rfl, rfl, by decide +kernel, rfl, by decide +kernel, by decide +kernel⟩, ⟨f27, rfl, rfl, rfl, by decide +kernel⟩, ?_, ?_⟩
  · intro kV doc pm an cdv ct us hl
    have hl : us.length = 2 := hl
    match us, hl with
    | [_, _], _ => rfl
  · intro q hq
    have : kwsOf (txt.cc []) 27 = [] := rfl
    rw [this] at hq
    cases hq
theorem st28 : Stat txt 28 (Str.ofString "is_begun") s28 N28 P28 := by
  refine ⟨⟨rfl, rfl, rfl, by decide +kernel, rfl, by decide +kernel, by decide +kernel⟩, ⟨f28, rfl, rfl, rfl, by decide +kernel⟩, ?_, ?_⟩
  · intro kV doc pm an cdv ct us hl
    have hl : us.length = 2 := hl
    match us, hl with
    | [_, _], _ => rfl
  · intro q hq
    have : kwsOf (txt.cc []) 28 = [] := rfl
    rw [this] at hq
    cases hq
theorem st29 : Stat txt 29 (Str.ofString "place_in") s29 N29 P29 := by
  refine ⟨⟨rfl, rfl, rfl, by decide +kernel, rfl, by decide +kernel, by decide +kernel⟩, ⟨f29, rfl, rfl, rfl, by decide +kernel⟩, ?_, ?_⟩
  · intro kV doc pm an cdv ct us hl
    have hl : us.length = 2 := hl
    match us, hl with
    | [_, _], _ => rfl
  · intro q hq
    have : kwsOf (txt.cc []) 29 = [] := rfl
    rw [this] at hq
    cases hq
theorem st30 : Stat txt 30 (Str.ofString "read_thing") s30 N30 P30 := by
  refine ⟨⟨rfl, rfl, rfl, by decide +kernel, rfl, by decide +kernel, by decide +kernel⟩, ⟨f30, rfl, rfl, rfl, by decide +kernel⟩, ?_, ?_⟩
  · intro kV doc pm an cdv ct us hl
    have hl : us.length = 2 := hl
    match us, hl with
    | [_, _], _ => rfl
  · intro q hq
    have : kwsOf (txt.cc []) 30 = [] := rfl
    rw [this] at hq
    cases hq
theorem st31 : Stat txt 31 (Str.ofString "check_text") s31 N31 P31 := by
  refine ⟨⟨rfl, rfl, rfl, by decide +kernel, rfl, by decide +kernel, by decide +kernel⟩, ⟨f31, rfl, rfl, rfl, by decide +kernel⟩, ?_, ?_⟩
  · intro kV doc pm an cdv ct us hl
    have hl : us.length = 2 := hl
    match us, hl with
    | [_, _], _ => rfl
  · intro q hq
    have : kwsOf (txt.cc []) 31 = [] := rfl
    rw [this] at hq
    cases hq
theorem st32 : Stat txt 32 (Str.ofString "text_of") s32 N32 P32 := by
  refine ⟨⟨rfl, rfl, rfl, by decide +kernel, rfl, by decide +kernel, by decide +kernel⟩, ⟨f32, rfl, rfl, rfl, by decide +kernel⟩, ?_, ?_⟩
  · intro kV doc pm an cdv ct us hl
    have hl : us.length = 2 := hl
    match us, hl with
    | [_, _], _ => rfl
  · intro q hq kV doc pm an cdv ct us ws h1 h2 _
    have e : kwsOf (txt.cc []) 32 = [(0, [Str.ofString "kept_thing", Str.ofString "sort"], [1, 0])] := rfl
    rw [e] at hq
    simp only [List.mem_cons, List.mem_nil_iff, or_false] at hq
    rcases hq with rfl
    · have h1 : us.length = 0 := h1
      have h2 : ws.length = 2 := h2
      match us, h1, ws, h2 with
      | [], _, [_, _], _ => rfl
theorem st33 : Stat txt 33 (Str.ofString "wrong_place") s33 N33 P33 := by
  refine ⟨⟨rfl, rfl, rfl, by decide +kernel, rfl, by decide +kernel, by decide +kernel⟩, ⟨f33, rfl, rfl, rfl, by decide +kernel⟩, ?_, ?_⟩
  · intro kV doc pm an cdv ct us hl
    have hl : us.length = 2 := hl
    match us, hl with
    | [_, _], _ => rfl
  · intro q hq kV doc pm an cdv ct us ws h1 h2 _
    have e : kwsOf (txt.cc []) 33 = [(0, [Str.ofString "written", Str.ofString "sort"], [1, 0])] := rfl
    rw [e] at hq
    simp only [List.mem_cons, List.mem_nil_iff, or_false] at hq
    rcases hq with rfl
    · have h1 : us.length = 0 := h1
      have h2 : ws.length = 2 := h2
      match us, h1, ws, h2 with
      | [], _, [_, _], _ => rfl
theorem st34 : Stat txt 34 (Str.ofString "thing_of") s34 N34 P34 := by
  refine ⟨⟨rfl, rfl, rfl, by decide +kernel, rfl, by decide +kernel, by decide +kernel⟩, ⟨f34, rfl, rfl, rfl, by decide +kernel⟩, ?_, ?_⟩
  · intro kV doc pm an cdv ct us hl
    have hl : us.length = 2 := hl
    match us, hl with
    | [_, _], _ => rfl
  · intro q hq kV doc pm an cdv ct us ws h1 h2 _
    have e : kwsOf (txt.cc []) 34 = [(0, [Str.ofString "written", Str.ofString "sort"], [1, 0])] := rfl
    rw [e] at hq
    simp only [List.mem_cons, List.mem_nil_iff, or_false] at hq
    rcases hq with rfl
    · have h1 : us.length = 0 := h1
      have h2 : ws.length = 2 := h2
      match us, h1, ws, h2 with
      | [], _, [_, _], _ => rfl
theorem st35 : Stat txt 35 (Str.ofString "_law_pot") s35 N35 P35 := by
  refine ⟨⟨rfl, rfl, rfl, by decide +kernel, rfl, by decide +kernel, by decide +kernel⟩, ⟨f35, rfl, rfl, rfl, by decide +kernel⟩, ?_, ?_⟩
  · intro kV doc pm an cdv ct us hl
    have hl : us.length = 2 := hl
    match us, hl with
    | [_, _], _ => rfl
  · intro q hq
    have : kwsOf (txt.cc []) 35 = [] := rfl
    rw [this] at hq
    cases hq
theorem st36 : Stat txt 36 (Str.ofString "_law_draw") s36 N36 P36 := by
  refine ⟨⟨rfl, rfl, rfl, by decide +kernel, rfl, by decide +kernel, by decide +kernel⟩, ⟨f36, rfl, rfl, rfl, by decide +kernel⟩, ?_, ?_⟩
  · intro kV doc pm an cdv ct us hl
    have hl : us.length = 2 := hl
    match us, hl with
    | [_, _], _ => rfl
  · intro q hq
    have : kwsOf (txt.cc []) 36 = [] := rfl
    rw [this] at hq
    cases hq
theorem st37 : Stat txt 37 (Str.ofString "_law_pick") s37 N37 P37 := by
  refine ⟨⟨rfl, rfl, rfl, by decide +kernel, rfl, by decide +kernel, by decide +kernel⟩, ⟨f37, rfl, rfl, rfl, by decide +kernel⟩, ?_, ?_⟩
  · intro kV doc pm an cdv ct us hl
    have hl : us.length = 2 := hl
    match us, hl with
    | [_, _], _ => rfl
  · intro q hq
    have : kwsOf (txt.cc []) 37 = [] := rfl
    rw [this] at hq
    cases hq
theorem st38 : Stat txt 38 (Str.ofString "_law_lot_of") s38 N38 P38 := by
  refine ⟨⟨rfl, rfl, rfl, by decide +kernel, rfl, by decide +kernel, by decide +kernel⟩, ⟨f38, rfl, rfl, rfl, by decide +kernel⟩, ?_, ?_⟩
  · intro kV doc pm an cdv ct us hl
    have hl : us.length = 1 := hl
    match us, hl with
    | [_], _ => rfl
  · intro q hq
    have : kwsOf (txt.cc []) 38 = [] := rfl
    rw [this] at hq
    cases hq
theorem st39 : Stat txt 39 (Str.ofString "_law_size") s39 N39 P39 := by
  refine ⟨⟨rfl, rfl, rfl, by decide +kernel, rfl, by decide +kernel, by decide +kernel⟩, ⟨f39, rfl, rfl, rfl, by decide +kernel⟩, ?_, ?_⟩
  · intro kV doc pm an cdv ct us hl
    have hl : us.length = 1 := hl
    match us, hl with
    | [_], _ => rfl
  · intro q hq
    have : kwsOf (txt.cc []) 39 = [] := rfl
    rw [this] at hq
    cases hq
theorem st40 : Stat txt 40 (Str.ofString "_law_lots") s40 N40 P40 := by
  refine ⟨⟨rfl, rfl, rfl, by decide +kernel, rfl, by decide +kernel, by decide +kernel⟩, ⟨f40, rfl, rfl, rfl, by decide +kernel⟩, ?_, ?_⟩
  · intro kV doc pm an cdv ct us hl
    have hl : us.length = 1 := hl
    match us, hl with
    | [_], _ => rfl
  · intro q hq
    have : kwsOf (txt.cc []) 40 = [] := rfl
    rw [this] at hq
    cases hq
theorem st41 : Stat txt 41 (Str.ofString "_law_frac") s41 N41 P41 := by
  refine ⟨⟨rfl, rfl, rfl, by decide +kernel, rfl, by decide +kernel, by decide +kernel⟩, ⟨f41, rfl, rfl, rfl, by decide +kernel⟩, ?_, ?_⟩
  · intro kV doc pm an cdv ct us hl
    have hl : us.length = 2 := hl
    match us, hl with
    | [_, _], _ => rfl
  · intro q hq
    have : kwsOf (txt.cc []) 41 = [] := rfl
    rw [this] at hq
    cases hq
theorem st42 : Stat txt 42 (Str.ofString "_law_table") s42 N42 P42 := by
  refine ⟨⟨rfl, rfl, rfl, by decide +kernel, rfl, by decide +kernel, by decide +kernel⟩, ⟨f42, rfl, rfl, rfl, by decide +kernel⟩, ?_, ?_⟩
  · intro kV doc pm an cdv ct us hl
    have hl : us.length = 2 := hl
    match us, hl with
    | [_, _], _ => rfl
  · intro q hq
    have : kwsOf (txt.cc []) 42 = [] := rfl
    rw [this] at hq
    cases hq
theorem st43 : Stat txt 43 (Str.ofString "_law_prices") s43 N43 P43 := by
  refine ⟨⟨rfl, rfl, rfl, by decide +kernel, rfl, by decide +kernel, by decide +kernel⟩, ⟨f43, rfl, rfl, rfl, by decide +kernel⟩, ?_, ?_⟩
  · intro kV doc pm an cdv ct us hl
    have hl : us.length = 2 := hl
    match us, hl with
    | [_, _], _ => rfl
  · intro q hq
    have : kwsOf (txt.cc []) 43 = [] := rfl
    rw [this] at hq
    cases hq
theorem st44 : Stat txt 44 (Str.ofString "_law_fraction") s44 N44 P44 := by
  refine ⟨⟨rfl, rfl, rfl, by decide +kernel, rfl, by decide +kernel, by decide +kernel⟩, ⟨f44, rfl, rfl, rfl, by decide +kernel⟩, ?_, ?_⟩
  · intro kV doc pm an cdv ct us hl
    have hl : us.length = 1 := hl
    match us, hl with
    | [_], _ => rfl
  · intro q hq
    have : kwsOf (txt.cc []) 44 = [] := rfl
    rw [this] at hq
    cases hq
theorem st45 : Stat txt 45 (Str.ofString "_law_lot_text") s45 N45 P45 := by
  refine ⟨⟨rfl, rfl, rfl, by decide +kernel, rfl, by decide +kernel, by decide +kernel⟩, ⟨f45, rfl, rfl, rfl, by decide +kernel⟩, ?_, ?_⟩
  · intro kV doc pm an cdv ct us hl
    have hl : us.length = 1 := hl
    match us, hl with
    | [_], _ => rfl
  · intro q hq
    have : kwsOf (txt.cc []) 45 = [] := rfl
    rw [this] at hq
    cases hq
theorem st46 : Stat txt 46 (Str.ofString "_law_written") s46 N46 P46 := by
  refine ⟨⟨rfl, rfl, rfl, by decide +kernel, rfl, by decide +kernel, by decide +kernel⟩, ⟨f46, rfl, rfl, rfl, by decide +kernel⟩, ?_, ?_⟩
  · intro kV doc pm an cdv ct us hl
    have hl : us.length = 2 := hl
    match us, hl with
    | [_, _], _ => rfl
  · intro q hq
    have : kwsOf (txt.cc []) 46 = [] := rfl
    rw [this] at hq
    cases hq
theorem st47 : Stat txt 47 (Str.ofString "_law_some") s47 N47 P47 := by
  refine ⟨⟨rfl, rfl, rfl, by decide +kernel, rfl, by decide +kernel, by decide +kernel⟩, ⟨f47, rfl, rfl, rfl, by decide +kernel⟩, ?_, ?_⟩
  · intro kV doc pm an cdv ct us hl
    have hl : us.length = 3 := hl
    match us, hl with
    | [_, _, _], _ => rfl
  · intro q hq
    have : kwsOf (txt.cc []) 47 = [] := rfl
    rw [this] at hq
    cases hq
theorem st48 : Stat txt 48 (Str.ofString "_law_one_right") s48 N48 P48 := by
  refine ⟨⟨rfl, rfl, rfl, by decide +kernel, rfl, by decide +kernel, by decide +kernel⟩, ⟨f48, rfl, rfl, rfl, by decide +kernel⟩, ?_, ?_⟩
  · intro kV doc pm an cdv ct us hl
    have hl : us.length = 2 := hl
    match us, hl with
    | [_, _], _ => rfl
  · intro q hq
    have : kwsOf (txt.cc []) 48 = [] := rfl
    rw [this] at hq
    cases hq
theorem st49 : Stat txt 49 (Str.ofString "_law_full_right") s49 N49 P49 := by
  refine ⟨⟨rfl, rfl, rfl, by decide +kernel, rfl, by decide +kernel, by decide +kernel⟩, ⟨f49, rfl, rfl, rfl, by decide +kernel⟩, ?_, ?_⟩
  · intro kV doc pm an cdv ct us hl
    have hl : us.length = 1 := hl
    match us, hl with
    | [_], _ => rfl
  · intro q hq
    have : kwsOf (txt.cc []) 49 = [] := rfl
    rw [this] at hq
    cases hq
theorem st50 : Stat txt 50 (Str.ofString "law") s50 N50 P50 := by
  refine ⟨⟨rfl, rfl, rfl, by decide +kernel, rfl, by decide +kernel, by decide +kernel⟩, ⟨f50, rfl, rfl, rfl, by decide +kernel⟩, ?_, ?_⟩
  · intro kV doc pm an cdv ct us hl
    have hl : us.length = 1 := hl
    match us, hl with
    | [_], _ => rfl
  · intro q hq
    have : kwsOf (txt.cc []) 50 = [] := rfl
    rw [this] at hq
    cases hq
end L92

set_option linter.all false
set_option maxRecDepth 100000
set_option maxHeartbeats 4000000
namespace L92
open PySem Mi L2
theorem cl_s (k i : Nat) (ds : List D) (m : Mu) : callF txt.fs txt.consts 1000 (k + 1) i ds m = match txt.fs[i]? with
    | some fn => if ds.length = fn.pars then endF (evSs ⟨txt.consts, callF txt.fs txt.consts 1000 k⟩ 1000 fn.body (startS fn ds) m) else .bad
    | none => .bad := rfl
/-- the constants -/
theorem c0 : txt.consts[0]? = some (.int 1000000000000) := rfl
theorem c1 : txt.consts[1]? = some (.int 5) := rfl
theorem c2 : txt.consts[2]? = some (.int 99) := rfl
theorem c3 : txt.consts[3]? = some (.int 999) := rfl
theorem c4 : txt.consts[4]? = some (.tup [.int 1, .int 2, .int 4, .int 8, .int 16, .int 32]) := rfl
theorem c5 : txt.consts[5]? = some (.str "table") := rfl
theorem c6 : txt.consts[6]? = some (.str "lot") := rfl
theorem c7 : txt.consts[7]? = some (.tup [.str "table", .str "lot", .str "prices"]) := rfl
theorem c8 : txt.consts[8]? = some (.str "0123456789") := rfl
theorem c9 : txt.consts[9]? = some (.str "-") := rfl
theorem c10 : txt.consts[10]? = some (.int 12) := rfl
variable (k : Nat) (m : Mu)
theorem F0 (i : Int) : callF txt.fs txt.consts 1000 (k + 1) 0 [.int i] m = .ok (.bl true) m := rfl
theorem F1 (i a b : Int) : callF txt.fs txt.consts 1000 (k + 2) 1 [.int i, .int a, .int b] m = .ok (.bl (decide (a ≤ i) && decide (i ≤ b))) m := by
  rw [cl_s, show txt.fs[1]? = some f1 from rfl]
  simp [f1, startS, F0]
  by_cases h : a ≤ i <;> simp [h]
theorem F2l (l : List D) : callF txt.fs txt.consts 1000 (k + 1) 2 [.lst l] m = .ok (.bl true) m := rfl
theorem F2t (l : List D) : callF txt.fs txt.consts 1000 (k + 1) 2 [.tup l] m = .ok (.bl true) m := rfl
/-- a test of each -/
theorem all_map {f : D → Mu → Res D} {p : Int → Bool} {ws : List Int} (h : ∀ w ∈ ws, f (.int w) m = .ok (.bl (p w)) m) (ht : ∀ w ∈ ws, p w = true) (hl : ws.length ≤ 16777216) :
    (lstR (mapR f (ws.map .int) m)).bind (fun x m => Res.of (b1op .all x) m) = .ok (.bl true) m := by
  have e := mapR_map (h := fun d => match d with | .int w => .bl (p w) | d => d) (xs := ws.map D.int) (f := f) (m := m) fun x hx => by
    obtain ⟨w, hw, rfl⟩ := List.mem_map.mp hx
    exact h w hw
  rw [e, List.map_map, lstR_ok (by rw [List.length_map]; exact hl)]
  have e2 : List.map ((fun d => match d with | .int w => .bl (p w) | d => d) ∘ D.int) ws = (ws.map p).map D.bl := by
    rw [List.map_map]
    rfl
  rw [e2, bind_ok', all_bls, of_some]
  have : (ws.map p).all id = true := by
    rw [List.all_map]
    exact List.all_eq_true.mpr fun w hw => ht w hw
  rw [this]
/-- is_table_of -/
theorem F6 {n : Nat} {ws : List Int} (h1 : 1 ≤ n) (h5 : n ≤ 5) (hl : ws.length = 2 ^ n) (hw : ∀ w ∈ ws, -99 ≤ w ∧ w ≤ 99) (b : Bool) : callF txt.fs txt.consts 1000 (k + 3) 6 [.tup [.int n, if b then .lst (ws.map .int) else .tup (ws.map .int)]] m = .ok (.bl true) m := by
  have hp : ([D.int 1, D.int 2, D.int 4, D.int 8, D.int 16, D.int 32] : List D)[n]? = some (.int (2 ^ n : Nat)) := by
    have : n = 1 ∨ n = 2 ∨ n = 3 ∨ n = 4 ∨ n = 5 := by omega
    rcases this with rfl | rfl | rfl | rfl | rfl <;> rfl
  have hs : ws.length ≤ 16777216 := by
    rw [hl]
    exact Nat.le_trans (Nat.pow_le_pow_right (by decide) h5) (by decide)
  have t1 : decide (1 ≤ (n : Int)) = true := decide_eq_true (by omega)
  have t2 : decide ((n : Int) ≤ 5) = true := decide_eq_true (by omega)
  have e := all_map (f := fun x m => callF txt.fs txt.consts 1000 (k + 2) 1 [x, .int (-99), .int 99] m) (m := m) (p := fun w => decide (-99 ≤ w) && decide (w ≤ 99)) (ws := ws) (fun w _ => F1 k m w (-99) 99) (fun w h => by simp [hw w h]) hs
  rw [cl_s, show txt.fs[6]? = some f6 from rfl]
  cases b
  · simp [f6, startS, F1, F2l, F2t, c1, c2, c4, isaD, t1, t2, idx_t, at_nat, at_0, at_1, hp, hl]
    rw [e]
    rfl
  · simp [f6, startS, F1, F2l, F2t, c1, c2, c4, isaD, t1, t2, idx_t, at_nat, at_0, at_1, hp, hl]
    rw [e]
    rfl
end L92

set_option linter.all false
set_option maxRecDepth 100000
set_option maxHeartbeats 4000000
namespace L92
open PySem Mi L2
/-- the loop of Euclid -/
abbrev eB : Stms := .cons (.par [0, 1] (.cons (.var 1) (.cons (.op .Mod (.b1 .int (.var 0)) (.var 1)) .nil)) []) .nil
abbrev eW (g : Mi.Env0) (n : Nat) (r : List Slot) (m : Mu) : SRes := whileR (fun r m => asB (ev g (.cmp .Gt (.var 1) (.cst (.int 0))) r m)) (fun r m => evSs g 1000 eB r m) n r m
theorem eW_0 (g : Mi.Env0) (n a : Nat) (m : Mu) : eW g (n + 1) [.val (.int a), .val (.int 0)] m = .nx [.val (.int a), .val (.int 0)] m := by
  unfold eW
  rw [whileR]
  simp
theorem eW_s (g : Mi.Env0) (n a b : Nat) (m : Mu) (h : 0 < b) : eW g (n + 1) [.val (.int a), .val (.int b)] m = eW g n [.val (.int b), .val (.int (a % b : Nat))] m := by
  unfold eW
  conv => lhs; rw [whileR]
  have hb : (0 : Int) < (b : Int) := by omega
  simp [mod_int hb, hb, h, setAll, ownAll]
theorem half {r b : Nat} (h : 0 < r) (hr : r < b) : 2 * (b % r) < b := by
  have h1 : b % r < r := Nat.mod_lt _ h
  have h2 : b % r + r ≤ b := by
    have := Nat.div_add_mod b r
    have h3 : 1 ≤ b / r := (Nat.le_div_iff_mul_le h).mpr (by omega)
    have h4 : r * 1 ≤ r * (b / r) := Nat.mul_le_mul_left r h3
    omega
  omega
theorem eW_g (g : Mi.Env0) (m : Mu) : ∀ (j n a b : Nat), b < 2 ^ j → 2 * j + 1 ≤ n → eW g n [.val (.int a), .val (.int b)] m = .nx [.val (.int (Nat.gcd a b)), .val (.int 0)] m
  | 0, n, a, b, hb, hn => by
    have : b = 0 := by
      have : (2 : Nat) ^ 0 = 1 := rfl
      omega
    subst this
    obtain ⟨n, rfl⟩ : ∃ k, n = k + 1 := ⟨n - 1, by omega⟩
    rw [Nat.gcd_zero_right]
    exact eW_0 g n a m
  | j + 1, n, a, b, hb, hn => by
    obtain ⟨n, rfl⟩ : ∃ k, n = k + 1 := ⟨n - 1, by omega⟩
    by_cases h0 : b = 0
    · subst h0
      rw [Nat.gcd_zero_right]
      exact eW_0 g n a m
    · rw [eW_s g n a b m (by omega)]
      obtain ⟨n, rfl⟩ : ∃ k, n = k + 1 := ⟨n - 1, by omega⟩
      have hg : Nat.gcd a b = Nat.gcd b (a % b) := by rw [Nat.gcd_comm a b, Nat.gcd_rec b a, Nat.gcd_comm]
      by_cases h1 : a % b = 0
      · rw [hg, h1, Nat.gcd_zero_right]
        exact eW_0 g n b m
      · rw [eW_s g n b (a % b) m (by omega), hg]
        have hr : a % b < b := Nat.mod_lt _ (by omega)
        have hh := half (by omega : 0 < a % b) hr
        have hg2 : Nat.gcd b (a % b) = Nat.gcd (a % b) (b % (a % b)) := by rw [Nat.gcd_comm b, Nat.gcd_rec (a % b) b, Nat.gcd_comm]
        rw [hg2]
        exact eW_g g m j n (a % b) (b % (a % b)) (by rw [Nat.pow_succ] at hb; omega) (by omega)
variable (k : Nat) (m : Mu)
theorem F3 (a b : Nat) (hb : b < 2 ^ 200) : callF txt.fs txt.consts 1000 (k + 1) 3 [.int a, .int b] m = .ok (.int (Nat.gcd a b)) m := by
  rw [cl_s, show txt.fs[3]? = some f3 from rfl]
  have e := eW_g ⟨txt.consts, callF txt.fs txt.consts 1000 k⟩ m 200 1000 a b hb (by decide)
  show endF (match eW ⟨txt.consts, callF txt.fs txt.consts 1000 k⟩ 1000 [.val (.int a), .val (.int b)] m with
    | .nx r m => evSs ⟨txt.consts, callF txt.fs txt.consts 1000 k⟩ 1000 (.cons (.ret (.var 0)) .nil) r m
    | o => o) = _
  rw [e]
  simp
theorem natAbs_if (i : Int) : (if i < 0 then -i else i) = (i.natAbs : Int) := by split <;> omega
theorem big : (10 : Nat) ^ 12 < 2 ^ 200 := Nat.lt_of_lt_of_le (by decide : (10:Nat) ^ 12 < 2 ^ 40) (Nat.pow_le_pow_right (by decide) (by decide))
/-- is_fraction_of -/
theorem F4 (t b : Int) (hb : 1 ≤ b) (h2 : b < 10 ^ 12) (hg : Nat.gcd t.natAbs b.natAbs = 1) : callF txt.fs txt.consts 1000 (k + 2) 4 [.tup [.int t, .int b]] m = .ok (.bl true) m := by
  obtain ⟨c, rfl⟩ : ∃ c : Nat, b = c := ⟨b.toNat, by omega⟩
  have hc : c < 2 ^ 200 := Nat.lt_trans (by omega) big
  have e3 := F3 k m t.natAbs c hc
  rw [show Nat.gcd t.natAbs c = 1 from hg] at e3
  rw [cl_s, show txt.fs[4]? = some f4 from rfl]
  simp [f4, startS, F0, isaD, natAbs_if, hb]
  rw [e3]
  simp
end L92

set_option linter.all false
set_option maxRecDepth 100000
set_option maxHeartbeats 4000000
namespace L92
open PySem Mi L2 TL
/-! numbers as texts -/
def sI (i : Int) : Str := toString i
def dg (i : Int) : List Nat := if i < 0 then 45 :: numL i.natAbs else numL i.natAbs
theorem tl_sI (i : Int) : tl (sI i) = dg i := by
  unfold sI dg
  by_cases h : i < 0
  · rw [if_pos h]
    have e := PyProof.Rows.toString_neg h
    have e2 : (0 - i) = ((i.natAbs : Nat) : Int) := by omega
    rw [e2] at e
    have t := tl_num i.natAbs
    rw [tl_ofString] at t
    show tl (Str.ofString (toString i)) = _
    rw [e, tl_ofString, String.toList_append, List.map_append, t]
    rfl
  · rw [if_neg h]
    have e2 : i = ((i.natAbs : Nat) : Int) := by omega
    have t := tl_num i.natAbs
    rw [← e2] at t
    exact t
theorem dg_ne (i : Int) : dg i ≠ [] := by
  unfold dg
  split
  · exact fun z => nomatch z
  · exact numL_ne _
theorem dg_free {i : Int} {s : Nat} (h : s ≠ 45) (h2 : s < 48 ∨ 57 < s) : s ∉ dg i := by
  unfold dg
  split
  · exact fun z => by
      rcases List.mem_cons.mp z with z | z
      · exact h z
      · exact numL_free h2 z
  · exact numL_free h2
theorem numL_head (n : Nat) (h : 0 < n) : ∃ c r, numL n = c :: r ∧ c ≠ 48 := by
  induction n using Nat.strongRecOn with
  | _ n ih =>
    by_cases h9 : n < 10
    · exact ⟨48 + n, [], numL_lt h9, by omega⟩
    · obtain ⟨c, r, e, hc⟩ := ih (n / 10) (by omega) (by omega)
      exact ⟨c, r ++ [48 + n % 10], by rw [numL_step (by omega), e]; rfl, hc⟩
theorem in_fig {c : Nat} (h : 48 ≤ c ∧ c ≤ 57) : inD (sign1 c) (.str "0123456789") = some true := by
  have : c = 48 ∨ c = 49 ∨ c = 50 ∨ c = 51 ∨ c = 52 ∨ c = 53 ∨ c = 54 ∨ c = 55 ∨ c = 56 ∨ c = 57 := by omega
  rcases this with rfl | rfl | rfl | rfl | rfl | rfl | rfl | rfl | rfl | rfl <;> decide +kernel
theorem str_eq {x y : Str} : x = y ↔ tl x = tl y := ⟨fun h => by rw [h], ext_tl⟩
theorem tl_c (s : String) : tl (s : Str) = s.toList.map Char.toNat := tl_ofString s
/-- a comprehension over embedded things -/
theorem mapR_emb {α : Type} {f : D → Mu → Res D} {e : α → D} {h : α → D} {m : Mu} : ∀ {xs : List α}, (∀ a ∈ xs, f (e a) m = .ok (h a) m) → mapR f (xs.map e) m = .ok (xs.map h) m
  | [], _ => rfl
  | x :: xs, q => by
    rw [List.map_cons, mapR, q x List.mem_cons_self]
    dsimp only
    rw [mapR_emb fun y hy => q y (List.mem_cons_of_mem _ hy)]
    rfl
theorem all_emb {α : Type} {m : Mu} {f : D → Mu → Res D} {e : α → D} {xs : List α} (h : ∀ a ∈ xs, f (e a) m = .ok (.bl true) m) (hl : xs.length ≤ 16777216) : (lstR (mapR f (xs.map e) m)).bind (fun x m => Res.of (b1op .all x) m) = .ok (.bl true) m := by
  rw [mapR_emb (h := fun _ => .bl true) h, lstR_ok (by rw [List.length_map]; exact hl)]
  have : List.map (fun _ : α => D.bl true) xs = (xs.map fun _ => true).map D.bl := by rw [List.map_map]; rfl
  rw [this, bind_ok', all_bls, of_some]
  simp
variable (k : Nat) (m : Mu)
/-- are_figures -/
theorem F9 (x : Str) (n : Nat) (hx : tl x = numL n) (hl : (numL n).length ≤ 12) : callF txt.fs txt.consts 1000 (k + 1) 9 [.str x] m = .ok (.bl true) m := by
  have n1 : decide (x = ("" : Str)) = false := decide_eq_false fun e => by
    rw [e] at hx
    exact numL_ne n hx.symm
  have hlen : x.length ≤ 12 := by rw [len_tl, hx]; exact hl
  have hall := all_emb (f := fun y m => Res.of (Option.map D.bl (inD y (.str "0123456789"))) m) (m := m) (e := sign1) (xs := tl x) (fun c hc => by
    rw [hx] at hc
    show Res.of (Option.map D.bl (inD (sign1 c) _)) m = _
    rw [in_fig (numL_digits n c hc)]
    rfl) (by rw [← len_tl]; omega)
  have hf : fit x.length = true := decide_eq_true (by omega)
  rw [cl_s, show txt.fs[9]? = some f9 from rfl]
  have i0 : ∃ c, idxD m (.str x) (.int 0) = some (sign1 c) ∧ (c = 48 → n = 0) := by
    have e : idxD m (.str x) (.int 0) = (tl x)[0]?.map sign1 := by
      show (if fit x.length = true then (atI x.cps.toList 0).map sign1 else none) = _
      rw [if_pos hf, at_0]
    rw [e, hx]
    by_cases h0 : n = 0
    · subst h0
      exact ⟨48, rfl, fun _ => rfl⟩
    · obtain ⟨c, r, e, hc⟩ := numL_head n (by omega)
      rw [e]
      exact ⟨c, rfl, fun z => absurd z hc⟩
  obtain ⟨c, i1, i2⟩ := i0
  have it : itemsD .seq [D.str x] = some ((tl x).map sign1) := rfl
  simp [f9, startS, n1, it, c8]
  rw [hall]
  simp [i1, sign1]
  by_cases hc : c = 48
  · have hn := i2 hc
    subst hc hn
    have : x = ("0" : Str) := ext_tl (by rw [hx]; rfl)
    simp [this]
  · have : (⟨#[c]⟩ : Str) ≠ ("0" : Str) := fun e => hc (by
      have := congrArg tl e
      have e2 : [c] = [48] := this
      simpa using e2)
    simp [this]
theorem F9n (x : Str) (hx : tl x = dg (-1) ) : True := trivial
end L92

set_option linter.all false
set_option maxRecDepth 100000
set_option maxHeartbeats 4000000
namespace L92
open PySem Mi L2 TL
theorem dg_len {i : Int} (h : i.natAbs < 10 ^ 12) : (dg i).length ≤ 13 := by
  have := numL_len (k := 12) (by decide) h
  unfold dg
  split
  · rw [List.length_cons]
    omega
  · omega
theorem sI_len {i : Int} (h : i.natAbs < 10 ^ 12) : (sI i).length ≤ 13 := by
  rw [len_tl, tl_sI]
  exact dg_len h
theorem sI_int {i : Int} (h : i.natAbs < 10 ^ 12) : b1op .int (.str (sI i)) = some (.int i) := by
  have hl := sI_len h
  have e : intText? (sI i) = some i := by
    by_cases hi : i < 0
    · have t : (sI i).cps.toList = 45 :: numL i.natAbs := by
        have := tl_sI i
        unfold dg at this
        rw [if_pos hi] at this
        exact this
      have := PySem.intText_neg t (numL_digits _) (numL_ne _) (by omega)
      rw [this, numL_val]
      congr 1
      omega
    · have t : (sI i).cps.toList = numL i.natAbs := by
        have := tl_sI i
        unfold dg at this
        rw [if_neg hi] at this
        exact this
      have := PySem.intText_digits (x := sI i) (by rw [t]; exact numL_digits _) (by rw [t]; exact numL_ne _) (by omega)
      rw [this, t, numL_val]
      congr 1
      omega
  show (if decide ((sI i).length ≤ 640) = true then (intText? (sI i)).map D.int else none) = _
  rw [if_pos (decide_eq_true (by omega)), e]
  rfl
theorem tl_cut (x : Str) (lo hi : Option Int) : tl (cutS x lo hi) = ((tl x).drop (HT.sIx (tl x).length 0 lo)).take (HT.sIx (tl x).length (tl x).length hi - HT.sIx (tl x).length 0 lo) := by
  show ((x.cps.toList.drop (HT.sIx x.length 0 lo)).take (HT.sIx x.length x.length hi - HT.sIx x.length 0 lo)) = _
  rw [len_tl]
theorem sIx1 (n d : Nat) : HT.sIx n d (some 1) = min 1 n := rfl
theorem cut_head (x : Str) (c : Nat) (r : List Nat) (h : tl x = c :: r) : tl (cutS x none (some 1)) = [c] := by
  rw [tl_cut, h]
  show (List.drop 0 (c :: r)).take (min 1 (r.length + 1) - 0) = [c]
  have : min 1 (r.length + 1) = 1 := by omega
  rw [this]
  rfl
theorem cut_tail (x : Str) (c : Nat) (r : List Nat) (h : tl x = c :: r) : tl (cutS x (some 1) none) = r := by
  rw [tl_cut, h]
  show (List.drop (min 1 (r.length + 1)) (c :: r)).take ((r.length + 1) - min 1 (r.length + 1)) = r
  have : min 1 (r.length + 1) = 1 := by omega
  rw [this]
  show List.take r.length r = r
  exact List.take_length
theorem slH1 (x : Str) (h : x.length ≤ 16777216) : slHI (.str x) (.int 1) = some (.str (cutS x none (some 1))) := if_pos (decide_eq_true h)
theorem slL1 (x : Str) (h : x.length ≤ 16777216) : slLI (.str x) (.int 1) = some (.str (cutS x (some 1) none)) := if_pos (decide_eq_true h)
theorem len_str (x : Str) (h : x.length ≤ 16777216) : b1op .len (.str x) = some (.int x.length) := if_pos (decide_eq_true h)
variable (k : Nat) (m : Mu)
/-- number_in -/
theorem F10 {i a b : Int} (h : i.natAbs < 10 ^ 12) (h1 : a ≤ i) (h2 : i ≤ b) : callF txt.fs txt.consts 1000 (k + 2) 10 [.str (sI i), .int a, .int b] m = .ok (.int i) m := by
  have hl := sI_len h
  have e1 := slH1 (sI i) (by omega)
  have e2 := slL1 (sI i) (by omega)
  have n12 := numL_len (k := 12) (by decide) h
  have z : decide (sI i = ("-0" : Str)) = false := decide_eq_false fun e => by
    have := congrArg tl e
    rw [tl_sI] at this
    have t0 : tl ("-0" : Str) = [45, 48] := rfl
    rw [t0] at this
    unfold dg at this
    split at this
    · have hn : numL i.natAbs = numL 0 := by simpa [show numL 0 = [48] from rfl] using this
      have := numL_inj hn
      omega
    · have hd := numL_digits i.natAbs 45 (by rw [this]; simp)
      omega
  rw [cl_s, show txt.fs[10]? = some f10 from rfl]
  by_cases hi : i < 0
  · have t := tl_sI i
    unfold dg at t
    rw [if_pos hi] at t
    have c1 := cut_head _ _ _ t
    have c2 := cut_tail _ _ _ t
    have d1 : decide (cutS (sI i) none (some 1) = ("-" : Str)) = true := decide_eq_true (ext_tl (by rw [c1]; rfl))
    have F := F9 k m _ i.natAbs c2 n12
    have l2 : (cutS (sI i) (some 1) none).length ≤ 12 := by rw [len_tl, c2]; exact n12
    have l3 := len_str (cutS (sI i) (some 1) none) (by omega)
    have l4 : ¬ (12 : Int) < ((cutS (sI i) (some 1) none).length : Int) := by omega
    simp [f10, startS, e1, e2, d1, F, l3, c10, l4, z, sI_int h, h1, h2]
  · have t := tl_sI i
    unfold dg at t
    rw [if_neg hi] at t
    have d1 : decide (cutS (sI i) none (some 1) = ("-" : Str)) = false := decide_eq_false fun e => by
      obtain ⟨c, r, hc⟩ : ∃ c r, numL i.natAbs = c :: r := by
        cases hh : numL i.natAbs with
        | nil => exact absurd hh (numL_ne _)
        | cons c r => exact ⟨c, r, rfl⟩
      have c1 := cut_head _ _ _ (t.trans hc)
      rw [e] at c1
      have e45 : [45] = [c] := c1
      have hd := numL_digits i.natAbs c (by rw [hc]; simp)
      have : c = 45 := by simpa using e45.symm
      omega
    have F := F9 k m _ i.natAbs t n12
    have l2 : (sI i).length ≤ 12 := by rw [len_tl, t]; exact n12
    have l3 := len_str (sI i) (by omega)
    have l4 : ¬ (12 : Int) < ((sI i).length : Int) := by omega
    simp [f10, startS, e1, e2, d1, F, l3, c10, l4, z, sI_int h, h1, h2]
end L92

set_option linter.all false
set_option maxRecDepth 100000
set_option maxHeartbeats 4000000
namespace L92
open PySem Mi L2 TL
/-! joined texts -/
def joinI (ws : List Int) : Str := Txt.join "," (ws.map sI)
theorem free_joinL {s : Nat} {S : List Nat} (hS : s ∉ S) : ∀ {ps : List (List Nat)}, (∀ p ∈ ps, s ∉ p) → s ∉ joinL S ps
  | [], _ => by simp [joinL]
  | [p], h => by
    show s ∉ p
    exact h p (by simp)
  | p :: q :: r, h => by
    show s ∉ p ++ (S ++ joinL S (q :: r))
    intro z
    rcases List.mem_append.mp z with z | z
    · exact h p (by simp) z
    · rcases List.mem_append.mp z with z | z
      · exact hS z
      · exact free_joinL hS (fun p hp => h p (List.mem_cons_of_mem _ hp)) z
theorem tl_Join (y : Str) (ps : List Str) : tl (Txt.join y ps) = joinL (tl y) (ps.map tl) := by rw [join_eq, tl_join]
theorem joinI_free {s : Nat} (ws : List Int) (h : s ≠ 45) (h2 : s < 48 ∨ 57 < s) (h3 : s ≠ 44) : s ∉ tl (joinI ws) := by
  unfold joinI
  rw [tl_Join]
  refine free_joinL (fun z => h3 (by have z' : s ∈ [44] := z; simpa using z')) fun p hp => ?_
  rw [List.map_map] at hp
  obtain ⟨w, _, rfl⟩ := List.mem_map.mp hp
  show s ∉ tl (sI w)
  rw [tl_sI]
  exact dg_free h h2
theorem join_two (y a b : Str) : Txt.join y [a, b] = a ++ y ++ b := by
  refine ext_tl ?_
  rw [tl_Join, tl_append, tl_append]
  show tl a ++ (tl y ++ tl b) = _
  rw [List.append_assoc]
theorem join_one (y a : Str) : Txt.join y [a] = a := by
  refine ext_tl ?_
  rw [tl_Join]
  rfl
theorem split_I {ws : List Int} (h : ws ≠ []) : Txt.split (joinI ws) "," = ws.map sI := by
  unfold joinI
  refine split_join (s := 44) (S := []) rfl (by decide +kernel) (fun z => h (List.map_eq_nil_iff.mp z)) fun p hp => ?_
  obtain ⟨w, _, rfl⟩ := List.mem_map.mp hp
  rw [tl_sI]
  exact dg_free (by decide) (by decide)
theorem joinL_len {S : List Nat} {n : Nat} : ∀ {ps : List (List Nat)}, (∀ p ∈ ps, p.length ≤ n) → (joinL S ps).length ≤ ps.length * (n + S.length)
  | [], _ => by simp [joinL]
  | [p], h => by
    show p.length ≤ _
    have := h p (by simp)
    simp
    omega
  | p :: q :: r, h => by
    show (p ++ (S ++ joinL S (q :: r))).length ≤ _
    have := h p (by simp)
    have ih := joinL_len (S := S) (ps := q :: r) (fun p hp => h p (List.mem_cons_of_mem _ hp))
    rw [List.length_append, List.length_append, List.length_cons, Nat.succ_mul]
    omega
theorem joinI_len {ws : List Int} (h : ∀ w ∈ ws, w.natAbs < 10 ^ 12) : (joinI ws).length ≤ ws.length * 14 := by
  unfold joinI
  rw [len_tl, tl_Join]
  have := joinL_len (S := tl ("," : Str)) (n := 13) (ps := (ws.map sI).map tl) (fun p hp => by
    rw [List.map_map] at hp
    obtain ⟨w, hw, rfl⟩ := List.mem_map.mp hp
    show (tl (sI w)).length ≤ 13
    rw [tl_sI]
    exact dg_len (h w hw))
  rw [List.length_map, List.length_map] at this
  exact this
theorem split_op {a b : Str} (hb : (b.length == 0) = false) (h : a.length + 2 ≤ 16777216) : m1op .split (.str a) (.str b) = some (.lst ((Txt.split a b).map D.str)) := by
  have : (!(b.length == 0) && fit (a.length + 2)) = true := by
    rw [hb]
    exact decide_eq_true h
  exact if_pos this
theorem join_op {a : Str} {ys : List Str} (h : joinSize a ys ≤ 16777216) : m1op .join (.str a) (.lst (ys.map D.str)) = some (.str (Txt.join a ys)) := by
  show (match strs? (ys.map D.str) with | some ys => if fit (joinSize a ys) then some (D.str (Txt.join a ys)) else none | none => none) = _
  rw [strs_map]
  exact if_pos (decide_eq_true h)
theorem add_str {a b : Str} (h : a.length + b.length ≤ 16777216) : binop .Add (.str a) (.str b) = some (.str (a ++ b)) := if_pos (decide_eq_true h)
theorem str_I {i : Int} (h : i.natAbs < 10 ^ 12) : b1op .str (.int i) = some (.str (sI i)) := by
  have : i.natAbs.log2 < 1920 := by
    by_cases h0 : i.natAbs = 0
    · rw [h0]
      decide
    · have := (Nat.log2_lt h0).mpr (Nat.lt_trans h (by decide : (10:Nat) ^ 12 < 2 ^ 40))
      omega
  exact if_pos (decide_eq_true this)
theorem sum_le {n : Nat} : ∀ {l : List Nat}, (∀ x ∈ l, x ≤ n) → l.sum ≤ l.length * n
  | [], _ => by simp
  | x :: r, h => by
    have := h x (by simp)
    have ih := sum_le (n := n) (l := r) (fun y hy => h y (List.mem_cons_of_mem _ hy))
    rw [List.sum_cons, List.length_cons, Nat.succ_mul]
    omega
theorem joinSize_le {a : Str} {ys : List Str} {n : Nat} (h : ∀ y ∈ ys, y.length ≤ n) : joinSize a ys ≤ ys.length * n + ys.length * a.length := by
  unfold joinSize
  have := sum_le (n := n) (l := ys.map (·.length)) (fun x hx => by
    obtain ⟨y, hy, rfl⟩ := List.mem_map.mp hx
    exact h y hy)
  rw [List.length_map] at this
  omega
variable (k : Nat) (m : Mu)
/-- [str(one) for one in ..], joined -/
theorem strs_comp {f : D → Mu → Res D} {ws : List Int} (hf : ∀ w ∈ ws, f (.int w) m = .ok (.str (sI w)) m) (h : ∀ w ∈ ws, w.natAbs < 10 ^ 12) (hl : ws.length ≤ 100) :
    (lstR (mapR f (ws.map .int) m)).bind (fun y m => Res.of (m1op .join (.str ",") y) m) = .ok (.str (joinI ws)) m := by
  rw [mapR_emb (h := fun w => .str (sI w)) hf, lstR_ok (by rw [List.length_map]; omega)]
  have : List.map (fun w => D.str (sI w)) ws = (ws.map sI).map D.str := by rw [List.map_map]; rfl
  rw [this, bind_ok', join_op]
  · rfl
  · have := joinSize_le (a := (",": Str)) (ys := ws.map sI) (n := 13) (fun y hy => by
      obtain ⟨w, hw, rfl⟩ := List.mem_map.mp hy
      exact sI_len (h w hw))
    rw [List.length_map] at this
    have e1 : (",": Str).length = 1 := rfl
    rw [e1] at this
    omega
/-- [number_in(part, a, b) for part in ..] -/
theorem nums_comp {ws : List Int} {a b : Int} (h : ∀ w ∈ ws, w.natAbs < 10 ^ 12 ∧ a ≤ w ∧ w ≤ b) (hl : ws.length ≤ 100) :
    lstR (mapR (fun x m => callF txt.fs txt.consts 1000 (k + 2) 10 [x, .int a, .int b] m) ((ws.map sI).map D.str) m) = .ok (.lst (ws.map .int)) m := by
  rw [List.map_map, mapR_emb (f := fun x m => callF txt.fs txt.consts 1000 (k + 2) 10 [x, .int a, .int b] m) (e := D.str ∘ sI) (h := D.int) (xs := ws) fun w hw => F10 k m (h w hw).1 (h w hw).2.1 (h w hw).2.2, lstR_ok (by rw [List.length_map]; omega)]
theorem pys_ints (ws : List Int) : pys (ws.map D.int) = some (ws.map PyData.int) := by
  induction ws with
  | nil => rfl
  | cons w r ih => simp [pys, D.py, ih]
theorem none_in_ints (ws : List Int) : inD .non (.lst (ws.map D.int)) = some false := by
  have : inD .non (.lst (ws.map D.int)) = (match D.non.py, pys (ws.map D.int) with
    | some p, some qs => if small p then some (qs.any fun q => PyData.eqv q p) else none
    | _, _ => none) := rfl
  rw [this, pys_ints]
  have e : ((ws.map PyData.int).any fun q => PyData.eqv q .none) = false := by
    rw [List.any_map]
    exact List.any_eq_false.mpr fun w _ => by
      show ¬ PyData.eqv (.int w) .none = true
      rw [PyData.eqv]
      exact Bool.false_ne_true
  show (if small PyData.none then some ((ws.map PyData.int).any fun q => PyData.eqv q .none) else none) = _
  rw [e]
  rfl
/-- the text of a table -/
def wT (n : Nat) (ws : List Int) : Str := sI n ++ ":" ++ joinI ws
theorem split_T (n : Nat) (ws : List Int) : Txt.split (wT n ws) ":" = [sI n, joinI ws] := by
  unfold wT
  rw [← join_two]
  refine split_join (s := 58) (S := []) rfl (by decide +kernel) (by simp) fun p hp => ?_
  rcases List.mem_cons.mp hp with rfl | hp
  · rw [tl_sI]
    exact dg_free (by decide) (by decide)
  · rw [List.mem_singleton.mp hp]
    exact joinI_free ws (by decide) (by decide) (by decide)
theorem small_pow {n : Nat} (h : n ≤ 5) : 2 ^ n ≤ 32 := Nat.pow_le_pow_right (by decide) h
theorem wT_len {n : Nat} {ws : List Int} (h5 : n ≤ 5) (hl : ws.length = 2 ^ n) (hw : ∀ w ∈ ws, -99 ≤ w ∧ w ≤ 99) : (wT n ws).length ≤ 500 := by
  have h1 := sI_len (i := (n : Int)) (by omega)
  have h2 := joinI_len (ws := ws) (fun w h => by have := hw w h; omega)
  have h3 := small_pow h5
  unfold wT
  rw [len_tl, tl_append, tl_append, List.length_append, List.length_append, ← len_tl, ← len_tl, ← len_tl]
  have e1 : (":" : Str).length = 1 := rfl
  omega
theorem pow_at {n : Nat} (h1 : 1 ≤ n) (h5 : n ≤ 5) : ([D.int 1, D.int 2, D.int 4, D.int 8, D.int 16, D.int 32] : List D)[n]? = some (.int (2 ^ n : Nat)) := by
  have : n = 1 ∨ n = 2 ∨ n = 3 ∨ n = 4 ∨ n = 5 := by omega
  rcases this with rfl | rfl | rfl | rfl | rfl <;> rfl
/-- table_in -/
theorem F12 {n : Nat} {ws : List Int} (h1 : 1 ≤ n) (h5 : n ≤ 5) (hl : ws.length = 2 ^ n) (hw : ∀ w ∈ ws, -99 ≤ w ∧ w ≤ 99) : callF txt.fs txt.consts 1000 (k + 3) 12 [.str (wT n ws)] m = .ok (.tup [.int n, .lst (ws.map .int)]) m := by
  have hs := small_pow h5
  have hne : ws ≠ [] := fun z => by
    rw [z] at hl
    have : 0 < 2 ^ n := Nat.pos_of_ne_zero (by simp)
    simp at hl
    omega
  have s1 := split_op (a := wT n ws) (b := ":") rfl (by have := wT_len h5 hl hw; omega)
  rw [split_T] at s1
  have jl := joinI_len (ws := ws) (fun w h => by have := hw w h; omega)
  have s2 := split_op (a := joinI ws) (b := ",") rfl (by omega)
  rw [split_I hne] at s2
  have t1 : ((1 : Int) ≤ (n : Int)) := by omega
  have t2 : ((n : Int) ≤ 5) := by omega
  have N := F10 (k + 0) m (i := (n : Int)) (a := 1) (b := 5) (by omega) t1 t2
  have C := nums_comp (k + 0) m (ws := ws) (a := -99) (b := 99) (fun w h => by have := hw w h; omega) (by omega)
  rw [cl_s, show txt.fs[12]? = some f12 from rfl]
  simp [f12, startS, s1, c1, c2, c4, N, isNon, s2]
  simp only [List.map_map] at C
  rw [C]
  simp [none_in_ints, idx_t, at_nat, pow_at h1 h5, hl]
end L92

set_option linter.all false
set_option maxRecDepth 100000
set_option maxHeartbeats 4000000
namespace L92
open PySem Mi L2 TL
/-! lots -/
def wL (ls : List Int) : Str := if ls = [] then "-" else joinI ls
structure Lot (ls : List Int) : Prop where
  lo : ∀ x ∈ ls, 0 ≤ x ∧ x ≤ 4
  up : ∀ p ∈ ls.zip ls.tail, p.1 < p.2
  few : ls.length ≤ 5
theorem pairs_map (xs ys : List Int) : pairs (xs.map D.int) (ys.map D.int) = (xs.zip ys).map fun p => D.tup [.int p.1, .int p.2] := by
  induction xs generalizing ys with
  | nil => simp [pairs]
  | cons x r ih =>
    cases ys with
    | nil => simp [pairs]
    | cons y s => simp [pairs, ih]
theorem cut1L {α : Type} (xs : List α) : cutL xs (some 1) none = xs.drop 1 := by
  unfold cutL
  rw [sIx1]
  show List.take (xs.length - min 1 xs.length) (List.drop (min 1 xs.length) xs) = xs.drop 1
  cases xs with
  | nil => rfl
  | cons x r =>
    have : min 1 (x :: r).length = 1 := by rw [List.length_cons]; omega
    rw [this]
    exact List.take_of_length_le (by rw [List.length_drop]; exact Nat.le_refl _)
variable (k : Nat) (m : Mu)
/-- is_lot_of -/
theorem F7 {ls : List Int} (h : Lot ls) : callF txt.fs txt.consts 1000 (k + 3) 7 [.int 5, .tup (ls.map .int)] m = .ok (.bl true) m := by
  have hf := h.few
  have A := all_emb (f := fun x m => callF txt.fs txt.consts 1000 (k + 2) 1 [x, .int 0, .int 4] m) (m := m) (e := D.int) (xs := ls) (fun w hw => by
    show callF txt.fs txt.consts 1000 (k + 2) 1 [.int w, .int 0, .int 4] m = _
    rw [F1]
    have := h.lo w hw
    simp [this]) (by omega)
  have sl : slLI (.tup (ls.map D.int)) (.int 1) = some (.tup (ls.map D.int).tail) := by
    show some (D.tup (cutL (ls.map D.int) (some 1) none)) = _
    rw [cut1L, List.drop_one]
  have it : itemsD .zip [.tup (ls.map D.int), .tup (ls.map D.int).tail] = some ((ls.zip ls.tail).map fun p => D.tup [.int p.1, .int p.2]) := by
    show some (pairs _ _) = _
    rw [← List.map_tail, pairs_map]
  have Z : ∀ f : D → Mu → Res D, (∀ p ∈ ls.zip ls.tail, f (D.tup [.int p.1, .int p.2]) m = .ok (.bl true) m) → _ := fun f hf2 => all_emb (f := f) (m := m) (e := fun p : Int × Int => D.tup [.int p.1, .int p.2]) (xs := ls.zip ls.tail) hf2 (by
    rw [List.length_zip, List.length_tail]
    omega)
  rw [cl_s, show txt.fs[7]? = some f7 from rfl]
  simp [f7, startS, isaD]
  rw [A]
  simp [sl, it]
  rw [Z _ fun p hp => ?_]
  · rfl
  · simp [bindT, h.up p hp]
/-- lot_in -/
theorem F14 {ls : List Int} (h : Lot ls) : callF txt.fs txt.consts 1000 (k + 4) 14 [.str (wL ls)] m = .ok (.tup (ls.map .int)) m := by
  rw [cl_s, show txt.fs[14]? = some f14 from rfl]
  unfold wL
  by_cases e : ls = []
  · subst e
    simp [f14, startS, c9]
  · rw [if_neg e]
    have hf := h.few
    have hn : ∀ w ∈ ls, w.natAbs < 10 ^ 12 := fun w hw => by have := h.lo w hw; omega
    have d : decide (joinI ls = ("-" : Str)) = false := decide_eq_false fun z => by
      have h45 : 45 ∉ tl (joinI ls) := by
        unfold joinI
        rw [tl_Join]
        refine free_joinL (fun z => by have z' : 45 ∈ [44] := z; simp at z') fun p hp => ?_
        rw [List.map_map] at hp
        obtain ⟨w, hw, rfl⟩ := List.mem_map.mp hp
        show 45 ∉ tl (sI w)
        rw [tl_sI]
        unfold dg
        rw [if_neg (by have := h.lo w hw; omega)]
        exact numL_free (by decide)
      rw [z] at h45
      exact h45 (by show 45 ∈ [45]; simp)
    have jl := joinI_len (ws := ls) hn
    have s2 := split_op (a := joinI ls) (b := ",") rfl (by omega)
    rw [split_I e] at s2
    have C := nums_comp (k + 1) m (ws := ls) (a := 0) (b := 4) (fun w hw => by have := h.lo w hw; omega) (by omega)
    simp only [List.map_map] at C
    simp [f14, startS, c9, c1, d, s2]
    rw [C]
    simp [none_in_ints, F7 k m h]
end L92

set_option linter.all false
set_option maxRecDepth 100000
set_option maxHeartbeats 4000000
namespace L92
open PySem Mi L2 TL
/-! prices -/
abbrev pD (p : Int × Int) : D := .tup [.int p.1, .int p.2]
structure Pr (p : Int × Int) : Prop where
  lo : 1 ≤ p.2
  hi : p.2 < 10 ^ 12
  top : p.1.natAbs < 10 ^ 12
  gcd : Nat.gcd p.1.natAbs p.2.natAbs = 1
  few : (p.1.natAbs : Int) ≤ 999 * p.2
theorem Pr.two {p : Int × Int} (h : Pr p) : p.2.natAbs < 10 ^ 12 := by
  have := h.lo
  have := h.hi
  omega
def pT (p : Int × Int) : Str := if p.2 = 1 then sI p.1 else sI p.1 ++ "/" ++ sI p.2
def wP (ps : List (Int × Int)) : Str := Txt.join "," (ps.map pT)
theorem pT_free {s : Nat} (p : Int × Int) (h : s ≠ 45) (h2 : s < 48 ∨ 57 < s) (h3 : s ≠ 47) : s ∉ tl (pT p) := by
  unfold pT
  split
  · rw [tl_sI]
    exact dg_free h h2
  · rw [tl_append, tl_append, tl_sI, tl_sI]
    intro z
    rcases List.mem_append.mp z with z | z
    · rcases List.mem_append.mp z with z | z
      · exact dg_free h h2 z
      · have z' : s ∈ [47] := z
        exact h3 (by simpa using z')
    · exact dg_free h h2 z
theorem pT_len {p : Int × Int} (h : Pr p) : (pT p).length ≤ 27 := by
  have h1 := sI_len h.top
  have h2 := sI_len h.two
  unfold pT
  split
  · omega
  · rw [len_tl, tl_append, tl_append, List.length_append, List.length_append, ← len_tl, ← len_tl, ← len_tl]
    have e1 : ("/" : Str).length = 1 := rfl
    omega
theorem wP_len {ps : List (Int × Int)} (h : ∀ p ∈ ps, Pr p) : (wP ps).length ≤ ps.length * 28 := by
  unfold wP
  rw [len_tl, tl_Join]
  have := joinL_len (S := tl ("," : Str)) (n := 27) (ps := (ps.map pT).map tl) (fun x hx => by
    rw [List.map_map] at hx
    obtain ⟨p, hp, rfl⟩ := List.mem_map.mp hx
    show (tl (pT p)).length ≤ 27
    rw [← len_tl]
    exact pT_len (h p hp))
  rw [List.length_map, List.length_map] at this
  exact this
theorem split_P {ps : List (Int × Int)} (h : ps ≠ []) : Txt.split (wP ps) "," = ps.map pT := by
  unfold wP
  refine split_join (s := 44) (S := []) rfl (by decide +kernel) (fun z => h (List.map_eq_nil_iff.mp z)) fun x hx => ?_
  obtain ⟨p, _, rfl⟩ := List.mem_map.mp hx
  exact pT_free p (by decide) (by decide) (by decide)
theorem split_p (p : Int × Int) : Txt.split (pT p) "/" = if p.2 = 1 then [sI p.1] else [sI p.1, sI p.2] := by
  unfold pT
  by_cases e : p.2 = 1
  · rw [if_pos e, if_pos e]
    conv => lhs; rw [← join_one "/" (sI p.1)]
    refine split_join (s := 47) (S := []) rfl (by decide +kernel) (by simp) fun x hx => ?_
    rw [List.mem_singleton.mp hx, tl_sI]
    exact dg_free (by decide) (by decide)
  · rw [if_neg e, if_neg e, ← join_two]
    refine split_join (s := 47) (S := []) rfl (by decide +kernel) (by simp) fun x hx => ?_
    rcases List.mem_cons.mp hx with rfl | hx
    · rw [tl_sI]
      exact dg_free (by decide) (by decide)
    · rw [List.mem_singleton.mp hx, tl_sI]
      exact dg_free (by decide) (by decide)
theorem log999 {b : Int} (h : b.natAbs < 10 ^ 12) : (999 : Int).natAbs.log2 + b.natAbs.log2 < 1000000 := by
  have h1 : (999 : Int).natAbs.log2 = 9 := by decide +kernel
  by_cases h0 : b.natAbs = 0
  · rw [h0, h1]
    decide
  · have := (Nat.log2_lt h0).mpr (Nat.lt_trans h (by decide : (10:Nat) ^ 12 < 2 ^ 40))
    omega
variable (k : Nat) (m : Mu)
theorem p200 {b : Nat} (h : b < 10 ^ 12) : b < 2 ^ 200 := Nat.lt_trans h big
/-- is_price -/
theorem F16 {p : Int × Int} (h : Pr p) : callF txt.fs txt.consts 1000 (k + 2) 16 [.int p.1, .int p.2] m = .ok (.bl true) m := by
  have e2 : p.2 = (p.2.natAbs : Int) := by have := h.lo; omega
  have G := F3 k m p.1.natAbs p.2.natAbs (p200 h.two)
  rw [h.gcd, ← e2] at G
  rw [cl_s, show txt.fs[16]? = some f16 from rfl]
  have hm := mul_int (log999 h.two)
  have hf := h.few
  simp [f16, startS, c3, natAbs_if, hm, hf]
  rw [G]
  simp
/-- price_in -/
theorem F17 {p : Int × Int} (h : Pr p) : callF txt.fs txt.consts 1000 (k + 3) 17 [.str (pT p)] m = .ok (pD p) m := by
  have s1 := split_op (a := pT p) (b := "/") rfl (by have := pT_len h; omega)
  have N1 := F10 k m (i := p.1) (a := -999999999999) (b := 999999999999) h.top (by have := h.top; omega) (by have := h.top; omega)
  have P := F16 k m h
  rw [cl_s, show txt.fs[17]? = some f17 from rfl]
  rw [split_p] at s1
  by_cases e : p.2 = 1
  · rw [if_pos e] at s1
    rw [e] at P
    simp [f17, startS, s1, c0, N1, isNon, P, e, pD]
  · rw [if_neg e] at s1
    have N2 := F10 k m (i := p.2) (a := 2) (b := 999999999999) h.two (by have := h.lo; omega) (by have := h.hi; omega)
    simp [f17, startS, s1, c0, N1, N2, isNon, P, pD]
theorem pys_prices (ps : List (Int × Int)) : pys (ps.map pD) = some (ps.map fun p => PyData.tuple [.int p.1, .int p.2]) := by
  induction ps with
  | nil => rfl
  | cons w r ih => simp [pys, D.py, ih]
theorem none_in_prices (ps : List (Int × Int)) : inD .non (.lst (ps.map pD)) = some false := by
  have : inD .non (.lst (ps.map pD)) = (match D.non.py, pys (ps.map pD) with
    | some p, some qs => if small p then some (qs.any fun q => PyData.eqv q p) else none
    | _, _ => none) := rfl
  rw [this, pys_prices]
  have e : ((ps.map fun p => PyData.tuple [.int p.1, .int p.2]).any fun q => PyData.eqv q .none) = false := by
    rw [List.any_map]
    exact List.any_eq_false.mpr fun w _ => by
      show ¬ PyData.eqv (.tuple [.int w.1, .int w.2]) .none = true
      rw [PyData.eqv]
      exact Bool.false_ne_true
  show (if small PyData.none then some ((ps.map fun p => PyData.tuple [.int p.1, .int p.2]).any fun q => PyData.eqv q .none) else none) = _
  rw [e]
  rfl
structure Prs (ps : List (Int × Int)) : Prop where
  each : ∀ p ∈ ps, Pr p
  ne : ps ≠ []
  few : ps.length ≤ 6
/-- prices_in -/
theorem F20 {ps : List (Int × Int)} (h : Prs ps) (h5 : ps.length ≤ 5) : callF txt.fs txt.consts 1000 (k + 4) 20 [.str (wP ps)] m = .ok (.lst (ps.map pD)) m := by
  have hl := wP_len h.each
  have s1 := split_op (a := wP ps) (b := ",") rfl (by omega)
  rw [split_P h.ne] at s1
  have C : lstR (mapR (fun x m => callF txt.fs txt.consts 1000 (k + 3) 17 [x] m) ((ps.map pT).map D.str) m) = .ok (.lst (ps.map pD)) m := by
    rw [List.map_map, mapR_emb (f := fun x m => callF txt.fs txt.consts 1000 (k + 3) 17 [x] m) (e := D.str ∘ pT) (h := pD) (xs := ps) fun p hp => F17 k m (h.each p hp), lstR_ok (by rw [List.length_map]; omega)]
  simp only [List.map_map] at C
  have n5 : ¬ (5 : Int) < (ps.length : Int) := by omega
  rw [cl_s, show txt.fs[20]? = some f20 from rfl]
  simp [f20, startS, s1]
  rw [C]
  simp [none_in_prices, c1, n5]
/-- is_short -/
theorem F5 {p : Int × Int} (h : Pr p) : callF txt.fs txt.consts 1000 (k + 3) 5 [pD p] m = .ok (.bl true) m := by
  have h1 := F4 k m p.1 p.2 h.lo h.hi h.gcd
  have h2 := h.top
  have h3 := h.hi
  have t1 : (p.1.natAbs : Int) < 1000000000000 := by omega
  have t2 : p.2 < 1000000000000 := by omega
  rw [cl_s, show txt.fs[5]? = some f5 from rfl]
  simp [f5, startS, h1, c0, natAbs_if, t1, t2, pD]
/-- a tuple or a list of prices -/
abbrev psD (b : Bool) (ps : List (Int × Int)) : D := if b then .lst (ps.map pD) else .tup (ps.map pD)
theorem F8 {ps : List (Int × Int)} (h : Prs ps) (b : Bool) : callF txt.fs txt.consts 1000 (k + 3) 8 [.int ps.length, psD b ps] m = .ok (.bl true) m := by
  have A := all_emb (f := fun x m => callF txt.fs txt.consts 1000 (k + 2) 4 [x] m) (m := m) (e := pD) (xs := ps) (fun p hp => F4 k m p.1 p.2 (h.each p hp).lo (h.each p hp).hi (h.each p hp).gcd) (by have := h.few; omega)
  rw [cl_s, show txt.fs[8]? = some f8 from rfl]
  cases b
  · simp [f8, startS, F2t, F2l, psD]
    rw [A]
    simp
  · simp [f8, startS, F2t, F2l, psD]
    rw [A]
    simp
/-- are_prices -/
theorem F22 {ps : List (Int × Int)} (h : Prs ps) (h5 : ps.length ≤ 5) (b : Bool) : callF txt.fs txt.consts 1000 (k + 4) 22 [psD b ps] m = .ok (.bl true) m := by
  have A := all_emb (f := fun x m => callF txt.fs txt.consts 1000 (k + 3) 5 [x] m) (m := m) (e := pD) (xs := ps) (fun p hp => F5 k m (h.each p hp)) (by have := h.few; omega)
  have Z : ∀ f : D → Mu → Res D, (∀ p ∈ ps, f (pD p) m = .ok (.bl true) m) → _ := fun f hf2 => all_emb (f := f) (m := m) (e := pD) (xs := ps) hf2 (by have := h.few; omega)
  have n1 : (1 : Int) ≤ (ps.length : Int) := by
    have : ps.length ≠ 0 := fun z => h.ne (List.eq_nil_of_length_eq_zero z)
    omega
  have n5 : (ps.length : Int) ≤ 5 := by omega
  have e8 := F8 k m h b
  rw [cl_s, show txt.fs[22]? = some f22 from rfl]
  have hp : ∀ p ∈ ps, binop .Mult (.int 999) (.int p.2) = some (.int (999 * p.2)) := fun p hp => mul_int (log999 (h.each p hp).two)
  cases b
  · simp [f22, startS, isaD, c1, n1, n5, psD] at e8 ⊢
    rw [e8]
    simp
    rw [A]
    simp
    rw [Z _ fun p hq => ?_]
    · rfl
    · have := (h.each p hq).few
      simp [c3, natAbs_if, hp p hq, this, pD]
  · simp [f22, startS, isaD, c1, n1, n5, psD] at e8 ⊢
    rw [e8]
    simp
    rw [A]
    simp
    rw [Z _ fun p hq => ?_]
    · rfl
    · have := (h.each p hq).few
      simp [c3, natAbs_if, hp p hq, this, pD]
end L92

set_option linter.all false
set_option maxRecDepth 100000
set_option maxHeartbeats 4000000
namespace L92
open PySem Mi L2 TL
variable (k : Nat) (m : Mu)
theorem eq_tup_nil (xs : List D) : eqD (.tup (xs.map id)) (.tup []) = eqD (.tup xs) (.tup []) := by rw [List.map_id]
theorem depth_ints (ls : List Int) : PyData.depthAll (ls.map PyData.int) ≤ 1 := by
  induction ls with
  | nil => simp [PyData.depthAll]
  | cons a r ih =>
    rw [List.map_cons, PyData.depthAll]
    exact Nat.max_le.mpr ⟨by simp [PyData.depth], ih⟩
theorem eq_ints_nil (ls : List Int) : eqD (.tup (ls.map D.int)) (.tup []) = some (decide (ls = [])) := by
  have e1 : (D.tup (ls.map D.int)).py = some (.tuple (ls.map PyData.int)) := pyT (pys_ints ls)
  have e2 : (D.tup []).py = some (.tuple []) := rfl
  have s1 : small (.tuple (ls.map PyData.int)) = true := decide_eq_true (by
    have := depth_ints ls
    rw [PyData.depth]
    omega)
  have s2 : small (.tuple []) = true := by decide +kernel
  unfold eqD
  rw [e1, e2]
  simp only [s1, s2, Bool.and_self, if_true]
  cases ls with
  | nil => rfl
  | cons a r => simp [PyData.eqv, PyData.eqvAll]
/-- price_text, _law_fraction -/
theorem F23 {p : Int × Int} (h : Pr p) : callF txt.fs txt.consts 1000 (k + 1) 23 [pD p] m = .ok (.str (pT p)) m := by
  have h1 := str_I h.top
  have h2 := str_I h.two
  have l1 := sI_len h.top
  have l2 := sI_len h.two
  have e1 : ("/" : Str).length = 1 := rfl
  have a1 := add_str (a := sI p.1) (b := "/") (by omega)
  have a2 := add_str (a := sI p.1 ++ "/") (b := sI p.2) (by
    rw [len_tl, tl_append, List.length_append, ← len_tl, ← len_tl]
    omega)
  rw [cl_s, show txt.fs[23]? = some f23 from rfl]
  unfold pT
  by_cases e : p.2 = 1
  · simp [f23, startS, pD, e, h1]
  · simp [f23, startS, pD, e, h1, h2, a1, a2]
theorem F44 {p : Int × Int} (h : Pr p) : callF txt.fs txt.consts 1000 (k + 1) 44 [pD p] m = .ok (.str (pT p)) m := by
  have h1 := str_I h.top
  have h2 := str_I h.two
  have l1 := sI_len h.top
  have l2 := sI_len h.two
  have e1 : ("/" : Str).length = 1 := rfl
  have a1 := add_str (a := sI p.1) (b := "/") (by omega)
  have a2 := add_str (a := sI p.1 ++ "/") (b := sI p.2) (by
    rw [len_tl, tl_append, List.length_append, ← len_tl, ← len_tl]
    omega)
  rw [cl_s, show txt.fs[44]? = some f44 from rfl]
  unfold pT
  by_cases e : p.2 = 1
  · simp [f44, startS, pD, e, h1]
  · simp [f44, startS, pD, e, h1, h2, a1, a2]
/-- lot_text, _law_lot_text -/
theorem F24 {ls : List Int} (h : Lot ls) : callF txt.fs txt.consts 1000 (k + 1) 24 [.tup (ls.map .int)] m = .ok (.str (wL ls)) m := by
  have hf := h.few
  have hn : ∀ w ∈ ls, w.natAbs < 10 ^ 12 := fun w hw => by have := h.lo w hw; omega
  have C := strs_comp m (f := fun x m => Res.of (b1op .str x) m) (ws := ls) (fun w hw => by
    show Res.of (b1op .str (.int w)) m = _
    rw [str_I (hn w hw)]
    rfl) hn (by omega)
  rw [cl_s, show txt.fs[24]? = some f24 from rfl]
  unfold wL
  by_cases e : ls = []
  · subst e
    simp [f24, startS, c9, eq_ints_nil []]
    rfl
  · simp [f24, startS, c9, eq_ints_nil, e]
    rw [C]
    simp
theorem F45 {ls : List Int} (h : Lot ls) : callF txt.fs txt.consts 1000 (k + 1) 45 [.tup (ls.map .int)] m = .ok (.str (wL ls)) m := by
  have hf := h.few
  have hn : ∀ w ∈ ls, w.natAbs < 10 ^ 12 := fun w hw => by have := h.lo w hw; omega
  have C := strs_comp m (f := fun x m => Res.of (b1op .str x) m) (ws := ls) (fun w hw => by
    show Res.of (b1op .str (.int w)) m = _
    rw [str_I (hn w hw)]
    rfl) hn (by omega)
  rw [cl_s, show txt.fs[45]? = some f45 from rfl]
  unfold wL
  by_cases e : ls = []
  · subst e
    simp [f45, startS, eq_ints_nil []]
    rfl
  · simp [f45, startS, eq_ints_nil, e]
    rw [C]
    simp
theorem in_sorts_t : inD (.str "table") (.tup [.str "table", .str "lot", .str "prices"]) = some true := by decide +kernel
theorem in_sorts_l : inD (.str "lot") (.tup [.str "table", .str "lot", .str "prices"]) = some true := by decide +kernel
theorem in_sorts_p : inD (.str "prices") (.tup [.str "table", .str "lot", .str "prices"]) = some true := by decide +kernel
theorem ne_lt : decide (("lot" : Str) = ("table" : Str)) = false := by decide +kernel
theorem ne_pt : decide (("prices" : Str) = ("table" : Str)) = false := by decide +kernel
theorem ne_pl : decide (("prices" : Str) = ("lot" : Str)) = false := by decide +kernel
inductive Sort3 : Str → Prop
  | t : Sort3 "table"
  | l : Sort3 "lot"
  | p : Sort3 "prices"
/-- is_sort -/
theorem F25 {s : Str} (h : Sort3 s) : callF txt.fs txt.consts 1000 (k + 1) 25 [.str s] m = .ok (.bl true) m := by
  rw [cl_s, show txt.fs[25]? = some f25 from rfl]
  cases h
  · simp [f25, startS, isaD, c7, in_sorts_t]
  · simp [f25, startS, isaD, c7, in_sorts_l]
  · simp [f25, startS, isaD, c7, in_sorts_p]
/-- check_text -/
theorem F31 {s : Str} (h : Sort3 s) (x : Str) : callF txt.fs txt.consts 1000 (k + 2) 31 [.str s, .str x] m = .ok .non m := by
  have e := F25 k m h
  rw [cl_s, show txt.fs[31]? = some f31 from rfl]
  simp [f31, startS, isaD, e]
/-- the things, how they may be kept, their texts -/
inductive Th : Str → D → D → Str → Prop
  | tab {n : Nat} {ws : List Int} : 1 ≤ n → n ≤ 5 → ws.length = 2 ^ n → (∀ w ∈ ws, -99 ≤ w ∧ w ≤ 99) → Th "table" (.tup [.int n, .lst (ws.map .int)]) (.tup [.int n, .tup (ws.map .int)]) (wT n ws)
  | lot {ls : List Int} : Lot ls → Th "lot" (.tup (ls.map .int)) (.tup (ls.map .int)) (wL ls)
  | pri {ps : List (Int × Int)} : Prs ps → ps.length ≤ 5 → Th "prices" (.lst (ps.map pD)) (.tup (ps.map pD)) (wP ps)
theorem Th.sort {s x : Str} {d o : D} (h : Th s d o x) : Sort3 s := by
  cases h
  · exact .t
  · exact .l
  · exact .p
theorem Th.len {s x : Str} {d o : D} (h : Th s d o x) : x.length ≤ 500 := by
  cases h with
  | tab h1 h5 hl hw => exact wT_len h5 hl hw
  | lot h =>
    unfold wL
    split
    · decide
    · have := joinI_len (ws := ‹List Int›) (fun w hw => by have := h.lo w hw; omega)
      have := h.few
      omega
  | pri h h5 =>
    have := wP_len h.each
    omega
/-- is_thing_of -/
theorem F26 {s x : Str} {d o : D} (h : Th s d o x) (b : Bool) : callF txt.fs txt.consts 1000 (k + 5) 26 [.str s, if b then d else o] m = .ok (.bl true) m := by
  rw [cl_s, show txt.fs[26]? = some f26 from rfl]
  cases h with
  | tab h1 h5 hl hw =>
    have A := F6 (k + 1) m h1 h5 hl hw true
    have B := F6 (k + 1) m h1 h5 hl hw false
    cases b
    · simp at B
      simp [f26, startS, c5, c6, B]
    · simp at A
      simp [f26, startS, c5, c6, A]
  | lot h =>
    have A := F7 (k + 1) m h
    cases b <;> simp [f26, startS, c5, c6, c1, ne_lt, A]
  | pri h h5 =>
    have A := F22 k m h h5 true
    have B := F22 k m h h5 false
    cases b
    · simp [psD] at B
      simp [f26, startS, c5, c6, ne_pt, ne_pl, B]
    · simp [psD] at A
      simp [f26, startS, c5, c6, ne_pt, ne_pl, A]
/-- read -/
theorem F27 {s x : Str} {d o : D} (h : Th s d o x) : callF txt.fs txt.consts 1000 (k + 5) 27 [.str s, .str x] m = .ok d m := by
  rw [cl_s, show txt.fs[27]? = some f27 from rfl]
  cases h with
  | tab h1 h5 hl hw =>
    have A := F12 (k + 1) m h1 h5 hl hw
    simp [f27, startS, c5, c6, A]
  | lot h =>
    have A := F14 k m h
    simp [f27, startS, c5, c6, ne_lt, A]
  | pri h h5 =>
    have A := F20 k m h h5
    simp [f27, startS, c5, c6, ne_pt, ne_pl, A]
theorem Th.isn {s x : Str} {d o : D} (h : Th s d o x) : isNon d = false := by cases h <;> rfl
/-- place_in -/
theorem F29 {s x : Str} {d o : D} (h : Th s d o x) : callF txt.fs txt.consts 1000 (k + 6) 29 [.str s, .str x] m = .ok .non m := by
  have A := F27 k m h
  rw [cl_s, show txt.fs[29]? = some f29 from rfl]
  simp [f29, startS, A, h.isn]
/-- read_thing -/
theorem F30 {s x : Str} {d o : D} (h : Th s d o x) : callF txt.fs txt.consts 1000 (k + 7) 30 [.str s, .str x] m = .ok d m := by
  have A := F27 (k + 1) m h
  have B := F29 k m h
  rw [cl_s, show txt.fs[30]? = some f30 from rfl]
  simp [f30, startS, A, B, isNon]
/-- wrong_place, thing_of -/
theorem F33 {s x : Str} {d o : D} (h : Th s d o x) : callF txt.fs txt.consts 1000 (k + 8) 33 [.str s, .str x] m = .ok .non m := by
  have A := F31 (k + 5) m h.sort x
  have B := F29 (k + 1) m h
  rw [cl_s, show txt.fs[33]? = some f33 from rfl]
  simp [f33, startS, A, B]
theorem F34 {s x : Str} {d o : D} (h : Th s d o x) : callF txt.fs txt.consts 1000 (k + 8) 34 [.str s, .str x] m = .ok d m := by
  have A := F31 (k + 5) m h.sort x
  have B := F30 k m h
  rw [cl_s, show txt.fs[34]? = some f34 from rfl]
  simp [f34, startS, A, B]
/-- prices' texts joined -/
theorem prs_comp {f : D → Mu → Res D} {ps : List (Int × Int)} (hf : ∀ p ∈ ps, f (pD p) m = .ok (.str (pT p)) m) (h : ∀ p ∈ ps, Pr p) (hl : ps.length ≤ 6) :
    (lstR (mapR f (ps.map pD) m)).bind (fun y m => Res.of (m1op .join (.str ",") y) m) = .ok (.str (wP ps)) m := by
  rw [mapR_emb (h := fun w => .str (pT w)) hf, lstR_ok (by rw [List.length_map]; omega)]
  have : List.map (fun w => D.str (pT w)) ps = (ps.map pT).map D.str := by rw [List.map_map]; rfl
  rw [this, bind_ok', join_op]
  · rfl
  · have := joinSize_le (a := (",": Str)) (ys := ps.map pT) (n := 27) (fun y hy => by
      obtain ⟨w, hw, rfl⟩ := List.mem_map.mp hy
      exact pT_len (h w hw))
    rw [List.length_map] at this
    have e1 : (",": Str).length = 1 := rfl
    rw [e1] at this
    omega
/-- text_of -/
theorem F32 {s x : Str} {d o : D} (h : Th s d o x) (b : Bool) : callF txt.fs txt.consts 1000 (k + 6) 32 [.str s, if b then d else o] m = .ok (.str x) m := by
  have A := F25 (k + 4) m h.sort
  have B := F26 k m h b
  rw [cl_s, show txt.fs[32]? = some f32 from rfl]
  cases h with
  | @tab n ws h1 h5 hl hw =>
    have hn : ∀ w ∈ ws, w.natAbs < 10 ^ 12 := fun w hw' => by have := hw w hw'; omega
    have hs := small_pow h5
    have C := strs_comp m (f := fun x m => Res.of (b1op .str x) m) (ws := ws) (fun w hw => by
      show Res.of (b1op .str (.int w)) m = _
      rw [str_I (hn w hw)]
      rfl) hn (by omega)
    have l1 := sI_len (i := (n : Int)) (by omega)
    have l2 := joinI_len hn
    have e1 : (":" : Str).length = 1 := rfl
    have a1 := add_str (a := sI n) (b := ":") (by omega)
    have a2 := add_str (a := sI n ++ ":") (b := joinI ws) (by
      rw [len_tl, tl_append, List.length_append, ← len_tl, ← len_tl]
      omega)
    have e2 := str_I (i := (n : Int)) (by omega)
    cases b
    · simp at B
      simp [f32, startS, A, B, c5, e2, a1]
      rw [C]
      simp [a2, wT]
    · simp at B
      simp [f32, startS, A, B, c5, e2, a1]
      rw [C]
      simp [a2, wT]
  | lot h =>
    have C := F24 (k + 4) m h
    cases b
    · simp at B
      simp [f32, startS, A, B, c5, c6, ne_lt, C]
    · simp at B
      simp [f32, startS, A, B, c5, c6, ne_lt, C]
  | @pri ps h h5 =>
    have C := prs_comp m (f := fun x m => callF txt.fs txt.consts 1000 (k + 5) 23 [x] m) (ps := ps) (fun p hp => F23 (k + 4) m (h.each p hp)) h.each h.few
    cases b
    · simp at B
      simp [f32, startS, A, B, c5, c6, ne_pt, ne_pl]
      rw [C]
      simp
    · simp at B
      simp [f32, startS, A, B, c5, c6, ne_pt, ne_pl]
      rw [C]
      simp
/-- _law_written -/
theorem F46 {s x : Str} {d o : D} (h : Th s d o x) : callF txt.fs txt.consts 1000 (k + 2) 46 [.str s, d] m = .ok (.str x) m := by
  rw [cl_s, show txt.fs[46]? = some f46 from rfl]
  cases h with
  | @tab n ws h1 h5 hl hw =>
    have hn : ∀ w ∈ ws, w.natAbs < 10 ^ 12 := fun w hw' => by have := hw w hw'; omega
    have hs := small_pow h5
    have C := strs_comp m (f := fun x m => Res.of (b1op .str x) m) (ws := ws) (fun w hw => by
      show Res.of (b1op .str (.int w)) m = _
      rw [str_I (hn w hw)]
      rfl) hn (by omega)
    have l1 := sI_len (i := (n : Int)) (by omega)
    have l2 := joinI_len hn
    have e1 : (":" : Str).length = 1 := rfl
    have a1 := add_str (a := sI n) (b := ":") (by omega)
    have a2 := add_str (a := sI n ++ ":") (b := joinI ws) (by
      rw [len_tl, tl_append, List.length_append, ← len_tl, ← len_tl]
      omega)
    have e2 := str_I (i := (n : Int)) (by omega)
    simp [f46, startS, e2, a1]
    rw [C]
    simp [a2, wT]
  | lot h =>
    have C := F45 k m h
    simp [f46, startS, ne_lt, C]
  | @pri ps h h5 =>
    have C := prs_comp m (f := fun x m => callF txt.fs txt.consts 1000 (k + 1) 44 [x] m) (ps := ps) (fun p hp => F44 k m (h.each p hp)) h.each h.few
    simp [f46, startS, ne_pt, ne_pl]
    rw [C]
    simp
end L92

set_option linter.all false
set_option maxRecDepth 100000
set_option maxHeartbeats 4000000
namespace L92
open PySem Mi L2 TL
/-! what may be shown -/
structure Nice (dp W : Nat) (d : D) : Prop where
  ex : ∃ p, d.py = some p ∧ p.depth ≤ dp ∧ p.showable = true ∧ p.leavesShort 13 = true ∧ p.weight ≤ W
structure Nices (dp W : Nat) (ds : List D) : Prop where
  ex : ∃ ps, pys ds = some ps ∧ PyData.depthAll ps ≤ dp ∧ PyData.showableAll ps = true ∧ PyData.leavesShortAll 13 ps = true ∧ PyData.weightAll ps ≤ ds.length * (W + 1)
theorem nice_int {i : Int} (h : i.natAbs < 10 ^ 12) : Nice 1 40 (.int i) := by
  refine ⟨.int i, rfl, ?_, ?_, ?_, ?_⟩
  · simp [PyData.depth]
  · rw [PyData.showable]
    by_cases h0 : i.natAbs = 0
    · rw [h0]
      decide
    · have := (Nat.log2_lt h0).mpr (Nat.lt_trans h (by decide : (10:Nat) ^ 12 < 2 ^ 40))
      exact decide_eq_true (by omega)
  · rw [PyData.leavesShort]
    exact decide_eq_true (by
      show (sI i).length ≤ 13
      exact sI_len h)
  · rw [PyData.weight]
    split
    · omega
    · rename_i h0
      have h0' : i.natAbs ≠ 0 := by simpa using h0
      have := (Nat.log2_lt h0').mpr (Nat.lt_trans h (by decide : (10:Nat) ^ 12 < 2 ^ 40))
      omega
theorem nice_str {x : Str} {W : Nat} (h : ∀ c ∈ tl x, c < 128) (hl : x.length ≤ W) : Nice 1 W (.str x) := by
  refine ⟨.str x, rfl, ?_, ?_, ?_, ?_⟩
  · simp [PyData.depth]
  · rw [PyData.showable]
  · rw [PyData.leavesShort]
    exact List.all_eq_true.mpr fun c hc => decide_eq_true (Nat.lt_of_lt_of_le (h c hc) (by decide))
  · rw [PyData.weight]
    exact hl
theorem nices_of {dp W : Nat} : ∀ {ds : List D}, (∀ d ∈ ds, Nice dp W d) → Nices dp W ds
  | [], _ => ⟨[], rfl, by simp [PyData.depthAll], rfl, rfl, by simp [PyData.weightAll]⟩
  | d :: ds, h => by
    obtain ⟨p, e1, e2, e3, e4, e5⟩ := (h d (by simp)).ex
    obtain ⟨ps, f1, f2, f3, f4, f5⟩ := (nices_of fun y hy => h y (List.mem_cons_of_mem _ hy)).ex
    refine ⟨p :: ps, by simp [pys, e1, f1], ?_, ?_, ?_, ?_⟩
    · rw [PyData.depthAll]
      exact Nat.max_le.mpr ⟨e2, f2⟩
    · rw [PyData.showableAll, e3, f3]
      rfl
    · rw [PyData.leavesShortAll, e4, f4]
      rfl
    · rw [PyData.weightAll, List.length_cons, Nat.succ_mul]
      omega
theorem nice_lst {dp W : Nat} {ds : List D} (h : ∀ d ∈ ds, Nice dp W d) : Nice (dp + 1) (ds.length * (W + 1)) (.lst ds) := by
  obtain ⟨ps, f1, f2, f3, f4, f5⟩ := (nices_of h).ex
  refine ⟨.list ps, pyL f1, ?_, ?_, ?_, ?_⟩
  · rw [PyData.depth]
    omega
  · rw [PyData.showable]
    exact f3
  · rw [PyData.leavesShort]
    exact f4
  · rw [PyData.weight]
    exact f5
theorem nice_tup {dp W : Nat} {ds : List D} (h : ∀ d ∈ ds, Nice dp W d) : Nice (dp + 1) (ds.length * (W + 1)) (.tup ds) := by
  obtain ⟨ps, f1, f2, f3, f4, f5⟩ := (nices_of h).ex
  refine ⟨.tuple ps, pyT f1, ?_, ?_, ?_, ?_⟩
  · rw [PyData.depth]
    omega
  · rw [PyData.showable]
    exact f3
  · rw [PyData.leavesShort]
    exact f4
  · rw [PyData.weight]
    exact f5
theorem Nice.mono {dp dp' W W' : Nat} {d : D} (h : Nice dp W d) (h1 : dp ≤ dp') (h2 : W ≤ W') : Nice dp' W' d := by
  obtain ⟨p, e1, e2, e3, e4, e5⟩ := h.ex
  exact ⟨p, e1, by omega, e3, e4, by omega⟩
theorem Nice.repr {dp W : Nat} {d : D} (h : Nice dp W d) (h1 : dp ≤ 40) (h2 : W ≤ 1000000) : ∃ x, b1op .repr d = some (.str x) := by
  obtain ⟨p, e1, e2, e3, e4, e5⟩ := h.ex
  have hs := PyData.shown_le 13 (by decide) p e4
  have hw : (13 + 2) * p.weight ≤ 15 * 1000000 := Nat.mul_le_mul_left 15 (by omega)
  have c : (small p && p.showable && fit p.shown.length) = true := by
    rw [e3]
    have s1 : small p = true := decide_eq_true (by omega)
    have s2 : fit p.shown.length = true := decide_eq_true (by omega)
    rw [s1, s2]
    rfl
  refine ⟨p.shown, ?_⟩
  show (match d.py with
    | some p => if small p && p.showable && fit p.shown.length then some (D.str p.shown) else none
    | none => none) = _
  rw [e1]
  exact if_pos c
theorem Nice.eq {dp W : Nat} {d : D} (h : Nice dp W d) (h1 : dp ≤ 40) : eqD d d = some true := by
  obtain ⟨p, e1, e2, e3, e4, e5⟩ := h.ex
  have s1 : small p = true := decide_eq_true (by omega)
  unfold eqD
  rw [e1]
  simp only [s1, Bool.and_self, if_true]
  rw [SeqAt.eqv_refl_plain p (py_plain d e1)]
/-! low signs -/
theorem dg_low (i : Int) : ∀ c ∈ dg i, c < 128 := by
  unfold dg
  split
  · intro c hc
    rcases List.mem_cons.mp hc with rfl | hc
    · decide
    · have := numL_digits i.natAbs c hc
      omega
  · intro c hc
    have := numL_digits i.natAbs c hc
    omega
theorem join_low {S : List Nat} (hS : ∀ c ∈ S, c < 128) : ∀ {ps : List (List Nat)}, (∀ p ∈ ps, ∀ c ∈ p, c < 128) → ∀ c ∈ joinL S ps, c < 128
  | [], _ => by simp [joinL]
  | [p], h => h p (by simp)
  | p :: q :: r, h => by
    intro c hc
    have hc : c ∈ p ++ (S ++ joinL S (q :: r)) := hc
    rcases List.mem_append.mp hc with z | z
    · exact h p (by simp) c z
    · rcases List.mem_append.mp z with z | z
      · exact hS c z
      · exact join_low hS (fun p hp => h p (List.mem_cons_of_mem _ hp)) c z
theorem sep_low : (∀ c ∈ tl (",":Str), c < 128) ∧ (∀ c ∈ tl (":":Str), c < 128) ∧ (∀ c ∈ tl ("/":Str), c < 128) ∧ ∀ c ∈ tl ("-":Str), c < 128 := by
  refine ⟨fun c hc => ?_, fun c hc => ?_, fun c hc => ?_, fun c hc => ?_⟩
  · have : c ∈ [44] := hc
    simp at this
    omega
  · have : c ∈ [58] := hc
    simp at this
    omega
  · have : c ∈ [47] := hc
    simp at this
    omega
  · have : c ∈ [45] := hc
    simp at this
    omega
theorem joinI_low (ws : List Int) : ∀ c ∈ tl (joinI ws), c < 128 := by
  unfold joinI
  rw [tl_Join]
  refine join_low sep_low.1 fun p hp => ?_
  rw [List.map_map] at hp
  obtain ⟨w, _, rfl⟩ := List.mem_map.mp hp
  show ∀ c ∈ tl (sI w), c < 128
  rw [tl_sI]
  exact dg_low w
theorem app_low {x y : Str} (h1 : ∀ c ∈ tl x, c < 128) (h2 : ∀ c ∈ tl y, c < 128) : ∀ c ∈ tl (x ++ y), c < 128 := by
  rw [tl_append]
  intro c hc
  rcases List.mem_append.mp hc with z | z
  · exact h1 c z
  · exact h2 c z
theorem sI_low (i : Int) : ∀ c ∈ tl (sI i), c < 128 := by
  rw [tl_sI]
  exact dg_low i
theorem pT_low (p : Int × Int) : ∀ c ∈ tl (pT p), c < 128 := by
  unfold pT
  split
  · exact sI_low _
  · exact app_low (app_low (sI_low _) sep_low.2.2.1) (sI_low _)
theorem Th.low {s x : Str} {d o : D} (h : Th s d o x) : ∀ c ∈ tl x, c < 128 := by
  cases h with
  | tab h1 h5 hl hw => exact app_low (app_low (sI_low _) sep_low.2.1) (joinI_low _)
  | lot h =>
    unfold wL
    split
    · exact sep_low.2.2.2
    · exact joinI_low _
  | pri h h5 =>
    unfold wP
    rw [tl_Join]
    refine join_low sep_low.1 fun p hp => ?_
    rw [List.map_map] at hp
    obtain ⟨w, _, rfl⟩ := List.mem_map.mp hp
    exact pT_low w
theorem nice_pD {p : Int × Int} (h : Pr p) : Nice 2 82 (pD p) := by
  have := nice_tup (dp := 1) (W := 40) (ds := [.int p.1, .int p.2]) (fun d hd => by
    rcases List.mem_cons.mp hd with rfl | hd
    · exact nice_int h.top
    · rw [List.mem_singleton.mp hd]
      exact nice_int h.two)
  exact this
theorem Th.nice {s x : Str} {d o : D} (h : Th s d o x) : Nice 4 4000 d := by
  cases h with
  | @tab n ws h1 h5 hl hw =>
    have hs := small_pow h5
    have A := nice_lst (dp := 1) (W := 40) (ds := ws.map D.int) (fun d hd => by
      obtain ⟨w, hw', rfl⟩ := List.mem_map.mp hd
      exact nice_int (by have := hw w hw'; omega))
    have B := nice_tup (dp := 2) (W := 1400) (ds := [.int n, .lst (ws.map D.int)]) (fun d hd => by
      rcases List.mem_cons.mp hd with rfl | hd
      · exact (nice_int (by omega)).mono (by decide) (by decide)
      · rw [List.mem_singleton.mp hd]
        exact A.mono (by decide) (by rw [List.length_map]; omega))
    exact B.mono (by decide) (by simp)
  | @lot ls h =>
    have hf := h.few
    have A := nice_tup (dp := 1) (W := 40) (ds := ls.map D.int) (fun d hd => by
      obtain ⟨w, hw', rfl⟩ := List.mem_map.mp hd
      exact nice_int (by have := h.lo w hw'; omega))
    exact A.mono (by decide) (by rw [List.length_map]; omega)
  | @pri ps h h5 =>
    have A := nice_lst (dp := 2) (W := 82) (ds := ps.map pD) (fun d hd => by
      obtain ⟨w, hw', rfl⟩ := List.mem_map.mp hd
      exact nice_pD (h.each w hw'))
    exact A.mono (by decide) (by rw [List.length_map]; omega)
theorem Th.nice_x {s x : Str} {d o : D} (h : Th s d o x) : Nice 1 500 (.str x) := nice_str h.low h.len
theorem two_nice {dp W : Nat} {d : D} (h : Nice dp W d) : Nice (dp + 1) (2 * (W + 1)) (.lst [d, d]) := nice_lst fun y hy => by
  rcases List.mem_cons.mp hy with rfl | hy
  · exact h
  · rw [List.mem_singleton.mp hy]
    exact h
/-! equal things -/
mutual
def pureB : PyData → Bool
  | .none => true | .int _ => true | .str _ => true
  | .bool _ => false | .dict _ => false
  | .list xs => pureBs xs
  | .tuple xs => pureBs xs
def pureBs : List PyData → Bool
  | [] => true
  | x :: r => pureB x && pureBs r
end
mutual
theorem eqv_pure : ∀ (p q : PyData), pureB p = true → pureB q = true → PyData.eqv p q = true → p = q
  | .none, q, _, h2, h => by cases q <;> first | rfl | (simp [PyData.eqv] at h)
  | .int i, q, _, h2, h => by
    cases q <;> first | (simp [pureB] at h2; done) | (simp [PyData.eqv] at h; try (rw [h]))
  | .str i, q, _, h2, h => by
    cases q <;> first | (simp [pureB] at h2; done) | (simp [PyData.eqv] at h; try (rw [h]))
  | .bool b, q, h1, _, _ => by simp [pureB] at h1
  | .dict b, q, h1, _, _ => by simp [pureB] at h1
  | .list xs, q, h1, h2, h => by
    cases q <;> first | (simp [PyData.eqv] at h; done) | skip
    rw [PyData.eqv] at h
    rw [pureB] at h1 h2
    rw [eqv_pures xs _ h1 h2 h]
  | .tuple xs, q, h1, h2, h => by
    cases q <;> first | (simp [PyData.eqv] at h; done) | skip
    rw [PyData.eqv] at h
    rw [pureB] at h1 h2
    rw [eqv_pures xs _ h1 h2 h]
theorem eqv_pures : ∀ (p q : List PyData), pureBs p = true → pureBs q = true → PyData.eqvAll p q = true → p = q
  | [], [], _, _, _ => rfl
  | [], _ :: _, _, _, h => by simp [PyData.eqvAll] at h
  | _ :: _, [], _, _, h => by simp [PyData.eqvAll] at h
  | x :: xs, y :: ys, h1, h2, h => by
    rw [PyData.eqvAll, Bool.and_eq_true] at h
    rw [pureBs, Bool.and_eq_true] at h1 h2
    rw [eqv_pure x y h1.1 h2.1 h.1, eqv_pures xs ys h1.2 h2.2 h.2]
end
mutual
theorem py_inj : ∀ (d e : D) {p : PyData}, d.py = some p → e.py = some p → d = e
  | .non, e, p, h1, h2 => by
    cases h1
    cases e <;> first | rfl | (simp [D.py] at h2; done) | (unfold D.py at h2; split at h2 <;> cases h2)
  | .bl b, e, p, h1, h2 => by
    cases h1
    cases e <;> first | (cases h2; rfl) | (simp [D.py] at h2; done) | (unfold D.py at h2; split at h2 <;> cases h2)
  | .int b, e, p, h1, h2 => by
    cases h1
    cases e <;> first | (cases h2; rfl) | (simp [D.py] at h2; done) | (unfold D.py at h2; split at h2 <;> cases h2)
  | .str b, e, p, h1, h2 => by
    cases h1
    cases e <;> first | (cases h2; rfl) | (simp [D.py] at h2; done) | (unfold D.py at h2; split at h2 <;> cases h2)
  | .ref b, e, p, h1, h2 => by cases h1
  | .scr b, e, p, h1, h2 => by cases h1
  | .lst xs, e, p, h1, h2 => by
    unfold D.py at h1
    cases q : pys xs with
    | none =>
      rw [q] at h1
      cases h1
    | some ys =>
      rw [q] at h1
      cases h1
      cases e <;> first | (cases h2; done) | skip
      · unfold D.py at h2
        split at h2
        · rename_i zs ws q2
          cases h2
          rw [pys_inj xs _ q q2]
        · cases h2
      · unfold D.py at h2
        split at h2 <;> cases h2
  | .tup xs, e, p, h1, h2 => by
    unfold D.py at h1
    cases q : pys xs with
    | none =>
      rw [q] at h1
      cases h1
    | some ys =>
      rw [q] at h1
      cases h1
      cases e <;> first | (cases h2; done) | skip
      · unfold D.py at h2
        split at h2 <;> cases h2
      · unfold D.py at h2
        split at h2
        · rename_i zs ws q2
          cases h2
          rw [pys_inj xs _ q q2]
        · cases h2
theorem pys_inj : ∀ (d e : List D) {p : List PyData}, pys d = some p → pys e = some p → d = e
  | [], e, p, h1, h2 => by
    cases h1
    cases e with
    | nil => rfl
    | cons a r =>
      unfold pys at h2
      split at h2 <;> cases h2
  | a :: r, e, p, h1, h2 => by
    unfold pys at h1
    split at h1
    · rename_i x y q1 q2
      cases h1
      cases e with
      | nil => cases h2
      | cons b s =>
        unfold pys at h2
        split at h2
        · rename_i x' y' q3 q4
          cases h2
          rw [py_inj a b q1 q3, pys_inj r s q2 q4]
        · cases h2
    · cases h1
end
end L92

set_option linter.all false
set_option maxRecDepth 100000
set_option maxHeartbeats 4000000
namespace L92
open PySem Mi L2 TL
/-! the draws -/
structure Pots (L : Nat) (m : Mu) : Prop where
  len : m.length = L
  each : ∀ l ∈ m, ∃ p0 p1 : Int, l = [.int p0, .int p1] ∧ 0 ≤ p0 ∧ 0 ≤ p1 ∧ p1 ≤ 2147483563
theorem Pots.get {L n : Nat} {m : Mu} (h : Pots L m) (hn : n < L) : ∃ p0 p1 : Int, m[n]? = some [.int p0, .int p1] ∧ 0 ≤ p0 ∧ 0 ≤ p1 ∧ p1 ≤ 2147483563 := by
  have hl : n < m.length := by rw [h.len]; exact hn
  obtain ⟨p0, p1, e, h1, h2, h3⟩ := h.each m[n] (List.getElem_mem hl)
  exact ⟨p0, p1, by rw [List.getElem?_eq_getElem hl, e], h1, h2, h3⟩
theorem Pots.set {L n : Nat} {m : Mu} (h : Pots L m) {p0 p1 : Int} (h1 : 0 ≤ p0) (h2 : 0 ≤ p1) (h3 : p1 ≤ 2147483563) : Pots L (m.set n [.int p0, .int p1]) :=
  ⟨by rw [List.length_set]; exact h.len, fun l hl => by
    rcases List.mem_or_eq_of_mem_set hl with z | z
    · exact h.each l z
    · exact ⟨p0, p1, z, h1, h2, h3⟩⟩
theorem log_of {i : Int} (h : i.natAbs < 2 ^ 100) : i.natAbs.log2 < 100 := by
  by_cases h0 : i.natAbs = 0
  · rw [h0]
    decide
  · exact (Nat.log2_lt h0).mpr h
theorem mul_of {i j : Int} (h : i.natAbs < 2 ^ 100) (h2 : j.natAbs < 2 ^ 100) : binop .Mult (.int i) (.int j) = some (.int (i * j)) := mul_int (by
  have := log_of h
  have := log_of h2
  omega)
theorem idx_r {m : Mu} {n : Nat} {xs : List D} (h : m[n]? = some xs) (i : Int) : idxD m (.ref n) (.int i) = atI xs i := by
  show (match m[n]? with | some xs => atI xs i | none => none) = _
  rw [h]
variable (k : Nat)
/-- _law_draw -/
theorem F36 {L n : Nat} {m : Mu} (h : Pots L m) (hn : n < L) {many : Int} (h1 : 1 ≤ many) (h2 : many < 1073741824) :
    ∃ c m', callF txt.fs txt.consts 1000 (k + 1) 36 [.ref n, .int many] m = .ok (.int c) m' ∧ (0 ≤ c ∧ c < many) ∧ Pots L m' := by
  obtain ⟨p0, p1, e, q0, q1, q2⟩ := h.get hn
  have hl : n < m.length := by rw [h.len]; exact hn
  have i0 := idx_r e 0
  have i1 := idx_r e 1
  rw [at_0] at i0
  rw [at_1] at i1
  by_cases hp : 0 < p0
  · have dm := dm_int (i := p0) (j := many) (by omega) h2
    refine ⟨p0 % many, m.set n [.int (p0 / many), .int p1], ?_, ⟨Int.emod_nonneg _ (by omega), Int.emod_lt_of_pos _ (by omega)⟩, h.set (Int.ediv_nonneg q0 (by omega)) q1 q2⟩
    rw [cl_s, show txt.fs[36]? = some f36 from rfl]
    simp [f36, startS, i0, hp, dm, e]
  · have a1 := mul_of (i := p1) (j := 40014) (by omega) (by decide)
    have b1 := mod_int (i := p1 * 40014 + 3469) (j := 2147483563) (by decide)
    have r1 : 0 ≤ (p1 * 40014 + 3469) % 2147483563 := Int.emod_nonneg _ (by decide)
    have r2 : (p1 * 40014 + 3469) % 2147483563 < 2147483563 := Int.emod_lt_of_pos _ (by decide)
    generalize hq : (p1 * 40014 + 3469) % 2147483563 = q at b1 r1 r2
    have e2 : (m.set n [.int p0, .int q])[n]? = some [.int p0, .int q] := List.getElem?_set_self hl
    have i2 := idx_r e2 1
    rw [at_1] at i2
    have a2 := mul_of (i := q) (j := q) (by omega) (by omega)
    have b2 := mod_int (i := q * q) (j := 2147483549) (by decide)
    have c1 := div_int (i := q * q % 2147483549) (j := 17) (by decide) (by decide)
    have b3 := mod_int (i := q * q % 2147483549 / 17) (j := many) (by omega)
    refine ⟨q * q % 2147483549 / 17 % many, m.set n [.int p0, .int q], ?_, ⟨Int.emod_nonneg _ (by omega), Int.emod_lt_of_pos _ (by omega)⟩, h.set q0 r1 (by omega)⟩
    rw [cl_s, show txt.fs[36]? = some f36 from rfl]
    simp [f36, startS, i0, i1, hp, a1, b1, e, i2, a2, b2, c1, b3]
/-- _law_pick -/
theorem F37 {L n : Nat} {m : Mu} (h : Pots L m) (hn : n < L) {xs : List D} (h1 : xs ≠ []) (h2 : xs.length < 1000000) :
    ∃ d m', callF txt.fs txt.consts 1000 (k + 2) 37 [.ref n, .lst xs] m = .ok d m' ∧ d ∈ xs ∧ Pots L m' := by
  have hl : 0 < xs.length := List.length_pos_iff.mpr h1
  obtain ⟨c, m', e, ⟨c1, c2⟩, h'⟩ := F36 k h hn (many := (xs.length : Int)) (by omega) (by omega)
  obtain ⟨j, rfl⟩ : ∃ j : Nat, c = j := ⟨c.toNat, by omega⟩
  have hj : j < xs.length := by omega
  refine ⟨xs[j], m', ?_, List.getElem_mem hj, h'⟩
  rw [cl_s, show txt.fs[37]? = some f37 from rfl]
  simp [f37, startS, e, idx_l, at_nat, List.getElem?_eq_getElem hj]
/-- _law_lot_of -/
def bits (c : Nat) : List Int := ((List.range 5).filter fun i => c / 2 ^ i % 2 == 1).map Int.ofNat
theorem F38 {c : Nat} (h : c < 32) (m : Mu) : ∃ ls, callF txt.fs txt.consts 1000 (k + 1) 38 [.int c] m = .ok (.tup (ls.map .int)) m ∧ Lot ls := by
  have : c = 0 ∨ c = 1 ∨ c = 2 ∨ c = 3 ∨ c = 4 ∨ c = 5 ∨ c = 6 ∨ c = 7 ∨ c = 8 ∨ c = 9 ∨ c = 10 ∨ c = 11 ∨ c = 12 ∨ c = 13 ∨ c = 14 ∨ c = 15 ∨ c = 16 ∨ c = 17 ∨ c = 18 ∨ c = 19 ∨ c = 20 ∨ c = 21 ∨ c = 22 ∨ c = 23 ∨ c = 24 ∨ c = 25 ∨ c = 26 ∨ c = 27 ∨ c = 28 ∨ c = 29 ∨ c = 30 ∨ c = 31 := by omega
  rcases this with rfl | rfl | rfl | rfl | rfl | rfl | rfl | rfl | rfl | rfl | rfl | rfl | rfl | rfl | rfl | rfl | rfl | rfl | rfl | rfl | rfl | rfl | rfl | rfl | rfl | rfl | rfl | rfl | rfl | rfl | rfl | rfl
  · exact ⟨bits 0, rfl, ⟨by decide, by decide, by decide⟩⟩
  · exact ⟨bits 1, rfl, ⟨by decide, by decide, by decide⟩⟩
  · exact ⟨bits 2, rfl, ⟨by decide, by decide, by decide⟩⟩
  · exact ⟨bits 3, rfl, ⟨by decide, by decide, by decide⟩⟩
  · exact ⟨bits 4, rfl, ⟨by decide, by decide, by decide⟩⟩
  · exact ⟨bits 5, rfl, ⟨by decide, by decide, by decide⟩⟩
  · exact ⟨bits 6, rfl, ⟨by decide, by decide, by decide⟩⟩
  · exact ⟨bits 7, rfl, ⟨by decide, by decide, by decide⟩⟩
  · exact ⟨bits 8, rfl, ⟨by decide, by decide, by decide⟩⟩
  · exact ⟨bits 9, rfl, ⟨by decide, by decide, by decide⟩⟩
  · exact ⟨bits 10, rfl, ⟨by decide, by decide, by decide⟩⟩
  · exact ⟨bits 11, rfl, ⟨by decide, by decide, by decide⟩⟩
  · exact ⟨bits 12, rfl, ⟨by decide, by decide, by decide⟩⟩
  · exact ⟨bits 13, rfl, ⟨by decide, by decide, by decide⟩⟩
  · exact ⟨bits 14, rfl, ⟨by decide, by decide, by decide⟩⟩
  · exact ⟨bits 15, rfl, ⟨by decide, by decide, by decide⟩⟩
  · exact ⟨bits 16, rfl, ⟨by decide, by decide, by decide⟩⟩
  · exact ⟨bits 17, rfl, ⟨by decide, by decide, by decide⟩⟩
  · exact ⟨bits 18, rfl, ⟨by decide, by decide, by decide⟩⟩
  · exact ⟨bits 19, rfl, ⟨by decide, by decide, by decide⟩⟩
  · exact ⟨bits 20, rfl, ⟨by decide, by decide, by decide⟩⟩
  · exact ⟨bits 21, rfl, ⟨by decide, by decide, by decide⟩⟩
  · exact ⟨bits 22, rfl, ⟨by decide, by decide, by decide⟩⟩
  · exact ⟨bits 23, rfl, ⟨by decide, by decide, by decide⟩⟩
  · exact ⟨bits 24, rfl, ⟨by decide, by decide, by decide⟩⟩
  · exact ⟨bits 25, rfl, ⟨by decide, by decide, by decide⟩⟩
  · exact ⟨bits 26, rfl, ⟨by decide, by decide, by decide⟩⟩
  · exact ⟨bits 27, rfl, ⟨by decide, by decide, by decide⟩⟩
  · exact ⟨bits 28, rfl, ⟨by decide, by decide, by decide⟩⟩
  · exact ⟨bits 29, rfl, ⟨by decide, by decide, by decide⟩⟩
  · exact ⟨bits 30, rfl, ⟨by decide, by decide, by decide⟩⟩
  · exact ⟨bits 31, rfl, ⟨by decide, by decide, by decide⟩⟩
end L92

set_option linter.all false
set_option maxRecDepth 100000
set_option maxHeartbeats 4000000
namespace L92
open PySem Mi L2 TL
variable (k : Nat)
/-- _law_size -/
theorem F39 {n : Nat} (h5 : n ≤ 5) (m : Mu) : callF txt.fs txt.consts 1000 (k + 1) 39 [.int n] m = .ok (.int (2 ^ n : Nat)) m := by
  have : n = 0 ∨ n = 1 ∨ n = 2 ∨ n = 3 ∨ n = 4 ∨ n = 5 := by omega
  rcases this with rfl | rfl | rfl | rfl | rfl | rfl <;> rfl
theorem rng_eq (N : Nat) : ∀ a : Nat, rng a N = (List.range N).map fun i => D.int ((a + i : Nat) : Int) := by
  induction N with
  | zero => intro a; rfl
  | succ N ih =>
    intro a
    rw [rng, List.range_succ_eq_map, List.map_cons, List.map_map]
    have e : ((a : Int) + 1) = ((a + 1 : Nat) : Int) := by omega
    rw [e, ih (a + 1)]
    congr 1
    refine List.map_congr_left fun i _ => ?_
    show D.int ((a + 1 + i : Nat) : Int) = D.int ((a + (i + 1) : Nat) : Int)
    congr 2
    omega
theorem rng0 (N : Nat) : rng 0 N = (List.range N).map fun i : Nat => D.int (i : Int) := by
  have := rng_eq N 0
  simp only [Nat.zero_add] at this
  exact this
theorem items_rng {N : Nat} (h : N ≤ 1000) : itemsD .range1 [.int (N : Int)] = some ((List.range N).map fun i : Nat => D.int (i : Int)) := by
  have : inR (N : Int) = true := decide_eq_true (by omega)
  show (if inR (N : Int) then some (rng 0 (N : Int).toNat) else none) = _
  rw [if_pos this, Int.toNat_natCast, rng0]
/-- _law_lots -/
theorem lots_any (C : Nat → List D → Mu → Res D) (cs : List D) (N n : Nat) (hN : N ≤ 32) (m : Mu) (e39 : C 39 [.int n] m = .ok (.int N) m) (e38 : ∀ c : Nat, c < 32 → ∃ y, C 38 [.int c] m = .ok y m) :
    ∃ ds, endF (evSs ⟨cs, C⟩ 1000 f40.body (startS f40 [.int n]) m) = .ok (.lst ds) m ∧ ds.length = N := by
  obtain ⟨ys, e, hl⟩ := mapR_keep (f := fun x m => C 38 [x] m) (m := m) (xs := (List.range N).map fun i : Nat => D.int (i : Int)) (fun x hx => by
    obtain ⟨c, hc, rfl⟩ := List.mem_map.mp hx
    exact e38 c (by have := List.mem_range.mp hc; omega))
  rw [List.length_map, List.length_range] at hl
  refine ⟨ys, ?_, hl⟩
  have it := items_rng (N := N) (by omega)
  simp [f40, startS, -ev_comp]
  rw [ev_comp_eq (ds := [.int N]) (m1 := m) (by simp [e39]) it]
  simp
  rw [e, lstR_ok (by omega)]
  simp
theorem F40 {n : Nat} (h5 : n ≤ 5) (m : Mu) : ∃ ds, callF txt.fs txt.consts 1000 (k + 2) 40 [.int n] m = .ok (.lst ds) m ∧ ds.length = 2 ^ n :=
  lots_any (callF txt.fs txt.consts 1000 (k + 1)) txt.consts (2 ^ n) n (small_pow h5) m (F39 k h5 m) fun c hc => by
    obtain ⟨ls, e, _⟩ := F38 k hc m
    exact ⟨_, e⟩
/-- the loop of Euclid, further on -/
abbrev eB2 : Stms := .cons (.par [2, 3] (.cons (.var 3) (.cons (.op .Mod (.b1 .int (.var 2)) (.var 3)) .nil)) []) .nil
abbrev eW2 (g : Mi.Env0) (n : Nat) (r : List Slot) (m : Mu) : SRes := whileR (fun r m => asB (ev g (.cmp .Gt (.var 3) (.cst (.int 0))) r m)) (fun r m => evSs g 1000 eB2 r m) n r m
variable (x y : D)
theorem eW2_0 (g : Mi.Env0) (n a : Nat) (m : Mu) : eW2 g (n + 1) [.val x, .val y, .val (.int a), .val (.int 0)] m = .nx [.val x, .val y, .val (.int a), .val (.int 0)] m := by
  unfold eW2
  rw [whileR]
  simp
theorem eW2_s (g : Mi.Env0) (n a b : Nat) (m : Mu) (h : 0 < b) : eW2 g (n + 1) [.val x, .val y, .val (.int a), .val (.int b)] m = eW2 g n [.val x, .val y, .val (.int b), .val (.int (a % b : Nat))] m := by
  unfold eW2
  conv => lhs; rw [whileR]
  have hb : (0 : Int) < (b : Int) := by omega
  simp [mod_int hb, hb, h, setAll, ownAll]
theorem eW2_g (g : Mi.Env0) (m : Mu) : ∀ (j n a b : Nat), b < 2 ^ j → 2 * j + 1 ≤ n → eW2 g n [.val x, .val y, .val (.int a), .val (.int b)] m = .nx [.val x, .val y, .val (.int (Nat.gcd a b)), .val (.int 0)] m
  | 0, n, a, b, hb, hn => by
    have : b = 0 := by
      have : (2 : Nat) ^ 0 = 1 := rfl
      omega
    subst this
    obtain ⟨n, rfl⟩ : ∃ k, n = k + 1 := ⟨n - 1, by omega⟩
    rw [Nat.gcd_zero_right]
    exact eW2_0 x y g n a m
  | j + 1, n, a, b, hb, hn => by
    obtain ⟨n, rfl⟩ : ∃ k, n = k + 1 := ⟨n - 1, by omega⟩
    by_cases h0 : b = 0
    · subst h0
      rw [Nat.gcd_zero_right]
      exact eW2_0 x y g n a m
    · rw [eW2_s x y g n a b m (by omega)]
      obtain ⟨n, rfl⟩ : ∃ k, n = k + 1 := ⟨n - 1, by omega⟩
      have hg : Nat.gcd a b = Nat.gcd b (a % b) := by rw [Nat.gcd_comm a b, Nat.gcd_rec b a, Nat.gcd_comm]
      by_cases h1 : a % b = 0
      · rw [hg, h1, Nat.gcd_zero_right]
        exact eW2_0 x y g n b m
      · rw [eW2_s x y g n b (a % b) m (by omega), hg]
        have hr : a % b < b := Nat.mod_lt _ (by omega)
        have hh := half (by omega : 0 < a % b) hr
        have hg2 : Nat.gcd b (a % b) = Nat.gcd (a % b) (b % (a % b)) := by rw [Nat.gcd_comm b, Nat.gcd_rec (a % b) b, Nat.gcd_comm]
        rw [hg2]
        exact eW2_g g m j n (a % b) (b % (a % b)) (by rw [Nat.pow_succ] at hb; omega) (by omega)
/-- _law_frac -/
theorem F41 {t : Int} {b : Nat} (hb : 1 ≤ b) (h2 : b < 10 ^ 12) (ht : t.natAbs ≤ 999) (m : Mu) : ∃ p, callF txt.fs txt.consts 1000 (k + 1) 41 [.int t, .int b] m = .ok (pD p) m ∧ Pr p := by
  have hg : 0 < Nat.gcd t.natAbs b := Nat.gcd_pos_of_pos_right _ (by omega)
  have hgb : Nat.gcd t.natAbs b ∣ b := Nat.gcd_dvd_right _ _
  have hgt : Nat.gcd t.natAbs b ∣ t.natAbs := Nat.gcd_dvd_left _ _
  have hle : Nat.gcd t.natAbs b ≤ b := Nat.le_of_dvd (by omega) hgb
  have e := eW2_g (.int t) (.int b) ⟨txt.consts, callF txt.fs txt.consts 1000 k⟩ m 200 1000 t.natAbs b (p200 h2) (by decide)
  generalize hG : Nat.gcd t.natAbs b = G at hg hgb hgt hle e
  have lg : (G : Int).natAbs.log2 < 9000 := by
    have := log_of (i := (G : Int)) (by
      have : (10:Nat) ^ 12 < 2 ^ 100 := by decide
      omega)
    omega
  have d1 := div_int (i := t) (j := (G : Int)) (by omega) lg
  have d2 := div_int (i := (b : Int)) (j := (G : Int)) (by omega) lg
  obtain ⟨c, hc⟩ := hgb
  obtain ⟨u, hu⟩ := hgt
  have hc1 : b / G = c := by rw [hc]; exact Nat.mul_div_cancel_left c hg
  have n1 : (t / (G : Int)).natAbs = u := by
    have hd : (G : Int) ∣ t := Int.ofNat_dvd_left.mpr ⟨u, hu⟩
    obtain ⟨v, hv⟩ := hd
    have hg' : (G : Int) ≠ 0 := by omega
    rw [hv, Int.mul_ediv_cancel_left v hg']
    have : t.natAbs = G * v.natAbs := by rw [hv, Int.natAbs_mul, Int.natAbs_natCast]
    rw [hu] at this
    exact (Nat.eq_of_mul_eq_mul_left hg this).symm
  have n2 : ((b : Int) / (G : Int)) = (c : Int) := by rw [← hc1]; exact (Int.natCast_ediv b G).symm
  refine ⟨(t / (G : Int), (b : Int) / (G : Int)), ?_, ?_⟩
  · rw [cl_s, show txt.fs[41]? = some f41 from rfl]
    have par : ∀ g : Mi.Env0, evS g 1000 (.par [2, 3] (.cons (.b1 .abs (.var 0)) (.cons (.var 1) .nil)) []) [.val (.int t), .val (.int b), .un, .un] m = .nx [.val (.int t), .val (.int b), .val (.int t.natAbs), .val (.int b)] m := fun g => by
      simp [natAbs_if, setAll, ownAll]
    show endF (match evS ⟨txt.consts, callF txt.fs txt.consts 1000 k⟩ 1000 (.par [2, 3] (.cons (.b1 .abs (.var 0)) (.cons (.var 1) .nil)) []) [.val (.int t), .val (.int b), .un, .un] m with
      | .nx r m => (match eW2 ⟨txt.consts, callF txt.fs txt.consts 1000 k⟩ 1000 r m with
        | .nx r m => evSs ⟨txt.consts, callF txt.fs txt.consts 1000 k⟩ 1000 (.cons (.ret (.tup (.cons (.op .FloorDiv (.var 0) (.var 2)) (.cons (.op .FloorDiv (.var 1) (.var 2)) .nil)))) .nil) r m
        | o => o)
      | o => o) = _
    rw [par]
    dsimp only
    rw [e]
    simp [d1, d2, pD]
  · have hcp : 1 ≤ c := by
      rcases Nat.eq_zero_or_pos c with z | z
      · rw [z] at hc
        omega
      · exact z
    have hcb : c ≤ b := by
      rw [hc]
      exact Nat.le_mul_of_pos_left c hg
    have hut : u ≤ t.natAbs := by
      rw [hu]
      exact Nat.le_mul_of_pos_left u hg
    refine ⟨?_, ?_, ?_, ?_, ?_⟩
    · show 1 ≤ (b : Int) / (G : Int)
      rw [n2]
      omega
    · show (b : Int) / (G : Int) < 10 ^ 12
      rw [n2]
      omega
    · show (t / (G : Int)).natAbs < 10 ^ 12
      rw [n1]
      omega
    · show Nat.gcd (t / (G : Int)).natAbs ((b : Int) / (G : Int)).natAbs = 1
      rw [n1, n2, Int.natAbs_natCast]
      have : G * Nat.gcd u c = G * 1 := by
        rw [← Nat.gcd_mul_left, ← hu, ← hc, hG, Nat.mul_one]
      exact Nat.eq_of_mul_eq_mul_left hg this
    · show ((t / (G : Int)).natAbs : Int) ≤ 999 * ((b : Int) / (G : Int))
      rw [n1, n2]
      have : u ≤ 999 := by omega
      omega
end L92

set_option linter.all false
set_option maxRecDepth 100000
set_option maxHeartbeats 4000000
namespace L92
open PySem Mi L2 TL
variable (k : Nat)
theorem pow_int {i j : Int} (h : 0 ≤ j ∧ j ≤ 1000000 ∧ i.natAbs < 18446744073709551616) : binop .Pow (.int i) (.int j) = some (.int (i ^ j.toNat)) := if_pos (decide_eq_true h)
theorem unmap {α : Type} {e : α → D} {P : α → Prop} : ∀ {ys : List D}, (∀ y ∈ ys, ∃ a, y = e a ∧ P a) → ∃ as : List α, ys = as.map e ∧ ∀ a ∈ as, P a
  | [], _ => ⟨[], rfl, fun a h => (by cases h)⟩
  | y :: ys, h => by
    obtain ⟨a, e1, p1⟩ := h y List.mem_cons_self
    obtain ⟨as, e2, p2⟩ := unmap fun z hz => h z (List.mem_cons_of_mem _ hz)
    refine ⟨a :: as, by rw [List.map_cons, ← e1, ← e2], fun b hb => ?_⟩
    rcases List.mem_cons.mp hb with z | z
    · rw [z]
      exact p1
    · exact p2 b z
/-- _law_table -/
theorem F42 {L n : Nat} {m : Mu} (h : Pots L m) (hn : n < L) {most : Int} (h1 : 1 ≤ most) (h2 : most ≤ 5) :
    ∃ d o x m', callF txt.fs txt.consts 1000 (k + 3) 42 [.ref n, .int most] m = .ok d m' ∧ Th "table" d o x ∧ Pots L m' := by
  obtain ⟨c, m1, e1, ⟨c0, c1⟩, p1⟩ := F36 (k + 1) h hn h1 (by omega)
  obtain ⟨f, m2, e2, hf, p2⟩ := F37 k p1 hn (xs := [.int 2, .int 9, .int 99]) (by simp) (by decide)
  obtain ⟨f, rfl, f1, f2⟩ : ∃ z : Int, f = .int z ∧ 1 ≤ z ∧ z ≤ 99 := by
    simp at hf
    rcases hf with rfl | rfl | rfl
    · exact ⟨2, rfl, by decide, by decide⟩
    · exact ⟨9, rfl, by decide, by decide⟩
    · exact ⟨99, rfl, by decide, by decide⟩
  obtain ⟨N, hN⟩ : ∃ N : Nat, 1 + c = N := ⟨(1 + c).toNat, by omega⟩
  obtain ⟨ds, e3, l3⟩ := F40 k (n := N) (by omega) m2
  have mu := mul_of (i := 2) (j := f) (by decide) (by omega)
  obtain ⟨ys, m3, e4, l4, q4, p4⟩ := mapR_inv (f := fun _ m => (callF txt.fs txt.consts 1000 (k + 2) 36 [.ref n, .int (2 * f + 1)] m).bind fun x m => Res.of (binop .Sub x (.int f)) m) (I := Pots L) (P := fun y => ∃ w, y = .int w ∧ (-99 ≤ w ∧ w ≤ 99)) (xs := ds) (m := m2) p2 (fun x _ m' hm' => by
    obtain ⟨d, m'', e, ⟨d1, d2⟩, hp⟩ := F36 (k + 1) hm' hn (many := 2 * f + 1) (by omega) (by omega)
    refine ⟨.int (d - f), m'', ?_, ⟨_, rfl, by omega, by omega⟩, hp⟩
    show (callF txt.fs txt.consts 1000 (k + 2) 36 [.ref n, .int (2 * f + 1)] m').bind _ = _
    rw [e]
    rfl)
  obtain ⟨ws, rfl, hw⟩ := unmap q4
  rw [List.length_map, l3] at l4
  have h5 : N ≤ 5 := by omega
  have hs := small_pow h5
  refine ⟨_, _, _, m3, ?_, Th.tab (n := N) (ws := ws) (by omega) h5 l4 hw, p4⟩
  rw [cl_s, show txt.fs[42]? = some f42 from rfl]
  generalize callF txt.fs txt.consts 1000 (k + 2) = C at e1 e2 e3 e4 ⊢
  simp [f42, startS, -ev_comp, e1, e2, setAll, ownAll, hN]
  rw [ev_comp_eq (ds := [.lst ds]) (m1 := m2) (by simp [e3]) (items_seqL ds)]
  simp [mu]
  rw [e4, lstR_ok (by rw [List.length_map]; omega)]
  simp
/-- _law_prices -/
theorem F43 {L n : Nat} {m : Mu} (h : Pots L m) (hn : n < L) {many : Nat} (h1 : 1 ≤ many) (h2 : many ≤ 5) :
    ∃ d o x m', callF txt.fs txt.consts 1000 (k + 3) 43 [.ref n, .int many] m = .ok d m' ∧ Th "prices" d o x ∧ Pots L m' := by
  obtain ⟨f, m2, e2, hf, p2⟩ := F37 k h hn (xs := [.int 2, .int 9, .int 999]) (by simp) (by decide)
  obtain ⟨f, rfl, f1, f2⟩ : ∃ z : Int, f = .int z ∧ 1 ≤ z ∧ z ≤ 999 := by
    simp at hf
    rcases hf with rfl | rfl | rfl
    · exact ⟨2, rfl, by decide, by decide⟩
    · exact ⟨9, rfl, by decide, by decide⟩
    · exact ⟨999, rfl, by decide, by decide⟩
  have mu := mul_of (i := 2) (j := f) (by decide) (by omega)
  obtain ⟨ys, m3, e4, l4, q4, p4⟩ := mapR_inv (f := fun _ m => (((callF txt.fs txt.consts 1000 (k + 2) 36 [.ref n, .int (2 * f + 1)] m).bind fun x m => Res.of (binop .Sub x (.int f)) m).bind fun d m => ((callF txt.fs txt.consts 1000 (k + 2) 37 [.ref n, .lst [.int 1, .int 1, .int 2, .int 7, .int 100000000007]] m).bind fun d m => Res.ok [d] m).bind fun ds m => Res.ok (d :: ds) m).bind fun ds m => callF txt.fs txt.consts 1000 (k + 2) 41 ds m)
    (I := Pots L) (P := fun y => ∃ p, y = pD p ∧ Pr p) (xs := (List.range many).map fun i : Nat => D.int (i : Int)) (m := m2) p2 (fun x _ m' hm' => by
    obtain ⟨d, m'', e, ⟨d1, d2⟩, hp⟩ := F36 (k + 1) hm' hn (many := 2 * f + 1) (by omega) (by omega)
    obtain ⟨b, m4, e5, hb, hp5⟩ := F37 k hp hn (xs := [.int 1, .int 1, .int 2, .int 7, .int 100000000007]) (by simp) (by decide)
    obtain ⟨b, rfl, b1, b2⟩ : ∃ z : Nat, b = .int z ∧ 1 ≤ z ∧ z < 10 ^ 12 := by
      simp at hb
      rcases hb with rfl | rfl | rfl | rfl
      · exact ⟨1, rfl, by decide, by decide⟩
      · exact ⟨2, rfl, by decide, by decide⟩
      · exact ⟨7, rfl, by decide, by decide⟩
      · exact ⟨100000000007, rfl, by decide, by decide⟩
    obtain ⟨p, e6, hp6⟩ := F41 (k + 1) (t := d - f) (b := b) b1 b2 (by omega) m4
    refine ⟨pD p, m4, ?_, ⟨p, rfl, hp6⟩, hp5⟩
    show Res.bind (Res.bind (Res.bind (callF txt.fs txt.consts 1000 (k + 2) 36 [.ref n, .int (2 * f + 1)] m') _) _) _ = _
    rw [e]
    show Res.bind (Res.bind (Res.bind (callF txt.fs txt.consts 1000 (k + 2) 37 [.ref n, .lst [.int 1, .int 1, .int 2, .int 7, .int 100000000007]] m'') _) _) _ = _
    rw [e5]
    exact e6)
  obtain ⟨ps, rfl, hw⟩ := unmap q4
  rw [List.length_map, List.length_map, List.length_range] at l4
  have it := items_rng (N := many) (by omega)
  refine ⟨_, _, _, m3, ?_, Th.pri (ps := ps) ⟨hw, fun z => by rw [z] at l4; simp at l4; omega, by omega⟩ (by omega), p4⟩
  rw [cl_s, show txt.fs[43]? = some f43 from rfl]
  have pw : binop .Pow (.int 10) (.int 11) = some (.int 100000000000) := pow_int (by decide)
  generalize callF txt.fs txt.consts 1000 (k + 2) = C at e2 e4 ⊢
  simp [f43, startS, -ev_comp, e2]
  rw [ev_comp_eq (ds := [.int many]) (m1 := m2) (by simp) it]
  simp [mu, pw]
  rw [e4, lstR_ok (by rw [List.length_map]; omega)]
  simp
/-- _law_some -/
theorem F47 {L n : Nat} {m : Mu} (h : Pots L m) (hn : n < L) {most : Int} (h1 : 1 ≤ most) (h2 : most ≤ 5) {s : Str} (hs : Sort3 s) :
    ∃ d o x m', callF txt.fs txt.consts 1000 (k + 4) 47 [.ref n, .str s, .int most] m = .ok d m' ∧ Th s d o x ∧ Pots L m' := by
  cases hs with
  | t =>
    obtain ⟨d, o, x, m', e, t, p⟩ := F42 k h hn h1 h2
    refine ⟨d, o, x, m', ?_, t, p⟩
    rw [cl_s, show txt.fs[47]? = some f47 from rfl]
    simp [f47, startS, e]
  | l =>
    obtain ⟨c, m', e, ⟨c0, c1⟩, p⟩ := F36 (k + 2) h hn (many := 32) (by decide) (by decide)
    obtain ⟨c, rfl⟩ : ∃ j : Nat, c = j := ⟨c.toNat, by omega⟩
    obtain ⟨ls, e2, hl⟩ := F38 (k + 2) (c := c) (by omega) m'
    refine ⟨_, _, _, m', ?_, Th.lot hl, p⟩
    rw [cl_s, show txt.fs[47]? = some f47 from rfl]
    simp [f47, startS, e, e2, ne_lt]
  | p =>
    obtain ⟨c, m', e, ⟨c0, c1⟩, p⟩ := F36 (k + 2) h hn (many := 5) (by decide) (by decide)
    obtain ⟨N, hN⟩ : ∃ N : Nat, 1 + c = N := ⟨(1 + c).toNat, by omega⟩
    obtain ⟨d, o, x, m2, e2, t, p2⟩ := F43 k p hn (many := N) (by omega) (by omega)
    refine ⟨d, o, x, m2, ?_, t, p2⟩
    rw [cl_s, show txt.fs[47]? = some f47 from rfl]
    simp [f47, startS, e, e2, ne_pt, ne_pl, hN]
end L92

set_option linter.all false
set_option maxRecDepth 100000
set_option maxHeartbeats 4000000
namespace L92
open PySem Mi L2 TL
variable (k : Nat)
theorem pure_ints (ws : List Int) : pureBs (ws.map PyData.int) = true := by
  induction ws with
  | nil => rfl
  | cons a r ih => simp [pureBs, pureB, ih]
theorem Th.pure {s x : Str} {d o : D} (h : Th s d o x) : ∃ p, d.py = some p ∧ pureB p = true := by
  cases h with
  | @tab n ws h1 h5 hl hw =>
    refine ⟨.tuple [.int n, .list (ws.map PyData.int)], ?_, ?_⟩
    · simp [D.py, pys, pys_ints]
    · simp [pureB, pureBs, pure_ints]
  | @lot ls h => exact ⟨.tuple (ls.map PyData.int), pyT (pys_ints ls), by simp [pureB, pure_ints]⟩
  | @pri ps h h5 =>
    refine ⟨.list (ps.map fun p => PyData.tuple [.int p.1, .int p.2]), pyL (pys_prices ps), ?_⟩
    rw [pureB]
    clear h h5
    induction ps with
    | nil => rfl
    | cons a r ih => simp [pureBs, pureB, ih]
/-- two things are alike where their texts are -/
theorem Th.same {s x x' : Str} {d o d' o' : D} (h : Th s d o x) (h' : Th s d' o' x') : eqD d' d = some (decide (x' = x)) := by
  obtain ⟨p, e1, e2⟩ := h.pure
  obtain ⟨p', e1', e2'⟩ := h'.pure
  have n1 := h.nice.ex
  have n2 := h'.nice.ex
  obtain ⟨q, f1, f2, _⟩ := n1
  obtain ⟨q', f1', f2', _⟩ := n2
  rw [e1] at f1
  rw [e1'] at f1'
  cases f1
  cases f1'
  have s1 : small p = true := decide_eq_true (by omega)
  have s2 : small p' = true := decide_eq_true (by omega)
  have ee : eqD d' d = some (PyData.eqv p' p) := by
    unfold eqD
    rw [e1, e1']
    simp only [s1, s2, Bool.and_self, if_true]
  rw [ee]
  congr 1
  by_cases hx : x' = x
  · subst hx
    have a := F34 0 [] h
    have b := F34 0 [] h'
    rw [a] at b
    cases b
    rw [e1] at e1'
    cases e1'
    rw [SeqAt.eqv_refl_plain p (py_plain _ e1)]
    simp
  · rw [decide_eq_false hx]
    cases hv : PyData.eqv p' p with
    | false => rfl
    | true =>
      have hp := eqv_pure p' p e2' e2 hv
      subst hp
      have hd := py_inj d d' e1 e1'
      subst hd
      have a := F32 0 [] h true
      have b := F32 0 [] h' true
      simp only [if_true] at a b
      rw [a] at b
      cases b
      exact absurd rfl hx
theorem Pots.flat {L : Nat} {m : Mu} (h : Pots L m) : m.all noLists = true := List.all_eq_true.mpr fun l hl => by
  obtain ⟨p0, p1, rfl, _⟩ := h.each l hl
  simp [noLists, noList]
theorem ne_tp : decide (("table" : Str) = ("prices" : Str)) = false := by decide +kernel
theorem ne_lp : decide (("lot" : Str) = ("prices" : Str)) = false := by decide +kernel
/-- _law_one_right -/
theorem F48 {L n : Nat} {m : Mu} (h : Pots L m) (hn : n < L) {s : Str} (hs : Sort3 s) : ∃ m', callF txt.fs txt.consts 1000 (k + 9) 48 [.ref n, .str s] m = .ok (.bl true) m' ∧ Pots L m' := by
  obtain ⟨d, o, x, m1, e1, t1, p1⟩ := F47 (k + 4) h hn (most := 5) (by decide) (by decide) hs
  obtain ⟨d', o', x', m2, e2, t2, p2⟩ := F47 (k + 4) p1 hn (most := 2) (by decide) (by decide) hs
  have e46 := F46 (k + 6) m2 t1
  have a32 := F32 (k + 2) m2 t1 true
  have b32 := F32 (k + 2) m2 t1 false
  have c32 := F32 (k + 2) m2 t2 true
  simp only [if_true, Bool.false_eq_true, if_false] at a32 b32 c32
  have e34 := F34 k m2 t1
  have e33 := F33 k m2 t1
  obtain ⟨X1, r1⟩ := t1.nice.repr (by decide) (by decide)
  obtain ⟨X2, r2⟩ := (two_nice t1.nice_x).repr (by decide) (by decide)
  obtain ⟨X3, r3⟩ := (two_nice t1.nice).repr (by decide) (by decide)
  have q1 := t1.nice.eq (by decide)
  have q2 := t1.same t2
  have fl : ∀ x ∈ m2, noLists x = true := List.all_eq_true.mp p2.flat
  have fl0 : (∀ x, x ∈ m2 → noLists x = true) = True := eq_true fl
  have pd1 : ∀ (a : D) (l : List D), pathD (.tup [a, .lst l]) [1] = some (.lst l) := fun _ _ => rfl
  have pd0 : ∀ l : List D, pathD (.lst l) [] = some (.lst l) := fun _ => rfl
  refine ⟨m2, ?_, p2⟩
  rw [cl_s, show txt.fs[48]? = some f48 from rfl]
  generalize callF txt.fs txt.consts 1000 (k + 8) = C at e1 e2 e46 a32 b32 c32 e34 e33 ⊢
  have perm : ∀ a b : D, permD [] [a, b] [1, 0] = some [b, a] := fun a b => rfl
  have nl : noLists [D.str s, D.str x] = true := rfl
  cases t1 with
  | @tab N ws h1 h5 hl hw =>
    have hs := small_pow h5
    have ft : fit (ws.length + 1) = true := decide_eq_true (by omega)
    simp [f48, startS, e1, e2, e46, r1, setAll, ownAll, a32, b32, perm, r2, e34, r3, e33, isNon, ne_tp, callOf, nl, fl0, pd0, pd1, ft, q1, c32, q2]
  | @lot ls hL =>
    simp [f48, startS, e1, e2, e46, r1, setAll, ownAll, a32, b32, perm, r2, e34, r3, e33, isNon, ne_lt, ne_lp, q1, c32, q2]
  | @pri ps hP h5 =>
    have ft : fit (ps.length + 1) = true := decide_eq_true (by omega)
    simp [f48, startS, e1, e2, e46, r1, setAll, ownAll, a32, b32, perm, r2, e34, r3, e33, isNon, ne_pt, callOf, nl, fl0, pd0, pd1, ft, q1, c32, q2]
end L92

set_option linter.all false
set_option maxRecDepth 100000
set_option maxHeartbeats 4000000
namespace L92
open PySem Mi L2 TL
variable (k : Nat)
theorem neg_i (i : Int) : negop (.int i) = some (.int (-i)) := rfl
abbrev bodyF : Stms := .cons (.set 6 (.call 46 (.cons (.var 4) (.cons (.var 5) .nil)))) (.cons (.cond (.or (.cons (.cmp .NotEq (.call 32 (.cons (.var 4) (.cons (.var 5) .nil))) (.var 6)) (.cons (.cmp .NotEq (.call 34 (.cons (.var 4) (.cons (.var 6) .nil))) (.var 5)) .nil))) (.cons (.ret (.cst (.bool false))) .nil) .nil) .nil)
structure Calls (C : Nat → List D → Mu → Res D) (m : Mu) : Prop where
  c : ∀ {s x : Str} {d o : D}, Th s d o x → C 46 [.str s, d] m = .ok (.str x) m ∧ C 32 [.str s, d] m = .ok (.str x) m ∧ C 34 [.str s, .str x] m = .ok d m
theorem full_for (C : Nat → List D → Mu → Res D) (cs : List D) (m : Mu) (hC : Calls C m) (r0 r1 r2 r3 a7 : Slot) : ∀ (xs : List D) (a4 a5 a6 : Slot), (∀ y ∈ xs, ∃ s d o x, y = .tup [.str s, d] ∧ Th s d o x) →
    ∃ b4 b5 b6, forR (forB ⟨cs, C⟩ 1000 (.tp [4, 5]) bodyF) xs [r0, r1, r2, r3, a4, a5, a6, a7] m = .nx [r0, r1, r2, r3, b4, b5, b6, a7] m
  | [], a4, a5, a6, _ => ⟨a4, a5, a6, rfl⟩
  | y :: xs, a4, a5, a6, h => by
    obtain ⟨s, d, o, x, rfl, t⟩ := h y List.mem_cons_self
    obtain ⟨c1, c2, c3⟩ := hC.c t
    obtain ⟨b4, b5, b6, e⟩ := full_for C cs m hC r0 r1 r2 r3 a7 xs (.val (.str s)) (.val d) (.val (.str x)) fun z hz => h z (List.mem_cons_of_mem _ hz)
    refine ⟨b4, b5, b6, ?_⟩
    rw [forR]
    have q := t.nice.eq (by decide)
    have : forB ⟨cs, C⟩ 1000 (.tp [4, 5]) bodyF (.tup [.str s, d]) [r0, r1, r2, r3, a4, a5, a6, a7] m = .nx [r0, r1, r2, r3, .val (.str s), .val d, .val (.str x), a7] m := by
      simp [forB, bindT, c1, c2, c3, q]
    rw [this]
    exact e
theorem pow12 : binop .Pow (.int 10) (.int 12) = some (.int 1000000000000) := pow_int (by decide)
def gr : List (Int × Int) := [(999, 1), (-999, 1), (999999999999, 999999999998), (-999999999999, 1001001002), (998001, 1000)]
def gx : List (Int × Int) := [(0, 1), (1, 2), (-1, 999999999999)]
theorem gr_ok : ∀ p ∈ gr, Pr p := by
  intro p hp
  simp [gr] at hp
  rcases hp with rfl | rfl | rfl | rfl | rfl <;> exact ⟨by decide, by decide, by decide, by decide +kernel, by decide⟩
theorem gx_ok : ∀ p ∈ gx, Pr p := by
  intro p hp
  simp [gx] at hp
  rcases hp with rfl | rfl | rfl <;> exact ⟨by decide, by decide, by decide, by decide +kernel, by decide⟩
theorem gr_D : gr.map pD = [.tup [.int 999, .int 1], .tup [.int (-999), .int 1], .tup [.int 999999999999, .int 999999999998], .tup [.int (-999999999999), .int 1001001002], .tup [.int 998001, .int 1000]] := rfl
theorem gx_D : gx.map pD = [.tup [.int 0, .int 1], .tup [.int 1, .int 2], .tup [.int (-1), .int 999999999999]] := rfl
theorem lotOf (ls : List Int) (h : ls = [0, 1, 2, 3, 4] ∨ ls = [] ∨ ls = [4]) : Lot ls := by
  rcases h with rfl | rfl | rfl <;> exact ⟨by decide, by decide, by decide⟩
/-- _law_full_right -/
theorem F49 {L n : Nat} {m : Mu} (h : Pots L m) (hn : n < L) : ∃ m', callF txt.fs txt.consts 1000 (k + 9) 49 [.ref n] m = .ok (.bl true) m' ∧ Pots L m' := by
  obtain ⟨ys, m1, e1, l1, q1, p1⟩ := mapR_inv (f := fun _ m => callF txt.fs txt.consts 1000 (k + 8) 37 [.ref n, .lst [.int 99, .int (-99), .int 0, .int (-1), .int 10]] m) (I := Pots L) (P := fun y => ∃ w, y = .int w ∧ (-99 ≤ w ∧ w ≤ 99)) (xs := (List.range 32).map fun i : Nat => D.int (i : Int)) (m := m) h (fun x _ m' hm' => by
    obtain ⟨d, m'', e, hd, hp⟩ := F37 (k + 6) hm' hn (xs := [.int 99, .int (-99), .int 0, .int (-1), .int 10]) (by simp) (by decide)
    refine ⟨d, m'', e, ?_, hp⟩
    simp at hd
    rcases hd with rfl | rfl | rfl | rfl | rfl <;> exact ⟨_, rfl, by decide, by decide⟩)
  obtain ⟨ws, rfl, hw⟩ := unmap q1
  rw [List.length_map, List.length_map, List.length_range] at l1
  obtain ⟨zs, m2, e2, l2, q2, p2⟩ := mapR_inv (f := fun _ m => callF txt.fs txt.consts 1000 (k + 8) 37 [.ref n, .lst (gr.map pD ++ gx.map pD)] m) (I := Pots L) (P := fun y => ∃ p, y = pD p ∧ Pr p) (xs := (List.range 5).map fun i : Nat => D.int (i : Int)) (m := m1) p1 (fun x _ m' hm' => by
    obtain ⟨d, m'', e, hd, hp⟩ := F37 (k + 6) hm' hn (xs := gr.map pD ++ gx.map pD) (by simp [gr]) (by decide)
    refine ⟨d, m'', e, ?_, hp⟩
    rcases List.mem_append.mp hd with hd | hd
    · obtain ⟨p, h1, h2⟩ := List.mem_map.mp hd
      exact ⟨p, h2.symm, gr_ok p h1⟩
    · obtain ⟨p, h1, h2⟩ := List.mem_map.mp hd
      exact ⟨p, h2.symm, gx_ok p h1⟩)
  obtain ⟨ps, rfl, hp⟩ := unmap q2
  rw [List.length_map, List.length_map, List.length_range] at l2
  have hC : Calls (callF txt.fs txt.consts 1000 (k + 8)) m2 := ⟨fun {s x d o} t => ⟨F46 (k + 6) m2 t, by
    have := F32 (k + 2) m2 t true
    simpa using this, F34 k m2 t⟩⟩
  have it1 : itemsD .range1 [.int 32] = some ((List.range 32).map fun i : Nat => D.int (i : Int)) := items_rng (N := 32) (by decide)
  have it2 : itemsD .range1 [.int 5] = some ((List.range 5).map fun i : Nat => D.int (i : Int)) := items_rng (N := 5) (by decide)
  have t1 : Th "table" (.tup [.int 5, .lst (ws.map .int)]) (.tup [.int 5, .tup (ws.map .int)]) (wT 5 ws) := Th.tab (n := 5) (ws := ws) (by decide) (by decide) (by rw [l1]) hw
  have t2 : Th "prices" (.lst (ps.map pD)) (.tup (ps.map pD)) (wP ps) := Th.pri ⟨hp, fun z => by rw [z] at l2; simp at l2, by omega⟩ (by omega)
  have t3 : Th "prices" (.lst (gr.map pD)) (.tup (gr.map pD)) (wP gr) := Th.pri ⟨gr_ok, by simp [gr], by decide⟩ (by decide)
  have t4 := Th.lot (lotOf [0, 1, 2, 3, 4] (.inl rfl))
  have t5 := Th.lot (lotOf [] (.inr (.inl rfl)))
  have t6 := Th.lot (lotOf [4] (.inr (.inr rfl)))
  obtain ⟨b4, b5, b6, ef⟩ := full_for (callF txt.fs txt.consts 1000 (k + 8)) txt.consts m2 hC (.val (.ref n)) (.val (.tup [.int 5, .lst (ws.map .int)])) (.val (.lst (gr.map pD))) (.val (.lst (ps.map pD))) .un
    [.tup [.str "table", .tup [.int 5, .lst (ws.map .int)]], .tup [.str "prices", .lst (ps.map pD)], .tup [.str "lot", .tup [.int 0, .int 1, .int 2, .int 3, .int 4]], .tup [.str "lot", .tup []], .tup [.str "lot", .tup [.int 4]], .tup [.str "prices", .lst (gr.map pD)]] .un .un .un (fun y hy => by
      simp only [List.mem_cons, List.mem_nil_iff, or_false] at hy
      rcases hy with rfl | rfl | rfl | rfl | rfl | rfl
      · exact ⟨_, _, _, _, rfl, t1⟩
      · exact ⟨_, _, _, _, rfl, t2⟩
      · exact ⟨_, _, _, _, rfl, t4⟩
      · exact ⟨_, _, _, _, rfl, t5⟩
      · exact ⟨_, _, _, _, rfl, t6⟩
      · exact ⟨_, _, _, _, rfl, t3⟩)
  refine ⟨m2, ?_, p2⟩
  rw [cl_s, show txt.fs[49]? = some f49 from rfl]
  generalize callF txt.fs txt.consts 1000 (k + 8) = C at e1 e2 ef ⊢
  have ad : binop .Add (.lst (gr.map pD)) (.lst (gx.map pD)) = some (.lst (gr.map pD ++ gx.map pD)) := rfl
  rw [gx_D] at ad e2
  rw [gr_D] at ad e2 ef
  simp [f49, startS, -ev_comp, -s_for]
  rw [ev_comp_eq (ds := [.int 32]) (m1 := m) (by simp) it1]
  simp [neg_i, -ev_comp, -s_for]
  rw [e1, lstR_ok (by rw [List.length_map]; omega)]
  simp [neg_i, pow12, -ev_comp, -s_for]
  simp only [List.cons_append, List.nil_append] at e2 ad
  rw [ev_comp_eq (ds := [.int 5]) (m1 := m1) (by simp) it2]
  simp [neg_i, pow12, ad, -ev_comp, -s_for]
  rw [e2, lstR_ok (by rw [List.length_map]; omega)]
  simp [-s_for]
  rw [s_for_eq (m1 := m2) (ds := [.lst [.tup [.str "table", .tup [.int 5, .lst (ws.map .int)]], .tup [.str "prices", .lst (ps.map pD)], .tup [.str "lot", .tup [.int 0, .int 1, .int 2, .int 3, .int 4]], .tup [.str "lot", .tup []], .tup [.str "lot", .tup [.int 4]], .tup [.str "prices", .lst [.tup [.int 999, .int 1], .tup [.int (-999), .int 1], .tup [.int 999999999999, .int 999999999998], .tup [.int (-999999999999), .int 1001001002], .tup [.int 998001, .int 1000]]]]]) (by simp) (items_seqL _)]
  unfold bodyF at ef
  rw [ef]
  simp
end L92

set_option linter.all false
set_option maxRecDepth 100000
set_option maxHeartbeats 4000000
namespace L92
open PySem Mi L2 TL
variable (k : Nat)
theorem pow18 : binop .Pow (.int 10) (.int 18) = some (.int 1000000000000000000) := pow_int (by decide)
theorem idx_s (m : Mu) (ns : List Int) (i : Int) : idxD m (.scr ns) (.int i) = (atI ns i).map .int := rfl
/-- _law_pot -/
theorem F35 {L : Nat} {m : Mu} (h : Pots L m) (ns : List Int) (j : Nat) (hj : j ≤ 62) : ∃ m', callF txt.fs txt.consts 1000 (k + 1) 35 [.scr ns, .int j] m = .ok (.ref L) m' ∧ Pots (L + 1) m' := by
  have main : ∀ cell : Int, 0 ≤ cell → Pots (L + 1) (m ++ [[D.int (if cell - 1000000000000000000 > 0 then cell - 1000000000000000000 else 0), D.int ((cell % 2147483549 * 45289 + 2909 * j + 4283) % 2147483563 + 1)]]) := fun cell hc =>
    ⟨by rw [List.length_append, h.len]; rfl, fun l hl => by
      rcases List.mem_append.mp hl with z | z
      · exact h.each l z
      · have z := List.mem_singleton.mp z
        refine ⟨_, _, z, by split <;> omega, ?_, ?_⟩
        · have := Int.emod_nonneg (cell % 2147483549 * 45289 + 2909 * j + 4283) (b := 2147483563) (by decide)
          omega
        · have := Int.emod_lt_of_pos (cell % 2147483549 * 45289 + 2909 * j + 4283) (b := 2147483563) (by decide)
          omega⟩
  have step : ∀ cell : Int, ∀ r : List Slot, binop .Mult (.int (cell % 2147483549)) (.int 45289) = some (.int (cell % 2147483549 * 45289)) := fun cell _ => mul_of (by
    have := Int.emod_nonneg cell (b := 2147483549) (by decide)
    have := Int.emod_lt_of_pos cell (b := 2147483549) (by decide)
    omega) (by decide)
  have mj := mul_of (i := 2909) (j := (j : Int)) (by decide) (by omega)
  have mk := mul_of (i := 4283) (j := (j : Int)) (by decide) (by omega)
  have md : ∀ i : Int, binop .Mod (.int i) (.int 2147483549) = some (.int (i % 2147483549)) := fun i => mod_int (by decide)
  have md2 : ∀ i : Int, binop .Mod (.int i) (.int 2147483563) = some (.int (i % 2147483563)) := fun i => mod_int (by decide)
  by_cases hlt : j < ns.length
  · refine ⟨_, ?_, main (ns[j].natAbs) (by omega)⟩
    have hi : idxD m (.scr ns) (.int j) = some (.int ns[j]) := by
      rw [idx_s, at_nat, List.getElem?_eq_getElem hlt]
      rfl
    have hl : ((j : Int) < (ns.length : Int)) := by omega
    rw [cl_s, show txt.fs[35]? = some f35 from rfl]
    simp [f35, startS, hlt, hi, natAbs_if, pow18, md, md2, step _ [], mj, h.len]
  · refine ⟨_, ?_, main (4283 * j + 2909) (by omega)⟩
    rw [cl_s, show txt.fs[35]? = some f35 from rfl]
    simp [f35, startS, hlt, pow18, md, md2, step _ [], mj, mk, h.len]
abbrev bodyL : Stms := .cons (.set 2 (.call 35 (.cons (.var 0) (.cons (.var 1) .nil)))) (.cons (.cond (.or (.cons (.not (.b1 .all (.comp [(Str.ofString "sort", 3)] (.call 48 (.cons (.var 2) (.cons (.var 3) .nil))) (.nm 3) .seq (.cons (.tup (.cons (.cst (.str (Str.ofString "table"))) (.cons (.cst (.str (Str.ofString "lot"))) (.cons (.cst (.str (Str.ofString "prices"))) .nil)))) .nil)))) (.cons (.not (.call 49 (.cons (.var 2) .nil))) .nil))) (.cons (.ret (.cst (.bool false))) .nil) .nil) .nil)
structure Runs (C : Nat → List D → Mu → Res D) (ns : List Int) : Prop where
  pot : ∀ {L : Nat} {m : Mu}, Pots L m → ∀ j : Nat, j ≤ 62 → ∃ m', C 35 [.scr ns, .int j] m = .ok (.ref L) m' ∧ Pots (L + 1) m'
  one : ∀ {L n : Nat} {m : Mu}, Pots L m → n < L → ∀ {s : Str}, Sort3 s → ∃ m', C 48 [.ref n, .str s] m = .ok (.bl true) m' ∧ Pots L m'
  full : ∀ {L n : Nat} {m : Mu}, Pots L m → n < L → ∃ m', C 49 [.ref n] m = .ok (.bl true) m' ∧ Pots L m'
theorem law_for (C : Nat → List D → Mu → Res D) (cs : List D) (ns : List Int) (hC : Runs C ns) : ∀ (js : List Nat) (L : Nat) (m : Mu) (a1 a2 a3 : Slot), (∀ j ∈ js, j ≤ 62) → Pots L m →
    ∃ b1 b2 b3 m', forR (forB ⟨cs, C⟩ 1000 (.nm 1) bodyL) (js.map fun j : Nat => D.int (j : Int)) [.val (.scr ns), a1, a2, a3] m = .nx [.val (.scr ns), b1, b2, b3] m'
  | [], L, m, a1, a2, a3, _, _ => ⟨a1, a2, a3, m, rfl⟩
  | j :: js, L, m, a1, a2, a3, h, p => by
    obtain ⟨m1, e1, p1⟩ := hC.pot p j (h j List.mem_cons_self)
    obtain ⟨m2, e2, p2⟩ := hC.one p1 (Nat.lt_succ_self L) .t
    obtain ⟨m3, e3, p3⟩ := hC.one p2 (Nat.lt_succ_self L) .l
    obtain ⟨m4, e4, p4⟩ := hC.one p3 (Nat.lt_succ_self L) .p
    obtain ⟨m5, e5, p5⟩ := hC.full p4 (Nat.lt_succ_self L)
    obtain ⟨b1, b2, b3, m', e⟩ := law_for C cs ns hC js (L + 1) m5 (.val (.int j)) (.val (.ref L)) a3 (fun i hi => h i (List.mem_cons_of_mem _ hi)) p5
    refine ⟨b1, b2, b3, m', ?_⟩
    rw [List.map_cons, forR]
    have al : b1op .all (.lst [.bl true, .bl true, .bl true]) = some (.bl true) := rfl
    have : forB ⟨cs, C⟩ 1000 (.nm 1) bodyL (D.int (j : Int)) [.val (.scr ns), a1, a2, a3] m = .nx [.val (.scr ns), .val (.int j), .val (.ref L), a3] m5 := by
      simp [forB, e1, mapR, e2, e3, e4, lstR, fit, al, e5]
    rw [this]
    exact e
/-- the law -/
theorem res (ns : List Int) (h : ns.length ≤ 63) : ∃ m', callF txt.fs txt.consts 1000 30 50 [.scr ns] [] = .ok (.bl true) m' := by
  have hC : Runs (callF txt.fs txt.consts 1000 29) ns := ⟨fun p j hj => F35 28 p ns j hj, fun p hn s hs => F48 20 p hn hs, fun p hn => F49 20 p hn⟩
  have p0 : Pots 0 [] := ⟨rfl, fun l hl => by cases hl⟩
  show ∃ m', callF txt.fs txt.consts 1000 (29 + 1) 50 [.scr ns] [] = .ok (.bl true) m'
  rw [cl_s, show txt.fs[50]? = some f50 from rfl]
  obtain ⟨N, hN, hN2⟩ : ∃ N : Nat, (if (if (ns.length : Int) < 3 then (ns.length : Int) else 3) > 1 then (if (ns.length : Int) < 3 then (ns.length : Int) else 3) else 1) = (N : Int) ∧ N ≤ 3 := by
    refine ⟨(if (if (ns.length : Int) < 3 then (ns.length : Int) else 3) > 1 then (if (ns.length : Int) < 3 then (ns.length : Int) else 3) else 1).toNat, ?_, ?_⟩ <;> (split <;> split <;> omega)
  have it := items_rng (N := N) (by omega)
  generalize callF txt.fs txt.consts 1000 29 = C at hC ⊢
  obtain ⟨b1, b2, b3, m', e⟩ := law_for C txt.consts ns hC (List.range N) 0 [] .un .un .un (fun j hj => by have := List.mem_range.mp hj; omega) p0
  refine ⟨m', ?_⟩
  simp [f50, startS, -s_for]
  rw [s_for_eq (m1 := []) (ds := [.int N]) (by simp; exact hN) it]
  unfold bodyL at e
  rw [e]
  simp
end L92

open PySem PySem.W PyProof.Rows
set_option maxHeartbeats 0 in
theorem PySem.Challenge.cw_lessandless_k92_whole_things_written_and_holds : PySem.Challenge.rw_lessandless_k92_whole_things_written_and.Holds := by
  w_on; o_law; k_head; (case hw => w_witness2)
  k_fill
  refine Mi.walk_text (l := PySem.Challenge.rw_lessandless_k92_whole_things_written_and) (m := 63) (k := 30) (n := 1000) (iL := 50) (T := L92.txt) rfl (by decide) rfl ⟨rfl, by decide, by decide⟩ (fun w h Y => PySem.W.kIn_of Y) rfl ?F L92.res
  case F =>
    intro w mg h KX G X
    have d0 : Mi.DefOk (L2.KOf KX) mg L92.txt 0 (Str.ofString "is_integer") := by
      refine' Mi.def_mk KX G L92.st0 ?a ?l ?c ?k
      (case a => k_is); (case l => k_is); (case c => k_is); (case k => k_is)
    have d1 : Mi.DefOk (L2.KOf KX) mg L92.txt 1 (Str.ofString "is_within") := by
      refine' Mi.def_mk KX G L92.st1 ?a ?l ?c ?k
      (case a => k_is); (case l => k_is); (case c => k_is); (case k => k_is)
    have d2 : Mi.DefOk (L2.KOf KX) mg L92.txt 2 (Str.ofString "is_list") := by
      refine' Mi.def_mk KX G L92.st2 ?a ?l ?c ?k
      (case a => k_is); (case l => k_is); (case c => k_is); (case k => k_is)
    have d3 : Mi.DefOk (L2.KOf KX) mg L92.txt 3 (Str.ofString "divisor") := by
      refine' Mi.def_mk KX G L92.st3 ?a ?l ?c ?k
      (case a => k_is); (case l => k_is); (case c => k_is); (case k => k_is)
    have d4 : Mi.DefOk (L2.KOf KX) mg L92.txt 4 (Str.ofString "is_fraction_of") := by
      refine' Mi.def_mk KX G L92.st4 ?a ?l ?c ?k
      (case a => k_is); (case l => k_is); (case c => k_is); (case k => k_is)
    have d5 : Mi.DefOk (L2.KOf KX) mg L92.txt 5 (Str.ofString "is_short") := by
      refine' Mi.def_mk KX G L92.st5 ?a ?l ?c ?k
      (case a => k_is); (case l => k_is); (case c => k_is); (case k => k_is)
    have d6 : Mi.DefOk (L2.KOf KX) mg L92.txt 6 (Str.ofString "is_table_of") := by
      refine' Mi.def_mk KX G L92.st6 ?a ?l ?c ?k
      (case a => k_is); (case l => k_is); (case c => k_is); (case k => k_is)
    have d7 : Mi.DefOk (L2.KOf KX) mg L92.txt 7 (Str.ofString "is_lot_of") := by
      refine' Mi.def_mk KX G L92.st7 ?a ?l ?c ?k
      (case a => k_is); (case l => k_is); (case c => k_is); (case k => k_is)
    have d8 : Mi.DefOk (L2.KOf KX) mg L92.txt 8 (Str.ofString "are_prices_of") := by
      refine' Mi.def_mk KX G L92.st8 ?a ?l ?c ?k
      (case a => k_is); (case l => k_is); (case c => k_is); (case k => k_is)
    have d9 : Mi.DefOk (L2.KOf KX) mg L92.txt 9 (Str.ofString "are_figures") := by
      refine' Mi.def_mk KX G L92.st9 ?a ?l ?c ?k
      (case a => k_is); (case l => k_is); (case c => k_is); (case k => k_is)
    have d10 : Mi.DefOk (L2.KOf KX) mg L92.txt 10 (Str.ofString "number_in") := by
      refine' Mi.def_mk KX G L92.st10 ?a ?l ?c ?k
      (case a => k_is); (case l => k_is); (case c => k_is); (case k => k_is)
    have d11 : Mi.DefOk (L2.KOf KX) mg L92.txt 11 (Str.ofString "is_number_begun") := by
      refine' Mi.def_mk KX G L92.st11 ?a ?l ?c ?k
      (case a => k_is); (case l => k_is); (case c => k_is); (case k => k_is)
    have d12 : Mi.DefOk (L2.KOf KX) mg L92.txt 12 (Str.ofString "table_in") := by
      refine' Mi.def_mk KX G L92.st12 ?a ?l ?c ?k
      (case a => k_is); (case l => k_is); (case c => k_is); (case k => k_is)
    have d13 : Mi.DefOk (L2.KOf KX) mg L92.txt 13 (Str.ofString "is_table_begun") := by
      refine' Mi.def_mk KX G L92.st13 ?a ?l ?c ?k
      (case a => k_is); (case l => k_is); (case c => k_is); (case k => k_is)
    have d14 : Mi.DefOk (L2.KOf KX) mg L92.txt 14 (Str.ofString "lot_in") := by
      refine' Mi.def_mk KX G L92.st14 ?a ?l ?c ?k
      (case a => k_is); (case l => k_is); (case c => k_is); (case k => k_is)
    have d15 : Mi.DefOk (L2.KOf KX) mg L92.txt 15 (Str.ofString "is_lot_begun") := by
      refine' Mi.def_mk KX G L92.st15 ?a ?l ?c ?k
      (case a => k_is); (case l => k_is); (case c => k_is); (case k => k_is)
    have d16 : Mi.DefOk (L2.KOf KX) mg L92.txt 16 (Str.ofString "is_price") := by
      refine' Mi.def_mk KX G L92.st16 ?a ?l ?c ?k
      (case a => k_is); (case l => k_is); (case c => k_is); (case k => k_is)
    have d17 : Mi.DefOk (L2.KOf KX) mg L92.txt 17 (Str.ofString "price_in") := by
      refine' Mi.def_mk KX G L92.st17 ?a ?l ?c ?k
      (case a => k_is); (case l => k_is); (case c => k_is); (case k => k_is)
    have d18 : Mi.DefOk (L2.KOf KX) mg L92.txt 18 (Str.ofString "is_bottom_begun") := by
      refine' Mi.def_mk KX G L92.st18 ?a ?l ?c ?k
      (case a => k_is); (case l => k_is); (case c => k_is); (case k => k_is)
    have d19 : Mi.DefOk (L2.KOf KX) mg L92.txt 19 (Str.ofString "is_price_begun") := by
      refine' Mi.def_mk KX G L92.st19 ?a ?l ?c ?k
      (case a => k_is); (case l => k_is); (case c => k_is); (case k => k_is)
    have d20 : Mi.DefOk (L2.KOf KX) mg L92.txt 20 (Str.ofString "prices_in") := by
      refine' Mi.def_mk KX G L92.st20 ?a ?l ?c ?k
      (case a => k_is); (case l => k_is); (case c => k_is); (case k => k_is)
    have d21 : Mi.DefOk (L2.KOf KX) mg L92.txt 21 (Str.ofString "are_prices_begun") := by
      refine' Mi.def_mk KX G L92.st21 ?a ?l ?c ?k
      (case a => k_is); (case l => k_is); (case c => k_is); (case k => k_is)
    have d22 : Mi.DefOk (L2.KOf KX) mg L92.txt 22 (Str.ofString "are_prices") := by
      refine' Mi.def_mk KX G L92.st22 ?a ?l ?c ?k
      (case a => k_is); (case l => k_is); (case c => k_is); (case k => k_is)
    have d23 : Mi.DefOk (L2.KOf KX) mg L92.txt 23 (Str.ofString "price_text") := by
      refine' Mi.def_mk KX G L92.st23 ?a ?l ?c ?k
      (case a => k_is); (case l => k_is); (case c => k_is); (case k => k_is)
    have d24 : Mi.DefOk (L2.KOf KX) mg L92.txt 24 (Str.ofString "lot_text") := by
      refine' Mi.def_mk KX G L92.st24 ?a ?l ?c ?k
      (case a => k_is); (case l => k_is); (case c => k_is); (case k => k_is)
    have d25 : Mi.DefOk (L2.KOf KX) mg L92.txt 25 (Str.ofString "is_sort") := by
      refine' Mi.def_mk KX G L92.st25 ?a ?l ?c ?k
      (case a => k_is); (case l => k_is); (case c => k_is); (case k => k_is)
    have d26 : Mi.DefOk (L2.KOf KX) mg L92.txt 26 (Str.ofString "is_thing_of") := by
      refine' Mi.def_mk KX G L92.st26 ?a ?l ?c ?k
      (case a => k_is); (case l => k_is); (case c => k_is); (case k => k_is)
    have d27 : Mi.DefOk (L2.KOf KX) mg L92.txt 27 (Str.ofString "read") := by
      refine' Mi.def_mk KX G L92.st27 ?a ?l ?c ?k
      (case a => k_is); (case l => k_is); (case c => k_is); (case k => k_is)
    have d28 : Mi.DefOk (L2.KOf KX) mg L92.txt 28 (Str.ofString "is_begun") := by
      refine' Mi.def_mk KX G L92.st28 ?a ?l ?c ?k
      (case a => k_is); (case l => k_is); (case c => k_is); (case k => k_is)
    have d29 : Mi.DefOk (L2.KOf KX) mg L92.txt 29 (Str.ofString "place_in") := by
      refine' Mi.def_mk KX G L92.st29 ?a ?l ?c ?k
      (case a => k_is); (case l => k_is); (case c => k_is); (case k => k_is)
    have d30 : Mi.DefOk (L2.KOf KX) mg L92.txt 30 (Str.ofString "read_thing") := by
      refine' Mi.def_mk KX G L92.st30 ?a ?l ?c ?k
      (case a => k_is); (case l => k_is); (case c => k_is); (case k => k_is)
    have d31 : Mi.DefOk (L2.KOf KX) mg L92.txt 31 (Str.ofString "check_text") := by
      refine' Mi.def_mk KX G L92.st31 ?a ?l ?c ?k
      (case a => k_is); (case l => k_is); (case c => k_is); (case k => k_is)
    have d32 : Mi.DefOk (L2.KOf KX) mg L92.txt 32 (Str.ofString "text_of") := by
      refine' Mi.def_mk KX G L92.st32 ?a ?l ?c ?k
      (case a => k_is); (case l => k_is); (case c => k_is); (case k => k_is)
    have d33 : Mi.DefOk (L2.KOf KX) mg L92.txt 33 (Str.ofString "wrong_place") := by
      refine' Mi.def_mk KX G L92.st33 ?a ?l ?c ?k
      (case a => k_is); (case l => k_is); (case c => k_is); (case k => k_is)
    have d34 : Mi.DefOk (L2.KOf KX) mg L92.txt 34 (Str.ofString "thing_of") := by
      refine' Mi.def_mk KX G L92.st34 ?a ?l ?c ?k
      (case a => k_is); (case l => k_is); (case c => k_is); (case k => k_is)
    have d35 : Mi.DefOk (L2.KOf KX) mg L92.txt 35 (Str.ofString "_law_pot") := by
      refine' Mi.def_mk KX G L92.st35 ?a ?l ?c ?k
      (case a => k_is); (case l => k_is); (case c => k_is); (case k => k_is)
    have d36 : Mi.DefOk (L2.KOf KX) mg L92.txt 36 (Str.ofString "_law_draw") := by
      refine' Mi.def_mk KX G L92.st36 ?a ?l ?c ?k
      (case a => k_is); (case l => k_is); (case c => k_is); (case k => k_is)
    have d37 : Mi.DefOk (L2.KOf KX) mg L92.txt 37 (Str.ofString "_law_pick") := by
      refine' Mi.def_mk KX G L92.st37 ?a ?l ?c ?k
      (case a => k_is); (case l => k_is); (case c => k_is); (case k => k_is)
    have d38 : Mi.DefOk (L2.KOf KX) mg L92.txt 38 (Str.ofString "_law_lot_of") := by
      refine' Mi.def_mk KX G L92.st38 ?a ?l ?c ?k
      (case a => k_is); (case l => k_is); (case c => k_is); (case k => k_is)
    have d39 : Mi.DefOk (L2.KOf KX) mg L92.txt 39 (Str.ofString "_law_size") := by
      refine' Mi.def_mk KX G L92.st39 ?a ?l ?c ?k
      (case a => k_is); (case l => k_is); (case c => k_is); (case k => k_is)
    have d40 : Mi.DefOk (L2.KOf KX) mg L92.txt 40 (Str.ofString "_law_lots") := by
      refine' Mi.def_mk KX G L92.st40 ?a ?l ?c ?k
      (case a => k_is); (case l => k_is); (case c => k_is); (case k => k_is)
    have d41 : Mi.DefOk (L2.KOf KX) mg L92.txt 41 (Str.ofString "_law_frac") := by
      refine' Mi.def_mk KX G L92.st41 ?a ?l ?c ?k
      (case a => k_is); (case l => k_is); (case c => k_is); (case k => k_is)
    have d42 : Mi.DefOk (L2.KOf KX) mg L92.txt 42 (Str.ofString "_law_table") := by
      refine' Mi.def_mk KX G L92.st42 ?a ?l ?c ?k
      (case a => k_is); (case l => k_is); (case c => k_is); (case k => k_is)
    have d43 : Mi.DefOk (L2.KOf KX) mg L92.txt 43 (Str.ofString "_law_prices") := by
      refine' Mi.def_mk KX G L92.st43 ?a ?l ?c ?k
      (case a => k_is); (case l => k_is); (case c => k_is); (case k => k_is)
    have d44 : Mi.DefOk (L2.KOf KX) mg L92.txt 44 (Str.ofString "_law_fraction") := by
      refine' Mi.def_mk KX G L92.st44 ?a ?l ?c ?k
      (case a => k_is); (case l => k_is); (case c => k_is); (case k => k_is)
    have d45 : Mi.DefOk (L2.KOf KX) mg L92.txt 45 (Str.ofString "_law_lot_text") := by
      refine' Mi.def_mk KX G L92.st45 ?a ?l ?c ?k
      (case a => k_is); (case l => k_is); (case c => k_is); (case k => k_is)
    have d46 : Mi.DefOk (L2.KOf KX) mg L92.txt 46 (Str.ofString "_law_written") := by
      refine' Mi.def_mk KX G L92.st46 ?a ?l ?c ?k
      (case a => k_is); (case l => k_is); (case c => k_is); (case k => k_is)
    have d47 : Mi.DefOk (L2.KOf KX) mg L92.txt 47 (Str.ofString "_law_some") := by
      refine' Mi.def_mk KX G L92.st47 ?a ?l ?c ?k
      (case a => k_is); (case l => k_is); (case c => k_is); (case k => k_is)
    have d48 : Mi.DefOk (L2.KOf KX) mg L92.txt 48 (Str.ofString "_law_one_right") := by
      refine' Mi.def_mk KX G L92.st48 ?a ?l ?c ?k
      (case a => k_is); (case l => k_is); (case c => k_is); (case k => k_is)
    have d49 : Mi.DefOk (L2.KOf KX) mg L92.txt 49 (Str.ofString "_law_full_right") := by
      refine' Mi.def_mk KX G L92.st49 ?a ?l ?c ?k
      (case a => k_is); (case l => k_is); (case c => k_is); (case k => k_is)
    have d50 : Mi.DefOk (L2.KOf KX) mg L92.txt 50 (Str.ofString "law") := by
      refine' Mi.def_mk KX G L92.st50 ?a ?l ?c ?k
      (case a => k_is); (case l => k_is); (case c => k_is); (case k => k_is)
    have c0 : Mi.ConOk (L2.KOf KX) mg (Str.ofString "MOST_DIGITS") (.int 1000000000000) := by
      refine' Mi.con_int KX G ?e
      (case e => k_is)
    have c1 : Mi.ConOk (L2.KOf KX) mg (Str.ofString "MOST_THINGS") (.int 5) := by
      refine' Mi.con_int KX G ?e
      (case e => k_is)
    have c2 : Mi.ConOk (L2.KOf KX) mg (Str.ofString "MOST_WORTH") (.int 99) := by
      refine' Mi.con_int KX G ?e
      (case e => k_is)
    have c3 : Mi.ConOk (L2.KOf KX) mg (Str.ofString "MOST_PRICE") (.int 999) := by
      refine' Mi.con_int KX G ?e
      (case e => k_is)
    have c4 : Mi.ConOk (L2.KOf KX) mg (Str.ofString "POWERS") (.tup [(.int 1), (.int 2), (.int 4), (.int 8), (.int 16), (.int 32)]) := by
      refine' Mi.con_flat KX G ?e ?l ?z ?r
      (case e => k_is); (case l => k_is); (case z => exact Nat.le_of_ble_eq_true rfl); (case r => exact .cons (.int _ _) (.cons (.int _ _) (.cons (.int _ _) (.cons (.int _ _) (.cons (.int _ _) (.cons (.int _ _) (.nil)))))))
    have c5 : Mi.ConOk (L2.KOf KX) mg (Str.ofString "TABLE") (.str (Str.ofString "table")) := by
      refine' Mi.con_str KX G ?e
      (case e => k_is)
    have c6 : Mi.ConOk (L2.KOf KX) mg (Str.ofString "LOT") (.str (Str.ofString "lot")) := by
      refine' Mi.con_str KX G ?e
      (case e => k_is)
    have c7 : Mi.ConOk (L2.KOf KX) mg (Str.ofString "SORTS") (.tup [(.str (Str.ofString "table")), (.str (Str.ofString "lot")), (.str (Str.ofString "prices"))]) := by
      refine' Mi.con_flat KX G ?e ?l ?z ?r
      (case e => k_is); (case l => k_is); (case z => exact Nat.le_of_ble_eq_true rfl); (case r => exact .cons (.str _ _) (.cons (.str _ _) (.cons (.str _ _) (.nil))))
    have c8 : Mi.ConOk (L2.KOf KX) mg (Str.ofString "FIGURES") (.str (Str.ofString "0123456789")) := by
      refine' Mi.con_str KX G ?e
      (case e => k_is)
    have c9 : Mi.ConOk (L2.KOf KX) mg (Str.ofString "NO_THINGS") (.str (Str.ofString "-")) := by
      refine' Mi.con_str KX G ?e
      (case e => k_is)
    have c10 : Mi.ConOk (L2.KOf KX) mg (Str.ofString "MOST_FIGURES") (.int 12) := by
      refine' Mi.con_int KX G ?e
      (case e => k_is)
    have z0 : mg (Str.ofString "len") = none := by
      refine' PySem.W.mg_none_of KX G ?e
      (case e => k_is)
    have z1 : mg (Str.ofString "all") = none := by
      refine' PySem.W.mg_none_of KX G ?e
      (case e => k_is)
    have z2 : mg (Str.ofString "any") = none := by
      refine' PySem.W.mg_none_of KX G ?e
      (case e => k_is)
    have z3 : mg (Str.ofString "sum") = none := by
      refine' PySem.W.mg_none_of KX G ?e
      (case e => k_is)
    have z4 : mg (Str.ofString "tuple") = none := by
      refine' PySem.W.mg_none_of KX G ?e
      (case e => k_is)
    have z5 : mg (Str.ofString "list") = none := by
      refine' PySem.W.mg_none_of KX G ?e
      (case e => k_is)
    have z6 : mg (Str.ofString "sorted") = none := by
      refine' PySem.W.mg_none_of KX G ?e
      (case e => k_is)
    have z7 : mg (Str.ofString "abs") = none := by
      refine' PySem.W.mg_none_of KX G ?e
      (case e => k_is)
    have z8 : mg (Str.ofString "int") = none := by
      refine' PySem.W.mg_none_of KX G ?e
      (case e => k_is)
    have z9 : mg (Str.ofString "str") = none := by
      refine' PySem.W.mg_none_of KX G ?e
      (case e => k_is)
    have z10 : mg (Str.ofString "repr") = none := by
      refine' PySem.W.mg_none_of KX G ?e
      (case e => k_is)
    have z11 : mg (Str.ofString "max") = none := by
      refine' PySem.W.mg_none_of KX G ?e
      (case e => k_is)
    have z12 : mg (Str.ofString "min") = none := by
      refine' PySem.W.mg_none_of KX G ?e
      (case e => k_is)
    have z13 : mg (Str.ofString "divmod") = none := by
      refine' PySem.W.mg_none_of KX G ?e
      (case e => k_is)
    have z14 : mg (Str.ofString "bool") = none := by
      refine' PySem.W.mg_none_of KX G ?e
      (case e => k_is)
    have z15 : mg (Str.ofString "isinstance") = none := by
      refine' PySem.W.mg_none_of KX G ?e
      (case e => k_is)
    have z16 : mg (Str.ofString "range") = none := by
      refine' PySem.W.mg_none_of KX G ?e
      (case e => k_is)
    have z17 : mg (Str.ofString "enumerate") = none := by
      refine' PySem.W.mg_none_of KX G ?e
      (case e => k_is)
    have z18 : mg (Str.ofString "zip") = none := by
      refine' PySem.W.mg_none_of KX G ?e
      (case e => k_is)
    exact ⟨⟨d0, d1, d2, d3, d4, d5, d6, d7, d8, d9, d10, d11, d12, d13, d14, d15, d16, d17, d18, d19, d20, d21, d22, d23, d24, d25, d26, d27, d28, d29, d30, d31, d32, d33, d34, d35, d36, d37, d38, d39, d40, d41, d42, d43, d44, d45, d46, d47, d48, d49, d50, trivial⟩, ⟨c0, c1, c2, c3, c4, c5, c6, c7, c8, c9, c10, trivial⟩, ⟨z0, z1, z2, z3, z4, z5, z6, z7, z8, z9, z10, z11, z12, z13, z14, z15, z16, z17, z18, trivial⟩⟩
