import PyProof.Rows.All
import Wide.All
import OpenK.AllK
import Wide.FinOn
import PySem.Challenge.RW_schemebound_k57_words_of_a_session
import HandS.ForMost
import HandS.ForExc
import HandS.Wide
import HandS.Flow
import HandS.More
import HandS.CallSlots
import HandS.Deep
import HandS.TupAny
import HandS.IsInst
import HandS.Text
import HandS.Comp
import HandS.Iter
import HandS.WordsExc
set_option linter.all false
set_option maxRecDepth 100000
/-! Pv: a small evaluator over plain data, for defs of the text that change nothing but lists of their own. -/
namespace Pv
open PySem
/-- plain data -/
inductive D where
  | non | bl (b : Bool) | int (i : Int) | str (l : List Nat) | tup (l : List D) | lst (l : List D) | dic (k : Nat) (l : List (D × D))
deriving Inhabited
/-- what a name holds: nothing known; data that stands; a list, a dict of one's own -/
inductive Slot where
  | no | fro (d : D) | own (l : List D) | ownd (k : Nat) (l : List (D × D))
deriving Inhabited
abbrev Env := List Slot
inductive Res (α : Type) where
  | ok (a : α) | exc (c : Nat) (p : D) | bad
def Res.bind {α β : Type} : Res α → (α → Res β) → Res β
  | .ok a, f => f a
  | .exc c p, _ => .exc c p
  | .bad, _ => .bad
instance : Monad Res where
  pure := .ok
  bind := Res.bind
/-- nothing is raised here -/
def Res.nox {α : Type} : Res α → Res α
  | .ok a => .ok a
  | _ => .bad
def line : Nat := 16777216
def Slot.toD : Slot → Res D
  | .fro d => .ok d
  | .own l => .ok (.lst l)
  | .ownd k l => .ok (.dic k l)
  | .no => .bad
/-- what is walked -/
def itemsOf : D → Res (List D)
  | .lst l => .ok l
  | .tup l => .ok l
  | .str l => .ok (l.map fun c => .str [c])
  | _ => .bad
inductive Tg where
  | one (i : Nat) | many (is : List Nat)
/-- the built-in calls -/
inductive BI where
  | len | int1 | abs | max2 | min2 | all | any | list | tuple | isList | isBool | isTuple | isInt | isStr | split | join | strI | sum | range
deriving DecidableEq
inductive X where
  | v (i : Nat) | o (i : Nat) | c (d : D) | gl (g : Nat)
  | bin (op : Operator) (a b : X) | neg (a : X)
  | cmp (op : CmpOp) (a b : X) | cmp2 (op op' : CmpOp) (a b c : X)
  | and (a b : X) | or (a b : X) | not (a : X) | ite (t a b : X)
  | call (f : Nat) (args : X) | bi (b : BI) (args : X) | m1 (b : BI) (o a : X)
  | sub (a i : X) | slc (a lo hi : X)
  | tup (args : X) | lst (args : X)
  | lc (elt : X) (t : Tg) (it cond : X) (own : List Nat)
  | nil | cons (a r : X)
inductive S where
  | skip | seq (a b : S) | frz (i : Nat)
  | set (i : Nat) (e : X) | setN (i : Nat) (e : X) | setT (is : List Nat) (e : X) | par (i j : Nat) (a b : X)
  | app (i : Nat) (e : X) | seti (i : Nat) (k e : X) | aug (i : Nat) (op : Operator) (e : X)
  | ite (c : X) (a b : S) | for_ (t : Tg) (it : X) (body : S) | while_ (c : X) (body : S)
  | ret (e : X) | retN (e : X) | retO (i : Nat) | brk | cnt | drop (e : X)
inductive Out where
  | nx (e : Env) | ret (s : Slot) | brk (e : Env) | cnt (e : Env)
structure Fn where
  np : Nat
  ns : Nat
  body : S
structure Prog where
  fns : List Fn
  gls : List D
  wf : Nat
mutual
def D.eqv : D → D → Bool
  | .non, .non => true
  | .bl a, .bl b => a == b
  | .bl a, .int j => (if a then 1 else 0) == j
  | .int i, .bl b => i == (if b then 1 else 0)
  | .int i, .int j => i == j
  | .str x, .str y => x == y
  | .lst xs, .lst ys => eqvA xs ys
  | .tup xs, .tup ys => eqvA xs ys
  | _, _ => false
def eqvA : List D → List D → Bool
  | [], [] => true
  | x :: xs, y :: ys => D.eqv x y && eqvA xs ys
  | _, _ => false
end
mutual
def D.dep : D → Option Nat
  | .lst xs => depA xs
  | .tup xs => depA xs
  | .dic _ _ => none
  | _ => some 0
def depA : List D → Option Nat
  | [] => some 1
  | x :: xs => match D.dep x, depA xs with
    | some m, some n => some (Nat.max (m + 1) n)
    | _, _ => none
end
def D.flat (d : D) : Bool := match d.dep with
  | some n => Nat.ble n 60
  | none => false
def ixNat (n : Nat) (i : Int) : Option Nat := if 0 ≤ i then (if i < n then some i.toNat else none) else if -(n : Int) ≤ i then some (i + n).toNat else none
def atL {α : Type} (xs : List α) (i : Int) : Option α := match ixNat xs.length i with
  | some j => xs[j]?
  | none => none
/-- a slice's end within 0 .. n -/
def cutIx (n d : Nat) : Option Int → Nat
  | none => d
  | some i => if i < 0 then (i + n).toNat else Nat.min i.toNat n
def cutL {α : Type} (xs : List α) (lo hi : Option Int) : List α := (xs.drop (cutIx xs.length 0 lo)).take (cutIx xs.length xs.length hi - cutIx xs.length 0 lo)
def D.truth : D → Res Bool
  | .non => .ok false
  | .bl b => .ok b
  | .int i => .ok (i != 0)
  | .str l => if l.length ≤ line then .ok (!l.isEmpty) else .bad
  | .tup l => .ok (!l.isEmpty)
  | .lst l => .ok (!l.isEmpty)
  | .dic _ l => .bad
def mulOk (i j : Int) : Bool := decide (i.natAbs < 2 ^ 63) || decide (j.natAbs < 2 ^ 63) || Nat.ble (i.natAbs.log2 + j.natAbs.log2 + 1) 1000000
def divOk (j : Int) : Bool := decide (0 < j) && Nat.ble (j.natAbs.log2 + 1) 9000
def binD : Operator → D → D → Res D
  | .Add, .int i, .int j => .ok (.int (i + j))
  | .Add, .str x, .str y => if x.length + y.length ≤ line then .ok (.str (x ++ y)) else .bad
  | .Add, .lst x, .lst y => if x.length + y.length ≤ line then .ok (.lst (x ++ y)) else .bad
  | .Add, .tup x, .tup y => if x.length + y.length ≤ line then .ok (.tup (x ++ y)) else .bad
  | .Sub, .int i, .int j => .ok (.int (i - j))
  | .Mult, .int i, .int j => if mulOk i j then .ok (.int (i * j)) else .bad
  | .Mult, .str x, .int k => if 0 ≤ k ∧ k ≤ line ∧ x.length * k.toNat ≤ line then .ok (.str (List.replicate k.toNat x).flatten) else .bad
  | .Mult, .lst x, .int k => if 0 ≤ k ∧ k ≤ line ∧ x.length * k.toNat ≤ line then .ok (.lst (List.replicate k.toNat x).flatten) else .bad
  | .FloorDiv, .int i, .int j => if divOk j then .ok (.int (i / j)) else .bad
  | .Mod, .int i, .int j => if decide (0 < j) then .ok (.int (i % j)) else .bad
  | .Pow, .int i, .int j => if 0 ≤ j ∧ j ≤ 1000 ∧ i.natAbs < 2 ^ 64 then .ok (.int (i ^ j.toNat)) else .bad
  | _, _, _ => .bad
/-- x op= y -/
def augD : Operator → D → D → Res D
  | .Add, .int i, .int j => .ok (.int (i + j))
  | .Sub, .int i, .int j => .ok (.int (i - j))
  | .Mult, .int i, .int j => if decide (i.natAbs < 2 ^ 63) || decide (j.natAbs < 2 ^ 63) then .ok (.int (i * j)) else .bad
  | .FloorDiv, .int i, .int j => if decide (0 < j ∧ j < 1073741824) then .ok (.int (i / j)) else .bad
  | _, _, _ => .bad
def inStr (x y : List Nat) : Bool := match x with
  | [c] => y.contains c
  | _ => false
/-- may the data be a key: of a written dict (0: texts), a dict of one's own (1: ints and texts, 2: tuples of these) -/
def keyOk : Nat → D → Bool
  | 0, .str _ => true
  | 1, .str _ => true
  | 1, .int _ => true
  | 2, .tup l => false
  | _, _ => false
def D.isN : D → Bool
  | .non => true
  | _ => false
def D.isL : D → Bool
  | .lst _ => true
  | _ => false
def D.isDic : D → Bool
  | .dic _ _ => true
  | _ => false
def D.isB : D → Bool
  | .bl _ => true
  | _ => false
def cmpD : CmpOp → D → D → Res D
  | .Eq, a, b => if a.flat && b.flat then .ok (.bl (a.eqv b)) else .bad
  | .NotEq, a, b => if a.flat && b.flat then .ok (.bl (!a.eqv b)) else .bad
  | .Lt, .int i, .int j => .ok (.bl (decide (i < j)))
  | .LtE, .int i, .int j => .ok (.bl (decide (i ≤ j)))
  | .Gt, .int i, .int j => .ok (.bl (decide (j < i)))
  | .GtE, .int i, .int j => .ok (.bl (decide (j ≤ i)))
  | .Is, a, .non => .ok (.bl a.isN)
  | .IsNot, a, .non => .ok (.bl (!a.isN))
  | .In, .str [c], .str y => .ok (.bl (y.contains c))
  | .NotIn, .str [c], .str y => .ok (.bl (!y.contains c))
  | .In, a, .tup ys => if a.flat && ys.all D.flat then .ok (.bl (ys.any fun y => y.eqv a)) else .bad
  | .NotIn, a, .tup ys => if a.flat && ys.all D.flat then .ok (.bl (!ys.any fun y => y.eqv a)) else .bad
  | .In, a, .lst ys => if a.flat && ys.all D.flat then .ok (.bl (ys.any fun y => y.eqv a)) else .bad
  | .NotIn, a, .lst ys => if a.flat && ys.all D.flat then .ok (.bl (!ys.any fun y => y.eqv a)) else .bad
  | .In, a, .dic k ys => if keyOk k a then .ok (.bl (ys.any fun p => p.1.eqv a)) else .bad
  | .NotIn, a, .dic k ys => if keyOk k a then .ok (.bl (!ys.any fun p => p.1.eqv a)) else .bad
  | _, _, _ => .bad
def lookD (k : D) : List (D × D) → Option D
  | [] => none
  | (a, b) :: r => if a.eqv k then some b else lookD k r
def subD : D → D → Res D
  | .tup l, .int i => match atL l i with | some d => .ok d | none => .bad
  | .lst l, .int i => match atL l i with | some d => .ok d | none => .bad
  | .str l, .int i => if l.length ≤ line then (match atL l i with | some c => .ok (.str [c]) | none => .bad) else .bad
  | .dic n l, k => if keyOk n k then (match lookD k l with | some d => .ok d | none => .bad) else .bad
  | _, _ => .bad
def slcD : D → Option Int → Option Int → Res D
  | .lst l, lo, hi => .ok (.lst (cutL l lo hi))
  | .tup l, lo, hi => .ok (.tup (cutL l lo hi))
  | .str l, lo, hi => if l.length ≤ line then .ok (.str (cutL l lo hi)) else .bad
  | _, _, _ => .bad
/-- the parts of a text between single signs -/
def splitOn (c : Nat) : List Nat → List (List Nat)
  | [] => [[]]
  | x :: r => if x == c then [] :: splitOn c r else match splitOn c r with
    | a :: as => (x :: a) :: as
    | [] => [[x]]
def strsOf : List D → Option (List (List Nat))
  | [] => some []
  | .str l :: r => match strsOf r with | some ls => some (l :: ls) | none => none
  | _ :: _ => none
def blsOf : List D → Option (List Bool)
  | [] => some []
  | .bl l :: r => match blsOf r with | some ls => some (l :: ls) | none => none
  | _ :: _ => none
def intsOf : List D → Option (List Int)
  | [] => some []
  | .int l :: r => match intsOf r with | some ls => some (l :: ls) | none => none
  | _ :: _ => none
def joinL (sep : List Nat) : List (List Nat) → List Nat
  | [] => []
  | [x] => x
  | x :: y :: r => x ++ (sep ++ joinL sep (y :: r))
def seqOf : D → Option (List D)
  | .lst l => some l
  | .tup l => some l
  | _ => none
def lenD : D → Res D
  | .lst l => .ok (.int l.length)
  | .tup l => .ok (.int l.length)
  | .str l => if l.length ≤ line then .ok (.int l.length) else .bad
  | _ => .bad
def biD : BI → List D → Res D
  | .len, [d] => lenD d
  | .int1, [.int i] => .ok (.int i)
  | .int1, [.bl b] => .ok (.int (if b then 1 else 0))
  | .abs, [.int i] => .ok (.int (if i < 0 then -i else i))
  | .max2, [.int i, .int j] => .ok (.int (if j > i then j else i))
  | .min2, [.int i, .int j] => .ok (.int (if j < i then j else i))
  | .all, [.lst l] => match blsOf l with | some bs => .ok (.bl (bs.all id)) | none => .bad
  | .any, [.lst l] => match blsOf l with | some bs => .ok (.bl (bs.any id)) | none => .bad
  | .list, [d] => match seqOf d with | some l => .ok (.lst l) | none => .bad
  | .tuple, [d] => match seqOf d with | some l => .ok (.tup l) | none => .bad
  | .isList, [d] => if d.isDic then .bad else .ok (.bl d.isL)
  | .isBool, [d] => if d.isDic then .bad else .ok (.bl d.isB)
  | .split, [.str l, .str [c]] => if c < 256 ∧ l.length + 2 ≤ line then .ok (.lst ((splitOn c l).map .str)) else .bad
  | .join, [.str s, .lst l] => match strsOf l with
    | some ls => if (ls.map List.length).sum + ls.length * s.length ≤ line then .ok (.str (joinL s ls)) else .bad
    | none => .bad
  | .sum, [.lst l] => match intsOf l with | some bs => .ok (.int bs.sum) | none => .bad
  | _, _ => .bad
/-- whose method it is -/
def recvOk : BI → D → Bool
  | .split, .str _ => true
  | .join, .str _ => true
  | _, _ => false
def rangeL (i j : Int) : List D := (List.range (j - i).toNat).map fun (k : Nat) => .int (i + k)
/-- what only a loop walks -/
def itD : BI → List D → Res (List D)
  | .range, [.int j] => if -(2 ^ 62) ≤ j ∧ j < 2 ^ 62 then .ok (rangeL 0 j) else .bad
  | .range, [.int i, .int j] => if (-(2 ^ 62) ≤ i ∧ i < 2 ^ 62) ∧ -(2 ^ 62) ≤ j ∧ j < 2 ^ 62 then .ok (rangeL i j) else .bad
  | _, _ => .bad
def lstOk (l : List D) : Res D := .ok (.lst l)
def biI (b : BI) (l : List D) : Res D := if b = .range then (itD .range l).bind lstOk else biD b l
def setMany : List Nat → List D → Env → Res Env
  | [], [], e => .ok e
  | i :: is, d :: ds, e => setMany is ds (e.set i (.fro d))
  | _, _, _ => .bad
def bindT : Tg → D → Env → Res Env
  | .one i, d, e => .ok (e.set i (.fro d))
  | .many is, d, e => match d with
    | .tup ds => setMany is ds e
    | _ => .bad
def wipeE (e : Env) : List Nat → Env
  | [] => e
  | v :: vs => (wipeE e vs).set v .no
def rdF (e : Env) (i : Nat) : Res D := match e[i]? with
  | some (.fro d) => .ok d
  | _ => .bad
def rdO (e : Env) (i : Nat) : Res D := match e[i]? with
  | some s => s.toD
  | none => .bad
def optI : D → Res (Option Int)
  | .int i => .ok (some i)
  | _ => .bad
def X.isNil : X → Bool
  | .nil => true
  | _ => false
def consO : Option D → List D → List D
  | some y, r => y :: r
  | none, r => r
def compL (f : D → Res (Option D)) : List D → Res (List D)
  | [] => .ok []
  | d :: ds => (f d).bind fun o => (compL f ds).bind fun r => .ok (consO o r)
def Res.lst : Res D → Res (List D)
  | .ok (.lst l) => .ok l
  | .ok _ => .bad
  | .exc c p => .exc c p
  | .bad => .bad
/-! ### expressions. cF: what a def gives -/
section
variable (P : Prog) (cF : Nat → List D → Res Slot)
def ev : X → Env → Res D
  | .v i, e => rdF e i
  | .o i, e => rdO e i
  | .c d, _ => .ok d
  | .gl g, _ => match P.gls[g]? with | some d => .ok d | none => .bad
  | .bin op a b, e => (ev a e).bind fun x => (ev b e).bind fun y => binD op x y
  | .neg a, e => (ev a e).bind fun x => match x with | .int i => .ok (.int (-i)) | _ => .bad
  | .cmp op a b, e => (ev a e).bind fun x => (ev b e).bind fun y => cmpD op x y
  | .cmp2 op op' a b c, e => (ev a e).bind fun x => (ev b e).bind fun y => (cmpD op x y).bind fun r => match r with
    | .bl true => (ev c e).bind fun z => cmpD op' y z
    | .bl false => .ok (.bl false)
    | _ => .bad
  | .and a b, e => (ev a e).bind fun x => x.truth.bind fun t => if t then ev b e else .ok x
  | .or a b, e => (ev a e).bind fun x => x.truth.bind fun t => if t then .ok x else ev b e
  | .not a, e => (ev a e).bind fun x => x.truth.bind fun t => .ok (.bl (!t))
  | .ite t a b, e => (ev t e).bind fun x => x.truth.bind fun t => if t then ev a e else ev b e
  | .call f args, e => (ev args e).lst.bind fun l => (cF f l).bind Slot.toD
  | .bi b args, e => (ev args e).lst.bind (biI b)
  | .m1 b o a, e => (ev o e).bind fun x => if recvOk b x then (ev a e).bind fun y => biD b [x, y] else .bad
  | .sub a i, e => (ev a e).bind fun x => (ev i e).bind fun y => subD x y
  | .slc a lo hi, e => (ev a e).bind fun x => (if lo.isNil then .ok none else (ev lo e).bind optI).bind fun l => (if hi.isNil then .ok none else (ev hi e).bind optI).bind fun h => slcD x l h
  | .tup args, e => (ev args e).lst.bind fun l => if l.length ≤ line then .ok (.tup l) else .bad
  | .lst args, e => (ev args e).lst.bind fun l => if l.length ≤ line then .ok (.lst l) else .bad
  | .lc elt t it cond own, e => ((ev it e).bind itemsOf).bind fun items => (compL (fun d => (bindT t d (wipeE e own)).bind fun e1 => (ev cond e1).bind fun c => c.truth.bind fun c =>
          if c then (ev elt e1).bind fun y => .ok (some y) else .ok none) items).nox.bind fun l => if l.length ≤ line then .ok (.lst l) else .bad
  | .nil, _ => .ok (.lst [])
  | .cons a r, e => (ev a e).bind fun x => (ev r e).lst.bind fun l => .ok (.lst (x :: l))
end

/-! ### statements -/
/-- behind a turn -/
def turnS (f : Env → Res Out) : Out → Res Out
  | .nx e => f e
  | .cnt e => f e
  | .brk e => .ok (.nx e)
  | .ret s => .ok (.ret s)
def forL (f : D → Env → Res Out) : List D → Env → Res Out
  | [], e => .ok (.nx e)
  | d :: ds, e => (f d e).bind (turnS (forL f ds))
def whL (t : Env → Res Bool) (f : Env → Res Out) : Nat → Env → Res Out
  | 0, _ => .bad
  | n + 1, e => (t e).bind fun b => if b then (f e).bind (turnS (whL t f n)) else .ok (.nx e)
def frzE (e : Env) (i : Nat) : Env := match e[i]? with
  | some (.own l) => e.set i (.fro (.lst l))
  | some (.ownd k l) => e.set i (.fro (.dic k l))
  | _ => e
def isOwnL (e : Env) (i : Nat) : Bool := match e[i]? with
  | some (.own _) => true
  | _ => false
def appS (e : Env) (i : Nat) (d : D) : Res Out := match e[i]? with
  | some (.own l) => if l.length + 1 ≤ line then .ok (.nx (e.set i (.own (l ++ [d])))) else .bad
  | _ => .bad
def setiS (e : Env) (i : Nat) (kd d : D) : Res Out := match e[i]? with
  | some (.own l) => (match kd with
    | .int n => (match ixNat l.length n with
      | some j => .ok (.nx (e.set i (.own (l.set j d))))
      | none => .bad)
    | _ => .bad)
  | _ => .bad
def retS (e : Env) (i : Nat) : Res Out := match e[i]? with
  | some (.own l) => .ok (.ret (.own l))
  | some (.fro d) => .ok (.ret (.fro d))
  | _ => .bad
def unpD (is : List Nat) (e : Env) : D → Res Out
  | .tup ds => (setMany is ds e).bind fun e' => .ok (.nx e')
  | _ => .bad
/-- one statement behind another -/
def thenS (f : Env → Res Out) : Out → Res Out
  | .nx e => f e
  | o => .ok o
/-- a list that was just made is one's own -/
def conv (b : Bool) : D → Res Slot
  | .lst l => if b then .ok (.own l) else .ok (.fro (.lst l))
  | d => .ok (.fro d)
def froS (d : D) : Res Slot := .ok (.fro d)
section
variable (P : Prog) (cF : Nat → List D → Res Slot)
/-- an expression that makes a new list -/
def evN : X → Env → Res Slot
  | .call f args, e => (ev P cF args e).lst.bind fun l => cF f l
  | .lst args, e => (ev P cF (.lst args) e).bind (conv true)
  | .lc a b c d o, e => (ev P cF (.lc a b c d o) e).bind (conv true)
  | .bi .list args, e => (ev P cF (.bi .list args) e).bind (conv true)
  | .m1 .split o a, e => (ev P cF (.m1 .split o a) e).bind (conv true)
  | .slc a lo hi, e => (ev P cF (.slc a lo hi) e).bind (conv true)
  | .bin op a b, e => (ev P cF (.bin op a b) e).bind (conv true)
  | x, e => (ev P cF x e).bind froS
def exS : S → Env → Res Out
  | .skip, e => .ok (.nx e)
  | .seq a b, e => (exS a e).bind (thenS (exS b))
  | .frz i, e => .ok (.nx (frzE e i))
  | .set i x, e => (ev P cF x e).bind fun d => .ok (.nx (e.set i (.fro d)))
  | .setN i x, e => (evN P cF x e).bind fun s => .ok (.nx (e.set i s))
  | .setT is x, e => (ev P cF x e).bind (unpD is e)
  | .par i j a b, e => (ev P cF a e).bind fun x => (ev P cF b e).bind fun y => .ok (.nx ((e.set i (.fro x)).set j (.fro y)))
  | .app i x, e => if isOwnL e i then (ev P cF x e).bind fun d => appS e i d else .bad
  | .seti i k x, e => (ev P cF x e).bind fun d => if isOwnL e i then (ev P cF k e).bind fun kd => setiS e i kd d else .bad
  | .aug i op x, e => (rdF e i).bind fun o => (ev P cF x e).bind fun d => (augD op o d).bind fun r => .ok (.nx (e.set i (.fro r)))
  | .ite c a b, e => ((ev P cF c e).bind D.truth).bind fun t => if t then exS a e else exS b e
  | .for_ t it body, e => ((ev P cF it e).bind itemsOf).bind fun items => forL (fun d e => (bindT t d e).bind fun e1 => exS body e1) items e
  | .while_ c body, e => whL (fun e => (ev P cF c e).bind D.truth) (exS body) P.wf e
  | .ret x, e => (ev P cF x e).bind fun d => .ok (.ret (.fro d))
  | .retN x, e => (evN P cF x e).bind fun s => .ok (.ret s)
  | .retO i, e => retS e i
  | .brk, e => .ok (.brk e)
  | .cnt, e => .ok (.cnt e)
  | .drop x, e => (ev P cF x e).bind fun _ => .ok (.nx e)
end
def endS : Out → Res Slot
  | .ret s => .ok s
  | .nx _ => .ok (.fro .non)
  | _ => .bad
def runF (P : Prog) : Nat → Nat → List D → Res Slot
  | 0, _, _ => .bad
  | n + 1, f, args => match P.fns[f]? with
    | none => .bad
    | some fn => if args.length = fn.np ∧ fn.np ≤ fn.ns then
        (exS P (runF P n) fn.body (args.map Slot.fro ++ List.replicate (fn.ns - fn.np) Slot.no)).bind endS
      else .bad
end Pv

set_option Elab.async false
/-! What data is in the abstract heap; the relation between the evaluator's names and the slots. -/
namespace Pv
open PySem PySem.Spec L2
abbrev toStr (l : List Nat) : Str := ⟨l.toArray⟩
def sOk (l : List Nat) : Prop := ∀ c ∈ l, c < 0x110000
/-- the ground: what stays through the whole proof -/
structure Gr where
  P : Program
  w : World
  K : PySem.W.Frag
  mg : Str → Option Value
  base : Heap
def kD : Key → D
  | .inl i => .int i
  | .inr z => .str z.cps.toList
/-- a dict at a: its keys, its values in their order -/
def DAt (g : Gr) (G : Hp) (a : Addr) (k : Nat) (ks : List D) (vs : List V) : Prop :=
  (k = 1 ∧ ∃ kvs : List (Key × V), Rd G a (.dK kvs) ∧ ks = kvs.map (fun p => kD p.1) ∧ vs = kvs.map (·.2)) ∨
  (k = 2 ∧ ∃ kvs : List (List Key × V), Rd G a (.dT kvs) ∧ ks = kvs.map (fun p => .tup (p.1.map kD)) ∧ vs = kvs.map (·.2)) ∨
  k = 0 ∧ ∃ es n, KDict g.K g.w a es n ∧ ks.length = vs.length ∧ ∀ z : Str, ∃ r, PySem.W.nsIn g.K a z = some r ∧
    match (ks.zip vs).find? (fun p => p.1.eqv (.str z.cps.toList)) with
    | none => r = none
    | some p => ∃ u, r = some u ∧ RelV p.2 u
mutual
def Rep (g : Gr) (G : Hp) : D → V → Prop
  | .non, v => v = .non
  | .bl b, v => v = .bl b
  | .int i, v => v = .int i
  | .str l, v => v = .str (toStr l) ∧ sOk l
  | .tup ds, v => ∃ a vs, v = .ref a ∧ SqT g.K G a vs ∧ RepA g G ds vs
  | .lst ds, v => ∃ a vs, v = .ref a ∧ SqL g.K G a vs ∧ RepA g G ds vs
  | .dic k kvs, v => ∃ a ks vs, v = .ref a ∧ DAt g G a k ks vs ∧ RepK g G kvs ks vs
def RepA (g : Gr) (G : Hp) : List D → List V → Prop
  | [], vs => vs = []
  | d :: ds, vs => ∃ v r, vs = v :: r ∧ Rep g G d v ∧ RepA g G ds r
def RepK (g : Gr) (G : Hp) : List (D × D) → List D → List V → Prop
  | [], ks, vs => ks = [] ∧ vs = []
  | (k, d) :: r, ks, vs => ∃ kr v vr, ks = k :: kr ∧ vs = v :: vr ∧ Rep g G d v ∧ RepK g G r kr vr
end
theorem Same.sqt {K : PySem.W.Frag} {H H' : Hp} {a : Addr} {xs : List V} (e : Same H H') (h : SqT K H a xs) : SqT K H' a xs := by
  rcases h with (h | ⟨o, h⟩) | h
  · exact .inl (.inl (e _ _ h))
  · exact .inl (.inr ⟨o, e _ _ h⟩)
  · exact .inr h
theorem Same.rd {H H' : Hp} {a : Addr} {o : HO} (e : Same H H') (h : Rd H a o) : Rd H' a o := by
  rcases h with h | ⟨u, h⟩
  · exact .inl (e _ _ h)
  · exact .inr ⟨u, e _ _ h⟩
theorem Same.dat {g : Gr} {H H' : Hp} {a : Addr} {k : Nat} {ks : List D} {vs : List V} (e : Same H H') (h : DAt g H a k ks vs) : DAt g H' a k ks vs := by
  rcases h with ⟨q, kvs, h, r⟩ | ⟨q, kvs, h, r⟩ | h
  · exact .inl ⟨q, kvs, Same.rd e h, r⟩
  · exact .inr (.inl ⟨q, kvs, Same.rd e h, r⟩)
  · exact .inr (.inr h)
section
variable {g : Gr} {G G' H H' : Hp}
mutual
theorem Rep.same (e : Same G G') : ∀ {d : D} {v : V}, Rep g G d v → Rep g G' d v
  | .non, _, h => h
  | .bl _, _, h => h
  | .int _, _, h => h
  | .str _, _, h => h
  | .tup _, _, h => by
    unfold Rep at h ⊢
    obtain ⟨a, vs, e1, s, r⟩ := h
    exact ⟨a, vs, e1, Same.sqt e s, RepA.same e r⟩
  | .lst _, _, h => by
    unfold Rep at h ⊢
    obtain ⟨a, vs, e1, s, r⟩ := h
    exact ⟨a, vs, e1, e.seq s, RepA.same e r⟩
  | .dic _ _, _, h => by
    unfold Rep at h ⊢
    obtain ⟨a, ks, vs, e1, s, r⟩ := h
    exact ⟨a, ks, vs, e1, Same.dat e s, RepK.same e r⟩
theorem RepA.same (e : Same G G') : ∀ {ds : List D} {vs : List V}, RepA g G ds vs → RepA g G' ds vs
  | [], _, h => h
  | _ :: _, _, h => by
    unfold RepA at h ⊢
    obtain ⟨v, r, e1, s, t⟩ := h
    exact ⟨v, r, e1, Rep.same e s, RepA.same e t⟩
theorem RepK.same (e : Same G G') : ∀ {ds : List (D × D)} {ks : List D} {vs : List V}, RepK g G ds ks vs → RepK g G' ds ks vs
  | [], _, _, h => h
  | (_, _) :: _, _, _, h => by
    unfold RepK at h ⊢
    obtain ⟨kr, v, vr, e1, e2, s, t⟩ := h
    exact ⟨kr, v, vr, e1, e2, Rep.same e s, RepK.same e t⟩
end
theorem RepA.length : ∀ {ds : List D} {vs : List V}, RepA g G ds vs → vs.length = ds.length
  | [], _, h => by unfold RepA at h; subst h; rfl
  | _ :: _, _, h => by
    unfold RepA at h
    obtain ⟨v, r, rfl, _, t⟩ := h
    simp [RepA.length t]
theorem RepA.get : ∀ {ds : List D} {vs : List V} {i : Nat} {d : D}, RepA g G ds vs → ds[i]? = some d → ∃ v, vs[i]? = some v ∧ Rep g G d v
  | [], _, _, _, _, e => by simp at e
  | _ :: _, _, 0, _, h, e => by
    unfold RepA at h
    obtain ⟨v, r, rfl, s, _⟩ := h
    simp at e; subst e
    exact ⟨v, rfl, s⟩
  | _ :: _, _, i + 1, _, h, e => by
    unfold RepA at h
    obtain ⟨v, r, rfl, _, t⟩ := h
    obtain ⟨u, hu, ru⟩ := RepA.get (i := i) t (by simpa using e)
    exact ⟨u, by simpa using hu, ru⟩
theorem RepA.nil : RepA g G [] [] := by unfold RepA; rfl
theorem RepA.cons {d : D} {ds : List D} {v : V} {vs : List V} (h : Rep g G d v) (t : RepA g G ds vs) : RepA g G (d :: ds) (v :: vs) := by
  unfold RepA; exact ⟨v, vs, rfl, h, t⟩
theorem RepA.append : ∀ {ds es : List D} {vs us : List V}, RepA g G ds vs → RepA g G es us → RepA g G (ds ++ es) (vs ++ us)
  | [], _, _, _, h, k => by unfold RepA at h; subst h; exact k
  | _ :: _, _, _, _, h, k => by
    unfold RepA at h
    obtain ⟨v, r, rfl, s, t⟩ := h
    exact RepA.cons s (RepA.append t k)
theorem RepA.set : ∀ {ds : List D} {vs : List V} (i : Nat) {d : D} {v : V}, RepA g G ds vs → Rep g G d v → RepA g G (ds.set i d) (vs.set i v)
  | [], _, _, _, _, h, _ => by unfold RepA at h; subst h; exact RepA.nil
  | _ :: _, _, 0, _, _, h, k => by
    unfold RepA at h
    obtain ⟨v, r, rfl, s, t⟩ := h
    exact RepA.cons k t
  | _ :: _, _, i + 1, _, _, h, k => by
    unfold RepA at h
    obtain ⟨v, r, rfl, s, t⟩ := h
    exact RepA.cons s (RepA.set i t k)
theorem RepA.take : ∀ {ds : List D} {vs : List V} (n : Nat), RepA g G ds vs → RepA g G (ds.take n) (vs.take n)
  | _, _, 0, _ => by simp; exact RepA.nil
  | [], _, _ + 1, h => by unfold RepA at h; subst h; exact RepA.nil
  | _ :: _, _, n + 1, h => by
    unfold RepA at h
    obtain ⟨v, r, rfl, s, t⟩ := h
    exact RepA.cons s (RepA.take n t)
theorem RepA.drop : ∀ {ds : List D} {vs : List V} (n : Nat), RepA g G ds vs → RepA g G (ds.drop n) (vs.drop n)
  | _, _, 0, h => h
  | [], _, _ + 1, h => by unfold RepA at h; subst h; exact RepA.nil
  | _ :: _, _, n + 1, h => by
    unfold RepA at h
    obtain ⟨v, r, rfl, s, t⟩ := h
    exact RepA.drop n t
theorem RepA.one {d : D} {vs : List V} (h : RepA g G [d] vs) : ∃ v, vs = [v] ∧ Rep g G d v := by
  unfold RepA at h
  obtain ⟨v, r, rfl, s, t⟩ := h
  unfold RepA at t
  subst t
  exact ⟨v, rfl, s⟩
theorem RepA.two {d e : D} {vs : List V} (h : RepA g G [d, e] vs) : ∃ v u, vs = [v, u] ∧ Rep g G d v ∧ Rep g G e u := by
  unfold RepA at h
  obtain ⟨v, r, rfl, s, t⟩ := h
  obtain ⟨u, rfl, q⟩ := RepA.one t
  exact ⟨v, u, rfl, s, q⟩
/-- the kept part of a heap grows from (G, H) to (G', H'): what was tracked stands -/
structure Ext (G H G' H' : Hp) : Prop where
  g : Same G G'
  gh : Same G' H'
  h : Same H H'
  nw : ∀ a, G' a ≠ none → G a ≠ none ∨ H a = none
theorem Ext.refl (e : Same G H) : Ext G H G H := ⟨Same.refl _, e, Same.refl _, fun _ h => .inl h⟩
theorem Ext.trans {G1 H1 G2 H2 : Hp} (a : Ext G H G1 H1) (b : Ext G1 H1 G2 H2) : Ext G H G2 H2 :=
  ⟨a.g.trans b.g, b.gh, a.h.trans b.h, fun x h => by
    rcases b.nw x h with q | q
    · exact a.nw x q
    · exact .inr (a.h.free q)⟩
theorem same_upd {H : Hp} {p : Addr} {o : HO} (n : H p = none) : Same H (upd H p o) := fun b u e => by rw [upd_ne (ne_of_none e n)]; exact e
/-- a new object that stands from now on -/
theorem Ext.new {p : Addr} {o : HO} (e : Same G H) (n : H p = none) : Ext G H (upd G p o) (upd H p o) :=
  ⟨same_upd (e.free n), fun b u q => by
    by_cases hb : b = p
    · subst hb; rw [upd_same] at q ⊢; exact q
    · rw [upd_ne hb] at q ⊢; exact e b u q,
   same_upd n, fun b q => by
    by_cases hb : b = p
    · subst hb; exact .inr n
    · rw [upd_ne hb] at q; exact .inl q⟩
/-- a new object that is not kept (it is one's own) -/
theorem Ext.own {p : Addr} {o : HO} (e : Same G H) (n : H p = none) : Ext G H G (upd H p o) :=
  ⟨Same.refl _, e.trans (same_upd n), same_upd n, fun b q => .inl q⟩
/-! ### slots -/
def SRel (g : Gr) (G H : Hp) : Slot → Option V → Prop
  | .no, _ => True
  | .fro d, o => ∃ v, o = some v ∧ Rep g G d v
  | .own ds, o => ∃ a vs, o = some (.ref a) ∧ H a = some (.lst vs) ∧ RepA g G ds vs ∧ G a = none
  | .ownd k kvs, o => ∃ a ks vs, o = some (.ref a) ∧ (∃ u, H a = some u) ∧ DAt g (fun b => if b = a then H b else none) a k ks vs ∧ RepK g G kvs ks vs ∧ G a = none
def Slot.isOwn : Slot → Bool
  | .own _ => true
  | .ownd _ _ => true
  | _ => false
/-- the names e over the slots σ: H0, G0 the heap and its kept part at the def's entry -/
structure FR (g : Gr) (H0 G0 : Hp) (e : Env) (σ : St) (H G : Hp) : Prop where
  len : σ.length = e.length
  sl : ∀ (i : Nat) s, e[i]? = some s → SRel g G H s (σ[i]?.join)
  dj : ∀ (i j : Nat) s t a, i ≠ j → e[i]? = some s → e[j]? = some t → s.isOwn = true → t.isOwn = true → σ[i]? = some (some (.ref a)) → σ[j]? = some (some (.ref a)) → False
  ow : ∀ (i : Nat) s a, e[i]? = some s → s.isOwn = true → σ[i]? = some (some (.ref a)) → H0 a = none
  h0 : Same H0 H
  g0 : Same G0 G
  gh : Same G H
  nw : ∀ a, G a ≠ none → G0 a ≠ none ∨ H0 a = none
theorem SRel.ext {s : Slot} {o : Option V} (h : SRel g G H s o) (e : Ext G H G' H') : SRel g G' H' s o := by
  cases s with
  | no => trivial
  | fro d =>
    obtain ⟨v, e1, r⟩ := h
    exact ⟨v, e1, Rep.same e.g r⟩
  | own ds =>
    obtain ⟨a, vs, e1, ha, r, n⟩ := h
    refine ⟨a, vs, e1, e.h _ _ ha, RepA.same e.g r, ?_⟩
    cases q : G' a with
    | none => rfl
    | some u =>
      rcases e.nw a (by rw [q]; simp) with z | z
      · exact absurd n z
      · rw [z] at ha; cases ha
  | ownd kd kvs =>
    obtain ⟨a, ks, vs, e1, ⟨u, hu⟩, hd, r, n⟩ := h
    refine ⟨a, ks, vs, e1, ⟨u, e.h _ _ hu⟩, Same.dat (fun b o q => ?_) hd, RepK.same e.g r, ?_⟩
    · by_cases hb : b = a
      · simp only [hb, if_true] at q ⊢; exact e.h _ _ q
      · simp only [if_neg hb] at q; cases q
    · cases q : G' a with
      | none => rfl
      | some u =>
        rcases e.nw a (by rw [q]; simp) with z | z
        · exact absurd n z
        · rw [z] at hu; cases hu
theorem FR.ext {H0 G0 : Hp} {e : Env} {σ : St} (F : FR g H0 G0 e σ H G) (x : Ext G H G' H') : FR g H0 G0 e σ H' G' :=
  ⟨F.len, fun i s q => (F.sl i s q).ext x, F.dj, F.ow, F.h0.trans x.h, F.g0.trans x.g, x.gh, fun a q => by
    rcases x.nw a q with z | z
    · exact F.nw a z
    · exact .inr (F.h0.free z)⟩
theorem FR.refl {H0 G0 : Hp} {e : Env} {σ : St} (F : FR g H0 G0 e σ H G) : Ext G H G H := Ext.refl F.gh
end
end Pv

/-! The judgements over data. -/
namespace Pv
open PySem PySem.Spec L2
theorem _root_.L2.PE.imp {X : Cx} {e : Expr} {t t' : TE} (h : PE X e t) (k : ∀ σ H Q, t' σ H Q → t σ H Q) : PE X e t' := ⟨fun pins s σ H Q I q => h.run pins s σ H Q I (k σ H Q q)⟩
theorem _root_.L2.PT.imp {X : Cx} {e : Expr} {t t' : TT} (h : PT X e t) (k : ∀ σ H Q, t' σ H Q → t σ H Q) : PT X e t' := ⟨fun pins s σ H Q I q => h.run pins s σ H Q I (k σ H Q q)⟩
theorem _root_.L2.PW.imp {X : Cx} {e : Expr} {t t' : TT} (h : PW X e t) (k : ∀ σ H Q, t' σ H Q → t σ H Q) : PW X e t' := ⟨fun wh pins s σ H Q I q => h.run wh pins s σ H Q I (k σ H Q q)⟩
theorem _root_.L2.PA.imp {X : Cx} {e : List Expr} {t t' : TA} (h : PA X e t) (k : ∀ σ H Q, t' σ H Q → t σ H Q) : PA X e t' := ⟨fun pos pins s σ H Q I q => h.run pos pins s σ H Q I (k σ H Q q)⟩
theorem _root_.L2.PI.imp {X : Cx} {tg e : Expr} {t t' : TI} (h : PI X tg e t) (k : ∀ σ H Q, t' σ H Q → t σ H Q) : PI X tg e t' := ⟨fun pins s σ H Q I q => h.run pins s σ H Q I (k σ H Q q)⟩
theorem _root_.L2.PS.imp {X : Cx} {e : Stmt} {t t' : TS} (h : PS X e t) (k : ∀ D σ H, t' D σ H → t D σ H) : PS X e t' := ⟨fun pins s σ H D I q => h.run pins s σ H D I (k D σ H q)⟩
theorem _root_.L2.PSs.imp {X : Cx} {e : List Stmt} {t t' : TS} (h : PSs X e t) (k : ∀ D σ H, t' D σ H → t D σ H) : PSs X e t' := ⟨fun pins s σ H D I q => h.run pins s σ H D I (k D σ H q)⟩
/-- an exception of a class (by its number, ex tells its place and its one attribute) with the data p -/
def ExcR (g : Gr) (ex : Nat → Option (Addr × Option Str)) (G H : Hp) (c : Nat) (p : D) (cls : Value) (dd : Option Addr) : Prop :=
  ∃ a f, ex c = some (a, f) ∧ cls = .ref a ∧ match f with
    | none => dd = none ∧ p = .non
    | some x => ∃ d v, dd = some d ∧ H d = some (.xd [(x, v)]) ∧ Rep g G p v
/-- what holds through a def's body: the def's names N, the scope sc, room k, what is wished of exceptions -/
structure Cn (g : Gr) (N : List Str) (sc : Scope) (k : Nat) (W : WX) (X : Cx) : Prop where
  prog : X.prog = g.P
  w : X.w = g.w
  K : X.K = g.K
  mg : X.mg = g.mg
  base : X.base = g.base
  hN : X.N = N
  nd : N.Nodup
  sc : X.env.scope = sc
  calm : X.calm = true
  room : Room k X.A
  tk : Takes X W
  po : PassesOwn (model X.prog X.w) X.A X.env X.xe
section
variable {g : Gr} {ex : Nat → Option (Addr × Option Str)} {W : WX}
abbrev RelR := Hp → Hp → D → V → Prop
/-- strong: the value stands -/
def RS (g : Gr) : RelR := fun G _ => Rep g G
/-- weak: or it is a list (a dict) of one's own -/
def RW (g : Gr) : RelR := fun G H d v => Rep g G d v ∨ (∃ ds a vs, d = .lst ds ∧ v = .ref a ∧ H a = some (.lst vs) ∧ RepA g G ds vs) ∨
  ∃ kd kvs a ks vs, d = .dic kd kvs ∧ v = .ref a ∧ DAt g H a kd ks vs ∧ RepK g G kvs ks vs
class Rl (g : Gr) (R : RelR) : Prop where
  ext : ∀ {G H G' H' d v}, Ext G H G' H' → R G H d v → R G' H' d v
  wk : ∀ {G H d v}, R G H d v → RW g G H d v
instance : Rl g (RS g) := ⟨fun e h => Rep.same e.g h, fun h => .inl h⟩
instance : Rl g (RW g) := ⟨fun e h => by
    rcases h with h | ⟨ds, a, vs, e1, e2, h, r⟩ | ⟨kd, kvs, a, ks, vs, e1, e2, h, r⟩
    · exact .inl (Rep.same e.g h)
    · exact .inr (.inl ⟨ds, a, vs, e1, e2, e.h _ _ h, RepA.same e.g r⟩)
    · exact .inr (.inr ⟨kd, kvs, a, ks, vs, e1, e2, Same.dat e.h h, RepK.same e.g r⟩), fun h => h⟩
/-- what is wanted behind an evaluation that gives r -/
def Post (g : Gr) (ex : Nat → Option (Addr × Option Str)) (W : WX) {α β : Type} (R : Hp → Hp → α → β → Prop) (r : Res α) (G H : Hp) (σ : St) (Q : β → Hp → Prop) : Prop :=
  match r with
  | .ok d => ∀ v H' G', Ext G H G' H' → R G' H' d v → Q v H'
  | .exc c p => ∀ cls dd H' G', Ext G H G' H' → ExcR g ex G' H' c p cls dd → W cls dd σ H'
  | .bad => False
/-- a reading by the evaluator -/
def tq (g : Gr) (ex : Nat → Option (Addr × Option Str)) (W : WX) {α β : Type} (R : Hp → Hp → α → β → Prop) (f : Env → Res α) : St → Hp → (β → Hp → Prop) → Prop := fun σ H Q =>
  ∃ e H0 G0 G, FR g H0 G0 e σ H G ∧ Post g ex W R (f e) G H σ Q
theorem Post.bindE {α β γ δ : Type} {Ra : Hp → Hp → α → β → Prop} {R : Hp → Hp → γ → δ → Prop} {r : Res α} {k : α → Res γ} {G H : Hp} {σ : St} {Q : δ → Hp → Prop} {N : β → Hp → Prop}
    (h : Post g ex W R (r.bind k) G H σ Q) (next : ∀ x v H1 G1, r = .ok x → Ext G H G1 H1 → Ra G1 H1 x v → Post g ex W R (k x) G1 H1 σ Q → N v H1) : Post g ex W Ra r G H σ N := by
  cases r with
  | ok x =>
    intro v H1 G1 E1 R1
    refine next x v H1 G1 rfl E1 R1 ?_
    have h' : Post g ex W R (k x) G H σ Q := h
    generalize k x = y at h'
    cases y with
    | ok d => exact fun v2 H2 G2 E2 R2 => h' v2 H2 G2 (E1.trans E2) R2
    | exc c p => exact fun cls dd H2 G2 E2 X2 => h' cls dd H2 G2 (E1.trans E2) X2
    | bad => exact h'
  | exc c p => exact h
  | bad => exact h
theorem Post.mono {α β : Type} {R : Hp → Hp → α → β → Prop} {r : Res α} {G H : Hp} {σ : St} {Q Q' : β → Hp → Prop} (h : Post g ex W R r G H σ Q) (k : ∀ d v H1 G1, r = .ok d → Ext G H G1 H1 → R G1 H1 d v → Q v H1 → Q' v H1) : Post g ex W R r G H σ Q' := by
  cases r with
  | ok x => exact fun v H1 G1 E1 R1 => k x v H1 G1 rfl E1 R1 (h v H1 G1 E1 R1)
  | exc c p => exact h
  | bad => exact h
theorem Post.rel {α β : Type} {R R' : Hp → Hp → α → β → Prop} {r : Res α} {G H : Hp} {σ : St} {Q : β → Hp → Prop} (h : Post g ex W R r G H σ Q) (k : ∀ G H d v, R' G H d v → R G H d v) : Post g ex W R' r G H σ Q := by
  cases r with
  | ok x => exact fun v H1 G1 E1 R1 => h v H1 G1 E1 (k _ _ _ _ R1)
  | exc c p => exact h
  | bad => exact h
theorem tq.rel {α β : Type} {R R' : Hp → Hp → α → β → Prop} {f : Env → Res α} {σ : St} {H : Hp} {Q : β → Hp → Prop} (h : tq g ex W R f σ H Q) (k : ∀ G H d v, R' G H d v → R G H d v) : tq g ex W R' f σ H Q := by
  obtain ⟨e, H0, G0, G, F, p⟩ := h
  exact ⟨e, H0, G0, G, F, p.rel k⟩
theorem Post.bind {α β γ δ : Type} {Ra : Hp → Hp → α → β → Prop} {R : Hp → Hp → γ → δ → Prop} {r : Res α} {k : α → Res γ} {G H : Hp} {σ : St} {Q : δ → Hp → Prop} {N : β → Hp → Prop}
    (h : Post g ex W R (r.bind k) G H σ Q) (next : ∀ x v H1 G1, Ext G H G1 H1 → Ra G1 H1 x v → Post g ex W R (k x) G1 H1 σ Q → N v H1) : Post g ex W Ra r G H σ N := h.bindE fun x v H1 G1 _ => next x v H1 G1
theorem tq.bind {α β γ δ : Type} {Ra : Hp → Hp → α → β → Prop} {R : Hp → Hp → γ → δ → Prop} {fa : Env → Res α} {k : α → Env → Res γ} {σ : St} {H : Hp} {Q : δ → Hp → Prop} {N : β → Hp → Prop}
    (h : tq g ex W R (fun e => (fa e).bind fun x => k x e) σ H Q)
    (next : ∀ e H0 G0 x v H1 G1, FR g H0 G0 e σ H1 G1 → Ra G1 H1 x v → Post g ex W R (k x e) G1 H1 σ Q → N v H1) : tq g ex W Ra fa σ H N := by
  obtain ⟨e, H0, G0, G, F, p⟩ := h
  exact ⟨e, H0, G0, G, F, p.bind fun x v H1 G1 E1 R1 p1 => next e H0 G0 x v H1 G1 (F.ext E1) R1 p1⟩
/-- the expression e gives what f gives -/
abbrev PEq (g : Gr) (ex : Nat → Option (Addr × Option Str)) (W : WX) (R : RelR) (X : Cx) (e : Expr) (f : Env → Res D) : Prop := PE X e (tq g ex W R f)
theorem PEq.weak {R : RelR} [Rl g R] {X : Cx} {e : Expr} {f : Env → Res D} (h : PEq g ex W R X e f) : PEq g ex W (RW g) X e f :=
  h.imp fun σ H Q q => q.rel fun _ _ _ _ r => Rl.wk r
/-! names, constants -/
theorem FR.fro {H0 G0 : Hp} {e : Env} {σ : St} {H G : Hp} (F : FR g H0 G0 e σ H G) {i : Nat} {d : D} (h : e[i]? = some (.fro d)) : ∃ v, σ[i]? = some (some v) ∧ Rep g G d v := by
  obtain ⟨v, e1, r⟩ := F.sl i _ h
  refine ⟨v, ?_, r⟩
  cases q : σ[i]? with
  | none => rw [q] at e1; cases e1
  | some o => rw [q] at e1; exact congrArg some e1
theorem FR.ownA {H0 G0 : Hp} {e : Env} {σ : St} {H G : Hp} (F : FR g H0 G0 e σ H G) {i : Nat} {ds : List D} (h : e[i]? = some (.own ds)) :
    ∃ a vs, σ[i]? = some (some (.ref a)) ∧ H a = some (.lst vs) ∧ RepA g G ds vs ∧ G a = none := by
  obtain ⟨a, vs, e1, r⟩ := F.sl i _ h
  refine ⟨a, vs, ?_, r⟩
  cases q : σ[i]? with
  | none => rw [q] at e1; cases e1
  | some o => rw [q] at e1; exact congrArg some e1
theorem FR.ownD {H0 G0 : Hp} {e : Env} {σ : St} {H G : Hp} (F : FR g H0 G0 e σ H G) {i kd : Nat} {kvs : List (D × D)} (h : e[i]? = some (.ownd kd kvs)) :
    ∃ a ks vs, σ[i]? = some (some (.ref a)) ∧ DAt g H a kd ks vs ∧ RepK g G kvs ks vs ∧ G a = none := by
  obtain ⟨a, ks, vs, e1, hu, hd, r⟩ := F.sl i _ h
  refine ⟨a, ks, vs, ?_, Same.dat (fun b o q => ?_) hd, r⟩
  · cases q : σ[i]? with
    | none => rw [q] at e1; cases e1
    | some o => rw [q] at e1; exact congrArg some e1
  · by_cases hb : b = a
    · simp only [hb, if_true] at q ⊢; exact q
    · simp only [if_neg hb] at q; cases q
theorem pq_v {X : Cx} {i : Nat} {x : Str} {pos : Pos} (h : PE X (.Name x pos) (tVar i)) : PEq g ex W (RS g) X (.Name x pos) (fun e => rdF e i) := by
  refine h.imp fun σ H Q q => ?_
  obtain ⟨e, H0, G0, G, F, p⟩ := q
  dsimp only [rdF] at p
  split at p
  · rename_i d hd
    obtain ⟨v, e1, r⟩ := F.fro hd
    exact ⟨v, e1, p v H G F.refl r⟩
  · exact p.elim
theorem pq_o {X : Cx} {i : Nat} {x : Str} {pos : Pos} (h : PE X (.Name x pos) (tVar i)) : PEq g ex W (RW g) X (.Name x pos) (fun e => rdO e i) := by
  refine h.imp fun σ H Q q => ?_
  obtain ⟨e, H0, G0, G, F, p⟩ := q
  dsimp only [rdO] at p
  split at p
  · rename_i s hs
    cases s with
    | no => exact p.elim
    | fro d =>
      obtain ⟨v, e1, r⟩ := F.fro hs
      exact ⟨v, e1, p v H G F.refl (.inl r)⟩
    | own ds =>
      obtain ⟨a, vs, e1, ha, r, _⟩ := F.ownA hs
      exact ⟨.ref a, e1, p _ H G F.refl (.inr (.inl ⟨ds, a, vs, rfl, rfl, ha, r⟩))⟩
    | ownd kd kvs =>
      obtain ⟨a, ks, vs, e1, ha, r, _⟩ := F.ownD hs
      exact ⟨.ref a, e1, p _ H G F.refl (.inr (.inr ⟨kd, kvs, a, ks, vs, rfl, rfl, ha, r⟩))⟩
  · exact p.elim
/-- a value that is known -/
theorem pq_c {X : Cx} {e : Expr} {v : V} {d : D} (h : PE X e (tC v)) (r : ∀ G, Rep g G d v) : PEq g ex W (RS g) X e (fun _ => .ok d) := by
  refine h.imp fun σ H Q q => ?_
  obtain ⟨e, H0, G0, G, F, p⟩ := q
  exact p v H G F.refl (r G)
/-! views -/
theorem RW.seqL {G H : Hp} {ds : List D} {v : V} (gh : Same G H) (h : RW g G H (.lst ds) v) : ∃ a vs, v = .ref a ∧ SqL g.K H a vs ∧ RepA g G ds vs := by
  rcases h with h | ⟨ds', a, vs, e1, e2, h, r⟩ | ⟨kd, kvs, a, ks, vs, e1, _⟩
  · unfold Rep at h
    obtain ⟨a, vs, e1, s, r⟩ := h
    exact ⟨a, vs, e1, gh.seq s, r⟩
  · cases e1
    exact ⟨a, vs, e2, .of h, r⟩
  · cases e1
theorem RW.seqT {G H : Hp} {ds : List D} {v : V} (gh : Same G H) (h : RW g G H (.tup ds) v) : ∃ a vs, v = .ref a ∧ SqT g.K H a vs ∧ RepA g G ds vs := by
  rcases h with h | ⟨ds', a, vs, e1, e2, h, r⟩ | ⟨kd, kvs, a, ks, vs, e1, _⟩
  · unfold Rep at h
    obtain ⟨a, vs, e1, s, r⟩ := h
    exact ⟨a, vs, e1, Same.sqt gh s, r⟩
  · cases e1
  · cases e1
theorem RW.dic {G H : Hp} {kd : Nat} {kvs : List (D × D)} {v : V} (gh : Same G H) (h : RW g G H (.dic kd kvs) v) : ∃ a ks vs, v = .ref a ∧ DAt g H a kd ks vs ∧ RepK g G kvs ks vs := by
  rcases h with h | ⟨ds', a, vs, e1, e2, h, r⟩ | ⟨kd', kvs', a, ks, vs, e1, e2, h, r⟩
  · unfold Rep at h
    obtain ⟨a, ks, vs, e1, s, r⟩ := h
    exact ⟨a, ks, vs, e1, Same.dat gh s, r⟩
  · cases e1
  · cases e1
    exact ⟨a, ks, vs, e2, h, r⟩
theorem RW.int {G H : Hp} {i : Int} {v : V} (h : RW g G H (.int i) v) : v = .int i := by
  rcases h with h | ⟨ds', a, vs, e1, _⟩ | ⟨kd, kvs, a, ks, vs, e1, _⟩
  · exact h
  · cases e1
  · cases e1
theorem RW.bl {G H : Hp} {i : Bool} {v : V} (h : RW g G H (.bl i) v) : v = .bl i := by
  rcases h with h | ⟨ds', a, vs, e1, _⟩ | ⟨kd, kvs, a, ks, vs, e1, _⟩
  · exact h
  · cases e1
  · cases e1
theorem RW.non {G H : Hp} {v : V} (h : RW g G H .non v) : v = .non := by
  rcases h with h | ⟨ds', a, vs, e1, _⟩ | ⟨kd, kvs, a, ks, vs, e1, _⟩
  · exact h
  · cases e1
  · cases e1
theorem RW.str {G H : Hp} {l : List Nat} {v : V} (h : RW g G H (.str l) v) : v = .str (toStr l) ∧ sOk l := by
  rcases h with h | ⟨ds', a, vs, e1, _⟩ | ⟨kd, kvs, a, ks, vs, e1, _⟩
  · exact h
  · cases e1
  · cases e1
/-- what a def hands back: data that stands; a new list, a new dict (its place was free in H0) -/
def RSl (g : Gr) (H0 : Hp) : Hp → Hp → Slot → V → Prop := fun G H s v => match s with
  | .no => False
  | .fro d => Rep g G d v
  | .own ds => ∃ a vs, v = .ref a ∧ H a = some (.lst vs) ∧ RepA g G ds vs ∧ G a = none ∧ H0 a = none
  | .ownd k kvs => ∃ a ks vs, v = .ref a ∧ (∃ u, H a = some u) ∧ DAt g (fun b => if b = a then H b else none) a k ks vs ∧ RepK g G kvs ks vs ∧ G a = none ∧ H0 a = none
theorem conv_ff (d : D) : conv false d = .ok (.fro d) := by cases d <;> rfl
theorem Post.conv0 {G H H0 : Hp} {σ : St} {r : Res D} {Q : VK} (h : Post g ex W (RS g) r G H σ Q) : Post g ex W (RSl g H0) (r.bind (conv false)) G H σ Q := by
  cases r with
  | ok d =>
    show Post g ex W (RSl g H0) (conv false d) G H σ Q
    rw [conv_ff]
    exact fun v H' G' e r => h v H' G' e r
  | exc c p => exact h
  | bad => exact h
theorem Post.iteB {α β γ : Type} {R : Hp → Hp → α → β → Prop} {G H : Hp} {σ : St} {Q : β → Hp → Prop} {c : Prop} [Decidable c] {r : Res γ} {k : γ → Res α} (h : Post g ex W R ((if c then r else .bad).bind k) G H σ Q) : c ∧ Post g ex W R (r.bind k) G H σ Q := by
  by_cases hc : c
  · rw [if_pos hc] at h; exact ⟨hc, h⟩
  · rw [if_neg hc] at h; exact h.elim
/-! truth -/
theorem line_eq : line = sizeLine := by rw [sizeLine_eq]; rfl
theorem toStr_len (l : List Nat) : (toStr l).length = l.length := by simp [toStr, Str.length]
theorem truth_ok {G H : Hp} {d : D} {v : V} {b : Bool} (gh : Same G H) (h : RW g G H d v) (e : d.truth = .ok b) : TruV g.K v H b := by
  cases d with
  | non => cases h.non; cases e; rfl
  | bl b => cases h.bl; cases e; rfl
  | int i => cases h.int; cases e; rfl
  | str l =>
    obtain ⟨rfl, _⟩ := h.str
    by_cases hl : l.length ≤ line
    · rw [show D.truth (.str l) = if l.length ≤ line then .ok (!l.isEmpty) else .bad from rfl, if_pos hl] at e
      cases e
      refine ⟨by rw [toStr_len, ← line_eq]; exact hl, ?_⟩
      rw [toStr_len]
      cases l with
      | nil => rfl
      | cons c r => simp [bne]; omega
    · rw [show D.truth (.str l) = if l.length ≤ line then .ok (!l.isEmpty) else .bad from rfl, if_neg hl] at e
      cases e
  | tup l =>
    obtain ⟨a, vs, rfl, s, r⟩ := h.seqT gh
    cases e
    refine .inr (.inl ⟨vs, s, ?_⟩)
    have := r.length
    cases l <;> cases vs <;> simp at this ⊢
  | lst l =>
    obtain ⟨a, vs, rfl, s, r⟩ := h.seqL gh
    cases e
    refine .inl ⟨vs, s, ?_⟩
    have := r.length
    cases l <;> cases vs <;> simp at this ⊢
  | dic _ l => cases e
theorem truth_ne {d : D} {c : Nat} {p : D} : d.truth ≠ .exc c p := by
  intro h
  cases d with
  | str l =>
    by_cases hl : l.length ≤ line
    · rw [show D.truth (.str l) = if l.length ≤ line then .ok (!l.isEmpty) else .bad from rfl, if_pos hl] at h; cases h
    · rw [show D.truth (.str l) = if l.length ≤ line then .ok (!l.isEmpty) else .bad from rfl, if_neg hl] at h; cases h
  | _ => cases h
end
end Pv

/-! Operators over data. -/
namespace Pv
open PySem PySem.Spec L2
section
variable {X : Cx}
def rCatL (K : PySem.W.Frag) : R2 := fun x y H Q => ∃ l b xs zs, x = .ref l ∧ y = .ref b ∧ SqL K H l xs ∧ SqL K H b zs ∧ xs.length + zs.length ≤ sizeLine ∧ ∀ p, H p = none → Q (.ref p) (upd H p (.lst (xs ++ zs)))
theorem op_catL : OpR X (binaryOp .Add) (rCatL X.K) := by
  intro pins s σ H x y v u Q I rx ry h
  obtain ⟨l, b, xs, zs, rfl, rfl, hH, hB, hz, q⟩ := h
  cases rx
  cases ry
  obtain ⟨its, r, ⟨⟨cls, dd, data, sl⟩, n, ho, hc, _, hd⟩, _⟩ := I.list hH
  obtain ⟨its2, r2, ⟨⟨cls2, dd2, data2, sl2⟩, n2, ho2, hc2, _, hd2⟩, _⟩ := I.list hB
  simp only at hc hd hc2 hd2
  subst hc hd hc2 hd2
  have e : its.toArray ++ its2.toArray = (its ++ its2).toArray := by simp
  refine PySem.concat_meets ⟨_, ho, rfl⟩ ⟨_, ho2, rfl⟩ PySem.noFill_list_add PySem.seq_list_add PySem.F.slot_list_add PySem.F.entry_list_add (PySem.F.args_list_add_2 _ _) (PyProof.Rows.list_addW l b its.toArray its2.toArray n n2 dd dd2 sl sl2 (by rw [List.size_toArray, List.size_toArray, ← r.length, ← r2.length]; exact hz)) ⟨ho, ho2, ?_⟩
  rw [e]
  exact ⟨.ref _, _, I.lnew (t' := s.toks) (r.append r2) (by rw [List.length_append]; exact hz), rfl, q _ I.fresh⟩
def rRepL (K : PySem.W.Frag) : R2 := fun x y H Q => ∃ l k xs, x = .ref l ∧ y = .int k ∧ SqL K H l xs ∧ -(2 ^ 63) ≤ k ∧ k < 2 ^ 63 ∧ xs.length * k.toNat ≤ sizeLine ∧
  ∀ p, H p = none → Q (.ref p) (upd H p (.lst (List.replicate k.toNat xs).flatten))
theorem op_repL : OpR X (binaryOp .Mult) (rRepL X.K) := by
  intro pins s σ H x y v u Q I rx ry h
  obtain ⟨l, k, xs, rfl, rfl, hH, h1, h2, hz, q⟩ := h
  cases rx
  obtain ⟨t, rfl⟩ := ry
  obtain ⟨its, r, ⟨⟨cls, dd, data, sl⟩, n, ho, hc, _, hd⟩, _⟩ := I.list hH
  simp only at hc hd
  subst hc hd
  have hl := r.length
  have hsz : its.toArray.size * k.toNat ≤ 16777216 := by rw [List.size_toArray, ← hl]; rw [sizeLine_eq] at hz; exact hz
  refine PySem.wpAny_binaryOp_repeat_ref (T := "list") (U := "int") (by decide) ⟨_, ho, rfl⟩ (fun s' => PySem.typeIs_int s' k t) PySem.noFill_list_mul PySem.F.fills_int_mul PySem.F.slot_int_rmul PySem.repeat_list PySem.F.slot_int_index.lookup
    (PySem.call_meets PySem.F.slot_int_rmul (PySem.typeIs_int s k t) PySem.F.entry_int_rmul (PySem.F.args_int_rmul_2 _ _) (PySem.lm_int_rmul_list_any k t l its.toArray n dd sl)
      ⟨ho, rfl, ⟨_, ho, rfl⟩, PySem.call_meets PySem.F.slot_list_mul ⟨_, ho, rfl⟩ PySem.F.entry_list_mul (PySem.F.args_list_mul_2 _ _)
        (PySem.lm_list_mul_any l its.toArray n dd sl k t (by simp [Builtin.List.listFitsIndex]; omega) (by omega) (by simp [Builtin.List.listTooLong, sizeLine_eq]; omega))
        ⟨ho, ?_⟩⟩)
  rw [PyProof.Rows.listMul_foldl_if]
  exact ⟨.ref _, _, I.lnew (t' := s.toks) (r.rep k.toNat) (by rw [PyProof.Rows.lm_len_rep_flat, Nat.mul_comm]; exact hz), rfl, q _ I.fresh⟩
def rRepS : R2 := fun x y H Q => ∃ z k, x = .str z ∧ y = .int k ∧ 0 ≤ k ∧ k ≤ 16777216 ∧ z.length * k.toNat ≤ 16777216 ∧ Q (.str (toStr (List.replicate k.toNat z.cps.toList).flatten)) H
theorem rep_foldl (a : Array Nat) : ∀ (m : Nat) (l : List Nat), List.foldl (fun x1 x2 => x1 ++ x2) l.toArray (List.replicate m a) = (l ++ (List.replicate m a.toList).flatten).toArray
  | 0, l => by simp
  | m + 1, l => by
    rw [List.replicate_succ, List.foldl_cons]
    have e : l.toArray ++ a = (l ++ a.toList).toArray := by simp
    rw [e, rep_foldl a m (l ++ a.toList)]
    simp [List.replicate_succ]
theorem op_repS : OpR X (binaryOp .Mult) rRepS := by
  intro pins s σ H x y v u Q I rx ry h
  obtain ⟨z, k, rfl, rfl, h0, h1, hz, q⟩ := h
  obtain ⟨t, rfl⟩ := rx
  obtain ⟨t', rfl⟩ := ry
  have fin : ∀ (z' : Str) tk, z' = toStr (List.replicate k.toNat z.cps.toList).flatten → EP X pins σ Q (.str z' tk) { s with toks := s.toks + 1 } := fun z' tk e => ⟨.str _, H, I.tok _, ⟨tk, by rw [e]⟩, q⟩
  have e0 : ∀ m : Nat, (⟨(List.replicate m z.cps).foldl (· ++ ·) #[]⟩ : Str) = toStr (List.replicate m z.cps.toList).flatten := fun m => by
    have := rep_foldl z.cps m []
    rw [List.nil_append] at this
    exact congrArg Str.mk this
  have hlen : z.length = z.cps.toList.length := by simp [Str.length]
  refine PySem.P.mul_str (by rw [decide_eq_false (by omega), decide_eq_false (by omega)]; rfl) (fun hn hb => ?_) (fun hn hb => ?_) ?_
  · have h3 : (z.length : Int) * k ≤ 16777216 := by
      have : ((z.length * k.toNat : Nat) : Int) ≤ 16777216 := Int.ofNat_le.mpr hz
      rw [Int.natCast_mul, Int.toNat_of_nonneg h0] at this
      exact this
    have h4 : (z.length : Int) ≤ (2 ^ 63 - 1) / k := by
      rw [Int.le_ediv_iff_mul_le (by omega)]
      omega
    omega
  · unfold Builtin.Str.tooLong
    exact decide_eq_false (by rw [sizeLine_eq]; omega)
  · by_cases hk : k < 1
    · rw [if_pos hk]
      have e : k.toNat = 0 := by omega
      exact ⟨by decide, fin _ _ (by rw [e]; rfl)⟩
    · rw [if_neg hk]
      by_cases hb : (k == 1 || z.length == 0) = true
      · rw [if_pos hb]
        refine ⟨.str _, H, I, ⟨t, rfl⟩, ?_⟩
        have e : toStr (List.replicate k.toNat z.cps.toList).flatten = z := by
          rcases Bool.or_eq_true _ _ |>.mp hb with q | q
          · have e : k = 1 := eq_of_beq q
            subst e
            simp [toStr]
          · have e : z.cps = #[] := Array.eq_empty_of_size_eq_zero (eq_of_beq q)
            obtain ⟨cps⟩ := z
            cases e
            simp [toStr]
        rw [e] at q
        exact q
      · rw [if_neg hb]
        refine ⟨?_, fin _ _ (e0 _)⟩
        rw [e0]
        show Str.length _ ≤ _
        rw [toStr_len, PyProof.Rows.lm_len_rep_flat, Nat.mul_comm, ← hlen, sizeLine_eq]
        exact hz
end
end Pv

namespace Pv
open PySem PySem.Spec L2
section
variable {g : Gr} {ex : Nat → Option (Addr × Option Str)} {W : WX} {X : Cx} {N : List Str} {sc : Scope} {k : Nat}
theorem rep_lst {G H : Hp} {p : Addr} {ds : List D} {vs : List V} (gh : Same G H) (n : H p = none) (r : RepA g G ds vs) : Rep g (upd G p (.lst vs)) (.lst ds) (.ref p) := by
  unfold Rep
  exact ⟨p, vs, rfl, .of upd_same, RepA.same (same_upd (gh.free n)) r⟩
theorem rep_tup {G H : Hp} {p : Addr} {ds : List D} {vs : List V} (gh : Same G H) (n : H p = none) (r : RepA g G ds vs) : Rep g (upd G p (.tup vs)) (.tup ds) (.ref p) := by
  unfold Rep
  exact ⟨p, vs, rfl, .of upd_same, RepA.same (same_upd (gh.free n)) r⟩
/-- a new list that stands -/
theorem Post.newL {G H : Hp} {σ : St} {Q : VK} {ds : List D} {vs : List V} (gh : Same G H) (r : RepA g G ds vs) (h : Post g ex W (RS g) (.ok (.lst ds)) G H σ Q) : ∀ p, H p = none → Q (.ref p) (upd H p (.lst vs)) :=
  fun p n => h _ _ _ (Ext.new gh n) (rep_lst gh n r)
theorem Post.newT {G H : Hp} {σ : St} {Q : VK} {ds : List D} {vs : List V} (gh : Same G H) (r : RepA g G ds vs) (h : Post g ex W (RS g) (.ok (.tup ds)) G H σ Q) : ∀ p, H p = none → Q (.ref p) (upd H p (.tup vs)) :=
  fun p n => h _ _ _ (Ext.new gh n) (rep_tup gh n r)
theorem RepA.flat {G : Hp} {ds : List D} {vs : List V} (h : RepA g G ds vs) : ∀ m : Nat, RepA g G (List.replicate m ds).flatten (List.replicate m vs).flatten
  | 0 => by simp; exact RepA.nil
  | m + 1 => by
    rw [List.replicate_succ, List.replicate_succ, List.flatten_cons, List.flatten_cons]
    exact h.append (RepA.flat h m)
theorem sOk.app {a b : List Nat} (h : sOk a) (k : sOk b) : sOk (a ++ b) := fun c m => (List.mem_append.mp m).elim (h c) (k c)
theorem sOk.flat {a : List Nat} (h : sOk a) (m : Nat) : sOk (List.replicate m a).flatten := fun c q => by
  obtain ⟨l, hl, hc⟩ := List.mem_flatten.mp q
  rw [List.eq_of_mem_replicate hl] at hc
  exact h c hc
theorem toStr_app (a b : List Nat) : toStr a ++ toStr b = toStr (a ++ b) := by
  show (⟨a.toArray ++ b.toArray⟩ : Str) = ⟨(a ++ b).toArray⟩
  simp
theorem len_le {l : List Nat} (h : l.length ≤ line) : (toStr l).length ≤ sizeLine := by rw [toStr_len, ← line_eq]; exact h
theorem toStr_cps (l : List Nat) : (toStr l).cps.toList = l := rfl
/-- if, in the evaluator -/
theorem Post.ite {α β : Type} {R : Hp → Hp → α → β → Prop} {G H : Hp} {σ : St} {Q : β → Hp → Prop} {c : Prop} [Decidable c] {r : Res α} (h : Post g ex W R (if c then r else .bad) G H σ Q) : c ∧ Post g ex W R r G H σ Q := by
  by_cases hc : c
  · rw [if_pos hc] at h; exact ⟨hc, h⟩
  · rw [if_neg hc] at h; exact h.elim
theorem Post.val {α β : Type} {R : Hp → Hp → α → β → Prop} {G H : Hp} {σ : St} {Q : β → Hp → Prop} {d : α} {v : β} (gh : Same G H) (h : Post g ex W R (.ok d) G H σ Q) (r : R G H d v) : Q v H := h v H G (Ext.refl gh) r
/-- a new list: kept, or one's own -/
theorem Post.newS {G H : Hp} {σ : St} {Q : VK} {ds : List D} {vs : List V} {b : Bool} (gh : Same G H) (r : RepA g G ds vs) (h : Post g ex W (RSl g H) (conv b (.lst ds)) G H σ Q) : ∀ p, H p = none → Q (.ref p) (upd H p (.lst vs)) := fun p n => by
  cases b with
  | false => exact h _ _ _ (Ext.new gh n) (rep_lst gh n r)
  | true => exact h _ _ _ (Ext.own gh n) ⟨p, vs, rfl, upd_same, r, gh.free n, n⟩
theorem bin_ok (b : Bool) (C : Cn g N sc k W X) (op : Operator) : ∃ r : R2, OpR X (binaryOp op) r ∧ ∀ (x y : D) (v u : V) (G H : Hp) (σ : St) (Q : VK), Same G H → RW g G H x v → RW g G H y u → Post g ex W (RSl g H) ((binD op x y).bind (conv b)) G H σ Q → r v u H Q := by
  have nope : ∀ op', (∀ x y, binD op' x y = .bad) → ∃ r : R2, OpR X (binaryOp op') r ∧ ∀ (x y : D) (v u : V) (G H : Hp) (σ : St) (Q : VK), Same G H → RW g G H x v → RW g G H y u → Post g ex W (RSl g H) ((binD op' x y).bind (conv b)) G H σ Q → r v u H Q :=
    fun op' hb => ⟨fun _ _ _ _ => False, fun _ _ _ _ _ _ _ _ _ _ _ _ h => h.elim, fun x y v u G H σ Q _ _ _ p => by rw [hb] at p; exact p⟩
  cases op with
  | Add =>
    have h1 : OpR X (binaryOp .Add) (rCatL g.K) := C.K ▸ op_catL
    have h2 : OpR X (binaryOp .Add) (rCatA g.K) := C.K ▸ op_catA
    refine ⟨_, OpR.or op_add (OpR.or op_add_str (OpR.or h1 h2)), fun x y v u G H σ Q gh rx ry p => ?_⟩
    cases x with
    | int i =>
      cases y with
      | int j =>
        cases rx.int; cases ry.int
        exact .inl ⟨i, j, rfl, rfl, Post.val gh p rfl⟩
      | _ => exact False.elim p
    | str a =>
      cases y with
      | str b =>
        obtain ⟨rfl, oa⟩ := rx.str
        obtain ⟨rfl, ob⟩ := ry.str
        obtain ⟨hl, p⟩ := Post.iteB (c := a.length + b.length ≤ line) p
        exact .inr (.inl ⟨_, _, rfl, rfl, by rw [toStr_len, toStr_len, ← line_eq]; exact hl, by rw [toStr_app]; exact Post.val gh p ⟨rfl, oa.app ob⟩⟩)
      | _ => exact False.elim p
    | lst a =>
      cases y with
      | lst b =>
        obtain ⟨pa, va, rfl, sa, ra⟩ := rx.seqL gh
        obtain ⟨pb, vb, rfl, sb, rb⟩ := ry.seqL gh
        obtain ⟨hl, p⟩ := Post.iteB (c := a.length + b.length ≤ line) p
        exact .inr (.inr (.inl ⟨_, _, va, vb, rfl, rfl, sa, sb, by rw [ra.length, rb.length, ← line_eq]; exact hl, Post.newS gh (ra.append rb) p⟩))
      | _ => exact False.elim p
    | tup a =>
      cases y with
      | tup b =>
        obtain ⟨pa, va, rfl, sa, ra⟩ := rx.seqT gh
        obtain ⟨pb, vb, rfl, sb, rb⟩ := ry.seqT gh
        obtain ⟨hl, p⟩ := Post.iteB (c := a.length + b.length ≤ line) p
        refine .inr (.inr (.inr ⟨_, _, va, vb, rfl, rfl, sa, sb, by rw [ra.length, rb.length, ← line_eq]; exact hl, fun ea => ?_, fun _ eb => ?_, fun _ _ p' n => p _ _ _ (Ext.new gh n) (rep_tup gh n (ra.append rb))⟩))
        · have e : a = [] := by have := ra.length; rw [ea] at this; cases a <;> simp at this ⊢
          subst e
          rcases ry with ry | ⟨_, _, _, q, _⟩ | ⟨_, _, _, _, _, q, _⟩
          · exact Post.val gh p ry
          · cases q
          · cases q
        · have e : b = [] := by have := rb.length; rw [eb] at this; cases b <;> simp at this ⊢
          subst e
          rw [List.append_nil] at p
          rcases rx with rx | ⟨_, _, _, q, _⟩ | ⟨_, _, _, _, _, q, _⟩
          · exact Post.val gh p rx
          · cases q
          · cases q
      | _ => exact False.elim p
    | _ => exact False.elim p
  | Sub =>
    refine ⟨_, op_sub, fun x y v u G H σ Q gh rx ry p => ?_⟩
    cases x with
    | int i =>
      cases y with
      | int j =>
        cases rx.int; cases ry.int
        exact ⟨i, j, rfl, rfl, Post.val gh p rfl⟩
      | _ => exact False.elim p
    | _ => exact False.elim p
  | Mult =>
    have h1 : OpR X (binaryOp .Mult) (rRepL g.K) := C.K ▸ op_repL
    refine ⟨_, OpR.or (OpR.or op_mul op_mulW) (OpR.or op_repS h1), fun x y v u G H σ Q gh rx ry p => ?_⟩
    cases x with
    | int i =>
      cases y with
      | int j =>
        cases rx.int; cases ry.int
        obtain ⟨hl, p⟩ := Post.iteB (c := mulOk i j = true) p
        rcases Bool.or_eq_true_iff.mp hl with hl | hl
        · refine .inl (.inl ⟨i, j, rfl, rfl, ?_, Post.val gh p rfl⟩)
          rcases Bool.or_eq_true_iff.mp hl with q | q
          · have q := of_decide_eq_true q; exact .inl ⟨by omega, by omega⟩
          · have q := of_decide_eq_true q; exact .inr ⟨by omega, by omega⟩
        · exact .inl (.inr ⟨i, j, rfl, rfl, Nat.le_of_ble_eq_true hl, Post.val gh p rfl⟩)
      | _ => exact False.elim p
    | str a =>
      cases y with
      | int j =>
        obtain ⟨rfl, oa⟩ := rx.str
        cases ry.int
        obtain ⟨hl, p⟩ := Post.iteB (c := 0 ≤ j ∧ j ≤ line ∧ a.length * j.toNat ≤ line) p
        exact .inr (.inl ⟨_, _, rfl, rfl, hl.1, hl.2.1, by rw [toStr_len]; exact hl.2.2, Post.val gh p ⟨rfl, oa.flat _⟩⟩)
      | _ => exact False.elim p
    | lst a =>
      cases y with
      | int j =>
        obtain ⟨pa, va, rfl, sa, ra⟩ := rx.seqL gh
        cases ry.int
        obtain ⟨hl, p⟩ := Post.iteB (c := 0 ≤ j ∧ j ≤ line ∧ a.length * j.toNat ≤ line) p
        have h3 : j ≤ 16777216 := hl.2.1
        have h0 := hl.1
        exact .inr (.inr ⟨_, _, va, rfl, rfl, sa, by omega, by omega, by rw [ra.length, ← line_eq]; exact hl.2.2, Post.newS gh (ra.flat _) p⟩)
      | _ => exact False.elim p
    | _ => exact False.elim p
  | FloorDiv =>
    refine ⟨_, op_fdivW, fun x y v u G H σ Q gh rx ry p => ?_⟩
    cases x with
    | int i =>
      cases y with
      | int j =>
        cases rx.int; cases ry.int
        obtain ⟨hl, p⟩ := Post.iteB (c := divOk j = true) p
        have h2 := Bool.and_eq_true_iff.mp hl
        exact ⟨i, j, rfl, rfl, ⟨of_decide_eq_true h2.1, Nat.le_of_ble_eq_true h2.2⟩, Post.val gh p rfl⟩
      | _ => exact False.elim p
    | _ => exact False.elim p
  | Mod =>
    refine ⟨_, op_mod, fun x y v u G H σ Q gh rx ry p => ?_⟩
    cases x with
    | int i =>
      cases y with
      | int j =>
        cases rx.int; cases ry.int
        obtain ⟨hl, p⟩ := Post.iteB (c := decide (0 < j) = true) p
        exact ⟨i, j, rfl, rfl, of_decide_eq_true hl, Post.val gh p rfl⟩
      | _ => exact False.elim p
    | _ => exact False.elim p
  | Pow =>
    refine ⟨_, op_pow, fun x y v u G H σ Q gh rx ry p => ?_⟩
    cases x with
    | int i =>
      cases y with
      | int j =>
        cases rx.int; cases ry.int
        obtain ⟨hl, p⟩ := Post.iteB (c := 0 ≤ j ∧ j ≤ 1000 ∧ i.natAbs < 2 ^ 64) p
        exact ⟨i, j, rfl, rfl, ⟨hl.1, by omega, hl.2.2⟩, Post.val gh p rfl⟩
      | _ => exact False.elim p
    | _ => exact False.elim p
  | MatMult => exact nope _ fun _ _ => rfl
  | Div => exact nope _ fun _ _ => rfl
  | LShift => exact nope _ fun _ _ => rfl
  | RShift => exact nope _ fun _ _ => rfl
  | BitOr => exact nope _ fun _ _ => rfl
  | BitXor => exact nope _ fun _ _ => rfl
  | BitAnd => exact nope _ fun _ _ => rfl
/-- a op b -/
theorem pq_bin (C : Cn g N sc k W X) {op : Operator} {a b : Expr} {fa fb : Pv.Env → Res D} {pos : Pos} (ha : PEq g ex W (RW g) X a fa) (hb : PEq g ex W (RW g) X b fb) :
    PEq g ex W (RS g) X (.BinOp a op b pos) (fun e => (fa e).bind fun x => (fb e).bind fun y => binD op x y) := by
  obtain ⟨r, ho, hr⟩ := bin_ok (ex := ex) false C op
  refine (pe_op ho ha hb).imp fun σ H Q h => ?_
  refine h.bind fun e H0 G0 x v H1 G1 F1 R1 p1 => ⟨e, H0, G0, G1, F1, p1.bind fun y u H2 G2 E2 R2 p2 => ?_⟩
  exact hr x y v u G2 H2 σ Q E2.gh (Rl.ext (g := g) E2 R1) R2 p2.conv0
end
end Pv

namespace Pv
open PySem PySem.Spec L2
mutual
def toPD : D → PyData
  | .non => .none
  | .bl b => .bool b
  | .int i => .int i
  | .str l => .str (toStr l)
  | .tup ds => .tuple (toPDs ds)
  | .lst ds => .list (toPDs ds)
  | .dic _ _ => .none
def toPDs : List D → List PyData
  | [] => []
  | d :: ds => toPD d :: toPDs ds
end
theorem toStr_beq (a b : List Nat) : (toStr a == toStr b) = (a == b) := by
  rw [Bool.eq_iff_iff]
  simp only [beq_iff_eq, toStr]
  constructor
  · intro h
    have : a.toArray = b.toArray := congrArg Str.cps h
    simpa using this
  · intro h; rw [h]
mutual
theorem eqv_pd : ∀ (a b : D) {m n : Nat}, a.dep = some m → b.dep = some n → PyData.eqv (toPD a) (toPD b) = a.eqv b
  | .non, b, _, _, _, hb => by cases b <;> first | rfl | (cases hb)
  | .bl x, b, _, _, _, hb => by cases b <;> first | rfl | (cases hb)
  | .int x, b, _, _, _, hb => by cases b <;> first | rfl | (cases hb)
  | .str x, b, _, _, _, hb => by
    cases b with
    | str y => simp only [toPD, PyData.eqv, D.eqv]; exact toStr_beq x y
    | dic _ _ => cases hb
    | _ => simp only [toPD, PyData.eqv, D.eqv]
  | .tup xs, b, _, _, ha, hb => by
    cases b with
    | tup ys =>
      simp only [toPD, PyData.eqv, D.eqv]
      simp only [D.dep] at ha hb
      exact eqvA_pd xs ys ha hb
    | dic _ _ => cases hb
    | _ => simp only [toPD, PyData.eqv, D.eqv]
  | .lst xs, b, _, _, ha, hb => by
    cases b with
    | lst ys =>
      simp only [toPD, PyData.eqv, D.eqv]
      simp only [D.dep] at ha hb
      exact eqvA_pd xs ys ha hb
    | dic _ _ => cases hb
    | _ => simp only [toPD, PyData.eqv, D.eqv]
  | .dic _ _, _, _, _, ha, _ => by cases ha
theorem eqvA_pd : ∀ (xs ys : List D) {m n : Nat}, depA xs = some m → depA ys = some n → PyData.eqvAll (toPDs xs) (toPDs ys) = eqvA xs ys
  | [], [], _, _, _, _ => by simp only [toPDs, PyData.eqvAll, eqvA]
  | [], _ :: _, _, _, _, _ => by simp only [toPDs, PyData.eqvAll, eqvA]
  | _ :: _, [], _, _, _, _ => by simp only [toPDs, PyData.eqvAll, eqvA]
  | x :: xs, y :: ys, m, n, ha, hb => by
    simp only [depA] at ha hb
    cases hx : x.dep with
    | none => rw [hx] at ha; cases ha
    | some mx =>
      cases hxs : depA xs with
      | none => rw [hx, hxs] at ha; cases ha
      | some mxs =>
        cases hy : y.dep with
        | none => rw [hy] at hb; cases hb
        | some my =>
          cases hys : depA ys with
          | none => rw [hy, hys] at hb; cases hb
          | some mys =>
            simp only [toPDs, PyData.eqvAll, eqvA]
            rw [eqv_pd x y hx hy, eqvA_pd xs ys hxs hys]
end
mutual
theorem depth_pd : ∀ (a : D) {m : Nat}, a.dep = some m → (toPD a).depth = m
  | .non, _, h => by cases h; rfl
  | .bl _, _, h => by cases h; rfl
  | .int _, _, h => by cases h; rfl
  | .str _, _, h => by cases h; rfl
  | .tup xs, _, h => by
    simp only [D.dep] at h
    simp only [toPD, PyData.depth]
    exact depthA_pd xs h
  | .lst xs, _, h => by
    simp only [D.dep] at h
    simp only [toPD, PyData.depth]
    exact depthA_pd xs h
  | .dic _ _, _, h => by cases h
theorem depthA_pd : ∀ (xs : List D) {m : Nat}, depA xs = some m → PyData.depthAll (toPDs xs) + 1 = m
  | [], _, h => by simp only [depA] at h; cases h; rfl
  | x :: xs, m, ha => by
    simp only [depA] at ha
    cases hx : x.dep with
    | none => rw [hx] at ha; cases ha
    | some mx =>
      cases hxs : depA xs with
      | none => rw [hx, hxs] at ha; cases ha
      | some mxs =>
        rw [hx, hxs] at ha
        cases ha
        simp only [toPDs, PyData.depthAll]
        rw [depth_pd x hx]
        have := depthA_pd xs hxs
        show max mx (PyData.depthAll (toPDs xs)) + 1 = max (mx + 1) mxs
        omega
end
section
variable {g : Gr} {G H : Hp}
theorem strOk_of {l : List Nat} (h : sOk l) : PySem.PyData.strOk (toStr l) = true := by
  unfold PySem.PyData.strOk
  simp only [toStr, List.all_toArray, List.all_eq_true]
  exact fun c hc => decide_eq_true (h c hc)
mutual
theorem Rep.canLay : ∀ (d : D) {v : V} {m : Nat}, Rep g G d v → d.dep = some m → (toPD d).canLay0 = true
  | .non, _, _, _, _ => rfl
  | .bl _, _, _, _, _ => rfl
  | .int _, _, _, _, _ => rfl
  | .str l, _, _, h, _ => strOk_of h.2
  | .tup xs, _, _, h, hd => by
    unfold Rep at h
    obtain ⟨_, vs, _, _, r⟩ := h
    simp only [D.dep] at hd
    simp only [toPD, PyData.canLay0]
    exact RepA.canLay xs r hd
  | .lst xs, _, _, h, hd => by
    unfold Rep at h
    obtain ⟨_, vs, _, _, r⟩ := h
    simp only [D.dep] at hd
    simp only [toPD, PyData.canLay0]
    exact RepA.canLay xs r hd
  | .dic _ _, _, _, _, hd => by cases hd
theorem RepA.canLay : ∀ (ds : List D) {vs : List V} {m : Nat}, RepA g G ds vs → depA ds = some m → PyData.canLayAll0 (toPDs ds) = true
  | [], _, _, _, _ => rfl
  | x :: xs, _, m, h, ha => by
    unfold RepA at h
    obtain ⟨v, r, _, s, t⟩ := h
    simp only [depA] at ha
    cases hx : x.dep with
    | none => rw [hx] at ha; cases ha
    | some mx =>
      cases hxs : depA xs with
      | none => rw [hx, hxs] at ha; cases ha
      | some mxs =>
        simp only [toPDs, PyData.canLayAll0, Rep.canLay x s hx, RepA.canLay xs t hxs, Bool.and_self]
end
mutual
theorem Rep.dp : ∀ (d : D) {v : V} {m : Nat}, Rep g G d v → d.dep = some m → Dp g.K G v (toPD d)
  | .non, _, _, h, _ => by cases h; exact .non
  | .bl _, _, _, h, _ => by cases h; exact .bl _
  | .int _, _, _, h, _ => by cases h; exact .int _
  | .str l, _, _, h, _ => by obtain ⟨rfl, _⟩ := h; exact .str _
  | .tup xs, _, _, h, hd => by
    unfold Rep at h
    obtain ⟨a, vs, rfl, s, r⟩ := h
    simp only [D.dep] at hd
    exact .tup s (RepA.dp xs r hd)
  | .lst xs, _, _, h, hd => by
    unfold Rep at h
    obtain ⟨a, vs, rfl, s, r⟩ := h
    simp only [D.dep] at hd
    exact .lst s (RepA.dp xs r hd)
  | .dic _ _, _, _, _, hd => by cases hd
theorem RepA.dp : ∀ (ds : List D) {vs : List V} {m : Nat}, RepA g G ds vs → depA ds = some m → DpAll g.K G vs (toPDs ds)
  | [], _, _, h, _ => by unfold RepA at h; subst h; exact .nil
  | x :: xs, _, m, h, ha => by
    unfold RepA at h
    obtain ⟨v, r, rfl, s, t⟩ := h
    simp only [depA] at ha
    cases hx : x.dep with
    | none => rw [hx] at ha; cases ha
    | some mx =>
      cases hxs : depA xs with
      | none => rw [hx, hxs] at ha; cases ha
      | some mxs => exact .cons (Rep.dp x s hx) (RepA.dp xs t hxs)
end
theorem D.flat_dep {d : D} (h : d.flat = true) : ∃ m, d.dep = some m ∧ m ≤ 60 := by
  unfold D.flat at h
  cases e : d.dep with
  | none => rw [e] at h; cases h
  | some m => rw [e] at h; exact ⟨m, rfl, Nat.le_of_ble_eq_true h⟩
/-- what the comparisons ask -/
theorem RW.dp {d : D} {v : V} (gh : Same G H) (h : RW g G H d v) (f : d.flat = true) : Dp g.K H v (toPD d) ∧ (toPD d).canLay0 = true ∧ (toPD d).depth ≤ 60 := by
  obtain ⟨m, hm, hl⟩ := D.flat_dep f
  refine ⟨?_, ?_, by rw [depth_pd d hm]; exact hl⟩
  · rcases h with h | ⟨ds, a, vs, rfl, rfl, ha, r⟩ | ⟨kd, kvs, a, ks, vs, rfl, _⟩
    · exact Rep.dp d (Rep.same gh h) hm
    · simp only [D.dep] at hm
      exact .lst (.of ha) (RepA.dp ds (RepA.same gh r) hm)
    · cases hm
  · rcases h with h | ⟨ds, a, vs, rfl, rfl, ha, r⟩ | ⟨kd, kvs, a, ks, vs, rfl, _⟩
    · exact Rep.canLay d h hm
    · simp only [D.dep] at hm
      simp only [toPD, PyData.canLay0]
      exact RepA.canLay ds r hm
    · cases hm
theorem shaped_of {d : PyData} (h : d.canLay0 = true) (k : d.depth ≤ 60) : SeqAt.shaped d = true := Bool.and_eq_true_iff.mpr ⟨h, decide_eq_true (Nat.le_trans k (by decide))⟩
end
section
variable {X : Cx}
/-- x in a tuple or list of data -/
def rInA (K : PySem.W.Frag) (neg : Bool) : R2 := fun x y H Q => ∃ d ds, Dp K H x d ∧ (Dp K H y (.list ds) ∨ Dp K H y (.tuple ds)) ∧ d.canLay0 = true ∧ d.depth ≤ 60 ∧ PyData.canLayAll0 ds = true ∧ Q (.bl (if neg then !ds.any fun z => PyData.eqv z d else ds.any fun z => PyData.eqv z d)) H
theorem op_inA (hu : X.A.units + 64 < cLine) : OpR X (compareOp .In) (rInA X.K false) := by
  intro pins s σ H x y v u Q I rx ry h
  obtain ⟨d, ds, hd, he, cd, hz, cs, q⟩ := h
  obtain ⟨as, r1⟩ := Dp.reads I d x v hd rx
  have hr : X.A.units + 1 + min (PyData.depthAll ds) d.depth < cLine := by
    have := Nat.min_le_right (PyData.depthAll ds) d.depth
    omega
  rcases he with he | he
  · obtain ⟨bs, r2⟩ := Dp.reads I (.list ds) y u he ry
    exact SeqAt.in_list_reads r2 r1 cs cd hr ⟨.bl _, H, I, rfl, q⟩
  · obtain ⟨bs, r2⟩ := Dp.reads I (.tuple ds) y u he ry
    exact SeqAt.in_tuple_reads r2 r1 cs cd hr ⟨.bl _, H, I, rfl, q⟩
theorem op_notInA (hu : X.A.units + 64 < cLine) : OpR X (compareOp .NotIn) (rInA X.K true) := by
  intro pins s σ H x y v u Q I rx ry h
  obtain ⟨d, ds, hd, he, cd, hz, cs, q⟩ := h
  obtain ⟨as, r1⟩ := Dp.reads I d x v hd rx
  have hr : X.A.units + 1 + min (PyData.depthAll ds) d.depth < cLine := by
    have := Nat.min_le_right (PyData.depthAll ds) d.depth
    omega
  rcases he with he | he
  · obtain ⟨bs, r2⟩ := Dp.reads I (.list ds) y u he ry
    exact SeqAt.notIn_list_reads r2 r1 cs cd hr ⟨.bl _, H, I, rfl, q⟩
  · obtain ⟨bs, r2⟩ := Dp.reads I (.tuple ds) y u he ry
    exact SeqAt.notIn_tuple_reads r2 r1 cs cd hr ⟨.bl _, H, I, rfl, q⟩
def rEqA (K : PySem.W.Frag) (neg : Bool) : R2 := fun x y H Q => ∃ d e, Dp K H x d ∧ Dp K H y e ∧ SeqAt.shaped d = true ∧ SeqAt.shaped e = true ∧ Q (.bl (if neg then !PyData.eqv d e else PyData.eqv d e)) H
/-- x in a dict -/
def rInDict (g : Gr) (neg : Bool) : R2 := fun y x H Q => (∃ a o, x = .ref a ∧ DGet H a y o ∧ Q (.bl (if neg then !o.isSome else o.isSome)) H) ∨
  ∃ d es n z r, KDict g.K g.w d es n ∧ y = .str z ∧ x = .ref d ∧ PySem.W.nsIn g.K d z = some r ∧ Q (.bl (if neg then !r.isSome else r.isSome)) H
theorem op_inDict {g : Gr} (hK : X.K = g.K) (hw : X.w = g.w) (hu : X.A.units + 64 < cLine) : OpR X (compareOp .In) (rInDict g false) := by
  intro pins s σ H y x u v Q I ry rx h
  rcases h with ⟨a, o, rfl, dg, q⟩ | ⟨d, es, n, z, r, kd, rfl, rfl, e, q⟩
  · cases rx
    exact d_in (by omega) I dg ry fun s' I' => ⟨.bl _, H, I', rfl, q⟩
  · rw [← hK, ← hw] at kd
    rw [← hK] at e
    exact op_in_kd kd pins s σ H _ _ u v Q I ry rx ⟨z, r, rfl, rfl, e, q⟩
theorem op_notInDict {g : Gr} (hK : X.K = g.K) (hw : X.w = g.w) (hu : X.A.units + 64 < cLine) : OpR X (compareOp .NotIn) (rInDict g true) := by
  intro pins s σ H y x u v Q I ry rx h
  rcases h with ⟨a, o, rfl, dg, q⟩ | ⟨d, es, n, z, r, kd, rfl, rfl, e, q⟩
  · cases rx
    exact d_notIn (by omega) I dg ry fun s' I' => ⟨.bl _, H, I', rfl, q⟩
  · rw [← hK, ← hw] at kd
    rw [← hK] at e
    exact op_notIn_kd kd pins s σ H _ _ u v Q I ry rx ⟨z, r, rfl, rfl, e, q⟩
end
end Pv

namespace Pv
open PySem PySem.Spec L2
/-- what a dict at a holds under the key y -/
def DLook (g : Gr) (H : Hp) (a : Addr) (y : V) (o : Option V) : Prop :=
  DGet H a y o ∨ ∃ es n z r, KDict g.K g.w a es n ∧ y = .str z ∧ PySem.W.nsIn g.K a z = some r ∧ RelO o r
section
variable {g : Gr} {G H : Hp}
theorem find_kD {kvs : List (Key × V)} (k : Key) : ((kvs.map fun p => kD p.1).zip (kvs.map (·.2))).find? (fun p => p.1.eqv (kD k)) = (kvs.find? fun kv => decide (kv.1 = k)).map fun p => (kD p.1, p.2) := by
  have e : ∀ a b : Key, (kD a).eqv (kD b) = decide (a = b) := fun a b => by
    cases a with
    | inl i =>
      cases b with
      | inl j => rw [key_ll]; rfl
      | inr z => rw [key_lr]; rfl
    | inr z =>
      cases b with
      | inl j => rw [key_rl]; rfl
      | inr y =>
        rw [key_rr]
        show (z.cps.toList == y.cps.toList) = _
        rw [Bool.eq_iff_iff]
        simp only [beq_iff_eq, decide_eq_true_eq]
        constructor
        · intro h
          obtain ⟨z⟩ := z
          obtain ⟨y⟩ := y
          exact congrArg Str.mk (by simpa using h)
        · intro h; rw [h]
  induction kvs with
  | nil => rfl
  | cons p r ih =>
    simp only [List.map_cons, List.zip_cons_cons, List.find?_cons, e]
    cases decide (p.1 = k) with
    | true => rfl
    | false => exact ih
theorem look_find {k : D} : ∀ {kvs : List (D × D)} {ks : List D} {vs : List V}, RepK g G kvs ks vs →
    match (ks.zip vs).find? (fun p => p.1.eqv k) with
    | none => lookD k kvs = none
    | some p => ∃ d, lookD k kvs = some d ∧ Rep g G d p.2
  | [], _, _, h => by
    unfold RepK at h
    obtain ⟨rfl, rfl⟩ := h
    rfl
  | (a, d) :: r, _, _, h => by
    unfold RepK at h
    obtain ⟨kr, v, vr, rfl, rfl, s, t⟩ := h
    simp only [List.zip_cons_cons, List.find?_cons, lookD]
    cases e : a.eqv k with
    | true => exact ⟨d, by simp, s⟩
    | false => simpa using look_find (k := k) t
theorem any_look (k : D) : ∀ kvs : List (D × D), (kvs.any fun p => p.1.eqv k) = (lookD k kvs).isSome
  | [] => rfl
  | (a, d) :: r => by
    simp only [List.any_cons, lookD]
    cases e : a.eqv k with
    | true => rfl
    | false => simpa using any_look k r
theorem toStr_of (z : Str) : toStr z.cps.toList = z := by
  obtain ⟨z⟩ := z
  rfl
theorem dat_look {kd : Nat} {kvs : List (D × D)} {a : Addr} {ks : List D} {vs : List V} {k : D} {y : V} (gh : Same G H) (h : DAt g H a kd ks vs) (r : RepK g G kvs ks vs) (ko : keyOk kd k = true) (ry : RW g G H k y) :
    ∃ o, DLook g H a y o ∧ match lookD k kvs with
      | none => o = none
      | some d => ∃ v, o = some v ∧ Rep g G d v := by
  have lf := look_find (k := k) r
  rcases h with ⟨rfl, kvs', hd, rfl, rfl⟩ | ⟨rfl, _⟩ | ⟨rfl, es, n, kdd, hl, hz⟩
  · obtain ⟨key, rfl, rfl⟩ : ∃ key, k = kD key ∧ y = kV key := by
      cases k with
      | int i => cases ry.int; exact ⟨.inl i, rfl, rfl⟩
      | str l => obtain ⟨rfl, _⟩ := ry.str; exact ⟨.inr (toStr l), rfl, rfl⟩
      | _ => cases ko
    refine ⟨valV kvs' key, .inl (.inl ⟨kvs', key, hd, rfl, rfl⟩), ?_⟩
    rw [find_kD] at lf
    unfold valV
    cases q : kvs'.find? fun kv => decide (kv.1 = key) with
    | none => rw [q] at lf; simp only [Option.map_none] at lf ⊢; rw [lf]; trivial
    | some p =>
      rw [q] at lf
      obtain ⟨d, e, rd⟩ := lf
      rw [e]
      exact ⟨p.2, rfl, rd⟩
  · cases k <;> cases ko
  · cases k with
    | str l =>
      obtain ⟨rfl, _⟩ := ry.str
      obtain ⟨r', e, m⟩ := hz (toStr l)
      rw [toStr_cps] at m
      cases q : (ks.zip vs).find? (fun p => p.1.eqv (.str l)) with
      | none =>
        rw [q] at m lf
        have m' : r' = none := m
        subst m'
        refine ⟨none, .inr ⟨es, n, toStr l, _, kdd, rfl, e, trivial⟩, ?_⟩
        rw [lf]
      | some p =>
        rw [q] at m lf
        obtain ⟨u, rfl, ru⟩ := m
        obtain ⟨d, e', rd⟩ := lf
        refine ⟨some p.2, .inr ⟨es, n, toStr l, _, kdd, rfl, e, ru⟩, ?_⟩
        rw [e']
        exact ⟨p.2, rfl, rd⟩
    | _ => cases ko
theorem inDict_of {a : Addr} {y : V} {o : Option V} {Q : VK} {neg : Bool} (h : DLook g H a y o) (q : Q (.bl (if neg then !o.isSome else o.isSome)) H) : rInDict g neg y (.ref a) H Q := by
  rcases h with h | ⟨es, n, z, r, kd, ey, e, ro⟩
  · exact .inl ⟨a, o, rfl, h, q⟩
  · refine .inr ⟨a, es, n, z, r, kd, ey, rfl, e, ?_⟩
    have : r.isSome = o.isSome := by
      cases o <;> cases r <;> first | rfl | (exact ro.elim)
    rw [this]
    exact q
end
section
variable {g : Gr} {ex : Nat → Option (Addr × Option Str)} {W : WX} {X : Cx} {N : List Str} {sc : Scope} {k : Nat}
theorem rEqA_ok (C : Cn g N sc k W X) : OpR X (compareOp .Eq) (rEqA g.K false) ∧ OpR X (compareOp .NotEq) (rEqA g.K true) := by
  have hu := C.room.units
  constructor
  · exact C.K ▸ op_eqD hu
  · exact C.K ▸ op_neD hu
theorem isN_ok {G H : Hp} {d : D} {v : V} (gh : Same G H) (h : RW g G H d v) : decide (v = .non) = d.isN := by
  cases d with
  | non => cases h.non; rfl
  | bl b => cases h.bl; rfl
  | int b => cases h.int; rfl
  | str l => obtain ⟨rfl, _⟩ := h.str; rfl
  | tup l => obtain ⟨a, vs, rfl, _⟩ := h.seqT gh; rfl
  | lst l => obtain ⟨a, vs, rfl, _⟩ := h.seqL gh; rfl
  | dic _ l => obtain ⟨a, ks, vs, rfl, _⟩ := h.dic gh; rfl
theorem toPDs_any (a : D) {m : Nat} (ha : a.dep = some m) : ∀ ys : List D, ys.all D.flat = true → ((toPDs ys).any fun z => PyData.eqv z (toPD a)) = ys.any fun y => y.eqv a
  | [], _ => rfl
  | y :: ys, h => by
    simp only [List.all_cons, Bool.and_eq_true] at h
    obtain ⟨n, hn, _⟩ := D.flat_dep h.1
    simp only [toPDs, List.any_cons]
    rw [eqv_pd y a hn ha, toPDs_any a ha ys h.2]
theorem depA_all : ∀ {ys : List D}, ys.all D.flat = true → ∃ m, depA ys = some m
  | [], _ => ⟨1, rfl⟩
  | y :: ys, h => by
    simp only [List.all_cons, Bool.and_eq_true] at h
    obtain ⟨n, hn, _⟩ := D.flat_dep h.1
    obtain ⟨m, hm⟩ := depA_all h.2
    exact ⟨_, by simp only [depA, hn, hm]; rfl⟩
theorem inA_of {G H : Hp} {Q : VK} {a c : D} {ys : List D} {v u : V} {neg : Bool} (gh : Same G H) (hc : c = .lst ys ∨ c = .tup ys) (ra : RW g G H a v) (rc : RW g G H c u) (fa : a.flat = true) (fs : ys.all D.flat = true)
    (q : Q (.bl (if neg then !ys.any fun y => y.eqv a else ys.any fun y => y.eqv a)) H) : rInA g.K neg v u H Q := by
  obtain ⟨m, hm, _⟩ := D.flat_dep fa
  obtain ⟨n, hn⟩ := depA_all fs
  obtain ⟨d1, d2, d3⟩ := ra.dp gh fa
  refine ⟨toPD a, toPDs ys, d1, ?_, d2, d3, ?_, by rw [toPDs_any a hm ys fs]; exact q⟩
  · rcases hc with rfl | rfl
    · obtain ⟨p, vs, rfl, s, r⟩ := rc.seqL gh
      exact .inl (.lst s (RepA.dp ys (RepA.same gh r) hn))
    · obtain ⟨p, vs, rfl, s, r⟩ := rc.seqT gh
      exact .inr (.tup s (RepA.dp ys (RepA.same gh r) hn))
  · rcases hc with rfl | rfl
    · obtain ⟨p, vs, rfl, s, r⟩ := rc.seqL gh
      exact RepA.canLay ys r hn
    · obtain ⟨p, vs, rfl, s, r⟩ := rc.seqT gh
      exact RepA.canLay ys r hn
theorem mem_contains {c : Nat} {y : List Nat} : decide (c ∈ y) = y.contains c := by
  rw [Bool.eq_iff_iff]
  simp
theorem cmp_ok (C : Cn g N sc k W X) (op : CmpOp) : ∃ r : R2, OpR X (compareOp op) r ∧ ∀ (x y : D) (v u : V) (G H : Hp) (σ : L2.St) (Q : VK), Same G H → RW g G H x v → RW g G H y u → Post g ex W (RS g) (cmpD op x y) G H σ Q → r v u H Q := by
  have hu := C.room.units
  have intsC : ∀ (op' : CmpOp) (p : Int → Int → Bool), OpR X (compareOp op') (rI0 fun i j => .bl (p i j)) → (∀ x y, cmpD op' x y = match x, y with | .int i, .int j => .ok (.bl (p i j)) | _, _ => .bad) →
      ∃ r : R2, OpR X (compareOp op') r ∧ ∀ (x y : D) (v u : V) (G H : Hp) (σ : L2.St) (Q : VK), Same G H → RW g G H x v → RW g G H y u → Post g ex W (RS g) (cmpD op' x y) G H σ Q → r v u H Q :=
    fun op' p ho he => ⟨_, ho, fun x y v u G H σ Q gh rx ry h => by
      rw [he] at h
      cases x with
      | int i =>
        cases y with
        | int j =>
          cases rx.int; cases ry.int
          exact ⟨i, j, rfl, rfl, Post.val (R := RS g) (d := .bl (p i j)) gh h rfl⟩
        | _ => exact False.elim h
      | _ => exact False.elim h⟩
  cases op with
  | Eq =>
    refine ⟨_, (rEqA_ok C).1, fun x y v u G H σ Q gh rx ry h => ?_⟩
    obtain ⟨f, h⟩ := Post.ite (c := (x.flat && y.flat) = true) h
    obtain ⟨f1, f2⟩ := Bool.and_eq_true_iff.mp f
    obtain ⟨a1, a2, a3⟩ := rx.dp gh f1
    obtain ⟨b1, b2, b3⟩ := ry.dp gh f2
    obtain ⟨m, hm, _⟩ := D.flat_dep f1
    obtain ⟨n, hn, _⟩ := D.flat_dep f2
    exact ⟨_, _, a1, b1, shaped_of a2 a3, shaped_of b2 b3, by rw [eqv_pd x y hm hn]; exact h.val gh rfl⟩
  | NotEq =>
    refine ⟨_, (rEqA_ok C).2, fun x y v u G H σ Q gh rx ry h => ?_⟩
    obtain ⟨f, h⟩ := Post.ite (c := (x.flat && y.flat) = true) h
    obtain ⟨f1, f2⟩ := Bool.and_eq_true_iff.mp f
    obtain ⟨a1, a2, a3⟩ := rx.dp gh f1
    obtain ⟨b1, b2, b3⟩ := ry.dp gh f2
    obtain ⟨m, hm, _⟩ := D.flat_dep f1
    obtain ⟨n, hn, _⟩ := D.flat_dep f2
    exact ⟨_, _, a1, b1, shaped_of a2 a3, shaped_of b2 b3, by rw [eqv_pd x y hm hn]; exact h.val gh rfl⟩
  | Lt => exact intsC _ _ op_lt fun x y => by cases x <;> cases y <;> rfl
  | LtE => exact intsC _ _ op_le fun x y => by cases x <;> cases y <;> rfl
  | Gt => exact intsC _ _ op_gt fun x y => by cases x <;> cases y <;> rfl
  | GtE => exact intsC _ _ op_ge fun x y => by cases x <;> cases y <;> rfl
  | Is =>
    refine ⟨_, op_isN, fun x y v u G H σ Q gh rx ry h => ?_⟩
    cases y with
    | non =>
      cases ry.non
      refine ⟨rfl, ?_⟩
      rw [isN_ok gh rx]
      exact h.val gh rfl
    | _ => cases x <;> exact False.elim h
  | IsNot =>
    refine ⟨_, op_notN, fun x y v u G H σ Q gh rx ry h => ?_⟩
    cases y with
    | non =>
      cases ry.non
      refine ⟨rfl, ?_⟩
      rw [isN_ok gh rx]
      exact h.val gh rfl
    | _ => cases x <;> exact False.elim h
  | In =>
    have h1 : OpR X (compareOp .In) (rInA g.K false) := C.K ▸ op_inA hu
    refine ⟨_, OpR.or op_in_sign (OpR.or h1 (op_inDict C.K C.w hu)), fun x y v u G H σ Q gh rx ry h => ?_⟩
    cases y with
    | str b =>
      cases x with
      | str a =>
        match a, rx, h with
        | [], _, h => exact False.elim h
        | [c], rx, h =>
          obtain ⟨rfl, _⟩ := rx.str
          obtain ⟨rfl, _⟩ := ry.str
          refine .inl ⟨c, toStr b, rfl, rfl, ?_⟩
          rw [toStr_cps, mem_contains]
          exact h.val gh rfl
        | _ :: _ :: _, _, h => exact False.elim h
      | _ => exact False.elim h
    | lst ys =>
      have h' : Post g ex W (RS g) (if (x.flat && ys.all D.flat) = true then .ok (.bl (ys.any fun y => y.eqv x)) else .bad) G H σ Q := by
        cases x <;> try exact h
        rename_i l; match l, h with | [], h => exact h | [_], h => exact h | _ :: _ :: _, h => exact h
      obtain ⟨f, h'⟩ := Post.ite (c := (x.flat && ys.all D.flat) = true) h'
      obtain ⟨f1, f2⟩ := Bool.and_eq_true_iff.mp f
      exact .inr (.inl (inA_of gh (.inl rfl) rx ry f1 f2 (h'.val gh rfl)))
    | tup ys =>
      have h' : Post g ex W (RS g) (if (x.flat && ys.all D.flat) = true then .ok (.bl (ys.any fun y => y.eqv x)) else .bad) G H σ Q := by
        cases x <;> try exact h
        rename_i l; match l, h with | [], h => exact h | [_], h => exact h | _ :: _ :: _, h => exact h
      obtain ⟨f, h'⟩ := Post.ite (c := (x.flat && ys.all D.flat) = true) h'
      obtain ⟨f1, f2⟩ := Bool.and_eq_true_iff.mp f
      exact .inr (.inl (inA_of gh (.inr rfl) rx ry f1 f2 (h'.val gh rfl)))
    | dic kd ys =>
      have h' : Post g ex W (RS g) (if keyOk kd x = true then .ok (.bl (ys.any fun p => p.1.eqv x)) else .bad) G H σ Q := by
        cases x <;> try exact h
        rename_i l; match l, h with | [], h => exact h | [_], h => exact h | _ :: _ :: _, h => exact h
      obtain ⟨f, h'⟩ := Post.ite (c := keyOk kd x = true) h'
      obtain ⟨a, ks, vs, rfl, hd, r⟩ := ry.dic gh
      obtain ⟨o, dl, m⟩ := dat_look gh hd r f rx
      rw [any_look] at h'
      refine .inr (.inr (inDict_of dl ?_))
      have e : o.isSome = (lookD x ys).isSome := by
        cases q : lookD x ys with
        | none => rw [q] at m; rw [show o = none from m]; rfl
        | some d => rw [q] at m; obtain ⟨v', rfl, _⟩ := m; rfl
      show Q (.bl o.isSome) H
      rw [e]
      exact h'.val gh rfl
    | _ => cases x <;> first | exact False.elim h | (rename_i l; match l, h with | [], h => exact False.elim h | [_], h => exact False.elim h | _ :: _ :: _, h => exact False.elim h)
  | NotIn =>
    have h1 : OpR X (compareOp .NotIn) (rInA g.K true) := C.K ▸ op_notInA hu
    refine ⟨_, OpR.or op_notIn_sign (OpR.or h1 (op_notInDict C.K C.w hu)), fun x y v u G H σ Q gh rx ry h => ?_⟩
    cases y with
    | str b =>
      cases x with
      | str a =>
        match a, rx, h with
        | [], _, h => exact False.elim h
        | [c], rx, h =>
          obtain ⟨rfl, _⟩ := rx.str
          obtain ⟨rfl, _⟩ := ry.str
          refine .inl ⟨c, toStr b, rfl, rfl, ?_⟩
          rw [toStr_cps, mem_contains]
          exact h.val gh rfl
        | _ :: _ :: _, _, h => exact False.elim h
      | _ => exact False.elim h
    | lst ys =>
      have h' : Post g ex W (RS g) (if (x.flat && ys.all D.flat) = true then .ok (.bl (!ys.any fun y => y.eqv x)) else .bad) G H σ Q := by
        cases x <;> try exact h
        rename_i l; match l, h with | [], h => exact h | [_], h => exact h | _ :: _ :: _, h => exact h
      obtain ⟨f, h'⟩ := Post.ite (c := (x.flat && ys.all D.flat) = true) h'
      obtain ⟨f1, f2⟩ := Bool.and_eq_true_iff.mp f
      exact .inr (.inl (inA_of gh (.inl rfl) rx ry f1 f2 (h'.val gh rfl)))
    | tup ys =>
      have h' : Post g ex W (RS g) (if (x.flat && ys.all D.flat) = true then .ok (.bl (!ys.any fun y => y.eqv x)) else .bad) G H σ Q := by
        cases x <;> try exact h
        rename_i l; match l, h with | [], h => exact h | [_], h => exact h | _ :: _ :: _, h => exact h
      obtain ⟨f, h'⟩ := Post.ite (c := (x.flat && ys.all D.flat) = true) h'
      obtain ⟨f1, f2⟩ := Bool.and_eq_true_iff.mp f
      exact .inr (.inl (inA_of gh (.inr rfl) rx ry f1 f2 (h'.val gh rfl)))
    | dic kd ys =>
      have h' : Post g ex W (RS g) (if keyOk kd x = true then .ok (.bl (!ys.any fun p => p.1.eqv x)) else .bad) G H σ Q := by
        cases x <;> try exact h
        rename_i l; match l, h with | [], h => exact h | [_], h => exact h | _ :: _ :: _, h => exact h
      obtain ⟨f, h'⟩ := Post.ite (c := keyOk kd x = true) h'
      obtain ⟨a, ks, vs, rfl, hd, r⟩ := ry.dic gh
      obtain ⟨o, dl, m⟩ := dat_look gh hd r f rx
      rw [any_look] at h'
      refine .inr (.inr (inDict_of dl ?_))
      have e : o.isSome = (lookD x ys).isSome := by
        cases q : lookD x ys with
        | none => rw [q] at m; rw [show o = none from m]; rfl
        | some d => rw [q] at m; obtain ⟨v', rfl, _⟩ := m; rfl
      show Q (.bl (!o.isSome)) H
      rw [e]
      exact h'.val gh rfl
    | _ => cases x <;> first | exact False.elim h | (rename_i l; match l, h with | [], h => exact False.elim h | [_], h => exact False.elim h | _ :: _ :: _, h => exact False.elim h)
theorem pq_cmp (C : Cn g N sc k W X) {op : CmpOp} {a b : Expr} {fa fb : Pv.Env → Res D} {pos : Pos} (ha : PEq g ex W (RW g) X a fa) (hb : PEq g ex W (RW g) X b fb) (hm : behindInMarks op b = false) :
    PEq g ex W (RS g) X (.Compare a [op] [b] pos) (fun e => (fa e).bind fun x => (fb e).bind fun y => cmpD op x y) := by
  obtain ⟨r, ho, hr⟩ := cmp_ok (ex := ex) C op
  refine (pe_cmpR ho ha hb hm).imp fun σ H Q h => ?_
  refine h.bind fun e H0 G0 x v H1 G1 F1 R1 p1 => ⟨e, H0, G0, G1, F1, p1.bind fun y u H2 G2 E2 R2 p2 => ?_⟩
  exact hr x y v u G2 H2 σ Q E2.gh (Rl.ext (g := g) E2 R1) R2 p2
end
end Pv

namespace Pv
open PySem PySem.Spec L2
theorem cmpD_bl {op : CmpOp} {x y d : D} (h : cmpD op x y = .ok d) : ∃ b, d = .bl b := by
  unfold cmpD at h
  split at h <;> first | (cases h; exact ⟨_, rfl⟩) | (split at h <;> first | (cases h; exact ⟨_, rfl⟩) | cases h) | cases h
/-- weak lists of values -/
inductive RAw (g : Gr) (G H : Hp) : List D → List V → Prop where
  | nil : RAw g G H [] []
  | cons {d ds v vs} : RW g G H d v → RAw g G H ds vs → RAw g G H (d :: ds) (v :: vs)
def RAs (g : Gr) : Hp → Hp → List D → List V → Prop := fun G _ => RepA g G
section
variable {g : Gr} {ex : Nat → Option (Addr × Option Str)} {W : WX} {X : Cx} {N : List Str} {sc : Scope} {k : Nat}
def RB : Hp → Hp → Bool → Bool → Prop := fun _ _ a b => a = b
def RO : Hp → Hp → Option Int → Option Int → Prop := fun _ _ a b => a = b
theorem RAw.ext {G H G' H' : Hp} (e : Ext G H G' H') : ∀ {ds : List D} {vs : List V}, RAw g G H ds vs → RAw g G' H' ds vs
  | _, _, .nil => .nil
  | _, _, .cons h t => .cons (Rl.ext (g := g) e h) (RAw.ext e t)
theorem RAw.of {G H : Hp} : ∀ {ds : List D} {vs : List V}, RepA g G ds vs → RAw g G H ds vs
  | [], _, h => by unfold RepA at h; subst h; exact .nil
  | _ :: _, _, h => by
    unfold RepA at h
    obtain ⟨v, r, rfl, s, t⟩ := h
    exact .cons (.inl s) (RAw.of t)
/-! tests -/
abbrev PTq (g : Gr) (ex : Nat → Option (Addr × Option Str)) (W : WX) (X : Cx) (e : Expr) (f : Pv.Env → Res D) : Prop := PT X e (tq g ex W RB fun e => (f e).bind D.truth)
abbrev PWq (g : Gr) (ex : Nat → Option (Addr × Option Str)) (W : WX) (X : Cx) (e : Expr) (f : Pv.Env → Res D) : Prop := PW X e (tq g ex W RB fun e => (f e).bind D.truth)
theorem Post.truth {G H : Hp} {σ : L2.St} {d : D} {v : V} {Q : Bool → Hp → Prop} (gh : Same G H) (h : RW g G H d v) (p : Post g ex W RB d.truth G H σ Q) : ∃ k, TruV g.K v H k ∧ Q k H := by
  cases e : d.truth with
  | ok b => rw [e] at p; exact ⟨b, truth_ok gh h e, p.val gh rfl⟩
  | exc c p' => exact absurd e truth_ne
  | bad => rw [e] at p; exact p.elim
theorem ptq_gen (C : Cn g N sc k W X) {e : Expr} {f : Pv.Env → Res D} (h : PEq g ex W (RW g) X e f) (he : ∀ whole, isTrue e X.env whole = (do let v ← whole; standAt e.pos; holding [v] (truthy v))) : PTq g ex W X e f := by
  refine (pt_truth h he).imp fun σ H Q q => ?_
  refine q.bind fun e H0 G0 x v H1 G1 F1 R1 p1 => ?_
  rw [C.K]
  exact Post.truth F1.gh R1 p1
theorem ptq_cmp (C : Cn g N sc k W X) {op : CmpOp} {a b : Expr} {fa fb : Pv.Env → Res D} {pos : Pos} (ha : PEq g ex W (RW g) X a fa) (hb : PEq g ex W (RW g) X b fb) (hm : behindInMarks op b = false) :
    PTq g ex W X (.Compare a [op] [b] pos) (fun e => (fa e).bind fun x => (fb e).bind fun y => cmpD op x y) := by
  obtain ⟨r, ho, hr⟩ := cmp_ok (ex := ex) C op
  refine (pt_cmpR ho ha hb hm).imp fun σ H Q h => ?_
  obtain ⟨e, H0, G0, G, F, p⟩ := h
  refine ⟨e, H0, G0, G, F, ?_⟩
  have p' : Post g ex W RB ((fa e).bind fun x => ((fb e).bind fun y => cmpD op x y).bind D.truth) G H σ Q := by
    cases hx : fa e <;> (simp only [hx] at p; exact p)
  refine p'.bind fun x v H1 G1 E1 R1 p1 => ⟨e, H0, G0, G1, F.ext E1, ?_⟩
  have p1' : Post g ex W RB ((fb e).bind fun y => (cmpD op x y).bind D.truth) G1 H1 σ Q := by
    cases hx : fb e <;> (simp only [hx] at p1; exact p1)
  refine p1'.bind fun y u H2 G2 E2 R2 p2 => ?_
  refine hr x y v u G2 H2 σ _ E2.gh (Rl.ext (g := g) E2 R1) R2 (p2.bindE fun z w H3 G3 ez E3 R3 p3 => ?_)
  obtain ⟨b, rfl⟩ := cmpD_bl ez
  cases (show w = .bl b from R3)
  exact ⟨b, rfl, p3.val E3.gh rfl⟩
/-! and, or, not -/
def fAnd (fa fb : Pv.Env → Res D) : Pv.Env → Res D := fun e => (fa e).bind fun x => x.truth.bind fun t => if t then fb e else .ok x
def fOr (fa fb : Pv.Env → Res D) : Pv.Env → Res D := fun e => (fa e).bind fun x => x.truth.bind fun t => if t then .ok x else fb e
def fNot (fa : Pv.Env → Res D) : Pv.Env → Res D := fun e => (fa e).bind fun x => x.truth.bind fun t => .ok (.bl (!t))
def fIte (ft fa fb : Pv.Env → Res D) : Pv.Env → Res D := fun e => (ft e).bind fun x => x.truth.bind fun t => if t then fa e else fb e
theorem bind_assoc {α β γ : Type} (r : Res α) (f : α → Res β) (h : β → Res γ) : (r.bind f).bind h = r.bind fun x => (f x).bind h := by cases r <;> rfl
theorem truth_and (fa fb : Pv.Env → Res D) (e : Pv.Env) : (fAnd fa fb e).bind D.truth = ((fa e).bind D.truth).bind fun t => if t then (fb e).bind D.truth else .ok false := by
  unfold fAnd
  rw [bind_assoc, bind_assoc]
  congr 1
  funext x
  rw [bind_assoc]
  cases hx : x.truth with
  | ok t => cases t <;> simp [Res.bind, hx]
  | exc c p => rfl
  | bad => rfl
theorem truth_or (fa fb : Pv.Env → Res D) (e : Pv.Env) : (fOr fa fb e).bind D.truth = ((fa e).bind D.truth).bind fun t => if t then .ok true else (fb e).bind D.truth := by
  unfold fOr
  rw [bind_assoc, bind_assoc]
  congr 1
  funext x
  rw [bind_assoc]
  cases hx : x.truth with
  | ok t => cases t <;> simp [Res.bind, hx]
  | exc c p => rfl
  | bad => rfl
theorem truth_not (fa : Pv.Env → Res D) (e : Pv.Env) : (fNot fa e).bind D.truth = ((fa e).bind D.truth).bind fun t => .ok (!t) := by
  unfold fNot
  rw [bind_assoc, bind_assoc]
  congr 1
  funext x
  rw [bind_assoc]
  cases hx : x.truth <;> rfl
theorem truth_ite (ft fa fb : Pv.Env → Res D) (e : Pv.Env) : (fIte ft fa fb e).bind D.truth = ((ft e).bind D.truth).bind fun t => if t then (fa e).bind D.truth else (fb e).bind D.truth := by
  unfold fIte
  rw [bind_assoc, bind_assoc]
  congr 1
  funext x
  rw [bind_assoc]
  cases hx : x.truth with
  | ok t => cases t <;> rfl
  | exc c p => rfl
  | bad => rfl
theorem pwq_and {a b : Expr} {rest : List Expr} {fa fb : Pv.Env → Res D} {pos : Pos} (ha : PTq g ex W X a fa) (hb : PWq g ex W X (.BoolOp .And (b :: rest) pos) fb) : PWq g ex W X (.BoolOp .And (a :: b :: rest) pos) (fAnd fa fb) := by
  refine (pw_and ha hb).imp fun σ H Q h => ?_
  obtain ⟨e, H0, G0, G, F, p⟩ := h
  dsimp only at p; rw [truth_and] at p
  refine ⟨e, H0, G0, G, F, p.bind fun t c H1 G1 E1 R1 p1 => ?_⟩
  cases (show t = c from R1)
  cases t with
  | true => rw [if_pos rfl] at p1 ⊢; exact ⟨e, H0, G0, G1, F.ext E1, p1⟩
  | false => rw [if_neg Bool.false_ne_true] at p1 ⊢; exact p1.val E1.gh rfl
theorem pwq_or {a b : Expr} {rest : List Expr} {fa fb : Pv.Env → Res D} {pos : Pos} (ha : PTq g ex W X a fa) (hb : PWq g ex W X (.BoolOp .Or (b :: rest) pos) fb) : PWq g ex W X (.BoolOp .Or (a :: b :: rest) pos) (fOr fa fb) := by
  refine (pw_or ha hb).imp fun σ H Q h => ?_
  obtain ⟨e, H0, G0, G, F, p⟩ := h
  dsimp only at p; rw [truth_or] at p
  refine ⟨e, H0, G0, G, F, p.bind fun t c H1 G1 E1 R1 p1 => ?_⟩
  cases (show t = c from R1)
  cases t with
  | true => rw [if_pos rfl] at p1 ⊢; exact p1.val E1.gh rfl
  | false => rw [if_neg Bool.false_ne_true] at p1 ⊢; exact ⟨e, H0, G0, G1, F.ext E1, p1⟩
theorem ptq_not {a : Expr} {fa : Pv.Env → Res D} {pos : Pos} (ha : PTq g ex W X a fa) : PTq g ex W X (.UnaryOp .Not a pos) (fNot fa) := by
  refine (pt_not ha).imp fun σ H Q h => ?_
  obtain ⟨e, H0, G0, G, F, p⟩ := h
  dsimp only at p; rw [truth_not] at p
  refine ⟨e, H0, G0, G, F, p.bind fun t c H1 G1 E1 R1 p1 => ?_⟩
  cases (show t = c from R1)
  exact p1.val E1.gh rfl
theorem pq_and (C : Cn g N sc k W X) {R : RelR} [Rl g R] {a b : Expr} {rest : List Expr} {fa fb : Pv.Env → Res D} {pos : Pos} (ha : PEq g ex W (RS g) X a fa) (hb : PEq g ex W (RS g) X (.BoolOp .And (b :: rest) pos) fb) : PEq g ex W (RS g) X (.BoolOp .And (a :: b :: rest) pos) (fAnd fa fb) := by
  refine (pe_andT ha hb).imp fun σ H Q h => ?_
  obtain ⟨e, H0, G0, G, F, p⟩ := h
  refine ⟨e, H0, G0, G, F, p.bind fun x v H1 G1 E1 R1 p1 => ?_⟩
  rw [C.K]
  obtain ⟨t, ht, q⟩ := Post.truth (Q := fun t H1 => if t = true then tq g ex W (RS g) fb σ H1 Q else Q v H1) E1.gh (.inl R1) (p1.bind fun t c H2 G2 E2 R2 p2 => by
    cases (show t = c from R2)
    cases t with
    | true => rw [if_pos rfl] at p2 ⊢; exact ⟨e, H0, G0, G2, (F.ext E1).ext E2, p2⟩
    | false => rw [if_neg Bool.false_ne_true] at p2 ⊢; exact p2.val E2.gh (Rep.same E2.g R1))
  exact ⟨t, ht, q⟩
theorem pq_or (C : Cn g N sc k W X) {R : RelR} [Rl g R] {a b : Expr} {rest : List Expr} {fa fb : Pv.Env → Res D} {pos : Pos} (ha : PEq g ex W (RS g) X a fa) (hb : PEq g ex W (RS g) X (.BoolOp .Or (b :: rest) pos) fb) : PEq g ex W (RS g) X (.BoolOp .Or (a :: b :: rest) pos) (fOr fa fb) := by
  refine (pe_orT ha hb).imp fun σ H Q h => ?_
  obtain ⟨e, H0, G0, G, F, p⟩ := h
  refine ⟨e, H0, G0, G, F, p.bind fun x v H1 G1 E1 R1 p1 => ?_⟩
  rw [C.K]
  obtain ⟨t, ht, q⟩ := Post.truth (Q := fun t H1 => if t = true then Q v H1 else tq g ex W (RS g) fb σ H1 Q) E1.gh (.inl R1) (p1.bind fun t c H2 G2 E2 R2 p2 => by
    cases (show t = c from R2)
    cases t with
    | true => rw [if_pos rfl] at p2 ⊢; exact p2.val E2.gh (Rep.same E2.g R1)
    | false => rw [if_neg Bool.false_ne_true] at p2 ⊢; exact ⟨e, H0, G0, G2, (F.ext E1).ext E2, p2⟩)
  exact ⟨t, ht, q⟩
theorem pq_not (C : Cn g N sc k W X) {a : Expr} {fa : Pv.Env → Res D} {pos : Pos} (ha : PEq g ex W (RW g) X a fa) : PEq g ex W (RS g) X (.UnaryOp .Not a pos) (fNot fa) := by
  refine (pe_notT ha).imp fun σ H Q h => ?_
  obtain ⟨e, H0, G0, G, F, p⟩ := h
  refine ⟨e, H0, G0, G, F, p.bind fun x v H1 G1 E1 R1 p1 => ?_⟩
  rw [C.K]
  exact Post.truth (Q := fun t H1 => Q (.bl (!t)) H1) E1.gh R1 (p1.bind fun t c H2 G2 E2 R2 p2 => by
    cases (show t = c from R2)
    exact p2.val E2.gh rfl)
theorem pq_ite {t a b : Expr} {ft fa fb : Pv.Env → Res D} {pos : Pos} (ht : PTq g ex W X t ft) (ha : PEq g ex W (RS g) X a fa) (hb : PEq g ex W (RS g) X b fb) : PEq g ex W (RS g) X (.IfExp t a b pos) (fIte ft fa fb) := by
  refine (pe_ifExp ht ha hb).imp fun σ H Q h => ?_
  obtain ⟨e, H0, G0, G, F, p⟩ := h
  have p' : Post g ex W (RS g) (((ft e).bind D.truth).bind fun t => if t then fa e else fb e) G H σ Q := by rw [bind_assoc]; exact p
  refine ⟨e, H0, G0, G, F, p'.bind fun t c H1 G1 E1 R1 p1 => ?_⟩
  cases (show t = c from R1)
  cases t with
  | true => rw [if_pos rfl] at p1 ⊢; exact ⟨e, H0, G0, G1, F.ext E1, p1⟩
  | false => rw [if_neg Bool.false_ne_true] at p1 ⊢; exact ⟨e, H0, G0, G1, F.ext E1, p1⟩
/-! -a -/
theorem pq_neg {a : Expr} {fa : Pv.Env → Res D} {pos : Pos} (ha : PEq g ex W (RS g) X a fa) : PEq g ex W (RS g) X (.UnaryOp .USub a pos) (fun e => (fa e).bind fun x => match x with | .int i => .ok (.int (-i)) | _ => .bad) := by
  refine (pe_un un_neg ha).imp fun σ H Q h => ?_
  obtain ⟨e, H0, G0, G, F, p⟩ := h
  refine ⟨e, H0, G0, G, F, p.bind fun x v H1 G1 E1 R1 p1 => ?_⟩
  cases x with
  | int i =>
    cases (show v = .int i from R1)
    exact ⟨i, rfl, p1.val E1.gh rfl⟩
  | _ => exact False.elim p1
/-! a < b < c -/
def fCmp2 (op op' : CmpOp) (fa fb fc : Pv.Env → Res D) : Pv.Env → Res D := fun e => (fa e).bind fun x => (fb e).bind fun y => (cmpD op x y).bind fun r => match r with
    | .bl true => (fc e).bind fun z => cmpD op' y z
    | .bl false => .ok (.bl false)
    | _ => .bad
theorem chain_ok (C : Cn g N sc k W X) {op op' : CmpOp} : ∃ r r' : R2, OpR X (compareOp op) r ∧ OpR X (compareOp op') r' ∧ ∀ (fa fb fc : Pv.Env → Res D) (σ : L2.St) (H : Hp) (Q : VK),
    tq g ex W (RS g) (fCmp2 op op' fa fb fc) σ H Q → tChain r r' (tq g ex W (RW g) fa) (tq g ex W (RW g) fb) (tq g ex W (RW g) fc) σ H Q := by
  obtain ⟨r, ho, hr⟩ := cmp_ok (ex := ex) C op
  obtain ⟨r', ho', hr'⟩ := cmp_ok (ex := ex) C op'
  refine ⟨r, r', ho, ho', fun fa fb fc σ H Q h => ?_⟩
  obtain ⟨e, H0, G0, G, F, p⟩ := h
  refine ⟨e, H0, G0, G, F, p.bind fun x v H1 G1 E1 R1 p1 => ⟨e, H0, G0, G1, F.ext E1, p1.bind fun y u H2 G2 E2 R2 p2 => ?_⟩⟩
  refine hr x y v u G2 H2 σ _ E2.gh (Rl.ext (g := g) E2 R1) R2 (p2.bindE fun z w H3 G3 ez E3 R3 p3 => ?_)
  obtain ⟨b, rfl⟩ := cmpD_bl ez
  cases (show w = .bl b from R3)
  refine ⟨b, rfl, ?_⟩
  cases b with
  | false => rw [if_neg Bool.false_ne_true]; exact p3.val E3.gh rfl
  | true =>
    rw [if_pos rfl]
    refine ⟨e, H0, G0, G3, ((F.ext E1).ext E2).ext E3, Post.bind (k := fun z => cmpD op' y z) p3 fun z w H4 G4 E4 R4 p4 => ?_⟩
    exact hr' y z u w G4 H4 σ _ E4.gh (Rl.ext (g := g) (E3.trans E4) R2) R4 p4
theorem pq_cmp2 (C : Cn g N sc k W X) {op op' : CmpOp} {a b c : Expr} {fa fb fc : Pv.Env → Res D} {pos : Pos} (ha : PEq g ex W (RW g) X a fa) (hb : PEq g ex W (RW g) X b fb) (hc : PEq g ex W (RW g) X c fc)
    (hm : lastMarks [op, op'] [b, c] = false) : PEq g ex W (RS g) X (.Compare a [op, op'] [b, c] pos) (fCmp2 op op' fa fb fc) := by
  obtain ⟨r, r', ho, ho', h⟩ := chain_ok (ex := ex) C (op := op) (op' := op')
  exact (pe_chain ho ho' ha hb hc hm).imp fun σ H Q q => h fa fb fc σ H Q q
theorem cmp2_bl {op op' : CmpOp} {fa fb fc : Pv.Env → Res D} {e : Pv.Env} {d : D} (h : fCmp2 op op' fa fb fc e = .ok d) : ∃ b, d = .bl b := by
  unfold fCmp2 at h
  cases h1 : fa e with
  | ok x =>
    rw [h1] at h
    cases h2 : fb e with
    | ok y =>
      rw [h2] at h
      have h : ((cmpD op x y).bind fun r => match r with | .bl true => (fc e).bind fun z => cmpD op' y z | .bl false => .ok (.bl false) | _ => .bad) = .ok d := h
      cases h3 : cmpD op x y with
      | ok z =>
        obtain ⟨b, rfl⟩ := cmpD_bl h3
        rw [h3] at h
        cases b with
        | false => exact ⟨false, by cases h; rfl⟩
        | true =>
          have h : ((fc e).bind fun z => cmpD op' y z) = .ok d := h
          cases h4 : fc e with
          | ok w => rw [h4] at h; exact cmpD_bl h
          | exc c p => rw [h4] at h; cases h
          | bad => rw [h4] at h; cases h
      | exc c p => rw [h3] at h; cases h
      | bad => rw [h3] at h; cases h
    | exc c p => rw [h2] at h; cases h
    | bad => rw [h2] at h; cases h
  | exc c p => rw [h1] at h; cases h
  | bad => rw [h1] at h; cases h
theorem ptq_cmp2 (C : Cn g N sc k W X) {op op' : CmpOp} {a b c : Expr} {fa fb fc : Pv.Env → Res D} {pos : Pos} (ha : PEq g ex W (RW g) X a fa) (hb : PEq g ex W (RW g) X b fb) (hc : PEq g ex W (RW g) X c fc)
    (hm : lastMarks [op, op'] [b, c] = false) : PTq g ex W X (.Compare a [op, op'] [b, c] pos) (fCmp2 op op' fa fb fc) := by
  obtain ⟨r, r', ho, ho', h⟩ := chain_ok (ex := ex) C (op := op) (op' := op')
  refine (pt_chain ho ho' ha hb hc hm).imp fun σ H Q q => h fa fb fc σ H _ ?_
  obtain ⟨e, H0, G0, G, F, p⟩ := q
  refine ⟨e, H0, G0, G, F, p.bindE fun z w H3 G3 ez E3 R3 p3 => ?_⟩
  obtain ⟨b, rfl⟩ := cmp2_bl ez
  cases (show w = .bl b from R3)
  exact ⟨b, rfl, p3.val E3.gh rfl⟩
end
end Pv

namespace Pv
open PySem PySem.Spec L2
def notStar : Expr → Bool
  | .Starred _ _ => false
  | _ => true
theorem starEach_cons {e : Expr} (h : notStar e = true) (es : List Expr) (env : PySem.Env) : starEach (e :: es) env = (false, eval e env) :: starEach es env := by
  cases e <;> first | rfl | (cases h)
theorem starEach_all : ∀ {es : List Expr}, es.all notStar = true → ∀ env : PySem.Env, ∀ p ∈ starEach es env, p.1 = false
  | [], _, _, p, hp => by simp [starEach] at hp
  | e :: es, h, env, p, hp => by
    simp only [List.all_cons, Bool.and_eq_true] at h
    rw [starEach_cons h.1] at hp
    rcases List.mem_cons.mp hp with rfl | hp
    · rfl
    · exact starEach_all h.2 env p hp
theorem noStars {es : List Expr} (h : es.all notStar = true) (env : PySem.Env) (pos : Pos) : (backTo pos (starEach es env)).any (·.1) = false := by
  rw [List.any_eq_false]
  intro p hp
  unfold backTo at hp
  obtain ⟨q, hq, rfl⟩ := List.mem_map.mp hp
  have := starEach_all h env q hq
  simp [this]
def notSuper : Expr → Bool
  | .Call _ (_ :: _) _ _ => true
  | .Call _ _ _ _ => false
  | _ => true
theorem attrBase {o : Expr} (h : notSuper o = true) (f : Str) (env : PySem.Env) (whole : Sem Value) : attributeBase o f env whole = whole := by
  cases o with
  | Call a b c d =>
    cases b with
    | nil => cases h
    | cons x y => unfold attributeBase; cases a <;> rfl
  | _ => unfold attributeBase; rfl
def notSlice : Expr → Bool
  | .Slice _ _ _ _ => false
  | _ => true
theorem plainIx {b : Expr} (h : notSlice b = true) : PlainIx b := fun o i => by cases b <;> first | rfl | (cases h)
section
variable {g : Gr} {ex : Nat → Option (Addr × Option Str)} {W : WX} {X : Cx} {N : List Str} {sc : Scope} {k : Nat}
/-! ### argument lists -/
theorem lst_bind {α : Type} (r : Res α) (f : α → Res D) : (r.bind f).lst = r.bind fun x => (f x).lst := by cases r <;> rfl
theorem cons_lst (r : Res D) (x : D) : ((r.lst.bind fun l => Res.ok (D.lst (x :: l))) : Res D).lst = r.lst.bind fun l => .ok (x :: l) := by
  rw [lst_bind]
  rfl
abbrev PAq (g : Gr) (ex : Nat → Option (Addr × Option Str)) (W : WX) (R : Hp → Hp → List D → List V → Prop) (X : Cx) (es : List Expr) (f : Pv.Env → Res (List D)) : Prop := PA X es (tq g ex W R f)
theorem paq_nil {R : Hp → Hp → List D → List V → Prop} (h : ∀ G H, R G H [] []) : PAq g ex W R X [] (fun _ => .ok []) := by
  refine pa_nil.imp fun σ H Q q => ?_
  obtain ⟨e, H0, G0, G, F, p⟩ := q
  exact p.val F.gh (h G H)
theorem paq_cons {e : Expr} {es : List Expr} {fa : Pv.Env → Res D} {fs : Pv.Env → Res (List D)} (hs : notStar e = true) (ha : PEq g ex W (RS g) X e fa) (hr : PAq g ex W (RAs g) X es fs) :
    PAq g ex W (RAs g) X (e :: es) (fun e => (fa e).bind fun x => (fs e).bind fun l => .ok (x :: l)) := by
  refine (pa_cons ha hr (starEach_cons hs _ _)).imp fun σ H Q q => ?_
  obtain ⟨e, H0, G0, G, F, p⟩ := q
  refine ⟨e, H0, G0, G, F, p.bind fun x v H1 G1 E1 R1 p1 => ⟨e, H0, G0, G1, F.ext E1, p1.bind fun l vs H2 G2 E2 R2 p2 => ?_⟩⟩
  exact p2.val E2.gh (RepA.cons (Rep.same E2.g R1) R2)
theorem paq_consW {e : Expr} {es : List Expr} {fa : Pv.Env → Res D} {fs : Pv.Env → Res (List D)} (hs : notStar e = true) (ha : PEq g ex W (RW g) X e fa) (hr : PAq g ex W (RAw g) X es fs) :
    PAq g ex W (RAw g) X (e :: es) (fun e => (fa e).bind fun x => (fs e).bind fun l => .ok (x :: l)) := by
  refine (pa_cons ha hr (starEach_cons hs _ _)).imp fun σ H Q q => ?_
  obtain ⟨e, H0, G0, G, F, p⟩ := q
  refine ⟨e, H0, G0, G, F, p.bind fun x v H1 G1 E1 R1 p1 => ⟨e, H0, G0, G1, F.ext E1, p1.bind fun l vs H2 G2 E2 R2 p2 => ?_⟩⟩
  exact p2.val E2.gh (.cons (Rl.ext (g := g) E2 R1) R2)
/-! ### displays -/
theorem pq_tup {es : List Expr} {fs : Pv.Env → Res (List D)} {n : Nat} {pos : Pos} (h : PAq g ex W (RAs g) X es fs) : PEq g ex W (RS g) X (.Tuple es n pos) (fun e => (fs e).bind fun l => if l.length ≤ line then .ok (.tup l) else .bad) := by
  refine (pe_tup h).imp fun σ H Q q => ?_
  obtain ⟨e, H0, G0, G, F, p⟩ := q
  refine ⟨e, H0, G0, G, F, p.bind fun l vs H1 G1 E1 R1 p1 => ?_⟩
  obtain ⟨hl, p1⟩ := p1.ite
  have R1 : RepA g G1 l vs := R1
  exact ⟨by rw [R1.length, ← line_eq]; exact hl, Post.newT E1.gh R1 p1⟩
theorem pq_lst {es : List Expr} {fs : Pv.Env → Res (List D)} {pos : Pos} (h : PAq g ex W (RAs g) X es fs) : PEq g ex W (RS g) X (.List es pos) (fun e => (fs e).bind fun l => if l.length ≤ line then .ok (.lst l) else .bad) := by
  refine (pe_lst h).imp fun σ H Q q => ?_
  obtain ⟨e, H0, G0, G, F, p⟩ := q
  refine ⟨e, H0, G0, G, F, p.bind fun l vs H1 G1 E1 R1 p1 => ?_⟩
  obtain ⟨hl, p1⟩ := p1.ite
  have R1 : RepA g G1 l vs := R1
  exact ⟨by rw [R1.length, ← line_eq]; exact hl, Post.newL E1.gh R1 p1⟩
/-! ### subscripts -/
def rIxDict (g : Gr) : R2 := fun x y H Q => (∃ a v, x = .ref a ∧ DGet H a y (some v) ∧ Q v H) ∨ rIxD g.K g.w x y H Q
theorem ix_dict (hK : X.K = g.K) (hw : X.w = g.w) (hu : X.A.units + 64 < cLine) : IxR X (rIxDict g) := by
  intro value slice pins s σ H x y v u Q I rx ry h hs
  rcases h with ⟨a, v', rfl, dg, q⟩ | h
  · obtain rfl : v = Value.ref a := rx
    exact PyProof.Rows.tail_any (dict_typeIs I dg) PySem.F.slot_dict_getitem.lookup (d_getItem (by omega) I dg ry fun w' s' I' rw' => ⟨v', H, I', rw', q⟩) hs
  · rw [← hK, ← hw] at h
    exact ix_kdict value slice pins s σ H x y v u Q I rx ry h hs
theorem atL_eq {α : Type} (xs : List α) (i : Int) : atL xs i = atI xs i := by
  unfold atL atI
  have e : ixNat xs.length i = ixN xs.length i := rfl
  rw [e]
  cases ixN xs.length i <;> rfl
theorem ixN_lt {n : Nat} {i : Int} {j : Nat} (h : ixN n i = some j) : j < n := (ixN_seq h).2.1
theorem at_rep {G : Hp} {ds : List D} {vs : List V} {i : Int} {d : D} (r : RepA g G ds vs) (h : atL ds i = some d) : ∃ v, atI vs i = some v ∧ Rep g G d v := by
  rw [atL_eq] at h
  unfold atI at h ⊢
  rw [r.length]
  cases e : ixN ds.length i with
  | none => rw [e] at h; cases h
  | some j =>
    rw [e] at h
    exact r.get h
theorem sub_ok (C : Cn g N sc k W X) : ∃ r : R2, IxR X r ∧ ∀ (x y : D) (v u : V) (G H : Hp) (σ : L2.St) (Q : VK), Same G H → RW g G H x v → RW g G H y u → Post g ex W (RS g) (subD x y) G H σ Q → r v u H Q := by
  have h1 : IxR X (rIx g.K) := C.K ▸ ix_seq
  refine ⟨_, IxR.or h1 (ix_dict C.K C.w C.room.units), fun x y v u G H σ Q gh rx ry h => ?_⟩
  cases x with
  | tup l =>
    cases y with
    | int i =>
      cases ry.int
      obtain ⟨p, vs, rfl, s, r⟩ := rx.seqT gh
      have h : Post g ex W (RS g) (match atL l i with | some d => .ok d | none => .bad) G H σ Q := h
      cases e : atL l i with
      | none => rw [e] at h; exact h.elim
      | some d =>
        rw [e] at h
        obtain ⟨v', ev', rv⟩ := at_rep r e
        exact .inl (.inr (.inl ⟨p, vs, i, v', rfl, rfl, s, ev', h.val gh rv⟩))
    | _ => exact False.elim h
  | lst l =>
    cases y with
    | int i =>
      cases ry.int
      obtain ⟨p, vs, rfl, s, r⟩ := rx.seqL gh
      have h : Post g ex W (RS g) (match atL l i with | some d => .ok d | none => .bad) G H σ Q := h
      cases e : atL l i with
      | none => rw [e] at h; exact h.elim
      | some d =>
        rw [e] at h
        obtain ⟨v', ev', rv⟩ := at_rep r e
        exact .inl (.inl ⟨p, vs, i, v', rfl, rfl, s, ev', h.val gh rv⟩)
    | _ => exact False.elim h
  | str l =>
    cases y with
    | int i =>
      cases ry.int
      obtain ⟨rfl, so⟩ := rx.str
      obtain ⟨hl, h⟩ := Post.ite (c := l.length ≤ line) (r := match atL l i with | some c => Res.ok (D.str [c]) | none => .bad) h
      cases e : atL l i with
      | none => rw [e] at h; exact h.elim
      | some c =>
        rw [e] at h
        rw [atL_eq] at e
        refine .inl (.inr (.inr ⟨toStr l, i, c, rfl, rfl, len_le hl, e, h.val gh ⟨rfl, fun c' hc' => ?_⟩⟩))
        obtain ⟨j, _, hj, _⟩ := atI_get e
        rw [List.mem_singleton.mp hc']
        exact so c (List.mem_of_getElem? hj)
    | _ => exact False.elim h
  | dic kd l =>
    obtain ⟨f, h⟩ := Post.ite (c := keyOk kd y = true) (r := match lookD y l with | some d => Res.ok d | none => .bad) h
    obtain ⟨a, ks, vs, rfl, hd, r⟩ := rx.dic gh
    obtain ⟨o, dl, m⟩ := dat_look gh hd r f ry
    cases e : lookD y l with
    | none => rw [e] at h; exact h.elim
    | some d =>
      rw [e] at h m
      obtain ⟨v', rfl, rv⟩ := m
      rcases dl with dl | ⟨es, n, z, r', kd', ey, en, ro⟩
      · exact .inr (.inl ⟨a, v', rfl, dl, h.val gh rv⟩)
      · cases r' with
        | none => exact ro.elim
        | some u0 => exact .inr (.inr ⟨a, z, v', rfl, ey, ⟨es, n, u0, kd'.at_, kd'.lit, en, ro⟩, h.val gh rv⟩)
  | _ => exact False.elim h
theorem pq_sub (C : Cn g N sc k W X) {a b : Expr} {fa fb : Pv.Env → Res D} {pos : Pos} (ha : PEq g ex W (RW g) X a fa) (hb : PEq g ex W (RW g) X b fb) (hs : notSlice b = true) :
    PEq g ex W (RS g) X (.Subscript a b pos) (fun e => (fa e).bind fun x => (fb e).bind fun y => subD x y) := by
  obtain ⟨r, ho, hr⟩ := sub_ok (ex := ex) C
  refine (pe_ix ho ha hb (plainIx hs)).imp fun σ H Q h => ?_
  refine h.bind fun e H0 G0 x v H1 G1 F1 R1 p1 => ⟨e, H0, G0, G1, F1, p1.bind fun y u H2 G2 E2 R2 p2 => ?_⟩
  exact hr x y v u G2 H2 σ Q E2.gh (Rl.ext (g := g) E2 R1) R2 p2
/-! ### slices -/
abbrev POq (g : Gr) (ex : Nat → Option (Addr × Option Str)) (W : WX) (X : Cx) (e : Option Expr) (f : Pv.Env → Res (Option Int)) : Prop := PO X e (tq g ex W RO f)
theorem poq_none : POq g ex W X none (fun _ => .ok none) := by
  refine ⟨fun pins s σ H Q I h => po_none.run pins s σ H Q I ?_⟩
  obtain ⟨e, H0, G0, G, F, p⟩ := h
  exact p.val F.gh rfl
theorem poq_some {e : Expr} {f : Pv.Env → Res D} (h : PEq g ex W (RS g) X e f) : POq g ex W X (some e) (fun e => (f e).bind optI) := by
  refine ⟨fun pins s σ H Q I q => (po_some h).run pins s σ H Q I ?_⟩
  obtain ⟨e, H0, G0, G, F, p⟩ := q
  refine ⟨e, H0, G0, G, F, p.bind fun x v H1 G1 E1 R1 p1 => ?_⟩
  cases x with
  | int i =>
    cases (show v = .int i from R1)
    exact ⟨i, rfl, p1.val E1.gh rfl⟩
  | _ => exact False.elim p1
theorem cutIx_eq (n d : Nat) (o : Option Int) : cutIx n d o = HT.sIx n d o := by
  cases o with
  | none => rfl
  | some i => rfl
theorem cut_rep {G : Hp} {ds : List D} {vs : List V} (lo hi : Option Int) (r : RepA g G ds vs) : RepA g G (cutL ds lo hi) (cutV vs lo hi) := by
  unfold cutL cutV
  rw [cutIx_eq, cutIx_eq, r.length]
  exact (r.drop _).take _
theorem slc_ok (b : Bool) (C : Cn g N sc k W X) : ∃ r : V → Option Int → Option Int → Hp → VK → Prop, SlR X r ∧ ∀ (x : D) (lo hi : Option Int) (v : V) (G H : Hp) (σ : L2.St) (Q : VK), Same G H → RW g G H x v → Post g ex W (RSl g H) ((slcD x lo hi).bind (conv b)) G H σ Q → r v lo hi H Q := by
  have h1 : SlR X (rSlL g.K) := C.K ▸ sl_list
  have h2 : SlR X (rSlA g.K) := C.K ▸ sl_tupA
  refine ⟨_, SlR.or h1 (SlR.or h2 sl_str), fun x lo hi v G H σ Q gh rx h => ?_⟩
  cases x with
  | lst l =>
    obtain ⟨p, vs, rfl, s, r⟩ := rx.seqL gh
    exact .inl ⟨p, vs, rfl, s, Post.newS gh (cut_rep lo hi r) h⟩
  | tup l =>
    obtain ⟨p, vs, rfl, s, r⟩ := rx.seqT gh
    refine .inr (.inl ⟨p, vs, rfl, s, fun hw => ?_, fun _ p n => h _ _ _ (Ext.new gh n) (rep_tup gh n (cut_rep lo hi r))⟩)
    have e : cutL l lo hi = l := by
      unfold cutL
      rw [cutIx_eq, cutIx_eq, ← r.length, hw.1, hw.2, r.length]
      simp
    have h : Post g ex W (RSl g H) (.ok (.fro (.tup (cutL l lo hi)))) G H σ Q := h
    rw [e] at h
    rcases rx with rx | ⟨_, _, _, q, _⟩ | ⟨_, _, _, _, _, q, _⟩
    · exact Post.val gh h rx
    · cases q
    · cases q
  | str l =>
    obtain ⟨rfl, so⟩ := rx.str
    obtain ⟨hl, h⟩ := Post.iteB (c := l.length ≤ line) h
    refine .inr (.inr ⟨toStr l, rfl, len_le hl, ?_⟩)
    have e : cutS (toStr l) lo hi = toStr (cutL l lo hi) := by
      unfold cutS cutL
      rw [cutIx_eq, cutIx_eq, toStr_len]
    rw [e]
    refine Post.val gh h ⟨rfl, fun c hc => so c ?_⟩
    unfold cutL at hc
    exact List.mem_of_mem_drop (List.mem_of_mem_take hc)
  | _ => exact False.elim h
theorem pq_slc (C : Cn g N sc k W X) {a : Expr} {lo hi : Option Expr} {fa : Pv.Env → Res D} {fl fh : Pv.Env → Res (Option Int)} {p2 pos : Pos} (ha : PEq g ex W (RW g) X a fa) (hl : POq g ex W X lo fl) (hh : POq g ex W X hi fh) :
    PEq g ex W (RS g) X (.Subscript a (.Slice lo hi none p2) pos) (fun e => (fa e).bind fun x => (fl e).bind fun l => (fh e).bind fun h => slcD x l h) := by
  obtain ⟨r, ho, hr⟩ := slc_ok (ex := ex) false C
  refine (pe_slice ho ha hl hh).imp fun σ H Q h => ?_
  refine h.bind fun e H0 G0 x v H1 G1 F1 R1 p1 => ⟨e, H0, G0, G1, F1, p1.bind fun l l' H2 G2 E2 R2 p2 => ⟨e, H0, G0, G2, F1.ext E2, p2.bind fun m m' H3 G3 E3 R3 p3 => ?_⟩⟩
  cases (show l = l' from R2)
  cases (show m = m' from R3)
  exact hr x l m v G3 H3 σ Q E3.gh (Rl.ext (g := g) (E2.trans E3) R1) p3.conv0
end
end Pv

namespace Pv
open PySem PySem.Spec L2
section
variable {g : Gr} {ex : Nat → Option (Addr × Option Str)} {W : WX} {X : Cx} {N : List Str} {sc : Scope} {k : Nat}
/-- an expression that hands back a slot's content (perhaps a new list) -/
abbrev PNq (g : Gr) (ex : Nat → Option (Addr × Option Str)) (W : WX) (X : Cx) (e : Expr) (f : Pv.Env → Res Slot) : Prop := PE X e (fun σ H Q => tq g ex W (RSl g H) f σ H Q)
theorem Ext.frz {G H G1 H1 : Hp} {a : Addr} {o : HO} (e : Ext G H G1 H1) (ha : H1 a = some o) (gn : G1 a = none) (hn : H a = none) : Ext G H (upd G1 a o) H1 :=
  ⟨e.g.trans (same_upd gn), fun b u q => by
    by_cases hb : b = a
    · subst hb; rw [upd_same] at q; rw [ha]; exact q
    · rw [upd_ne hb] at q; exact e.gh b u q, e.h, fun b q => by
    by_cases hb : b = a
    · subst hb; exact .inr hn
    · rw [upd_ne hb] at q; exact e.nw b q⟩
theorem slot_val {G H G1 H1 : Hp} {s : Slot} {v : V} {d : D} (e : Ext G H G1 H1) (r : RSl g H G1 H1 s v) (hd : s.toD = .ok d) : ∃ G2, Ext G H G2 H1 ∧ Rep g G2 d v := by
  cases s with
  | no => exact r.elim
  | fro d' => cases hd; exact ⟨G1, e, r⟩
  | own ds =>
    cases hd
    obtain ⟨a, vs, rfl, ha, r, gn, hn⟩ := r
    refine ⟨_, e.frz ha gn hn, ?_⟩
    unfold Rep
    exact ⟨a, vs, rfl, .of upd_same, RepA.same (same_upd gn) r⟩
  | ownd kd kvs =>
    cases hd
    obtain ⟨a, ks, vs, rfl, ⟨u, hu⟩, hd, r, gn, hn⟩ := r
    refine ⟨_, e.frz hu gn hn, ?_⟩
    unfold Rep
    refine ⟨a, ks, vs, rfl, Same.dat (fun b o q => ?_) hd, RepK.same (same_upd gn) r⟩
    by_cases hb : b = a
    · simp only [hb, if_true] at q; rw [hu] at q; cases q; rw [hb, upd_same]
    · simp only [if_neg hb] at q; cases q
theorem PNq.value {e : Expr} {f : Pv.Env → Res Slot} (h : PNq g ex W X e f) : PEq g ex W (RS g) X e (fun e => (f e).bind Slot.toD) := by
  refine h.imp fun σ H Q q => ?_
  obtain ⟨e, H0, G0, G, F, p⟩ := q
  refine ⟨e, H0, G0, G, F, ?_⟩
  dsimp only at p
  cases hf : f e with
  | ok s =>
    rw [hf] at p
    have p : Post g ex W (RS g) s.toD G H σ Q := p
    intro v H1 G1 E1 R1
    cases hd : s.toD with
    | ok d =>
      rw [hd] at p
      obtain ⟨G2, E2, R2⟩ := slot_val E1 R1 hd
      exact p v H1 G2 E2 R2
    | exc c p' => cases s <;> cases hd
    | bad => rw [hd] at p; exact p.elim
  | exc c p' => rw [hf] at p; exact p
  | bad => rw [hf] at p; exact p
theorem PEq.slot {e : Expr} {f : Pv.Env → Res D} (h : PEq g ex W (RS g) X e f) : PNq g ex W X e (fun e => (f e).bind fun d => .ok (.fro d)) := by
  refine h.imp fun σ H Q q => ?_
  obtain ⟨e, H0, G0, G, F, p⟩ := q
  refine ⟨e, H0, G0, G, F, ?_⟩
  dsimp only at p
  cases hf : f e with
  | ok s => rw [hf] at p; exact fun v H1 G1 E1 R1 => p v H1 G1 E1 R1
  | exc c p' => rw [hf] at p; exact p
  | bad => rw [hf] at p; exact p
/-! ### lists, slices, sums as new lists -/
theorem pn_lst {es : List Expr} {fs : Pv.Env → Res (List D)} {pos : Pos} (h : PAq g ex W (RAs g) X es fs) : PNq g ex W X (.List es pos) (fun e => (fs e).bind fun l => if l.length ≤ line then .ok (.own l) else .bad) := by
  refine (pe_lst h).imp fun σ H Q q => ?_
  obtain ⟨e, H0, G0, G, F, p⟩ := q
  refine ⟨e, H0, G0, G, F, p.bind fun l vs H1 G1 E1 R1 p1 => ?_⟩
  obtain ⟨hl, p1⟩ := p1.ite
  have R1 : RepA g G1 l vs := R1
  exact ⟨by rw [R1.length, ← line_eq]; exact hl, fun p n => p1 _ _ _ (Ext.own E1.gh n) ⟨p, vs, rfl, upd_same, R1, E1.gh.free n, E1.h.free n⟩⟩
theorem Post.rsl {G H0 H1 : Hp} {H : Hp} {σ : L2.St} {r : Res Slot} {Q : VK} (e : Same H H1) (h : Post g ex W (RSl g H) r G H1 σ Q) : Post g ex W (RSl g H1) r G H1 σ Q :=
  h.rel fun G' H' s v r => by
    cases s with
    | no => exact r
    | fro d => exact r
    | own ds => obtain ⟨a, vs, h1, h2, h3, h4, h5⟩ := r; exact ⟨a, vs, h1, h2, h3, h4, e.free h5⟩
    | ownd kd kvs => obtain ⟨a, ks, vs, h1, h2, h3, h4, h5, h6⟩ := r; exact ⟨a, ks, vs, h1, h2, h3, h4, h5, e.free h6⟩
theorem pn_bin (C : Cn g N sc k W X) {op : Operator} {a b : Expr} {fa fb : Pv.Env → Res D} {pos : Pos} (ha : PEq g ex W (RW g) X a fa) (hb : PEq g ex W (RW g) X b fb) :
    PNq g ex W X (.BinOp a op b pos) (fun e => ((fa e).bind fun x => (fb e).bind fun y => binD op x y).bind (conv true)) := by
  obtain ⟨r, ho, hr⟩ := bin_ok (ex := ex) true C op
  refine (pe_op ho ha hb).imp fun σ H Q h => ?_
  obtain ⟨e, H0, G0, G, F, p⟩ := h
  dsimp only at p
  rw [bind_assoc] at p
  refine ⟨e, H0, G0, G, F, p.bind fun x v H1 G1 E1 R1 p1 => ⟨e, H0, G0, G1, F.ext E1, ?_⟩⟩
  rw [bind_assoc] at p1
  refine p1.bind fun y u H2 G2 E2 R2 p2 => ?_
  exact hr x y v u G2 H2 σ Q E2.gh (Rl.ext (g := g) E2 R1) R2 (Post.rsl (H0 := H2) (E1.h.trans E2.h) p2)
theorem pn_slc (C : Cn g N sc k W X) {a : Expr} {lo hi : Option Expr} {fa : Pv.Env → Res D} {fl fh : Pv.Env → Res (Option Int)} {p2 pos : Pos} (ha : PEq g ex W (RW g) X a fa) (hl : POq g ex W X lo fl) (hh : POq g ex W X hi fh) :
    PNq g ex W X (.Subscript a (.Slice lo hi none p2) pos) (fun e => ((fa e).bind fun x => (fl e).bind fun l => (fh e).bind fun h => slcD x l h).bind (conv true)) := by
  obtain ⟨r, ho, hr⟩ := slc_ok (ex := ex) true C
  refine (pe_slice ho ha hl hh).imp fun σ H Q h => ?_
  obtain ⟨e, H0, G0, G, F, p⟩ := h
  dsimp only at p
  rw [bind_assoc] at p
  refine ⟨e, H0, G0, G, F, p.bind fun x v H1 G1 E1 R1 p1 => ⟨e, H0, G0, G1, F.ext E1, ?_⟩⟩
  rw [bind_assoc] at p1
  refine p1.bind fun l l' H2 G2 E2 R2 p2 => ⟨e, H0, G0, G2, (F.ext E1).ext E2, ?_⟩
  rw [bind_assoc] at p2
  refine p2.bind fun m m' H3 G3 E3 R3 p3 => ?_
  cases (show l = l' from R2)
  cases (show m = m' from R3)
  exact hr x l m v G3 H3 σ Q E3.gh (Rl.ext (g := g) (E2.trans E3) R1) (Post.rsl (H0 := H3) ((E1.h.trans E2.h).trans E3.h) p3)
/-! ### defs -/
/-- what a def promises whose value is cF f -/
def spP (g : Gr) (ex : Nat → Option (Addr × Option Str)) (cF : Nat → List D → Res Slot) (f : Nat) : Sp := fun vs H Q E =>
  ∃ G ds, Same G H ∧ RepA g G ds vs ∧ Post g ex (fun c d _ H => E c d H) (RSl g H) (cF f ds) G H [] Q
def FnAt (g : Gr) (ex : Nat → Option (Addr × Option Str)) (cF : Nat → List D → Res Slot) (k fi : Nat) (name : Str) : Prop :=
  ∃ fa fd ps, g.mg name = some (.ref fa) ∧ FnOk g.P g.w g.K g.mg g.base (L2.CX g.P g.w) k fa fd ps (spP g ex cF fi) ∧ PySem.W.keepIn g.K (.ref fa) = true ∧ Binds g.K fd ps []
theorem pn_call (C : Cn g N sc k W X) {cF : Nat → List D → Res Slot} {fi : Nat} {x : Str} (hf : FnAt g ex cF k fi x) (hg : Gl X x) (hdb : (x == ("__debug__" : Str)) = false) {e : Expr} {es : List Expr} {fs : Pv.Env → Res (List D)} {p pos : Pos}
    (hs : (e :: es).all notStar = true) (ha : PAq g ex W (RAs g) X (e :: es) fs) : PNq g ex W X (.Call (.Name x p) (e :: es) [] pos) (fun e => (fs e).bind fun l => cF fi l) := by
  obtain ⟨fa, fd, ps, hm, F, hk, hb⟩ := hf
  have F' : FnOk X.prog X.w X.K X.mg X.base (L2.CX X.prog X.w) k fa fd ps (spP g ex cF fi) := by rw [C.prog, C.w, C.K, C.mg, C.base]; exact F
  have hb' : Binds X.K fd ps [] := by rw [C.K]; exact hb
  simp only [List.all_cons, Bool.and_eq_true] at hs
  refine (pe_callS (E := WE W) F' C.room hg (by rw [C.mg]; exact hm) (by rw [C.K]; exact hk) hb' (fun σ => passAt C.tk σ) ha hdb (starEach_cons hs.1 _ _) (noStars hs.2 _ _)).imp fun σ H Q q => ?_
  obtain ⟨e, H0, G0, G, F, p⟩ := q
  refine ⟨e, H0, G0, G, F, p.bind fun l vs H1 G1 E1 R1 p1 => ⟨G1, l, E1.gh, R1, ?_⟩⟩
  have p2 := Post.rsl (H0 := H1) E1.h p1
  cases hr : cF fi l with
  | ok s => rw [hr] at p2; exact p2
  | exc c p' => rw [hr] at p2; exact p2
  | bad => rw [hr] at p2; exact p2
/-! ### built-in functions and types -/
theorem callB_of {id : String} {r : List V → Hp → VK → Prop} {x : Str} {e : Expr} {es : List Expr} {fs : Pv.Env → Res (List D)} {bf : List D → Res Slot} {p pos : Pos} (C : Cn g N sc k W X)
    (hc : CallR X (.builtin id) r) (hg : Gl X x) (hm : g.mg x = none) (hv : bootBuiltins x = some (.builtin id)) (ha : PAq g ex W (RAw g) X (e :: es) fs) (hs : (e :: es).all notStar = true)
    (hr : ∀ (ds : List D) (vs : List V) (G H : Hp) (σ : L2.St) (Q : VK), Same G H → RAw g G H ds vs → Post g ex W (RSl g H) (bf ds) G H σ Q → r vs H Q) (hn : x ≠ "__name__") (hdb : (x == ("__debug__" : Str)) = false) :
    PNq g ex W X (.Call (.Name x p) (e :: es) [] pos) (fun e => (fs e).bind bf) := by
  simp only [List.all_cons, Bool.and_eq_true] at hs
  refine (pe_callB hc hg (by rw [C.mg]; exact hm) hv ha hn hdb (starEach_cons hs.1 _ _) (noStars hs.2 _ _)).imp fun σ H Q q => ?_
  obtain ⟨e, H0, G0, G, F, p⟩ := q
  exact ⟨e, H0, G0, G, F, p.bind fun l vs H1 G1 E1 R1 p1 => hr l vs G1 H1 σ Q E1.gh R1 (Post.rsl (H0 := H1) E1.h p1)⟩
theorem callT_of {T : String} {r : List V → Hp → VK → Prop} {x : Str} {e : Expr} {es : List Expr} {fs : Pv.Env → Res (List D)} {bf : List D → Res Slot} {p pos : Pos} (C : Cn g N sc k W X)
    (hc : CallR X (.type T) r) (hg : Gl X x) (hm : g.mg x = none) (hv : bootBuiltins x = some (.type T)) (ha : PAq g ex W (RAw g) X (e :: es) fs) (hs : (e :: es).all notStar = true)
    (hr : ∀ (ds : List D) (vs : List V) (G H : Hp) (σ : L2.St) (Q : VK), Same G H → RAw g G H ds vs → Post g ex W (RSl g H) (bf ds) G H σ Q → r vs H Q) (hn : x ≠ "__name__") (hdb : (x == ("__debug__" : Str)) = false) :
    PNq g ex W X (.Call (.Name x p) (e :: es) [] pos) (fun e => (fs e).bind bf) := by
  simp only [List.all_cons, Bool.and_eq_true] at hs
  refine (pe_callTy hc hg (by rw [C.mg]; exact hm) hv ha hn hdb (starEach_cons hs.1 _ _) (noStars hs.2 _ _)).imp fun σ H Q q => ?_
  obtain ⟨e, H0, G0, G, F, p⟩ := q
  exact ⟨e, H0, G0, G, F, p.bind fun l vs H1 G1 E1 R1 p1 => hr l vs G1 H1 σ Q E1.gh R1 (Post.rsl (H0 := H1) E1.h p1)⟩
/-! one argument, two -/
theorem raw1 {G H : Hp} {ds : List D} {vs : List V} {f : List D → Res Slot} {σ : L2.St} {Q : VK} {R : List V → Hp → VK → Prop} (r : RAw g G H ds vs) (p : Post g ex W (RSl g H) (f ds) G H σ Q)
    (h0 : f [] = .bad) (h2 : ∀ a b l, f (a :: b :: l) = .bad) (h : ∀ d v, RW g G H d v → Post g ex W (RSl g H) (f [d]) G H σ Q → R [v] H Q) : R vs H Q := by
  cases r with
  | nil => rw [h0] at p; exact p.elim
  | cons r1 t =>
    cases t with
    | nil => exact h _ _ r1 p
    | cons r2 t => rw [h2] at p; exact p.elim
theorem raw2 {G H : Hp} {ds : List D} {vs : List V} {f : List D → Res Slot} {σ : L2.St} {Q : VK} {R : List V → Hp → VK → Prop} (r : RAw g G H ds vs) (p : Post g ex W (RSl g H) (f ds) G H σ Q)
    (h0 : f [] = .bad) (h1 : ∀ a, f [a] = .bad) (h2 : ∀ a b c l, f (a :: b :: c :: l) = .bad) (h : ∀ d e v u, RW g G H d v → RW g G H e u → Post g ex W (RSl g H) (f [d, e]) G H σ Q → R [v, u] H Q) : R vs H Q := by
  cases r with
  | nil => rw [h0] at p; exact p.elim
  | cons r1 t =>
    cases t with
    | nil => rw [h1] at p; exact p.elim
    | cons r2 t =>
      cases t with
      | nil => exact h _ _ _ _ r1 r2 p
      | cons r3 t => rw [h2] at p; exact p.elim
def bfD (b : BI) : List D → Res Slot := fun l => (biD b l).bind (conv true)
theorem len_ok {ds : List D} {vs : List V} {G H : Hp} {σ : L2.St} {Q : VK} (gh : Same G H) (r : RAw g G H ds vs) (p : Post g ex W (RSl g H) (bfD .len ds) G H σ Q) : ∃ x n, vs = [x] ∧ LenV g.K x H n ∧ Q (.int n) H := by
  refine raw1 (f := bfD .len) (R := fun vs H Q => ∃ x n, vs = [x] ∧ LenV g.K x H n ∧ Q (.int n) H) r p rfl (fun _ _ _ => rfl) fun d v rv p => ?_
  cases d with
  | lst l =>
    obtain ⟨a, xs, rfl, s, r⟩ := rv.seqL gh
    exact ⟨_, xs.length, rfl, .inl ⟨xs, s, rfl⟩, by rw [r.length]; exact Post.val gh p rfl⟩
  | tup l =>
    obtain ⟨a, xs, rfl, s, r⟩ := rv.seqT gh
    exact ⟨_, xs.length, rfl, .inr ⟨xs, s, rfl⟩, by rw [r.length]; exact Post.val gh p rfl⟩
  | str l =>
    obtain ⟨rfl, _⟩ := rv.str
    have p : Post g ex W (RSl g H) ((if l.length ≤ line then Res.ok (D.int l.length) else .bad).bind (conv true)) G H σ Q := p
    obtain ⟨hl, p⟩ := p.iteB
    exact ⟨_, l.length, rfl, ⟨len_le hl, (toStr_len l).symm⟩, Post.val gh p rfl⟩
  | _ => exact False.elim p
theorem abs_ok {ds : List D} {vs : List V} {G H : Hp} {σ : L2.St} {Q : VK} (gh : Same G H) (r : RAw g G H ds vs) (p : Post g ex W (RSl g H) (bfD .abs ds) G H σ Q) : ∃ i, vs = [.int i] ∧ Q (.int (if i < 0 then -i else i)) H := by
  refine raw1 (f := bfD .abs) (R := fun vs H Q => ∃ i, vs = [.int i] ∧ Q (.int (if i < 0 then -i else i)) H) r p rfl (fun a b l => by cases a <;> rfl) fun d v rv p => ?_
  cases d with
  | int i => cases rv.int; exact ⟨i, rfl, Post.val gh p rfl⟩
  | _ => exact False.elim p
theorem int_ok {ds : List D} {vs : List V} {G H : Hp} {σ : L2.St} {Q : VK} (gh : Same G H) (r : RAw g G H ds vs) (p : Post g ex W (RSl g H) (bfD .int1 ds) G H σ Q) : (∃ i, vs = [.int i] ∧ Q (.int i) H) ∨ ∃ k, vs = [.bl k] ∧ Q (.int (if k then 1 else 0)) H := by
  refine raw1 (f := bfD .int1) (R := fun vs H Q => (∃ i, vs = [.int i] ∧ Q (.int i) H) ∨ ∃ k, vs = [.bl k] ∧ Q (.int (if k then 1 else 0)) H) r p rfl (fun a b l => by cases a <;> rfl) fun d v rv p => ?_
  cases d with
  | int i => cases rv.int; exact .inl ⟨i, rfl, Post.val gh p rfl⟩
  | bl b => cases rv.bl; exact .inr ⟨b, rfl, Post.val gh p rfl⟩
  | _ => exact False.elim p
theorem max2_ok {ds : List D} {vs : List V} {G H : Hp} {σ : L2.St} {Q : VK} (gh : Same G H) (r : RAw g G H ds vs) (p : Post g ex W (RSl g H) (bfD .max2 ds) G H σ Q) : ∃ i j, vs = [.int i, .int j] ∧ Q (.int (if j > i then j else i)) H := by
  refine raw2 (f := bfD .max2) (R := fun vs H Q => ∃ i j, vs = [.int i, .int j] ∧ Q (.int (if j > i then j else i)) H) r p rfl (fun a => by cases a <;> rfl) (fun a b c l => by cases a <;> cases b <;> rfl) fun d e v u rv ru p => ?_
  cases d with
  | int i =>
    cases e with
    | int j => cases rv.int; cases ru.int; exact ⟨i, j, rfl, Post.val gh p rfl⟩
    | _ => exact False.elim p
  | _ => exact False.elim p
theorem min2_ok {ds : List D} {vs : List V} {G H : Hp} {σ : L2.St} {Q : VK} (gh : Same G H) (r : RAw g G H ds vs) (p : Post g ex W (RSl g H) (bfD .min2 ds) G H σ Q) : ∃ i j, vs = [.int i, .int j] ∧ Q (.int (if j < i then j else i)) H := by
  refine raw2 (f := bfD .min2) (R := fun vs H Q => ∃ i j, vs = [.int i, .int j] ∧ Q (.int (if j < i then j else i)) H) r p rfl (fun a => by cases a <;> rfl) (fun a b c l => by cases a <;> cases b <;> rfl) fun d e v u rv ru p => ?_
  cases d with
  | int i =>
    cases e with
    | int j => cases rv.int; cases ru.int; exact ⟨i, j, rfl, Post.val gh p rfl⟩
    | _ => exact False.elim p
  | _ => exact False.elim p
theorem bls_of {G : Hp} : ∀ {l : List D} {bs : List Bool} {vs : List V}, blsOf l = some bs → RepA g G l vs → vs = bs.map V.bl
  | [], _, _, h, r => by cases h; unfold RepA at r; exact r
  | d :: l, bs, vs, h, r => by
    unfold RepA at r
    obtain ⟨v, r', rfl, rv, t⟩ := r
    cases d with
    | bl b =>
      simp only [blsOf] at h
      cases e : blsOf l with
      | none => rw [e] at h; cases h
      | some ls => rw [e] at h; cases h; cases (show v = .bl b from rv); rw [bls_of e t]; rfl
    | _ => cases h
theorem ints_of {G : Hp} : ∀ {l : List D} {bs : List Int} {vs : List V}, intsOf l = some bs → RepA g G l vs → vs = bs.map V.int
  | [], _, _, h, r => by cases h; unfold RepA at r; exact r
  | d :: l, bs, vs, h, r => by
    unfold RepA at r
    obtain ⟨v, r', rfl, rv, t⟩ := r
    cases d with
    | int b =>
      simp only [intsOf] at h
      cases e : intsOf l with
      | none => rw [e] at h; cases h
      | some ls => rw [e] at h; cases h; cases (show v = .int b from rv); rw [ints_of e t]; rfl
    | _ => cases h
theorem strs_of {G : Hp} : ∀ {l : List D} {bs : List (List Nat)} {vs : List V}, strsOf l = some bs → RepA g G l vs → vs = (bs.map toStr).map V.str ∧ ∀ b ∈ bs, sOk b
  | [], _, _, h, r => by cases h; unfold RepA at r; exact ⟨r, by simp⟩
  | d :: l, bs, vs, h, r => by
    unfold RepA at r
    obtain ⟨v, r', rfl, rv, t⟩ := r
    cases d with
    | str b =>
      simp only [strsOf] at h
      cases e : strsOf l with
      | none => rw [e] at h; cases h
      | some ls =>
        rw [e] at h; cases h
        obtain ⟨rfl, ob⟩ := (show v = .str (toStr b) ∧ sOk b from rv)
        obtain ⟨h1, h2⟩ := strs_of e t
        rw [h1]
        exact ⟨rfl, fun c hc => (List.mem_cons.mp hc).elim (fun q => q ▸ ob) (h2 c)⟩
    | _ => cases h
theorem all_ok {ds : List D} {vs : List V} {G H : Hp} {σ : L2.St} {Q : VK} (gh : Same G H) (r : RAw g G H ds vs) (p : Post g ex W (RSl g H) (bfD .all ds) G H σ Q) : rAll g.K vs H Q := by
  refine raw1 (f := bfD .all) (R := rAll g.K) r p rfl (fun a b l => by cases a <;> rfl) fun d v rv p => ?_
  cases d with
  | lst l =>
    obtain ⟨a, xs, rfl, s, r⟩ := rv.seqL gh
    have p : Post g ex W (RSl g H) ((match blsOf l with | some bs => Res.ok (D.bl (bs.all id)) | none => .bad).bind (conv true)) G H σ Q := p
    cases e : blsOf l with
    | none => rw [e] at p; exact p.elim
    | some bs =>
      rw [e] at p
      cases bls_of e r
      exact ⟨a, bs, rfl, s, Post.val gh p rfl⟩
  | _ => exact False.elim p
theorem any_ok {ds : List D} {vs : List V} {G H : Hp} {σ : L2.St} {Q : VK} (gh : Same G H) (r : RAw g G H ds vs) (p : Post g ex W (RSl g H) (bfD .any ds) G H σ Q) : rAny g.K vs H Q := by
  refine raw1 (f := bfD .any) (R := rAny g.K) r p rfl (fun a b l => by cases a <;> rfl) fun d v rv p => ?_
  cases d with
  | lst l =>
    obtain ⟨a, xs, rfl, s, r⟩ := rv.seqL gh
    have p : Post g ex W (RSl g H) ((match blsOf l with | some bs => Res.ok (D.bl (bs.any id)) | none => .bad).bind (conv true)) G H σ Q := p
    cases e : blsOf l with
    | none => rw [e] at p; exact p.elim
    | some bs =>
      rw [e] at p
      cases bls_of e r
      exact ⟨a, bs, rfl, s, Post.val gh p rfl⟩
  | _ => exact False.elim p
theorem sum_ok {ds : List D} {vs : List V} {G H : Hp} {σ : L2.St} {Q : VK} (gh : Same G H) (r : RAw g G H ds vs) (p : Post g ex W (RSl g H) (bfD .sum ds) G H σ Q) : rSum g.K vs H Q := by
  refine raw1 (f := bfD .sum) (R := rSum g.K) r p rfl (fun a b l => by cases a <;> rfl) fun d v rv p => ?_
  cases d with
  | lst l =>
    obtain ⟨a, xs, rfl, s, r⟩ := rv.seqL gh
    have p : Post g ex W (RSl g H) ((match intsOf l with | some bs => Res.ok (D.int bs.sum) | none => .bad).bind (conv true)) G H σ Q := p
    cases e : intsOf l with
    | none => rw [e] at p; exact p.elim
    | some bs =>
      rw [e] at p
      cases ints_of e r
      exact ⟨a, bs, rfl, s, Post.val gh p rfl⟩
  | _ => exact False.elim p
theorem list_ok {ds : List D} {vs : List V} {G H : Hp} {σ : L2.St} {Q : VK} (gh : Same G H) (r : RAw g G H ds vs) (p : Post g ex W (RSl g H) (bfD .list ds) G H σ Q) :
    ∃ p ys, vs = [.ref p] ∧ (SqL g.K H p ys ∨ SqT g.K H p ys) ∧ ∀ l, H l = none → Q (.ref l) (upd H l (.lst ys)) := by
  refine raw1 (f := bfD .list) (R := fun vs H Q => ∃ p ys, vs = [.ref p] ∧ (SqL g.K H p ys ∨ SqT g.K H p ys) ∧ ∀ l, H l = none → Q (.ref l) (upd H l (.lst ys))) r p rfl (fun a b l => rfl) fun d v rv p => ?_
  cases d with
  | lst l =>
    obtain ⟨a, xs, rfl, s, r⟩ := rv.seqL gh
    exact ⟨a, xs, rfl, .inl s, Post.newS (b := true) gh r p⟩
  | tup l =>
    obtain ⟨a, xs, rfl, s, r⟩ := rv.seqT gh
    exact ⟨a, xs, rfl, .inr s, Post.newS (b := true) gh r p⟩
  | _ => exact False.elim p
theorem tuple_ok {ds : List D} {vs : List V} {G H : Hp} {σ : L2.St} {Q : VK} (gh : Same G H) (r : RAw g G H ds vs) (p : Post g ex W (RSl g H) (bfD .tuple ds) G H σ Q) :
    ∃ p ys, vs = [.ref p] ∧ ((SqL g.K H p ys ∧ ∀ l, H l = none → Q (.ref l) (upd H l (.tup ys))) ∨ (SqT g.K H p ys ∧ Q (.ref p) H)) := by
  refine raw1 (f := bfD .tuple) (R := fun vs H Q => ∃ p ys, vs = [.ref p] ∧ ((SqL g.K H p ys ∧ ∀ l, H l = none → Q (.ref l) (upd H l (.tup ys))) ∨ (SqT g.K H p ys ∧ Q (.ref p) H))) r p rfl (fun a b l => rfl) fun d v rv p => ?_
  cases d with
  | lst l =>
    obtain ⟨a, xs, rfl, s, r⟩ := rv.seqL gh
    exact ⟨a, xs, rfl, .inl ⟨s, fun q n => p _ _ _ (Ext.new gh n) (rep_tup gh n r)⟩⟩
  | tup l =>
    have rv' := rv
    obtain ⟨a, xs, rfl, s, r⟩ := rv.seqT gh
    refine ⟨a, xs, rfl, .inr ⟨s, ?_⟩⟩
    rcases rv' with rx | ⟨_, _, _, q, _⟩ | ⟨_, _, _, _, _, q, _⟩
    · exact Post.val gh p rx
    · cases q
    · cases q
  | _ => exact False.elim p
end
end Pv

namespace Pv
open PySem PySem.Spec L2
section
variable {g : Gr} {ex : Nat → Option (Addr × Option Str)} {W : WX} {X : Cx} {N : List Str} {sc : Scope} {k : Nat}
/-! ### isinstance -/
def tyNm : D → String
  | .non => "NoneType" | .bl _ => "bool" | .int _ => "int" | .str _ => "str" | .tup _ => "tuple" | .lst _ => "list" | .dic _ _ => "dict"
theorem ty_ok {G H : Hp} {d : D} {v : V} (gh : Same G H) (h : RW g G H d v) (hd : d.isDic = false) : TyX g.K H v (.type (tyNm d)) := by
  cases d with
  | non => cases h.non; exact .base .non
  | bl b => cases h.bl; exact .base (.bl b)
  | int i => cases h.int; exact .base (.int i)
  | str l => obtain ⟨rfl, _⟩ := h.str; exact .base (.str _)
  | tup l =>
    obtain ⟨a, vs, rfl, s, _⟩ := h.seqT gh
    rcases s with (s | ⟨o, s⟩) | ⟨o, its, n, e, c, _⟩
    · exact .base (.tup s)
    · exact .fTuple s
    · exact .kTuple e c
  | lst l =>
    obtain ⟨a, vs, rfl, s, _⟩ := h.seqL gh
    rcases s with (s | ⟨o, s⟩) | ⟨o, its, n, e, c, _⟩
    · exact .base (.lst s)
    · exact .base (.frz s)
    · exact .kList e c
  | dic _ _ => cases hd
theorem pq_isi (C : Cn g N sc k W X) {T : String} {x tn : Str} {e : Expr} {fa : Pv.Env → Res D} {p p2 pos : Pos} {isT : D → Bool} (hg : Gl X "isinstance") (hm : g.mg "isinstance" = none)
    (hg2 : Gl X tn) (hm2 : g.mg tn = none) (hv2 : bootBuiltins tn = some (.type T)) (hn2 : tn ≠ "__name__") (hd2 : (tn == ("__debug__" : Str)) = false) (hs : notStar e = true) (ha : PEq g ex W (RW g) X e fa) (hk : ∀ d, d.isDic = false → kitB (tyNm d) T = some (isT d)) :
    PEq g ex W (RS g) X (.Call (.Name "isinstance" p) [e, .Name tn p2] [] pos) (fun e => (fa e).bind fun d => if d.isDic then .bad else .ok (.bl (isT d))) := by
  have hT : PE X (.Name tn p2) (tC (.ty T)) := pe_bltn hg2 (by rw [C.mg]; exact hm2) hv2 rfl hn2 hd2
  have hst : notStar (.Name tn p2) = true := rfl
  refine (pe_callB call_isi hg (by rw [C.mg]; exact hm) PyProof.Rows.boot_isinstance (pa_cons ha (pa_cons hT pa_nil (starEach_cons hst _ _)) (starEach_cons hs _ _)) (by decide) (by decide) (starEach_cons hs _ _) (noStars (by simp [notStar]) _ _)).imp fun σ H Q q => ?_
  obtain ⟨e, H0, G0, G, F, p⟩ := q
  refine ⟨e, H0, G0, G, F, p.bind fun d v H1 G1 E1 R1 p1 => ?_⟩
  cases hd : d.isDic with
  | true => rw [hd] at p1; exact p1.elim
  | false =>
    rw [hd] at p1
    exact ⟨v, .ty T, _, _, isT d, rfl, .ty T, by rw [C.K]; exact ty_ok E1.gh R1 hd, kit_ty (hk d hd), Post.val (d := D.bl (isT d)) E1.gh p1 rfl⟩
/-! ### texts' methods -/
theorem meth1_of (C : Cn g N sc k W X) {b : BI} {id : String} {name : Str} {o e : Expr} {apos pos : Pos} {r : V → List V → Hp → VK → Prop} {fa fb : Pv.Env → Res D} (slot : PySem.Slot "str" name id) (ty : typeOf (.builtin id) = pure (.type "method_descriptor")) (rule : MtR X id r)
    (ho : PEq g ex W (RW g) X o fa) (he : PEq g ex W (RW g) X e fb) (hs : notStar e = true) (hb : notSuper o = true) (hl : (apos.endLine == pos.line) = true) (hstr : ∀ d, recvOk b d = true → ∃ l, d = .str l)
    (hr : ∀ (d y : D) (v u : V) (G H : Hp) (σ : L2.St) (Q : VK), Same G H → RW g G H d v → RW g G H y u → Post g ex W (RSl g H) (bfD b [d, y]) G H σ Q → r v [u] H Q) :
    PNq g ex W X (.Call (.Attribute o name apos) [e] [] pos) (fun e => ((fa e).bind fun x => if recvOk b x then (fb e).bind fun y => biD b [x, y] else .bad).bind (conv true)) := by
  refine (pe_m1 slot ty rule ho he (starEach_cons hs _ _) (attrBase hb _ _ _) hl).imp fun σ H Q q => ?_
  obtain ⟨e, H0, G0, G, F, p⟩ := q
  refine ⟨e, H0, G0, G, F, ?_⟩
  dsimp only at p
  rw [bind_assoc] at p
  refine p.bind fun d v H1 G1 E1 R1 p1 => ?_
  obtain ⟨hk, p1⟩ := p1.iteB
  obtain ⟨l, rfl⟩ := hstr d hk
  rw [bind_assoc] at p1
  refine ⟨⟨_, R1.str.1⟩, e, H0, G0, G1, F.ext E1, p1.bind fun y u H2 G2 E2 R2 p2 => ?_⟩
  exact hr _ y v u G2 H2 σ Q E2.gh (Rl.ext (g := g) E2 R1) R2 (Post.rsl (H0 := H2) (E1.h.trans E2.h) p2)
theorem splitOn_ne (c : Nat) : ∀ l, splitOn c l ≠ []
  | [] => by simp [splitOn]
  | x :: r => by
    simp only [splitOn]
    cases h : (x == c) with
    | true => simp
    | false => cases splitOn c r <;> simp
theorem splitOn_spl (c : Nat) : ∀ (l acc : List Nat), TL.spl [c] 0 acc l = match splitOn c l with | a :: as => (acc ++ a) :: as | [] => []
  | [], acc => by rw [TL.spl_nil]; simp [splitOn]
  | x :: r, acc => by
    by_cases hx : x = c
    · subst hx
      rw [TL.spl_hit (by simp [TL.pre])]
      have ih := splitOn_spl x r []
      show acc :: TL.spl [x] 0 [] r = _
      rw [ih]
      simp only [splitOn, beq_self_eq_true, if_true, List.append_nil]
      have := splitOn_ne x r
      cases h : splitOn x r with
      | nil => exact absurd h this
      | cons a as => simp
    · rw [TL.spl_miss (by simp [TL.pre, hx])]
      have ih := splitOn_spl c r (acc ++ [x])
      rw [ih]
      have hb : (x == c) = false := by simpa using hx
      simp only [splitOn, hb]
      have := splitOn_ne c r
      cases h : splitOn c r with
      | nil => exact absurd h this
      | cons a as => simp
theorem splitOn_mem (c : Nat) : ∀ (l p : List Nat), p ∈ splitOn c l → ∀ x ∈ p, x ∈ l
  | [], p, hp, x, hx => by simp [splitOn] at hp; subst hp; cases hx
  | y :: r, p, hp, x, hx => by
    simp only [splitOn] at hp
    cases h : (y == c) with
    | true =>
      rw [h] at hp
      simp only [if_true] at hp
      rcases List.mem_cons.mp hp with rfl | hp
      · cases hx
      · exact List.mem_cons_of_mem _ (splitOn_mem c r p hp x hx)
    | false =>
      rw [h] at hp
      have := splitOn_ne c r
      cases hs : splitOn c r with
      | nil => exact absurd hs this
      | cons a as =>
        rw [hs] at hp
        simp only [Bool.false_eq_true, if_false] at hp
        rcases List.mem_cons.mp hp with rfl | hp
        · rcases List.mem_cons.mp hx with rfl | hx
          · exact List.mem_cons_self
          · exact List.mem_cons_of_mem _ (splitOn_mem c r a (by rw [hs]; exact List.mem_cons_self) x hx)
        · exact List.mem_cons_of_mem _ (splitOn_mem c r p (by rw [hs]; exact List.mem_cons_of_mem _ hp) x hx)
theorem split_eq (c : Nat) (l : List Nat) (hc : c < 256) : Txt.split (toStr l) (toStr [c]) = (splitOn c l).map toStr := by
  refine TL.map_tl_inj ?_
  rw [TL.split_spl _ _ (by simp [toStr]) (TL.kind_ok (by simp [toStr, hc]))]
  show TL.spl [c] 0 [] l = _
  rw [splitOn_spl]
  have := splitOn_ne c l
  cases h : splitOn c l with
  | nil => exact absurd h this
  | cons a as => simp [TL.tl, toStr, Function.comp_def]
theorem rep_strs {G : Hp} : ∀ {ls : List (List Nat)}, (∀ l ∈ ls, sOk l) → RepA g G (ls.map D.str) ((ls.map toStr).map V.str)
  | [], _ => RepA.nil
  | l :: ls, h => RepA.cons ⟨rfl, h l List.mem_cons_self⟩ (rep_strs fun l' hl => h l' (List.mem_cons_of_mem _ hl))
theorem joinL_eq (s : List Nat) : ∀ ls : List (List Nat), Pv.joinL s ls = TL.joinL s ls
  | [] => rfl
  | [_] => rfl
  | x :: y :: r => by
    show x ++ (s ++ Pv.joinL s (y :: r)) = x ++ (s ++ TL.joinL s (y :: r))
    rw [joinL_eq s (y :: r)]
theorem join_eq (s : List Nat) (ls : List (List Nat)) : Txt.join (toStr s) (ls.map toStr) = toStr (Pv.joinL s ls) := by
  rw [TL.join_eq, joinL_eq]
  refine TL.ext_tl ?_
  rw [TL.tl_join]
  show TL.joinL s ((ls.map toStr).map TL.tl) = TL.joinL s ls
  congr 1
  simp [TL.tl, toStr, Function.comp_def]
theorem joinL_ok {s : List Nat} (hs : sOk s) : ∀ {ls : List (List Nat)}, (∀ l ∈ ls, sOk l) → sOk (Pv.joinL s ls)
  | [], _ => fun c h => by cases h
  | [x], h => h x List.mem_cons_self
  | x :: y :: r, h => (h x List.mem_cons_self).app (hs.app (joinL_ok hs fun l hl => h l (List.mem_cons_of_mem _ hl)))
theorem pn_split (C : Cn g N sc k W X) {o e : Expr} {apos pos : Pos} {fa fb : Pv.Env → Res D} (ho : PEq g ex W (RW g) X o fa) (he : PEq g ex W (RW g) X e fb) (hs : notStar e = true) (hb : notSuper o = true) (hl : (apos.endLine == pos.line) = true) :
    PNq g ex W X (.Call (.Attribute o "split" apos) [e] [] pos) (fun e => ((fa e).bind fun x => if recvOk .split x then (fb e).bind fun y => biD .split [x, y] else .bad).bind (conv true)) := by
  refine meth1_of C PySem.F.slot_str_split PySem.F.type_str_split mt_split ho he hs hb hl (fun d h => by cases d <;> first | exact ⟨_, rfl⟩ | cases h) fun d y v u G H σ Q gh rd ry p => ?_
  cases d with
  | str l =>
    cases y with
    | str s =>
      match s, ry, p with
      | [], _, p => exact False.elim p
      | [c], ry, p =>
        obtain ⟨rfl, ol⟩ := rd.str
        obtain ⟨rfl, _⟩ := ry.str
        have p : Post g ex W (RSl g H) ((if c < 256 ∧ l.length + 2 ≤ line then Res.ok (D.lst ((splitOn c l).map .str)) else .bad).bind (conv true)) G H σ Q := p
        obtain ⟨⟨hc, hl⟩, p⟩ := p.iteB
        refine ⟨toStr l, toStr [c], rfl, rfl, by rw [toStr_len]; rfl, by rw [toStr_len, ← line_eq]; exact hl, ?_⟩
        unfold rNewStrs
        rw [split_eq c l hc]
        exact Post.newS (b := true) gh (rep_strs fun p hp x hx => ol x (splitOn_mem c l p hp x hx)) p
      | _ :: _ :: _, _, p => exact False.elim p
    | _ => exact False.elim p
  | _ => exact False.elim p
theorem pn_join (C : Cn g N sc k W X) {o e : Expr} {apos pos : Pos} {fa fb : Pv.Env → Res D} (ho : PEq g ex W (RW g) X o fa) (he : PEq g ex W (RW g) X e fb) (hs : notStar e = true) (hb : notSuper o = true) (hl : (apos.endLine == pos.line) = true) :
    PNq g ex W X (.Call (.Attribute o "join" apos) [e] [] pos) (fun e => ((fa e).bind fun x => if recvOk .join x then (fb e).bind fun y => biD .join [x, y] else .bad).bind (conv true)) := by
  refine meth1_of C PySem.F.slot_str_join PySem.F.type_str_join mt_join ho he hs hb hl (fun d h => by cases d <;> first | exact ⟨_, rfl⟩ | cases h) fun d y v u G H σ Q gh rd ry p => ?_
  cases d with
  | str l =>
    cases y with
    | lst ys =>
      obtain ⟨rfl, ol⟩ := rd.str
      obtain ⟨a, vs, rfl, s, r⟩ := ry.seqL gh
      have p : Post g ex W (RSl g H) ((match strsOf ys with | some ls => if (ls.map List.length).sum + ls.length * l.length ≤ line then Res.ok (D.str (Pv.joinL l ls)) else .bad | none => .bad).bind (conv true)) G H σ Q := p
      cases e : strsOf ys with
      | none => rw [e] at p; exact p.elim
      | some ls =>
        rw [e] at p
        obtain ⟨hz, p⟩ := p.iteB
        obtain ⟨rfl, oo⟩ := strs_of e r
        refine ⟨toStr l, a, ls.map toStr, rfl, rfl, .inl (C.K ▸ s), ?_, ?_⟩
        · rw [List.map_map, List.length_map, toStr_len]
          have : (ls.map ((fun x : Str => x.length) ∘ toStr)) = ls.map List.length := List.map_congr_left fun x _ => toStr_len x
          rw [this]
          exact hz
        · rw [join_eq]
          exact Post.val gh p ⟨rfl, joinL_ok ol oo⟩
    | _ => exact False.elim p
  | _ => exact False.elim p
end
end Pv

namespace Pv
open PySem PySem.Spec L2
section
variable {g : Gr} {ex : Nat → Option (Addr × Option Str)} {W : WX} {X : Cx} {N : List Str} {sc : Scope} {k : Nat}
/-! ### what is walked -/
/-- J yields the items, while what stands in Hs stands -/
structure Wk (g : Gr) (J : It) (items : List D) (Gs Hs : Hp) : Prop where
  go : ∀ i H, Same Hs H → i < items.length → J.go i H
  stop : ∀ H, Same Hs H → J.stop items.length H
  yld : ∀ i H G x H', Same Hs H → Same Gs G → Same G H → i < items.length → J.yld i H x H' → ∃ G' d, items[i]? = some d ∧ Ext G H G' H' ∧ Rep g G' d x
def RIs (g : Gr) : Hp → Hp → List D → It → Prop := fun G _ items J => Wk g J items G G
def RIw (g : Gr) : Hp → Hp → List D → It → Prop := fun G H items J => Wk g J items G H
abbrev PIq (g : Gr) (ex : Nat → Option (Addr × Option Str)) (W : WX) (R : Hp → Hp → List D → It → Prop) (X : Cx) (tg e : Expr) (f : Pv.Env → Res (List D)) : Prop := PI X tg e (tq g ex W R f)
theorem wk_list {G H : Hp} {Hs : Hp} {a : Addr} {vs : List V} {ds : List D} (s : SqL g.K Hs a vs) (r : RepA g G ds vs) : Wk g (Itl g.K a) ds G Hs where
  go := fun i H e hi => ⟨vs, vs[i]'(by rw [r.length]; exact hi), e.seq s, by simp⟩
  stop := fun H e => ⟨vs, e.seq s, by rw [r.length]; exact Nat.le_refl _⟩
  yld := fun i H G1 x H' e eg gh hi ⟨eh, hx⟩ => by
    subst eh
    have := hx vs (e.seq s)
    obtain ⟨v, hv, rv⟩ := r.get (List.getElem?_eq_getElem hi)
    rw [this] at hv; cases hv
    exact ⟨G1, ds[i], List.getElem?_eq_getElem hi, Ext.refl gh, Rep.same eg rv⟩
theorem wk_tup {G H : Hp} {Hs : Hp} {a : Addr} {vs : List V} {ds : List D} (s : SqT g.K Hs a vs) (r : RepA g G ds vs) : Wk g (Itt g.K a) ds G Hs where
  go := fun i H e hi => ⟨vs, vs[i]'(by rw [r.length]; exact hi), Same.sqt e s, by simp⟩
  stop := fun H e => ⟨vs, Same.sqt e s, by rw [r.length]; exact Nat.le_refl _⟩
  yld := fun i H G1 x H' e eg gh hi ⟨eh, hx⟩ => by
    subst eh
    have := hx vs (Same.sqt e s)
    obtain ⟨v, hv, rv⟩ := r.get (List.getElem?_eq_getElem hi)
    rw [this] at hv; cases hv
    exact ⟨G1, ds[i], List.getElem?_eq_getElem hi, Ext.refl gh, Rep.same eg rv⟩
theorem wk_str {G Hs : Hp} {l : List Nat} (ol : sOk l) : Wk g (Its (toStr l)) (l.map fun c => .str [c]) G Hs where
  go := fun i H e hi => by simpa [Its, toStr] using hi
  stop := fun H e => by simp [Its, toStr]
  yld := fun i H G1 x H' e eg gh hi ⟨eh, c, hc, hx⟩ => by
    subst eh
    subst hx
    have hc : l[i]? = some c := by simpa [toStr] using hc
    refine ⟨G1, .str [c], by rw [List.getElem?_map, hc]; rfl, Ext.refl gh, rfl, fun c' h' => ?_⟩
    rw [List.mem_singleton.mp h']
    exact ol c (List.mem_of_getElem? hc)
theorem wk_range {G Hs : Hp} (i j : Int) : Wk g (Itr i (j - i).toNat) (rangeL i j) G Hs where
  go := fun m H e hi => by simpa [rangeL, Itr] using hi
  stop := fun H e => by show (j - i).toNat ≤ (rangeL i j).length; simp only [rangeL, List.length_map, List.length_range]; exact Nat.le_refl _
  yld := fun m H G1 x H' e eg gh hi ⟨eh, hx⟩ => by
    subst eh
    subst hx
    have hm : m < (j - i).toNat := by simpa [rangeL] using hi
    exact ⟨G1, .int (i + m), by simp [rangeL, hm], Ext.refl gh, rfl⟩
/-- a list, a tuple, a text -/
def iSeq (K : PySem.W.Frag) (te : TE) : TI := fun σ H R => te σ H fun x H1 => (∃ a, x = .ref a ∧ (∃ xs, SqL K H1 a xs) ∧ R (Itl K a) H1) ∨ (∃ a, x = .ref a ∧ (∃ xs, SqT K H1 a xs) ∧ R (Itt K a) H1) ∨ ∃ z, x = .str z ∧ R (Its z) H1
theorem pi_seq {tg e : Expr} {te : TE} (he : PE X e te) : PI X tg e (iSeq X.K te) := by
  refine ⟨fun pins s σ H R I h => ?_⟩
  refine thn (he.run pins s σ H _ I h) fun v s1 ⟨x, H1, I1, r1, q1⟩ => ?_
  rcases q1 with ⟨a, rfl, ⟨xs, hq⟩, q⟩ | ⟨a, rfl, ⟨xs, hq⟩, q⟩ | ⟨z, rfl, q⟩
  · cases r1
    obtain ⟨its, rv, p, hz⟩ := I1.list hq
    refine wpAny_pyIter_list p.isList ?_
    exact pi_one (tk := s1.toks) I1 _ (turn_list a _) ⟨_, Heap.get?_push_size _ rfl, rfl, rfl⟩ q
  · cases r1
    obtain ⟨its, rv, p, hz⟩ := I1.tuple hq
    refine wpAny_pyIter_tuple (show s1.heap.IsTuple a its.toArray from p) ?_
    exact pi_one (tk := s1.toks) I1 _ (turn_tuple a _) ⟨_, Heap.get?_push_size _ rfl, rfl, rfl⟩ q
  · obtain ⟨t, rfl⟩ := r1
    cases ha : z.cps.all (· < 128)
    · exact wpAny_pyIter_wide ha (pi_one (tk := s1.toks) I1 _ (turn_str _ z t "str_iterator" (.inr rfl)) ⟨_, Heap.get?_push_size _ rfl, rfl, rfl⟩ q)
    · exact wpAny_pyIter_ascii ha (pi_one (tk := s1.toks) I1 _ (turn_str _ z t "str_ascii_iterator" (.inl rfl)) ⟨_, Heap.get?_push_size _ rfl, rfl, rfl⟩ q)
theorem piq_seq (C : Cn g N sc k W X) {tg e : Expr} {f : Pv.Env → Res D} (h : PEq g ex W (RS g) X e f) : PIq g ex W (RIs g) X tg e (fun e => (f e).bind itemsOf) := by
  refine (pi_seq h).imp fun σ H R q => ?_
  obtain ⟨e, H0, G0, G, F, p⟩ := q
  refine ⟨e, H0, G0, G, F, p.bind fun x v H1 G1 E1 R1 p1 => ?_⟩
  rw [C.K]
  cases x with
  | lst l =>
    have R1 : Rep g G1 (.lst l) v := R1
    unfold Rep at R1
    obtain ⟨a, vs, rfl, s, r⟩ := R1
    exact .inl ⟨a, rfl, ⟨vs, E1.gh.seq s⟩, Post.val (d := l) E1.gh p1 (wk_list (H := H1) s r)⟩
  | tup l =>
    have R1 : Rep g G1 (.tup l) v := R1
    unfold Rep at R1
    obtain ⟨a, vs, rfl, s, r⟩ := R1
    exact .inr (.inl ⟨a, rfl, ⟨vs, Same.sqt E1.gh s⟩, Post.val (d := l) E1.gh p1 (wk_tup (H := H1) s r)⟩)
  | str l =>
    obtain ⟨rfl, ol⟩ := (show v = .str (toStr l) ∧ sOk l from R1)
    exact .inr (.inr ⟨_, rfl, Post.val (d := l.map fun c => D.str [c]) E1.gh p1 (wk_str ol)⟩)
  | _ => exact False.elim p1
theorem piq_seqW (C : Cn g N sc k W X) {tg e : Expr} {f : Pv.Env → Res D} (h : PEq g ex W (RW g) X e f) : PIq g ex W (RIw g) X tg e (fun e => (f e).bind itemsOf) := by
  refine (pi_seq h).imp fun σ H R q => ?_
  obtain ⟨e, H0, G0, G, F, p⟩ := q
  refine ⟨e, H0, G0, G, F, p.bind fun x v H1 G1 E1 R1 p1 => ?_⟩
  rw [C.K]
  cases x with
  | lst l =>
    obtain ⟨a, vs, rfl, s, r⟩ := R1.seqL E1.gh
    exact .inl ⟨a, rfl, ⟨vs, s⟩, Post.val (d := l) E1.gh p1 (wk_list (H := H1) s r)⟩
  | tup l =>
    obtain ⟨a, vs, rfl, s, r⟩ := R1.seqT E1.gh
    exact .inr (.inl ⟨a, rfl, ⟨vs, s⟩, Post.val (d := l) E1.gh p1 (wk_tup (H := H1) s r)⟩)
  | str l =>
    obtain ⟨rfl, ol⟩ := R1.str
    exact .inr (.inr ⟨_, rfl, Post.val (d := l.map fun c => D.str [c]) E1.gh p1 (wk_str ol)⟩)
  | _ => exact False.elim p1
theorem Wk.weak {J : It} {items : List D} {G H : Hp} (gh : Same G H) (w : Wk g J items G G) : Wk g J items G H :=
  ⟨fun i H1 e => w.go i H1 (gh.trans e), fun H1 e => w.stop H1 (gh.trans e), fun i H1 G1 x H' e => w.yld i H1 G1 x H' (gh.trans e)⟩
theorem PIq.weak {tg e : Expr} {f : Pv.Env → Res (List D)} (h : PIq g ex W (RIs g) X tg e f) : PIq g ex W (RIw g) X tg e f :=
  h.imp fun σ H R q => by
    obtain ⟨e, H0, G0, G, F, p⟩ := q
    refine ⟨e, H0, G0, G, F, ?_⟩
    cases hf : f e with
    | ok d => rw [hf] at p; exact fun v H1 G1 E1 R1 => p v H1 G1 E1 (Wk.weak E1.gh R1)
    | exc c p' => rw [hf] at p; exact p
    | bad => rw [hf] at p; exact p
theorem piq_range1 (C : Cn g N sc k W X) {tg a : Expr} {fa : Pv.Env → Res D} {p pos : Pos} (hg : Gl X "range") (hm : g.mg "range" = none) (hs : notStar a = true) (ha : PEq g ex W (RW g) X a fa) :
    PIq g ex W (RIs g) X tg (.Call (.Name "range" p) [a] [] pos) (fun e => (fa e).bind fun x => itD .range [x]) := by
  refine (pi_range1 hg (by rw [C.mg]; exact hm) (pa_cons ha pa_nil (starEach_cons hs _ _)) (by rw [starEach_cons hs]; rfl)).imp fun σ H R q => ?_
  obtain ⟨e, H0, G0, G, F, p⟩ := q
  refine ⟨e, H0, G0, G, F, p.bind fun d v H1 G1 E1 R1 p1 => ?_⟩
  cases d with
  | int j =>
    cases R1.int
    have p1 : Post g ex W (RIs g) (if -(2 ^ 62) ≤ j ∧ j < 2 ^ 62 then .ok (rangeL 0 j) else .bad) G1 H1 σ R := p1
    obtain ⟨⟨h1, h2⟩, p1⟩ := p1.ite
    have w := wk_range (g := g) (G := G1) (Hs := G1) 0 j
    rw [Int.sub_zero] at w
    exact ⟨j, rfl, h1, h2, Post.val E1.gh p1 w⟩
  | _ => exact False.elim p1
theorem piq_range2 (C : Cn g N sc k W X) {tg a b : Expr} {fa fb : Pv.Env → Res D} {p pos : Pos} (hg : Gl X "range") (hm : g.mg "range" = none) (hs : notStar a = true) (hs2 : notStar b = true) (ha : PEq g ex W (RW g) X a fa) (hb : PEq g ex W (RW g) X b fb) :
    PIq g ex W (RIs g) X tg (.Call (.Name "range" p) [a, b] [] pos) (fun e => (fa e).bind fun x => (fb e).bind fun y => itD .range [x, y]) := by
  refine (pi_range2 hg (by rw [C.mg]; exact hm) (pa_cons ha (pa_cons hb pa_nil (starEach_cons hs2 _ _)) (starEach_cons hs _ _)) (by rw [starEach_cons hs, starEach_cons hs2]; rfl) (by rw [starEach_cons hs2]; rfl)).imp fun σ H R q => ?_
  obtain ⟨e, H0, G0, G, F, p⟩ := q
  refine ⟨e, H0, G0, G, F, p.bind fun d v H1 G1 E1 R1 p1 => ⟨e, H0, G0, G1, F.ext E1, p1.bind fun d2 v2 H2 G2 E2 R2 p2 => ?_⟩⟩
  cases d with
  | int i =>
    cases d2 with
    | int j =>
      cases R1.int
      cases R2.int
      have p2 : Post g ex W (RIs g) (if (-(2 ^ 62) ≤ i ∧ i < 2 ^ 62) ∧ -(2 ^ 62) ≤ j ∧ j < 2 ^ 62 then .ok (rangeL i j) else .bad) G2 H2 σ R := p2
      obtain ⟨⟨⟨h1, h2⟩, h3, h4⟩, p2⟩ := p2.ite
      exact ⟨i, j, rfl, ⟨h1, h2, h3, h4⟩, Post.val E2.gh p2 (wk_range i j)⟩
    | _ => exact False.elim p2
  | _ => cases d2 <;> exact False.elim p2
/-! ### slots stored -/
theorem join_set {σ : L2.St} {i : Nat} {v : V} (h : i < σ.length) : ((σ.set i (some v))[i]?).join = some v := by
  rw [List.getElem?_set_self h]; rfl
theorem FR.setFro {H0 G0 H G : Hp} {e : Pv.Env} {σ : L2.St} (F : FR g H0 G0 e σ H G) (i : Nat) {d : D} {v : V} (r : Rep g G d v) : FR g H0 G0 (e.set i (.fro d)) (σ.set i (some v)) H G := by
  refine ⟨by rw [List.length_set, List.length_set]; exact F.len, fun j s h => ?_, fun j l s t a hjl h1 h2 o1 o2 h3 h4 => ?_, fun j s a h1 o1 h2 => ?_, F.h0, F.g0, F.gh, F.nw⟩
  · by_cases hj : i = j
    · subst hj
      have hi : i < e.length := by
        by_cases q : i < e.length
        · exact q
        · rw [List.getElem?_eq_none (by simp; omega)] at h; cases h
      rw [List.getElem?_set_self hi] at h
      cases h
      exact ⟨v, join_set (by rw [F.len]; exact hi), r⟩
    · rw [List.getElem?_set_ne hj] at h ⊢
      exact F.sl j s h
  · have nj : i ≠ j := fun q => by
      subst q
      by_cases hi : i < e.length
      · rw [List.getElem?_set_self hi] at h1; cases h1; cases o1
      · rw [List.getElem?_eq_none (by simp; omega)] at h1; cases h1
    have nl : i ≠ l := fun q => by
      subst q
      by_cases hi : i < e.length
      · rw [List.getElem?_set_self hi] at h2; cases h2; cases o2
      · rw [List.getElem?_eq_none (by simp; omega)] at h2; cases h2
    rw [List.getElem?_set_ne nj] at h1 h3
    rw [List.getElem?_set_ne nl] at h2 h4
    exact F.dj j l s t a hjl h1 h2 o1 o2 h3 h4
  · have nj : i ≠ j := fun q => by
      subst q
      by_cases hi : i < e.length
      · rw [List.getElem?_set_self hi] at h1; cases h1; cases o1
      · rw [List.getElem?_eq_none (by simp; omega)] at h1; cases h1
    rw [List.getElem?_set_ne nj] at h1 h2
    exact F.ow j s a h1 o1 h2
theorem FR.setNo {H0 G0 H G : Hp} {e : Pv.Env} {σ : L2.St} (F : FR g H0 G0 e σ H G) (i : Nat) (o : Option V) : FR g H0 G0 (e.set i .no) (σ.set i o) H G := by
  refine ⟨by rw [List.length_set, List.length_set]; exact F.len, fun j s h => ?_, fun j l s t a hjl h1 h2 o1 o2 h3 h4 => ?_, fun j s a h1 o1 h2 => ?_, F.h0, F.g0, F.gh, F.nw⟩
  · by_cases hj : i = j
    · subst hj
      have hi : i < e.length := by
        by_cases q : i < e.length
        · exact q
        · rw [List.getElem?_eq_none (by simp; omega)] at h; cases h
      rw [List.getElem?_set_self hi] at h
      cases h
      trivial
    · rw [List.getElem?_set_ne hj] at h ⊢
      exact F.sl j s h
  · have nj : i ≠ j := fun q => by
      subst q
      by_cases hi : i < e.length
      · rw [List.getElem?_set_self hi] at h1; cases h1; cases o1
      · rw [List.getElem?_eq_none (by simp; omega)] at h1; cases h1
    have nl : i ≠ l := fun q => by
      subst q
      by_cases hi : i < e.length
      · rw [List.getElem?_set_self hi] at h2; cases h2; cases o2
      · rw [List.getElem?_eq_none (by simp; omega)] at h2; cases h2
    rw [List.getElem?_set_ne nj] at h1 h3
    rw [List.getElem?_set_ne nl] at h2 h4
    exact F.dj j l s t a hjl h1 h2 o1 o2 h3 h4
  · have nj : i ≠ j := fun q => by
      subst q
      by_cases hi : i < e.length
      · rw [List.getElem?_set_self hi] at h1; cases h1; cases o1
      · rw [List.getElem?_eq_none (by simp; omega)] at h1; cases h1
    rw [List.getElem?_set_ne nj] at h1 h2
    exact F.ow j s a h1 o1 h2
theorem FR.wipe {H0 G0 H G : Hp} {e : Pv.Env} {σ : L2.St} (F : FR g H0 G0 e σ H G) : ∀ vs : List Nat, FR g H0 G0 (wipeE e vs) (L2.wipe σ vs) H G
  | [] => F
  | v :: vs => (FR.wipe F vs).setNo v none
theorem wipe_set {σ : L2.St} {i : Nat} {o : Option V} : ∀ {vs : List Nat}, i ∈ vs → L2.wipe (σ.set i o) vs = L2.wipe σ vs
  | v :: vs, h => by
    unfold L2.wipe
    by_cases hv : i ∈ vs
    · rw [wipe_set hv]
    · rcases List.mem_cons.mp h with rfl | h
      · have : ∀ (ws : List Nat) (τ : L2.St), i ∉ ws → L2.wipe (τ.set i o) ws = (L2.wipe τ ws).set i o := by
          intro ws
          induction ws with
          | nil => intro τ _; rfl
          | cons w ws ih =>
            intro τ hw
            simp only [List.mem_cons, not_or] at hw
            unfold L2.wipe
            rw [ih τ hw.2, List.set_comm _ _ hw.1]
        rw [this vs σ hv, List.set_set]
      · exact absurd h hv
theorem wipe_comm {v : Nat} {o : Option V} : ∀ (vs : List Nat) (τ : L2.St), v ∉ vs → L2.wipe (τ.set v o) vs = (L2.wipe τ vs).set v o
  | [], _, _ => rfl
  | w :: ws, τ, hw => by
    simp only [List.mem_cons, not_or] at hw
    unfold L2.wipe
    rw [wipe_comm ws τ hw.2, List.set_comm _ _ hw.1]
theorem wipe_wipe (σ : L2.St) : ∀ vs : List Nat, L2.wipe (L2.wipe σ vs) vs = L2.wipe σ vs
  | [] => rfl
  | v :: vs => by
    show (L2.wipe ((L2.wipe σ vs).set v none) vs).set v none = (L2.wipe σ vs).set v none
    by_cases hv : v ∈ vs
    · rw [wipe_set hv, wipe_wipe σ vs]
    · rw [wipe_comm vs _ hv, wipe_wipe σ vs, List.set_set]
/-! ### targets -/
def gMany : List Nat → TGs
  | [] => gNil
  | i :: is => gCons (gName i) (gMany is)
def gOf (K : PySem.W.Frag) : Tg → TG
  | .one i => gName i
  | .many is => gTup K is.length (gMany is)
def Tg.slots : Tg → List Nat
  | .one i => [i]
  | .many is => is
theorem setMany_ok {H0 G0 H G : Hp} : ∀ {is : List Nat} {ds : List D} {xs : List V} {e e1 : Pv.Env} {σ : L2.St} {Q : L2.St → Hp → Prop}, setMany is ds e = .ok e1 → FR g H0 G0 e σ H G → RepA g G ds xs →
    (∀ σ2, FR g H0 G0 e1 σ2 H G → (∀ vs : List Nat, (∀ i ∈ is, i ∈ vs) → L2.wipe σ2 vs = L2.wipe σ vs) → Q σ2 H) → gMany is xs σ H Q
  | [], [], _, _, _, σ, _, h, F, r, q => by
    cases h
    unfold RepA at r
    exact ⟨r, q σ F fun _ _ => rfl⟩
  | i :: is, d :: ds, _, e, _, σ, _, h, F, r, q => by
    unfold RepA at r
    obtain ⟨v, r', rfl, rv, t⟩ := r
    refine ⟨v, r', rfl, ?_⟩
    refine setMany_ok (is := is) (ds := ds) (e := e.set i (.fro d)) h (F.setFro i rv) t fun σ2 F2 w2 => q σ2 F2 fun vs hv => ?_
    rw [w2 vs fun j hj => hv j (List.mem_cons_of_mem _ hj), wipe_set (hv i List.mem_cons_self)]
  | [], _ :: _, _, _, _, _, _, h, _, _, _ => by cases h
  | _ :: _, [], _, _, _, _, _, h, _, _, _ => by cases h
theorem setMany_len : ∀ {is : List Nat} {ds : List D} {e e1 : Pv.Env}, setMany is ds e = .ok e1 → ds.length = is.length
  | [], [], _, _, _ => rfl
  | _ :: is, _ :: ds, e, _, h => by
    have := setMany_len (is := is) (ds := ds) h
    simp [this]
  | [], _ :: _, _, _, h => by cases h
  | _ :: _, [], _, _, h => by cases h
theorem bind_ok {H0 G0 H G : Hp} {t : Tg} {d : D} {v : V} {e e1 : Pv.Env} {σ : L2.St} {Q : L2.St → Hp → Prop} (h : bindT t d e = .ok e1) (F : FR g H0 G0 e σ H G) (r : Rep g G d v)
    (q : ∀ σ2, FR g H0 G0 e1 σ2 H G → (∀ vs : List Nat, (∀ i ∈ t.slots, i ∈ vs) → L2.wipe σ2 vs = L2.wipe σ vs) → Q σ2 H) : gOf g.K t v σ H Q := by
  cases t with
  | one i =>
    cases h
    exact q _ (F.setFro i r) fun vs hv => wipe_set (hv i List.mem_cons_self)
  | many is =>
    cases d with
    | tup ds =>
      have h : setMany is ds e = .ok e1 := h
      unfold Rep at r
      obtain ⟨a, xs, rfl, s, r⟩ := r
      exact ⟨a, xs, rfl, Same.sqt F.gh s, by rw [r.length, setMany_len h], setMany_ok h F r q⟩
    | _ => cases h
end
end Pv

namespace Pv
open PySem PySem.Spec L2
section
variable {g : Gr} {ex : Nat → Option (Addr × Option Str)} {W : WX} {X : Cx} {N : List Str} {sc : Scope} {k : Nat}
abbrev W0 : WX := fun _ _ _ _ => False
def stepC (t : Tg) (own : List Nat) (fc : Pv.Env → Res Bool) (fe : Pv.Env → Res D) (e : Pv.Env) (d : D) : Res (Option D) :=
  (bindT t d (wipeE e own)).bind fun e1 => (fc e1).bind fun c => if c then (fe e1).bind fun y => .ok (some y) else .ok none
theorem compL_cons {f : D → Res (Option D)} {d : D} {ds r : List D} (h : compL f (d :: ds) = .ok r) : ∃ o r', f d = .ok o ∧ compL f ds = .ok r' ∧ r = consO o r' := by
  unfold compL at h
  cases h1 : f d with
  | ok o =>
    rw [h1] at h
    have h : ((compL f ds).bind fun r => Res.ok (consO o r)) = .ok r := h
    cases h2 : compL f ds with
    | ok r' => rw [h2] at h; cases h; exact ⟨o, r', rfl, rfl, rfl⟩
    | exc c p => rw [h2] at h; cases h
    | bad => rw [h2] at h; cases h
  | exc c p => rw [h1] at h; cases h
  | bad => rw [h1] at h; cases h
theorem res_bind_ok {α β : Type} {r : Res α} {f : α → Res β} {b : β} (h : r.bind f = .ok b) : ∃ a, r = .ok a ∧ f a = .ok b := by
  cases r with
  | ok a => exact ⟨a, rfl, h⟩
  | exc c p => cases h
  | bad => cases h
theorem drop_cons {α : Type} {l : List α} {i : Nat} {d : α} (h : l[i]? = some d) : l.drop i = d :: l.drop (i + 1) := by
  obtain ⟨hi, e⟩ := List.getElem?_eq_some_iff.mp h
  rw [List.drop_eq_getElem_cons hi, e]
/-- the invariant of the comprehension's turns -/
structure LcInv (g : Gr) (H0 G0 : Hp) (e : Pv.Env) (σ : L2.St) (G1 H1 : Hp) (D_ : Addr) (f : D → Res (Option D)) (items l : List D) (i : Nat) (H G : Hp) (acc : List V) (ds r : List D) : Prop where
  fr : FR g H0 G0 e σ H G
  ext : Ext G1 H1 G H
  at_ : H D_ = some (.lst acc)
  rep : RepA g G ds acc
  gn : G D_ = none
  rest : compL f (items.drop i) = .ok r
  all : ds ++ r = l
theorem FR.updD {H0 G0 H G : Hp} {e : Pv.Env} {σ : L2.St} {D_ : Addr} {o : HO} (F : FR g H0 G0 e σ H G) (gn : G D_ = none) (h0 : H0 D_ = none) (hno : ∀ (i : Nat) s, e[i]? = some s → s.isOwn = true → σ[i]? ≠ some (some (.ref D_))) : FR g H0 G0 e σ (upd H D_ o) G := by
  refine ⟨F.len, fun i s h => ?_, F.dj, F.ow, fun a u q => ?_, F.g0, fun a u q => ?_, F.nw⟩
  · have q := F.sl i s h
    cases s with
    | no => trivial
    | fro d => exact q
    | own ds =>
      obtain ⟨a, vs, e1, ha, r⟩ := q
      refine ⟨a, vs, e1, ?_, r⟩
      have hne : a ≠ D_ := fun z => hno i _ h rfl (by
        subst z
        cases q2 : σ[i]? with
        | none => rw [q2] at e1; cases e1
        | some o => rw [q2] at e1; exact congrArg some e1)
      rw [upd_ne hne]
      exact ha
    | ownd kd kvs =>
      obtain ⟨a, ks, vs, e1, ⟨u, hu⟩, hd, r⟩ := q
      have hne : a ≠ D_ := fun z => hno i _ h rfl (by
        subst z
        cases q2 : σ[i]? with
        | none => rw [q2] at e1; cases e1
        | some o => rw [q2] at e1; exact congrArg some e1)
      refine ⟨a, ks, vs, e1, ⟨u, by rw [upd_ne hne]; exact hu⟩, ?_, r⟩
      refine Same.dat (fun b o' q => ?_) hd
      by_cases hb : b = a
      · simp only [hb, if_true] at q ⊢
        rw [upd_ne hne]
        exact q
      · simp only [if_neg hb] at q; cases q
  · rw [upd_ne (ne_of_none (F.h0 a u q |> fun _ => q) h0)]
    exact F.h0 a u q
  · rw [upd_ne (ne_of_none q gn)]
    exact F.gh a u q
theorem lc_imp {own : List (Str × Nat)} {t : Tg} {fi : Pv.Env → Res (List D)} {fc : Pv.Env → Res Bool} {fe : Pv.Env → Res D} (hsub : ∀ i ∈ t.slots, i ∈ own.map (·.2)) :
    ∀ σ H Q, tq g ex W (RSl g H) (fun e => (fi e).bind fun items => (compL (stepC t (own.map (·.2)) fc fe e) items).nox.bind fun l => if l.length ≤ line then .ok (.own l) else .bad) σ H Q → tLc (tq g ex W (RIw g) fi) (gOf g.K t) (tq g ex W0 RB fc) (tq g ex W0 (RS g) fe) (own.map (·.2)) σ H Q := by
  intro σ H Q q
  obtain ⟨e, H0, G0, G, F, p⟩ := q
  refine ⟨e, H0, G0, G, F, p.bind fun items J H1 G1 E1 R1 p1 => fun D_ hD => ?_⟩
  have R1 : Wk g J items G1 H1 := R1
  cases hc : compL (stepC t (own.map (·.2)) fc fe e) items with
  | exc c p' => rw [hc] at p1; exact p1.elim
  | bad => rw [hc] at p1; exact p1.elim
  | ok l =>
    rw [hc] at p1
    obtain ⟨hl, p1⟩ := (show Post g ex W (RSl g H) (if l.length ≤ line then .ok (.own l) else .bad) G1 H1 σ Q from p1).ite
    have F1 := F.ext E1
    have h0D : H0 D_ = none := F1.h0.free hD
    have hno : ∀ (i : Nat) s, e[i]? = some s → s.isOwn = true → σ[i]? ≠ some (some (.ref D_)) := fun i s h o q => by
      cases s with
      | own ds =>
        obtain ⟨a, vs, e1, ha, _⟩ := F1.ownA h
        rw [q] at e1; cases e1
        rw [hD] at ha; cases ha
      | ownd kd kvs =>
        obtain ⟨a, ks, vs, e1, ⟨u, hu⟩, _⟩ := F1.sl i _ h
        rw [q] at e1; cases e1
        rw [hD] at hu; cases hu
      | _ => cases o
    refine ⟨fun i m H => m = items.length - i ∧ i ≤ items.length ∧ ∃ G acc ds r, LcInv g H0 G0 e σ G1 H1 D_ (stepC t (own.map (·.2)) fc fe e) items l i H G acc ds r, ⟨items.length, by simp, Nat.zero_le _, G1, [], [], l, ?_⟩, ?_⟩
    · have E2 : Ext G1 H1 G1 (upd H1 D_ (.lst [])) := Ext.own E1.gh hD
      exact ⟨F1.ext E2, E2, upd_same, RepA.nil, E1.gh.free hD, by rw [List.drop_zero]; exact hc, by simp⟩
    · rintro i m H2 ⟨rfl, hi', G2, acc, ds, r, I⟩
      by_cases hlt : i < items.length
      · refine .inr ⟨R1.go i H2 I.ext.h hlt, fun H' => ∃ G acc ds r, LcInv g H0 G0 e σ G1 H1 D_ (stepC t (own.map (·.2)) fc fe e) items l (i + 1) H' G acc ds r, fun H' n => ⟨items.length - (i + 1), by omega, rfl, hlt, n⟩, fun x H3 y => ?_⟩
        obtain ⟨G3, d, hd, E3, rx⟩ := R1.yld i H2 G2 x H3 I.ext.h I.ext.g I.ext.gh hlt y
        have hdrop := drop_cons hd
        have hr := I.rest
        rw [hdrop] at hr
        obtain ⟨o, r', ho, hr', rfl⟩ := compL_cons hr
        unfold stepC at ho
        obtain ⟨e1, hb, ho⟩ := res_bind_ok ho
        obtain ⟨c, hfc, ho⟩ := res_bind_ok ho
        have F3 : FR g H0 G0 (wipeE e (own.map (·.2))) (L2.wipe σ (own.map (·.2))) H3 G3 := (I.fr.ext E3).wipe _
        refine bind_ok hb F3 rx fun σ2 F4 w2 => ⟨?_, ?_⟩
        · rw [w2 _ hsub, wipe_wipe]
        · refine ⟨e1, H0, G0, G3, F4, ?_⟩
          rw [hfc]
          intro b H4 G4 E4 hb4
          cases (show c = b from hb4)
          have E34 := E3.trans E4
          cases c with
          | true =>
            rw [if_pos rfl] at ho ⊢
            obtain ⟨y, hfe, ho⟩ := res_bind_ok ho
            cases ho
            refine ⟨e1, H0, G0, G4, F4.ext E4, ?_⟩
            rw [hfe]
            intro u H5 G5 E5 ru
            have E25 := E34.trans E5
            have at5 : H5 D_ = some (.lst acc) := E25.h _ _ I.at_
            have gn5 : G5 D_ = none := by
              cases q : G5 D_ with
              | none => rfl
              | some z =>
                rcases E25.nw D_ (by rw [q]; simp) with w | w
                · exact absurd I.gn w
                · exact absurd I.at_ (by rw [w]; simp)
            have EI := I.ext.trans E25
            have hall : ds ++ y :: r' = l := I.all
            have rl := I.rep.length
            have hz : acc.length < sizeLine := by
              rw [rl, ← line_eq]
              have : (ds ++ (y :: r')).length ≤ line := by rw [hall]; exact hl
              simp at this
              omega
            refine ⟨acc, at5, hz, G5, acc ++ [u], ds ++ [y], r', ⟨(I.fr.ext E25).updD gn5 h0D hno, ?_, upd_same, (RepA.same E25.g I.rep).append (RepA.cons ru RepA.nil), gn5, hr', by rw [List.append_assoc]; exact hall⟩⟩
            exact ⟨EI.g, fun a u q => by rw [upd_ne (ne_of_none q gn5)]; exact EI.gh a u q, fun a u q => by rw [upd_ne (ne_of_none q hD)]; exact EI.h a u q, EI.nw⟩
          | false =>
            rw [if_neg Bool.false_ne_true] at ho ⊢
            cases ho
            have at4 : H4 D_ = some (.lst acc) := E34.h _ _ I.at_
            have gn4 : G4 D_ = none := by
              cases q : G4 D_ with
              | none => rfl
              | some z =>
                rcases E34.nw D_ (by rw [q]; simp) with w | w
                · exact absurd I.gn w
                · exact absurd I.at_ (by rw [w]; simp)
            exact ⟨G4, acc, ds, r', I.fr.ext E34, I.ext.trans E34, at4, RepA.same E34.g I.rep, gn4, hr', I.all⟩
      · have hi2 : i = items.length := by omega
        subst hi2
        refine .inl ⟨R1.stop H2 I.ext.h, ?_⟩
        have hr := I.rest
        rw [List.drop_length] at hr
        cases hr
        have hall := I.all
        rw [List.append_nil] at hall
        subst hall
        exact p1 _ H2 G2 I.ext ⟨D_, acc, rfl, I.at_, I.rep, I.gn, E1.h.free hD⟩
/-- a comprehension, as a value and stored in a name -/
structure LcB (g : Gr) (ex : Nat → Option (Addr × Option Str)) (W : WX) (X : Cx) (e : Expr) (f : Pv.Env → Res Slot) : Prop where
  pe : PNq g ex W X e f
  ps : ∀ (y : Str) (py spos : Pos) (i : Nat), X.N[i]? = some y → X.env.scope.names.lookup y = some .local → swapsWith e (some (.Name y py)) spos.line X.env = pure true →
    PS X (.Assign [.Name y py] e spos) (tAsg (fun σ H Q => tq g ex W (RSl g H) f σ H Q) (gName i))
theorem lcb (C : Cn g N sc k W X) {elt tg iter : Expr} {ifs : List Expr} {scope : Scope} {own : List (Str × Nat)} {pos : Pos} {t : Tg} {fi : Pv.Env → Res (List D)} {fc : Pv.Env → Res Bool} {fe : Pv.Env → Res D}
    (hi : PIq g ex W (RIw g) X tg iter fi) (ok : BlkOk X.N X.env.scope scope own)
    (hg : ∀ (s : Shared) (H : Hp) (C : Addr) (cl : List (Str × Addr)) (fp : List Addr), PG (X.blk s H scope (compEnvC scope cl C X.env) fp) tg (gOf g.K t))
    (ht : ∀ (s : Shared) (H : Hp) (C : Addr) (cl : List (Str × Addr)) (fp : List Addr), PTs (X.blk s H scope (compEnvC scope cl C X.env) fp) ifs (tq g ex W0 RB fc))
    (he : ∀ (s : Shared) (H : Hp) (C : Addr) (cl : List (Str × Addr)) (fp : List Addr), PE (X.blk s H scope (compEnvC scope cl C X.env) fp) elt (tq g ex W0 (RS g) fe))
    (hsub : ∀ i ∈ t.slots, i ∈ own.map (·.2)) (hs : ∀ x, foldedSetIterable iter X.env x = pure x) :
    LcB g ex W X (.ListComp elt [⟨tg, iter, ifs, 0⟩] scope pos) (fun e => (fi e).bind fun items => (compL (stepC t (own.map (·.2)) fc fe e) items).nox.bind fun l => if l.length ≤ line then .ok (.own l) else .bad) := by
  have hN : X.N.Nodup := by rw [C.hN]; exact C.nd
  exact ⟨(pe_lc C.calm hN hi ok hg ht he hs).imp (lc_imp hsub), fun y py spos i hy hyl hsw => (ps_setLc C.calm hN hy hyl hsw hi ok hg ht he hs).imp fun D σ H h => lc_imp hsub σ H _ h⟩
end
end Pv

namespace Pv
open PySem PySem.Spec L2
section
variable {g : Gr} {ex : Nat → Option (Addr × Option Str)} {W : WX} {X : Cx} {N : List Str} {sc : Scope} {k : Nat}
/-- what is wanted behind a statement -/
def PostS (g : Gr) (ex : Nat → Option (Addr × Option Str)) (W : WX) (H0 G0 : Hp) (r : Res Out) (D_ : Ends) : Prop :=
  match r with
  | .ok (.nx e) => ∀ σ H G, FR g H0 G0 e σ H G → D_.nx σ H
  | .ok (.brk e) => ∀ σ H G, FR g H0 G0 e σ H G → D_.bk σ H
  | .ok (.cnt e) => ∀ σ H G, FR g H0 G0 e σ H G → D_.ct σ H
  | .ok (.ret s) => ∀ v H G, Ext G0 H0 G H → RSl g H0 G H s v → D_.rt v H
  | .exc c p => ∀ cls dd σ H G, Ext G0 H0 G H → ExcR g ex G H c p cls dd → W cls dd σ H
  | .bad => False
def tS (g : Gr) (ex : Nat → Option (Addr × Option Str)) (W : WX) (f : Pv.Env → Res Out) : TS := fun D_ σ H => ∃ e H0 G0 G, FR g H0 G0 e σ H G ∧ PostS g ex W H0 G0 (f e) D_
theorem FR.toExt {H0 G0 H G : Hp} {e : Pv.Env} {σ : L2.St} (F : FR g H0 G0 e σ H G) : Ext G0 H0 G H := ⟨F.g0, F.gh, F.h0, F.nw⟩
/-- an expression's evaluation at the head of a statement's -/
theorem PostS.expr {α β : Type} {R : Hp → Hp → α → β → Prop} {H0 G0 H G : Hp} {e : Pv.Env} {σ : L2.St} {r : Res α} {k : α → Res Out} {D_ : Ends} {M : β → Hp → Prop} (F : FR g H0 G0 e σ H G)
    (p : PostS g ex W H0 G0 (r.bind k) D_) (next : ∀ x v H1 G1, r = .ok x → Ext G H G1 H1 → R G1 H1 x v → PostS g ex W H0 G0 (k x) D_ → M v H1) : Post g ex W R r G H σ M := by
  cases r with
  | ok x => exact fun v H1 G1 E1 R1 => next x v H1 G1 rfl E1 R1 p
  | exc c p' => exact fun cls dd H1 G1 E1 X1 => p cls dd σ H1 G1 (F.toExt.trans E1) X1
  | bad => exact p
theorem tS_seq {f1 f2 : Pv.Env → Res Out} {D_ : Ends} {σ : L2.St} {H : Hp} (h : tS g ex W (fun e => (f1 e).bind (thenS f2)) D_ σ H) : tS g ex W f1 { D_ with nx := tS g ex W f2 D_ } σ H := by
  obtain ⟨e, H0, G0, G, F, p⟩ := h
  refine ⟨e, H0, G0, G, F, ?_⟩
  dsimp only at p
  cases hf : f1 e with
  | ok o =>
    rw [hf] at p
    cases o with
    | nx e' => exact fun σ' H' G' F' => ⟨e', H0, G0, G', F', p⟩
    | ret s => exact p
    | brk e' => exact p
    | cnt e' => exact p
  | exc c p' => rw [hf] at p; exact p
  | bad => rw [hf] at p; exact p
abbrev PSq (g : Gr) (ex : Nat → Option (Addr × Option Str)) (W : WX) (X : Cx) (st : Stmt) (f : Pv.Env → Res Out) : Prop := PS X st (tS g ex W f)
abbrev PSsq (g : Gr) (ex : Nat → Option (Addr × Option Str)) (W : WX) (X : Cx) (st : List Stmt) (f : Pv.Env → Res Out) : Prop := PSs X st (tS g ex W f)
theorem psq_nil : PSsq g ex W X [] (fun e => .ok (.nx e)) := pss_nil.imp fun D_ σ H h => by
  obtain ⟨e, H0, G0, G, F, p⟩ := h
  exact p σ H G F
theorem psq_cons {st : Stmt} {rest : List Stmt} {f1 f2 : Pv.Env → Res Out} (h1 : PSq g ex W X st f1) (h2 : PSsq g ex W X rest f2) : PSsq g ex W X (st :: rest) (fun e => (f1 e).bind (thenS f2)) :=
  (pss_cons h1 h2).imp fun D_ σ H h => tS_seq h
/-! ### ghosts: a list of one's own stands from now on -/
theorem FR.frz {H0 G0 H G : Hp} {e : Pv.Env} {σ : L2.St} (F : FR g H0 G0 e σ H G) (i : Nat) : ∃ G', FR g H0 G0 (frzE e i) σ H G' := by
  have key : ∀ (a : Addr) (o : HO) (d : D), σ[i]? = some (some (.ref a)) → H a = some o → G a = none → (∃ s, e[i]? = some s ∧ s.isOwn = true) → (∀ G', Same G G' → G' a = some o → Rep g G' d (.ref a)) → ∃ G', FR g H0 G0 (e.set i (.fro d)) σ H G' := by
    intro a o d hσ hH hG ⟨s, hs, hown⟩ hr
    have E : Ext G0 H0 (upd G a o) H := F.toExt.frz hH hG (F.ow i s a hs hown hσ)
    have sg : Same G (upd G a o) := same_upd hG
    refine ⟨upd G a o, by rw [List.length_set]; exact F.len, fun j t h => ?_, fun j l t u b hjl h1 h2 o1 o2 h3 h4 => ?_, fun j t b h1 o1 h2 => ?_, F.h0, E.g, E.gh, E.nw⟩
    · by_cases hj : i = j
      · subst hj
        have hi := (List.getElem?_eq_some_iff.mp hs).1
        rw [List.getElem?_set_self hi] at h
        cases h
        exact ⟨.ref a, by rw [hσ]; rfl, hr _ sg upd_same⟩
      · rw [List.getElem?_set_ne hj] at h
        have q := F.sl j t h
        have na : ∀ b, t.isOwn = true → σ[j]? = some (some (.ref b)) → b ≠ a := fun b ot hb z => by
          subst z
          exact F.dj i j s t b hj hs h hown ot hσ hb
        cases t with
        | no => trivial
        | fro d' =>
          obtain ⟨v, e1, r⟩ := q
          exact ⟨v, e1, Rep.same sg r⟩
        | own ds =>
          obtain ⟨b, vs, e1, hb, r, gn⟩ := q
          refine ⟨b, vs, e1, hb, RepA.same sg r, ?_⟩
          have hne := na b rfl (by
            cases q2 : σ[j]? with
            | none => rw [q2] at e1; cases e1
            | some o => rw [q2] at e1; exact congrArg some e1)
          rw [upd_ne hne]
          exact gn
        | ownd kd kvs =>
          obtain ⟨b, ks, vs, e1, hb, hd, r, gn⟩ := q
          refine ⟨b, ks, vs, e1, hb, hd, RepK.same sg r, ?_⟩
          have hne := na b rfl (by
            cases q2 : σ[j]? with
            | none => rw [q2] at e1; cases e1
            | some o => rw [q2] at e1; exact congrArg some e1)
          rw [upd_ne hne]
          exact gn
    · have nj : i ≠ j := fun q => by
        subst q
        rw [List.getElem?_set_self (List.getElem?_eq_some_iff.mp hs).1] at h1; cases h1; cases o1
      have nl : i ≠ l := fun q => by
        subst q
        rw [List.getElem?_set_self (List.getElem?_eq_some_iff.mp hs).1] at h2; cases h2; cases o2
      rw [List.getElem?_set_ne nj] at h1
      rw [List.getElem?_set_ne nl] at h2
      exact F.dj j l t u b hjl h1 h2 o1 o2 h3 h4
    · have nj : i ≠ j := fun q => by
        subst q
        rw [List.getElem?_set_self (List.getElem?_eq_some_iff.mp hs).1] at h1; cases h1; cases o1
      rw [List.getElem?_set_ne nj] at h1
      exact F.ow j t b h1 o1 h2
  unfold frzE
  cases hs : e[i]? with
  | none => exact ⟨G, F⟩
  | some s =>
    cases s with
    | no => exact ⟨G, F⟩
    | fro d => exact ⟨G, F⟩
    | own ds =>
      obtain ⟨a, vs, e1, ha, r, gn⟩ := F.ownA hs
      refine key a _ (.lst ds) e1 ha gn ⟨_, hs, rfl⟩ fun G' sg hg' => ?_
      unfold Rep
      exact ⟨a, vs, rfl, .of hg', RepA.same sg r⟩
    | ownd kd kvs =>
      have q := F.sl i _ hs
      obtain ⟨a, ks, vs, e1, ⟨u, hu⟩, hd, r, gn⟩ := q
      have e2 : σ[i]? = some (some (.ref a)) := by
        cases q2 : σ[i]? with
        | none => rw [q2] at e1; cases e1
        | some o => rw [q2] at e1; exact congrArg some e1
      refine key a u (.dic kd kvs) e2 hu gn ⟨_, hs, rfl⟩ fun G' sg hg' => ?_
      unfold Rep
      refine ⟨a, ks, vs, rfl, Same.dat (fun b o q => ?_) hd, RepK.same sg r⟩
      by_cases hb : b = a
      · simp only [hb, if_true] at q; rw [hu] at q; cases q; rw [hb]; exact hg'
      · simp only [if_neg hb] at q; cases q
theorem psq_frz {st : List Stmt} {f : Pv.Env → Res Out} (i : Nat) (h : PSsq g ex W X st f) : PSsq g ex W X st (fun e => (Res.ok (Out.nx (frzE e i))).bind (thenS f)) :=
  h.imp fun D_ σ H q => by
    obtain ⟨e, H0, G0, G, F, p⟩ := q
    obtain ⟨G', F'⟩ := F.frz i
    exact ⟨frzE e i, H0, G0, G', F', p⟩
/-! ### assignments -/
theorem swaps_not {e : Expr} (h : ∀ a b c d, e ≠ .ListComp a b c d) (h2 : ∀ a b c d, e ≠ .SetComp a b c d) (h3 : ∀ a b c d f, e ≠ .DictComp a b c d f) (t : Option Expr) (l : Nat) (env : PySem.Env) : swapsWith e t l env = pure false := by
  cases e <;> first | rfl | exact absurd rfl (h _ _ _ _) | exact absurd rfl (h2 _ _ _ _) | exact absurd rfl (h3 _ _ _ _ _)
theorem FR.setSlot {H0 G0 H G H' G' : Hp} {e : Pv.Env} {σ : L2.St} (F : FR g H0 G0 e σ H G) (E : Ext G H G' H') (i : Nat) {s : Slot} {v : V} (r : RSl g H G' H' s v) : FR g H0 G0 (e.set i s) (σ.set i (some v)) H' G' := by
  have F' := F.ext E
  cases s with
  | no => exact r.elim
  | fro d => exact F'.setFro i r
  | own ds =>
    obtain ⟨a, vs, rfl, ha, rr, gn, hn⟩ := r
    refine ⟨by rw [List.length_set, List.length_set]; exact F'.len, fun j t h => ?_, fun j l t u b hjl h1 h2 o1 o2 h3 h4 => ?_, fun j t b h1 o1 h2 => ?_, F'.h0, F'.g0, F'.gh, F'.nw⟩
    · by_cases hj : i = j
      · subst hj
        have hi : i < e.length := by
          by_cases q : i < e.length
          · exact q
          · rw [List.getElem?_eq_none (by simp; omega)] at h; cases h
        rw [List.getElem?_set_self hi] at h
        cases h
        exact ⟨a, vs, join_set (by rw [F.len]; exact hi), ha, rr, gn⟩
      · rw [List.getElem?_set_ne hj] at h ⊢
        exact F'.sl j t h
    · have hi : ∀ (m : Nat) t, i = m → (e.set i (.own ds))[m]? = some t → i < e.length := fun m t q h => by
        subst q
        by_cases q : i < e.length
        · exact q
        · rw [List.getElem?_eq_none (by simp; omega)] at h; cases h
      have other : ∀ (m : Nat) t, i ≠ m → (e.set i (.own ds))[m]? = some t → t.isOwn = true → (σ.set i (some (.ref a)))[m]? = some (some (.ref b)) → H b ≠ none := fun m t hm ht ot hb hz => by
        rw [List.getElem?_set_ne hm] at ht hb
        have q := F.sl m t ht
        cases t with
        | own ds' =>
          obtain ⟨c, vs', e1, hc, _⟩ := q
          rw [hb] at e1; cases e1
          rw [hz] at hc; cases hc
        | ownd kd kvs =>
          obtain ⟨c, ks, vs', e1, ⟨w, hw⟩, _⟩ := q
          rw [hb] at e1; cases e1
          rw [hz] at hw; cases hw
        | _ => cases ot
      by_cases hj : i = j
      · have hl : i ≠ l := fun q => hjl (hj.symm.trans q)
        subst hj
        rw [List.getElem?_set_self (by rw [F.len]; exact hi i t rfl h1)] at h3
        cases h3
        exact other l u hl h2 o2 h4 hn
      · by_cases hl : i = l
        · subst hl
          rw [List.getElem?_set_self (by rw [F.len]; exact hi i u rfl h2)] at h4
          cases h4
          exact other j t hj h1 o1 h3 hn
        · rw [List.getElem?_set_ne hj] at h1 h3
          rw [List.getElem?_set_ne hl] at h2 h4
          exact F'.dj j l t u b hjl h1 h2 o1 o2 h3 h4
    · by_cases hj : i = j
      · subst hj
        have hi : i < e.length := by
          by_cases q : i < e.length
          · exact q
          · rw [List.getElem?_eq_none (by simp; omega)] at h1; cases h1
        rw [List.getElem?_set_self (by rw [F.len]; exact hi)] at h2
        cases h2
        exact F.h0.free hn
      · rw [List.getElem?_set_ne hj] at h1 h2
        exact F'.ow j t b h1 o1 h2
  | ownd kd kvs =>
    obtain ⟨a, ks, vs, rfl, hu, hdd, rr, gn, hn⟩ := r
    refine ⟨by rw [List.length_set, List.length_set]; exact F'.len, fun j t h => ?_, fun j l t u b hjl h1 h2 o1 o2 h3 h4 => ?_, fun j t b h1 o1 h2 => ?_, F'.h0, F'.g0, F'.gh, F'.nw⟩
    · by_cases hj : i = j
      · subst hj
        have hi : i < e.length := by
          by_cases q : i < e.length
          · exact q
          · rw [List.getElem?_eq_none (by simp; omega)] at h; cases h
        rw [List.getElem?_set_self hi] at h
        cases h
        exact ⟨a, ks, vs, join_set (by rw [F.len]; exact hi), hu, hdd, rr, gn⟩
      · rw [List.getElem?_set_ne hj] at h ⊢
        exact F'.sl j t h
    · have hi : ∀ (m : Nat) t, i = m → (e.set i (.ownd kd kvs))[m]? = some t → i < e.length := fun m t q h => by
        subst q
        by_cases q : i < e.length
        · exact q
        · rw [List.getElem?_eq_none (by simp; omega)] at h; cases h
      have other : ∀ (m : Nat) t, i ≠ m → (e.set i (.ownd kd kvs))[m]? = some t → t.isOwn = true → (σ.set i (some (.ref a)))[m]? = some (some (.ref b)) → H b ≠ none := fun m t hm ht ot hb hz => by
        rw [List.getElem?_set_ne hm] at ht hb
        have q := F.sl m t ht
        cases t with
        | own ds' =>
          obtain ⟨c, vs', e1, hc, _⟩ := q
          rw [hb] at e1; cases e1
          rw [hz] at hc; cases hc
        | ownd kd kvs =>
          obtain ⟨c, ks, vs', e1, ⟨w, hw⟩, _⟩ := q
          rw [hb] at e1; cases e1
          rw [hz] at hw; cases hw
        | _ => cases ot
      by_cases hj : i = j
      · have hl : i ≠ l := fun q => hjl (hj.symm.trans q)
        subst hj
        rw [List.getElem?_set_self (by rw [F.len]; exact hi i t rfl h1)] at h3
        cases h3
        exact other l u hl h2 o2 h4 hn
      · by_cases hl : i = l
        · subst hl
          rw [List.getElem?_set_self (by rw [F.len]; exact hi i u rfl h2)] at h4
          cases h4
          exact other j t hj h1 o1 h3 hn
        · rw [List.getElem?_set_ne hj] at h1 h3
          rw [List.getElem?_set_ne hl] at h2 h4
          exact F'.dj j l t u b hjl h1 h2 o1 o2 h3 h4
    · by_cases hj : i = j
      · subst hj
        have hi : i < e.length := by
          by_cases q : i < e.length
          · exact q
          · rw [List.getElem?_eq_none (by simp; omega)] at h1; cases h1
        rw [List.getElem?_set_self (by rw [F.len]; exact hi)] at h2
        cases h2
        exact F.h0.free hn
      · rw [List.getElem?_set_ne hj] at h1 h2
        exact F'.ow j t b h1 o1 h2
/-- x = e -/
theorem asg_imp {fs : Pv.Env → Res Slot} {i : Nat} {D_ : Ends} {σ : L2.St} {H : Hp} (h : tS g ex W (fun e => (fs e).bind fun s => .ok (.nx (e.set i s))) D_ σ H) : tAsg (fun σ H Q => tq g ex W (RSl g H) fs σ H Q) (gName i) D_ σ H := by
  obtain ⟨e, H0, G0, G, F, p⟩ := h
  exact ⟨e, H0, G0, G, F, PostS.expr F p fun s v H1 G1 _ E1 R1 p1 => p1 _ _ _ (F.setSlot E1 i R1)⟩
theorem psq_setN (C : Cn g N sc k W X) (hfn : ∀ x, X.fn x = true) {i : Nat} {x : Str} {e : Expr} {fs : Pv.Env → Res Slot} {pos pos' : Pos} (hi : X.N[i]? = some x) (hx : Loc X.env.scope x) (he : PNq g ex W X e fs)
    (hsw : swapsWith e (some (.Name x pos')) pos.line X.env = pure false) : PSq g ex W X (.Assign [.Name x pos'] e pos) (fun e => (fs e).bind fun s => .ok (.nx (e.set i s))) :=
  (ps_set (by rw [C.hN]; exact C.nd) hi hx he hsw (.inl (hfn x))).imp fun D_ σ H h => asg_imp h
theorem psq_setLc {i : Nat} {x : Str} {e : Expr} {fs : Pv.Env → Res Slot} {pos pos' : Pos} (hi : X.N[i]? = some x) (hx : X.env.scope.names.lookup x = some .local) (he : LcB g ex W X e fs)
    (hsw : swapsWith e (some (.Name x pos')) pos.line X.env = pure true) : PSq g ex W X (.Assign [.Name x pos'] e pos) (fun e => (fs e).bind fun s => .ok (.nx (e.set i s))) :=
  (he.ps x pos' pos i hi hx hsw).imp fun D_ σ H h => asg_imp h
/-- return e -/
theorem psq_retN {e : Expr} {fs : Pv.Env → Res Slot} {pos : Pos} (he : PNq g ex W X e fs) : PSq g ex W X (.Return (some e) pos) (fun e => (fs e).bind fun s => .ok (.ret s)) :=
  (ps_ret he).imp fun D_ σ H h => by
    obtain ⟨e, H0, G0, G, F, p⟩ := h
    refine ⟨e, H0, G0, G, F, PostS.expr F p fun s v H1 G1 _ E1 R1 p1 => p1 v H1 G1 (F.toExt.trans E1) ?_⟩
    cases s with
    | no => exact R1
    | fro d => exact R1
    | own ds => obtain ⟨a, vs, h1, h2, h3, h4, h5⟩ := R1; exact ⟨a, vs, h1, h2, h3, h4, F.h0.free h5⟩
    | ownd kd kvs => obtain ⟨a, ks, vs, h1, h2, h3, h4, h5, h6⟩ := R1; exact ⟨a, ks, vs, h1, h2, h3, h4, h5, F.h0.free h6⟩
/-- return x -/
theorem psq_retO {i : Nat} {x : Str} {p pos : Pos} (hv : PE X (.Name x p) (tVar i)) : PSq g ex W X (.Return (some (.Name x p)) pos) (fun e => retS e i) :=
  (ps_ret hv).imp fun D_ σ H h => by
    obtain ⟨e, H0, G0, G, F, p⟩ := h
    dsimp only [retS] at p
    cases hs : e[i]? with
    | none => rw [hs] at p; exact p.elim
    | some s =>
      rw [hs] at p
      cases s with
      | no => exact p.elim
      | fro d =>
        obtain ⟨v, e1, r⟩ := F.fro hs
        exact ⟨v, e1, p v H G F.toExt r⟩
      | own ds =>
        obtain ⟨a, vs, e1, ha, r, gn⟩ := F.ownA hs
        exact ⟨.ref a, e1, p _ H G F.toExt ⟨a, vs, rfl, ha, r, gn, F.ow i _ a hs rfl e1⟩⟩
      | ownd kd kvs => exact p.elim
theorem psq_retNone {pos : Pos} : PSq g ex W X (.Return none pos) (fun e => .ok (.ret (.fro .non))) :=
  ps_retN.imp fun D_ σ H h => by
    obtain ⟨e, H0, G0, G, F, p⟩ := h
    exact p .non H G F.toExt rfl
/-! ### a, b = e -/
def isTupE : Expr → Bool
  | .Tuple _ _ _ => true
  | .List _ _ => true
  | _ => false
theorem swapped_not {t e : Expr} (ht : isTupE t = false) (env : PySem.Env) : swappedStores [t] e env = pure none := by
  cases t <;> first | (cases e <;> rfl) | (cases ht; done)
theorem swapped_not2 {t e : Expr} (he : isTupE e = false) (env : PySem.Env) : swappedStores [t] e env = pure none := by
  cases e <;> first | (cases t <;> rfl) | (cases he; done)
theorem swaps_noName {t e : Expr} (ht : ∀ x p, t ≠ .Name x p) (l : Nat) (env : PySem.Env) : swapsWithSole [t] e l env = pure false := by
  show swapsWith e (some t) l env = pure false
  cases t <;> first | exact absurd rfl (ht _ _) | (cases e <;> rfl)
theorem psq_setT {ts : List Expr} {is : List Nat} {e : Expr} {fe : Pv.Env → Res D} {kt : Nat} {pt pos : Pos} (hg : PG X (.Tuple ts kt pt) (gOf g.K (.many is))) (he : PEq g ex W (RS g) X e fe) (hw : swappedStores [.Tuple ts kt pt] e X.env = pure none) :
    PSq g ex W X (.Assign [.Tuple ts kt pt] e pos) (fun e => (fe e).bind (unpD is e)) :=
  (ps_asg he hg (swaps_noName (fun _ _ => by simp) _ _) hw rfl).imp fun D_ σ H h => by
    obtain ⟨e, H0, G0, G, F, p⟩ := h
    refine ⟨e, H0, G0, G, F, PostS.expr F p fun d v H1 G1 _ E1 R1 p1 => ?_⟩
    cases d with
    | tup ds =>
      have p1 : PostS g ex W H0 G0 ((setMany is ds e).bind fun e' => .ok (.nx e')) D_ := p1
      cases hb : setMany is ds e with
      | ok e1 =>
        rw [hb] at p1
        exact bind_ok (t := .many is) (d := .tup ds) (e1 := e1) hb (F.ext E1) R1 fun σ2 F2 _ => p1 σ2 H1 G1 F2
      | exc c p' =>
        have : ∀ (is : List Nat) (ds : List D) (e : Pv.Env) c p, setMany is ds e ≠ .exc c p := by
          intro is
          induction is with
          | nil => intro ds e c p h; cases ds <;> cases h
          | cons i is ih => intro ds e c p h; cases ds with | nil => cases h | cons d ds => exact ih ds _ c p h
        exact absurd hb (this _ _ _ _ _)
      | bad => rw [hb] at p1; exact p1.elim
    | _ => exact False.elim p1
theorem psq_par (C : Cn g N sc k W X) {i j : Nat} {x y : Str} {a b : Expr} {fa fb : Pv.Env → Res D} {px py pt pos : Pos} {kt k2 pt2} (hi : X.N[i]? = some x) (hj : X.N[j]? = some y) (hij : i ≠ j)
    (hx : X.env.scope.names.lookup x = some .local) (hy : X.env.scope.names.lookup y = some .local) (hsa : notStar a = true) (hsb : notStar b = true) (ha : PEq g ex W (RS g) X a fa) (hb : PEq g ex W (RS g) X b fb)
    (hw : swappedStores [.Tuple [.Name x px, .Name y py] kt pt] (.Tuple [a, b] k2 pt2) X.env = pure (some [x, y])) :
    PSq g ex W X (.Assign [.Tuple [.Name x px, .Name y py] kt pt] (.Tuple [a, b] k2 pt2) pos) (fun e => (fa e).bind fun x => (fb e).bind fun y => .ok (.nx ((e.set i (.fro x)).set j (.fro y)))) :=
  (ps_par C.calm (by rw [C.hN]; exact C.nd) hi hj hij hx hy (pa_cons ha (pa_cons hb pa_nil (starEach_cons hsb _ _)) (starEach_cons hsa _ _)) hw (swaps_noName (fun _ _ => by simp) _ _)).imp fun D_ σ H h => by
    obtain ⟨e, H0, G0, G, F, p⟩ := h
    refine ⟨e, H0, G0, G, F, PostS.expr F p fun d v H1 G1 _ E1 R1 p1 => ?_⟩
    have F1 := F.ext E1
    refine ⟨e, H0, G0, G1, F1, PostS.expr F1 p1 fun d2 v2 H2 G2 _ E2 R2 p2 => ⟨v, v2, rfl, ?_⟩⟩
    have F2 := F1.ext E2
    exact p2 _ H2 G2 ((F2.setFro i (Rep.same E2.g R1)).setFro j R2)
/-! ### one's own lists changed -/
theorem FR.wr {H0 G0 H G : Hp} {e : Pv.Env} {σ : L2.St} (F : FR g H0 G0 e σ H G) {i : Nat} {a : Addr} {ds ds' : List D} {vs' : List V} (hs : e[i]? = some (.own ds)) (hσ : σ[i]? = some (some (.ref a))) (r : RepA g G ds' vs') :
    FR g H0 G0 (e.set i (.own ds')) σ (upd H a (.lst vs')) G := by
  obtain ⟨a', vs, e1, ha, _, gn⟩ := F.ownA hs
  rw [hσ] at e1; cases e1
  have h0 := F.ow i _ a hs rfl hσ
  have hi := (List.getElem?_eq_some_iff.mp hs).1
  have own : ∀ (j : Nat) t, (e.set i (.own ds'))[j]? = some t → t.isOwn = true → ∃ t', e[j]? = some t' ∧ t'.isOwn = true := fun j t h o => by
    by_cases hj : i = j
    · subst hj; exact ⟨_, hs, rfl⟩
    · rw [List.getElem?_set_ne hj] at h; exact ⟨t, h, o⟩
  refine ⟨by rw [List.length_set]; exact F.len, fun j t h => ?_, fun j l t u b hjl h1 h2 o1 o2 h3 h4 => ?_, fun j t b h1 o1 h2 => ?_, fun b u q => ?_, F.g0, fun b u q => ?_, F.nw⟩
  · by_cases hj : i = j
    · subst hj
      rw [List.getElem?_set_self hi] at h
      cases h
      exact ⟨a, vs', by rw [hσ]; rfl, upd_same, r, gn⟩
    · rw [List.getElem?_set_ne hj] at h
      have q := F.sl j t h
      have na : ∀ b, t.isOwn = true → σ[j]? = some (some (.ref b)) → b ≠ a := fun b ot hb z => by
        subst z
        exact F.dj i j _ t b hj hs h rfl ot hσ hb
      cases t with
      | no => trivial
      | fro d' => exact q
      | own ds2 =>
        obtain ⟨b, vs2, e1, hb, r2, gn2⟩ := q
        have hne := na b rfl (by
          cases q2 : σ[j]? with
          | none => rw [q2] at e1; cases e1
          | some o => rw [q2] at e1; exact congrArg some e1)
        exact ⟨b, vs2, e1, by rw [upd_ne hne]; exact hb, r2, gn2⟩
      | ownd kd kvs =>
        obtain ⟨b, ks, vs2, e1, ⟨w, hw⟩, hd, r2, gn2⟩ := q
        have hne := na b rfl (by
          cases q2 : σ[j]? with
          | none => rw [q2] at e1; cases e1
          | some o => rw [q2] at e1; exact congrArg some e1)
        refine ⟨b, ks, vs2, e1, ⟨w, by rw [upd_ne hne]; exact hw⟩, Same.dat (fun c o' q => ?_) hd, r2, gn2⟩
        by_cases hb : c = b
        · simp only [hb, if_true] at q ⊢
          rw [upd_ne hne]
          exact q
        · simp only [if_neg hb] at q; cases q
  · obtain ⟨t', ht, ot⟩ := own j t h1 o1
    obtain ⟨u', hu, ou⟩ := own l u h2 o2
    exact F.dj j l t' u' b hjl ht hu ot ou h3 h4
  · obtain ⟨t', ht, ot⟩ := own j t h1 o1
    exact F.ow j t' b ht ot h2
  · rw [upd_ne (ne_of_none q h0)]
    exact F.h0 b u q
  · rw [upd_ne (ne_of_none q gn)]
    exact F.gh b u q
theorem psq_app {i : Nat} {x : Str} {e : Expr} {fe : Pv.Env → Res D} {p apos cpos pos : Pos} (hv : PE X (.Name x p) (tVar i)) (he : PEq g ex W (RS g) X e fe) (hs : notStar e = true) (hline : (apos.endLine == cpos.line) = true) (hK : X.K = g.K) :
    PSq g ex W X (.Expr (.Call (.Attribute (.Name x p) "append" apos) [e] [] cpos) pos) (fun e => if isOwnL e i then (fe e).bind fun d => appS e i d else .bad) := by
  have hb : attributeBase (.Name x p) "append" X.env (eval (.Name x p) X.env) = eval (.Name x p) X.env := attrBase rfl _ _ _
  have hst : notStar e = true := hs
  refine (ps_expr (pe_bm PySem.F.plainAttrs_list PySem.F.slot_list_append PySem.F.type_list_append mt_append hv (pa_cons he pa_nil (starEach_cons hs _ _)) hb (by rw [starEach_cons hs]; rfl) hline (starEach_cons hs _ _) rfl) rfl).imp fun D_ σ H h => ?_
  obtain ⟨e, H0, G0, G, F, p⟩ := h
  dsimp only at p
  cases ho : isOwnL e i with
  | false => rw [ho] at p; exact p.elim
  | true =>
    rw [ho, if_pos rfl] at p
    obtain ⟨ds, hs⟩ : ∃ ds, e[i]? = some (.own ds) := by
      unfold isOwnL at ho
      split at ho
      · exact ⟨_, by assumption⟩
      · cases ho
    obtain ⟨a, vs, e1, ha, r, gn⟩ := F.ownA hs
    refine ⟨.ref a, e1, .inl ⟨rfl, _, .of ha⟩, e, H0, G0, G, F, PostS.expr F p fun d v H1 G1 _ E1 R1 p1 => ?_⟩
    have F1 := F.ext E1
    have ha1 := E1.h _ _ ha
    unfold appS at p1
    rw [hs] at p1
    by_cases hl : ds.length + 1 ≤ line
    · have p1 : PostS g ex W H0 G0 (.ok (.nx (e.set i (.own (ds ++ [d]))))) D_ := by
        have q : PostS g ex W H0 G0 (if ds.length + 1 ≤ line then .ok (.nx (e.set i (.own (ds ++ [d])))) else .bad) D_ := p1
        rw [if_pos hl] at q; exact q
      refine ⟨a, vs, v, rfl, rfl, ha1, by rw [r.length, ← line_eq]; exact hl, ?_⟩
      exact p1 _ _ G1 (F1.wr hs e1 ((RepA.same E1.g r).append (RepA.cons R1 RepA.nil)))
    · have q : PostS g ex W H0 G0 (if ds.length + 1 ≤ line then .ok (.nx (e.set i (.own (ds ++ [d])))) else .bad) D_ := p1
      rw [if_neg hl] at q; exact q.elim
theorem isOwnL_of {e : Pv.Env} {i : Nat} (h : isOwnL e i = true) : ∃ ds, e[i]? = some (.own ds) := by
  unfold isOwnL at h
  split at h
  · exact ⟨_, by assumption⟩
  · cases h
theorem asg_sub {o ke : Expr} {tpos : Pos} {env : PySem.Env} (h : notSlice ke = true) (v : Value) : assign (.Subscript o ke tpos) env v = (do
      let ov ← holding [v] (eval o env)
      let iv ← holding [v, ov] (eval ke env)
      standAt tpos
      holding [v, ov, iv] (setItem ov iv v)
      release [v, ov, iv] []) := by
  cases ke <;> first | rfl | (cases h; done)
theorem psq_seti {i : Nat} {x : Str} {ke e : Expr} {fk fe : Pv.Env → Res D} {p tpos pos : Pos} (hv : PE X (.Name x p) (tVar i)) (hk : PEq g ex W (RS g) X ke fk) (he : PEq g ex W (RS g) X e fe) (hsl : notSlice ke = true) :
    PSq g ex W X (.Assign [.Subscript (.Name x p) ke tpos] e pos) (fun e => (fe e).bind fun d => if isOwnL e i then (fk e).bind fun kd => setiS e i kd d else .bad) := by
  refine (ps_asg he (pg_sub hv hk set_list (asg_sub hsl)) (swaps_noName (fun _ _ => by simp) _ _) (swapped_not rfl _) rfl).imp fun D_ σ H h => ?_
  obtain ⟨e, H0, G0, G, F, p⟩ := h
  refine ⟨e, H0, G0, G, F, PostS.expr F p fun d v H1 G1 _ E1 R1 p1 => ?_⟩
  have F1 := F.ext E1
  cases ho : isOwnL e i with
  | false => rw [ho] at p1; exact p1.elim
  | true =>
    rw [ho, if_pos rfl] at p1
    obtain ⟨ds, hs⟩ := isOwnL_of ho
    obtain ⟨a, vs, e1, ha, r, gn⟩ := F1.ownA hs
    refine ⟨.ref a, e1, e, H0, G0, G1, F1, PostS.expr F1 p1 fun kd u H2 G2 _ E2 R2 p2 => ?_⟩
    have F2 := F1.ext E2
    unfold setiS at p2
    rw [hs] at p2
    cases kd with
    | int n =>
      cases (show u = .int n from R2)
      have p2 : PostS g ex W H0 G0 (match ixNat ds.length n with | some j => .ok (.nx (e.set i (.own (ds.set j d)))) | none => .bad) D_ := p2
      cases hj : ixNat ds.length n with
      | none => rw [hj] at p2; exact p2.elim
      | some j =>
        rw [hj] at p2
        refine ⟨a, vs, n, j, rfl, rfl, E2.h _ _ ha, by rw [r.length]; exact hj, ?_⟩
        exact p2 _ _ G2 (F2.wr hs e1 ((RepA.same E2.g r).set j (Rep.same E2.g R1)))
    | _ => exact False.elim p2
/-! ### x op= e -/
theorem aug_ok (op : Operator) : ∃ r : R2, OpR X (inplaceOp op) r ∧ ∀ (x y : D) (v u : V) (G H : Hp) (σ : L2.St) (Q : VK), Same G H → Rep g G x v → Rep g G y u → Post g ex W (RS g) (augD op x y) G H σ Q → r v u H Q := by
  have nope : ∀ op', (∀ x y, augD op' x y = .bad) → ∃ r : R2, OpR X (inplaceOp op') r ∧ ∀ (x y : D) (v u : V) (G H : Hp) (σ : L2.St) (Q : VK), Same G H → Rep g G x v → Rep g G y u → Post g ex W (RS g) (augD op' x y) G H σ Q → r v u H Q :=
    fun op' hb => ⟨fun _ _ _ _ => False, fun _ _ _ _ _ _ _ _ _ _ _ _ h => h.elim, fun x y v u G H σ Q _ _ _ p => by rw [hb] at p; exact p⟩
  cases op with
  | Add =>
    refine ⟨_, iop_add, fun x y v u G H σ Q gh rx ry p => ?_⟩
    cases x with
    | int i =>
      cases y with
      | int j => cases (show v = .int i from rx); cases (show u = .int j from ry); exact ⟨i, j, rfl, rfl, p.val gh rfl⟩
      | _ => exact False.elim p
    | _ => exact False.elim p
  | Sub =>
    refine ⟨_, iop_sub, fun x y v u G H σ Q gh rx ry p => ?_⟩
    cases x with
    | int i =>
      cases y with
      | int j => cases (show v = .int i from rx); cases (show u = .int j from ry); exact ⟨i, j, rfl, rfl, p.val gh rfl⟩
      | _ => exact False.elim p
    | _ => exact False.elim p
  | Mult =>
    refine ⟨_, iop_mul, fun x y v u G H σ Q gh rx ry p => ?_⟩
    cases x with
    | int i =>
      cases y with
      | int j =>
        cases (show v = .int i from rx); cases (show u = .int j from ry)
        obtain ⟨hl, p⟩ := Post.ite (c := (decide (i.natAbs < 2 ^ 63) || decide (j.natAbs < 2 ^ 63)) = true) p
        refine ⟨i, j, rfl, rfl, ?_, p.val gh rfl⟩
        rcases Bool.or_eq_true_iff.mp hl with q | q
        · have q := of_decide_eq_true q; exact .inl ⟨by omega, by omega⟩
        · have q := of_decide_eq_true q; exact .inr ⟨by omega, by omega⟩
      | _ => exact False.elim p
    | _ => exact False.elim p
  | FloorDiv =>
    refine ⟨_, iop_fdiv, fun x y v u G H σ Q gh rx ry p => ?_⟩
    cases x with
    | int i =>
      cases y with
      | int j =>
        cases (show v = .int i from rx); cases (show u = .int j from ry)
        obtain ⟨hl, p⟩ := Post.ite (c := decide (0 < j ∧ j < 1073741824) = true) p
        exact ⟨i, j, rfl, rfl, (of_decide_eq_true hl : 0 < j ∧ j < 1073741824), p.val gh rfl⟩
      | _ => exact False.elim p
    | _ => exact False.elim p
  | Mod => exact nope _ fun _ _ => rfl
  | Pow => exact nope _ fun _ _ => rfl
  | MatMult => exact nope _ fun _ _ => rfl
  | Div => exact nope _ fun _ _ => rfl
  | LShift => exact nope _ fun _ _ => rfl
  | RShift => exact nope _ fun _ _ => rfl
  | BitOr => exact nope _ fun _ _ => rfl
  | BitXor => exact nope _ fun _ _ => rfl
  | BitAnd => exact nope _ fun _ _ => rfl
theorem psq_aug (C : Cn g N sc k W X) (hfn : ∀ x, X.fn x = true) {i : Nat} {x : Str} {e : Expr} {op : Operator} {fe : Pv.Env → Res D} {pos pos' : Pos} (hi : X.N[i]? = some x) (hx : Loc X.env.scope x) (he : PEq g ex W (RS g) X e fe) :
    PSq g ex W X (.AugAssign (.Name x pos') op e pos) (fun e => (rdF e i).bind fun o => (fe e).bind fun d => (augD op o d).bind fun r => .ok (.nx (e.set i (.fro r)))) := by
  obtain ⟨r, ho, hr⟩ := aug_ok (g := g) (ex := ex) (W := W) (X := X) op
  refine (ps_aug (ti := r) (by rw [C.hN]; exact C.nd) hi hx he (fun pins s σ H x y v u Q I rx ry h => ho pins s σ H x y v u Q I rx ry h) (.inl (hfn x))).imp fun D_ σ H h => ?_
  obtain ⟨e, H0, G0, G, F, p⟩ := h
  dsimp only [rdF] at p
  cases hs : e[i]? with
  | none => rw [hs] at p; exact p.elim
  | some s =>
    rw [hs] at p
    cases s with
    | fro o =>
      obtain ⟨v, e1, ro⟩ := F.fro hs
      have p : PostS g ex W H0 G0 ((fe e).bind fun d => (augD op o d).bind fun r => .ok (.nx (e.set i (.fro r)))) D_ := p
      refine ⟨v, e1, e, H0, G0, G, F, PostS.expr F p fun d u H1 G1 _ E1 R1 p1 => ?_⟩
      have F1 := F.ext E1
      refine hr o d v u G1 H1 σ _ E1.gh (Rep.same E1.g ro) R1 (PostS.expr F1 p1 fun z w H2 G2 _ E2 R2 p2 => ?_)
      exact p2 _ H2 G2 ((F1.ext E2).setFro i R2)
    | _ => exact False.elim p
/-! ### if, an expression alone, break, continue -/
theorem psq_ite {c : Expr} {a b : List Stmt} {fc : Pv.Env → Res D} {fa fb : Pv.Env → Res Out} {pos : Pos} (hc : PTq g ex W X c fc) (ha : PSsq g ex W X a fa) (hb : PSsq g ex W X b fb) :
    PSq g ex W X (.If c a b pos) (fun e => ((fc e).bind D.truth).bind fun t => if t then fa e else fb e) :=
  (ps_if hc ha hb).imp fun D_ σ H h => by
    obtain ⟨e, H0, G0, G, F, p⟩ := h
    refine ⟨e, H0, G0, G, F, PostS.expr F p fun t t' H1 G1 _ E1 R1 p1 => ?_⟩
    cases (show t = t' from R1)
    cases t with
    | true => rw [if_pos rfl] at p1 ⊢; exact ⟨e, H0, G0, G1, F.ext E1, p1⟩
    | false => rw [if_neg Bool.false_ne_true] at p1 ⊢; exact ⟨e, H0, G0, G1, F.ext E1, p1⟩
theorem psq_drop {e : Expr} {fe : Pv.Env → Res D} {pos : Pos} (he : PEq g ex W (RS g) X e fe) (hsw : swapsWith e none pos.line X.env = pure false) : PSq g ex W X (.Expr e pos) (fun e => (fe e).bind fun _ => .ok (.nx e)) :=
  (ps_expr he hsw).imp fun D_ σ H h => by
    obtain ⟨e, H0, G0, G, F, p⟩ := h
    exact ⟨e, H0, G0, G, F, PostS.expr F p fun d v H1 G1 _ E1 R1 p1 => p1 σ H1 G1 (F.ext E1)⟩
theorem psq_brk {pos : Pos} : PSq g ex W X (.Break pos) (fun e => .ok (.brk e)) := ps_break.imp fun D_ σ H h => by
  obtain ⟨e, H0, G0, G, F, p⟩ := h
  exact p σ H G F
theorem psq_cnt {pos : Pos} : PSq g ex W X (.Continue pos) (fun e => .ok (.cnt e)) := ps_continue.imp fun D_ σ H h => by
  obtain ⟨e, H0, G0, G, F, p⟩ := h
  exact p σ H G F
theorem psq_pass {pos : Pos} : PSq g ex W X (.Pass pos) (fun e => .ok (.nx e)) := ps_pass.imp fun D_ σ H h => by
  obtain ⟨e, H0, G0, G, F, p⟩ := h
  exact p σ H G F
/-! ### while -/
theorem PostS.turn {H0 G0 : Hp} {r : Res Out} {f : Pv.Env → Res Out} {D_ : Ends} {M : L2.St → Hp → Prop} (p : PostS g ex W H0 G0 (r.bind (turnS f)) D_) (next : ∀ e σ H G, FR g H0 G0 e σ H G → PostS g ex W H0 G0 (f e) D_ → M σ H) :
    PostS g ex W H0 G0 r { D_ with nx := M, ct := M, bk := D_.nx } := by
  cases r with
  | ok o =>
    cases o with
    | nx e => exact fun σ H G F => next e σ H G F p
    | cnt e => exact fun σ H G F => next e σ H G F p
    | brk e => exact p
    | ret s => exact p
  | exc c p' => exact p
  | bad => exact p
theorem psq_while (C : Cn g N sc k W X) {c : Expr} {body : List Stmt} {fc : Pv.Env → Res D} {fb : Pv.Env → Res Out} {pos : Pos} (wf : Nat) (hc : PTq g ex W X c fc) (hb : PSsq g ex W X body fb) :
    PSq g ex W X (.While c body [] pos) (fun e => whL (fun e => (fc e).bind D.truth) fb wf e) :=
  (ps_while C.po hc hb).imp fun D_ σ H h => by
    obtain ⟨e, H0, G0, G, F, p⟩ := h
    refine ⟨fun m σ H => ∃ e G, FR g H0 G0 e σ H G ∧ PostS g ex W H0 G0 (whL (fun e => (fc e).bind D.truth) fb m e) D_, ⟨wf, e, G, F, p⟩, ?_⟩
    rintro m σ H ⟨e, G, F, p⟩
    cases m with
    | zero => exact p.elim
    | succ m =>
      have p : PostS g ex W H0 G0 (((fc e).bind D.truth).bind fun b => if b then (fb e).bind (turnS (whL (fun e => (fc e).bind D.truth) fb m)) else .ok (.nx e)) D_ := p
      refine ⟨e, H0, G0, G, F, PostS.expr F p fun t t' H1 G1 _ E1 R1 p1 => ?_⟩
      cases (show t = t' from R1)
      cases t with
      | true =>
        rw [if_pos rfl] at p1 ⊢
        refine ⟨fun σ' H' => ∃ e G, FR g H0 G0 e σ' H' G ∧ PostS g ex W H0 G0 (whL (fun e => (fc e).bind D.truth) fb m e) D_, fun σ' H' n => ⟨m, Nat.lt_succ_self m, n⟩, e, H0, G0, G1, F.ext E1, ?_⟩
        exact p1.turn fun e' σ' H' G' F' q => ⟨e', G', F', q⟩
      | false =>
        rw [if_neg Bool.false_ne_true] at p1 ⊢
        exact p1 σ H1 G1 (F.ext E1)
/-! ### for -/
theorem FR.rebase {H0 G0 H G G1 : Hp} {e : Pv.Env} {σ : L2.St} (s : Same G0 G1) (n : ∀ a, G1 a ≠ none → G0 a ≠ none ∨ H0 a = none) (F : FR g H0 G1 e σ H G) : FR g H0 G0 e σ H G :=
  ⟨F.len, F.sl, F.dj, F.ow, F.h0, s.trans F.g0, F.gh, fun a q => (F.nw a q).elim (n a) .inr⟩
theorem PostS.rebase {H0 G0 G1 : Hp} {r : Res Out} {D_ : Ends} (s : Same G0 G1) (n : ∀ a, G1 a ≠ none → G0 a ≠ none ∨ H0 a = none) (p : PostS g ex W H0 G0 r D_) : PostS g ex W H0 G1 r D_ := by
  have E : ∀ {G H}, Ext G1 H0 G H → Ext G0 H0 G H := fun E => ⟨s.trans E.g, E.gh, E.h, fun a q => (E.nw a q).elim (n a) .inr⟩
  cases r with
  | ok o =>
    cases o with
    | nx e => exact fun σ H G F => p σ H G (F.rebase s n)
    | cnt e => exact fun σ H G F => p σ H G (F.rebase s n)
    | brk e => exact fun σ H G F => p σ H G (F.rebase s n)
    | ret s => exact fun v H G e r => p v H G (E e) r
  | exc c p' => exact fun cls dd σ H G e x => p cls dd σ H G (E e) x
  | bad => exact p
theorem bind_noexc {t : Tg} {d : D} {e : Pv.Env} {c : Nat} {p : D} : bindT t d e ≠ .exc c p := by
  have : ∀ (is : List Nat) (ds : List D) (e : Pv.Env) c p, setMany is ds e ≠ .exc c p := by
    intro is
    induction is with
    | nil => intro ds e c p h; cases ds <;> cases h
    | cons i is ih => intro ds e c p h; cases ds with | nil => cases h | cons d ds => exact ih ds _ c p h
  cases t with
  | one i => intro h; cases h
  | many is =>
    cases d with
    | tup ds => exact this _ _ _ _ _
    | _ => intro h; cases h
theorem psq_for (C : Cn g N sc k W X) {tg iter : Expr} {body : List Stmt} {t : Tg} {fi : Pv.Env → Res (List D)} {fb : Pv.Env → Res Out} {pos : Pos} (hi : PIq g ex W (RIs g) X tg iter fi) (hg : PG X tg (gOf g.K t)) (hb : PSsq g ex W X body fb)
    (hs : ∀ x, foldedSetIterable iter X.env x = pure x) : PSq g ex W X (.For tg iter body [] pos) (fun e => (fi e).bind fun items => forL (fun d e => (bindT t d e).bind fun e1 => fb e1) items e) :=
  (ps_for C.po C.calm hi hg hb hs).imp fun D_ σ H h => by
    obtain ⟨e, H0, G0, G, F, p⟩ := h
    refine ⟨e, H0, G0, G, F, PostS.expr F p fun items J H1 G1 _ E1 R1 p1 => ?_⟩
    have F1 := F.ext E1
    have R1 : Wk g J items G1 G1 := R1
    have p1 := PostS.rebase F1.g0 F1.nw p1
    have F1 : FR g H0 G1 e σ H1 G1 := ⟨F1.len, F1.sl, F1.dj, F1.ow, F1.h0, Same.refl _, F1.gh, fun a q => .inl q⟩
    refine ⟨fun i m σ H => m = items.length - i ∧ i ≤ items.length ∧ ∃ e G, FR g H0 G1 e σ H G ∧ PostS g ex W H0 G1 (forL (fun d e => (bindT t d e).bind fun e1 => fb e1) (items.drop i) e) D_, ⟨items.length, by simp, Nat.zero_le _, e, G1, F1, by rw [List.drop_zero]; exact p1⟩, ?_⟩
    rintro i m σ H ⟨rfl, hi', e, G, F, p⟩
    have sH : Same G1 H := F.g0.trans F.gh
    by_cases hlt : i < items.length
    · refine .inr ⟨R1.go i H sH hlt, fun σ' H' => ∃ e G, FR g H0 G1 e σ' H' G ∧ PostS g ex W H0 G1 (forL (fun d e => (bindT t d e).bind fun e1 => fb e1) (items.drop (i + 1)) e) D_, fun σ' H' n => ⟨items.length - (i + 1), by omega, rfl, hlt, n⟩, fun x H2 y => ?_⟩
      obtain ⟨G2, d, hd, E2, rx⟩ := R1.yld i H G x H2 sH F.g0 F.gh hlt y
      rw [drop_cons hd] at p
      have p : PostS g ex W H0 G1 (((bindT t d e).bind fun e1 => fb e1).bind (turnS (forL (fun d e => (bindT t d e).bind fun e1 => fb e1) (items.drop (i + 1))))) D_ := p
      cases hbd : bindT t d e with
      | exc c p' => exact absurd hbd bind_noexc
      | bad => rw [hbd] at p; exact p.elim
      | ok e1 =>
        rw [hbd] at p
        have p : PostS g ex W H0 G1 ((fb e1).bind (turnS (forL (fun d e => (bindT t d e).bind fun e1 => fb e1) (items.drop (i + 1))))) D_ := p
        refine bind_ok hbd (F.ext E2) rx fun σ2 F2 _ => ⟨e1, H0, G1, G2, F2, ?_⟩
        exact p.turn fun e' σ' H' G' F' q => ⟨e', G', F', q⟩
    · have hi2 : i = items.length := by omega
      subst hi2
      rw [List.drop_length] at p
      exact .inl ⟨R1.stop H sH, p σ H G F⟩
end
end Pv

/-! The check: does a text of the evaluator stand for a def of the program? -/
namespace Pv
open PySem PySem.Spec L2
structure Nm where
  fns : List Str
  gls : List Str
  N : List Str
inductive Md where
  | st | wk | it | its
deriving DecidableEq
def nmOk (T : Nm) (sc : Scope) (i : Nat) (x : Str) : Bool :=
  decide (T.N[i]? = some x) && (decide (sc.names.lookup x = some .local) || decide (sc.names.lookup x = some .cell) || decide (sc.names.lookup x = some .free)) && !(x == ("__debug__" : Str)) && !(x == ("__classdict__" : Str))
def glOk (sc : Scope) (x : Str) : Bool := decide (sc.names.lookup x = some .globalImplicit) && !(x == ("__debug__" : Str)) && !decide (x = "__name__")
def constOk : D → Const → Bool
  | .non, .none => true
  | .bl a, .bool b => a == b
  | .int a, .int b => a == b
  | .str a, .str b => a == b.cps.toList && a.all fun c => decide (c < 0x110000)
  | _, _ => false
def isName (x : Str) : Expr → Bool
  | .Name y _ => decide (x = y)
  | _ => false
/-- the functions and types that are called by name -/
def biName : BI → Option String
  | .len => some "len" | .abs => some "abs" | .int1 => some "int" | .max2 => some "max" | .min2 => some "min" | .all => some "all" | .any => some "any" | .sum => some "sum"
  | .list => some "list" | .tuple => some "tuple" | _ => none
def isTy : BI → Option String
  | .isList => some "list" | .isBool => some "bool" | _ => none
def mName : BI → Option String
  | .split => some "split" | .join => some "join" | _ => none
def notSetE : Expr → Bool
  | .Set _ _ _ => false
  | _ => true
def ownP (T : Nm) (own : List Nat) : List (Str × Nat) := own.map fun i => (T.N.getD i "", i)
def locOk (T : Nm) (sc : Scope) (i : Nat) (x : Str) : Bool := decide (T.N[i]? = some x) && (decide (sc.names.lookup x = some .local) || decide (sc.names.lookup x = some .cell))
def locsOk (T : Nm) (sc : Scope) : List Nat → List Expr → Bool
  | [], [] => true
  | i :: is, .Name x _ :: es => locOk T sc i x && locsOk T sc is es
  | _, _ => false
def tgOk (T : Nm) (sc : Scope) : Tg → Expr → Bool
  | .one i, .Name x _ => locOk T sc i x
  | .many is, .Tuple es _ _ => locsOk T sc is es
  | _, _ => false
def testOk : Pv.X → Bool
  | .ite _ _ _ => false
  | .and a b => testOk a && testOk b
  | .or a b => testOk a && testOk b
  | .not a => testOk a
  | _ => true
def optC (y : Pv.X) (f : Expr → Bool) : Option Expr → Bool
  | none => y.isNil
  | some l => !y.isNil && f l
def isTt : Pv.X → Bool
  | .c (.bl true) => true
  | _ => false
def ifsC (y : Pv.X) (f : Expr → Bool) : List Expr → Bool
  | [] => isTt y
  | [c] => f c
  | _ => false
mutual
def chkE (T : Nm) : Pv.X → Md → Scope → Expr → Bool
  | .v i, _, sc, e => match e with | .Name x _ => nmOk T sc i x | _ => false
  | .o i, m, sc, e => (m == .wk || m == .it) && match e with | .Name x _ => nmOk T sc i x | _ => false
  | .c d, _, sc, e => match e with | .Constant c _ _ => constOk d c | _ => false
  | .gl j, _, sc, e => match e with | .Name x _ => decide (T.gls[j]? = some x) && glOk sc x | _ => false
  | .bin op a b, _, sc, e => match e with | .BinOp l op' r _ => decide (op = op') && chkE T a .wk sc l && chkE T b .wk sc r | _ => false
  | .neg a, _, sc, e => match e with | .UnaryOp .USub l _ => chkE T a .st sc l | _ => false
  | .cmp op a b, _, sc, e => match e with | .Compare l [op'] [r] _ => decide (op = op') && !behindInMarks op r && chkE T a .wk sc l && chkE T b .wk sc r | _ => false
  | .cmp2 op op' a b c, _, sc, e => match e with | .Compare l [o, o'] [r, s] _ => decide (op = o) && decide (op' = o') && !lastMarks [op, op'] [r, s] && chkE T a .wk sc l && chkE T b .wk sc r && chkE T c .wk sc s | _ => false
  | .and a b, _, sc, e => match e with
    | .BoolOp .And (l :: r :: rest) pos => chkE T a .st sc l && (match rest with | [] => chkE T b .st sc r | _ :: _ => chkE T b .st sc (.BoolOp .And (r :: rest) pos))
    | _ => false
  | .or a b, _, sc, e => match e with
    | .BoolOp .Or (l :: r :: rest) pos => chkE T a .st sc l && (match rest with | [] => chkE T b .st sc r | _ :: _ => chkE T b .st sc (.BoolOp .Or (r :: rest) pos))
    | _ => false
  | .not a, _, sc, e => match e with | .UnaryOp .Not l _ => chkE T a .wk sc l | _ => false
  | .ite t a b, _, sc, e => match e with | .IfExp t' a' b' _ => testOk t && chkE T t .wk sc t' && chkE T a .st sc a' && chkE T b .st sc b' | _ => false
  | .call f args, _, sc, e => match e with
    | .Call (.Name x _) (e1 :: es) [] _ => decide (T.fns[f]? = some x) && glOk sc x && (e1 :: es).all notStar && chkA T args false sc (e1 :: es)
    | _ => false
  | .bi b args, m, sc, e => match e with
    | .Call (.Name x _) es [] _ => glOk sc x &&
      (if b = .range then (m == .it || m == .its) && decide (x = "range") && es.all notStar && decide (0 < es.length ∧ es.length ≤ 2) && chkA T args true sc es
      else match isTy b with
        | some tn => decide (x = "isinstance") && (match es with | [e1, .Name y _] => decide (y = Str.ofString tn) && glOk sc y && notStar e1 && chkA T args true sc [e1] | _ => false)
        | none => match biName b with
          | some nm => decide (x = Str.ofString nm) && es.all notStar && decide (0 < es.length) && chkA T args true sc es
          | none => false)
    | _ => false
  | .m1 b o a, _, sc, e => match e with
    | .Call (.Attribute o' nm apos) [a'] [] pos => (match mName b with | some n => decide (nm = Str.ofString n) | none => false) && notStar a' && notSuper o' && (apos.endLine == pos.line) && chkE T o .wk sc o' && chkE T a .wk sc a'
    | _ => false
  | .sub a i, _, sc, e => match e with | .Subscript a' i' _ => notSlice i' && chkE T a .wk sc a' && chkE T i .wk sc i' | _ => false
  | .slc a lo hi, _, sc, e => match e with
    | .Subscript a' (.Slice lo' hi' none _) _ => chkE T a .wk sc a' && optC lo (fun l => chkE T lo .st sc l) lo' && optC hi (fun l => chkE T hi .st sc l) hi'
    | _ => false
  | .tup args, _, sc, e => match e with | .Tuple es _ _ => chkA T args false sc es | _ => false
  | .lst args, _, sc, e => match e with | .List es _ => chkA T args false sc es | _ => false
  | .lc elt t it cond own, _, sc, e => match e with
    | .ListComp elt' [⟨tg, it', ifs, as⟩] scope _ => decide (as = 0) && chkE T it .it sc it' && notSetE it' && blkC T.N sc scope (ownP T own) && tgOk T scope t tg && t.slots.all (fun i => own.contains i) &&
        chkE T elt .st (relS scope sc) elt' && ifsC cond (fun c => testOk cond && chkE T cond .wk (relS scope sc) c) ifs
    | _ => false
  | .nil, _, _, _ => false
  | .cons _ _, _, _, _ => false
def chkA (T : Nm) : Pv.X → Bool → Scope → List Expr → Bool
  | .nil, _, _, es => es.isEmpty
  | .cons a r, w, sc, es => match es with
    | e :: es => notStar e && chkE T a (if w then .wk else .st) sc e && chkA T r w sc es
    | [] => false
  | _, _, _, _ => false
end
end Pv

namespace Pv
open PySem PySem.Spec L2
/-- what the world must tell of the names -/
structure Wld (g : Gr) (ex : Nat → Option (Addr × Option Str)) (T : Nm) (P : Prog) (cF : Nat → List D → Res Slot) (k : Nat) : Prop where
  fn : ∀ (fi : Nat) x, T.fns[fi]? = some x → FnAt g ex cF k fi x
  gl : ∀ (j : Nat) x, T.gls[j]? = some x → ∃ v u d, g.mg x = some u ∧ RelV v u ∧ P.gls[j]? = some d ∧ ∀ G, Rep g G d v
  bt : ∀ x ∈ (["len", "abs", "int", "max", "min", "all", "any", "sum", "list", "tuple", "isinstance", "bool", "range"] : List String), g.mg (Str.ofString x) = none
section
variable {g : Gr} {ex : Nat → Option (Addr × Option Str)} {W : WX} {X : Cx} {sc : Scope} {k : Nat} {T : Nm} {P : Prog} {cF : Nat → List D → Res Slot}
def plainE : Expr → Bool
  | .UnaryOp .Not _ _ => false
  | .BoolOp _ _ _ => false
  | .IfExp _ _ _ _ => false
  | .Compare _ _ _ _ => false
  | _ => true
theorem isTrue_gen {e : Expr} {env : PySem.Env} (h : plainE e = true) (whole : Sem Value) :
    isTrue e env whole = (do let v ← whole; standAt e.pos; holding [v] (truthy v)) := by
  cases e with
  | UnaryOp op a b => cases op <;> first | rfl | (cases h; done)
  | BoolOp => cases h
  | IfExp => cases h
  | Compare => cases h
  | _ => rfl
def isBool : Expr → Bool
  | .BoolOp _ _ _ => true
  | _ => false
/-- what the check of an expression gives -/
structure Good (g : Gr) (ex : Nat → Option (Addr × Option Str)) (W : WX) (X : Cx) (P : Prog) (cF : Nat → List D → Res Slot) (x : Pv.X) (e : Expr) : Prop where
  v : PEq g ex W (RS g) X e (ev P cF x)
  n : PNq g ex W X e (evN P cF x)
  t : testOk x = true → PTq g ex W X e (ev P cF x)
  w : testOk x = true → isBool e = true → PWq g ex W X e (ev P cF x)
  lc : (∃ a b c d, e = .ListComp a b c d) → LcB g ex W X e (evN P cF x)
structure Snd (g : Gr) (ex : Nat → Option (Addr × Option Str)) (k : Nat) (T : Nm) (P : Prog) (cF : Nat → List D → Res Slot) (x : Pv.X) : Prop where
  st : ∀ (X : Cx) (W : WX) (sc : Scope), Cn g T.N sc k W X → ∀ e, chkE T x .st sc e = true → Good g ex W X P cF x e
  wk : ∀ (X : Cx) (W : WX) (sc : Scope), Cn g T.N sc k W X → ∀ e, chkE T x .wk sc e = true → PEq g ex W (RW g) X e (ev P cF x) ∧ (testOk x = true → PTq g ex W X e (ev P cF x))
  it : ∀ (X : Cx) (W : WX) (sc : Scope), Cn g T.N sc k W X → ∀ e, chkE T x .it sc e = true → ∀ tg, PIq g ex W (RIw g) X tg e (fun e => (ev P cF x e).bind itemsOf)
  its : ∀ (X : Cx) (W : WX) (sc : Scope), Cn g T.N sc k W X → ∀ e, chkE T x .its sc e = true → ∀ tg, PIq g ex W (RIs g) X tg e (fun e => (ev P cF x e).bind itemsOf)
  as : ∀ (X : Cx) (W : WX) (sc : Scope), Cn g T.N sc k W X → ∀ es, chkA T x false sc es = true → PAq g ex W (RAs g) X es (fun e => (ev P cF x e).lst)
  aw : ∀ (X : Cx) (W : WX) (sc : Scope), Cn g T.N sc k W X → ∀ es, chkA T x true sc es = true → PAq g ex W (RAw g) X es (fun e => (ev P cF x e).lst)
/-- an expression that is no list of arguments, and read alike in all places -/
theorem Snd.of {x : Pv.X} (hm : ∀ m m' sc e, chkE T x m sc e = chkE T x m' sc e) (ha : ∀ w sc es, chkA T x w sc es = false)
    (h : ∀ (X : Cx) (W : WX) (sc : Scope), Cn g T.N sc k W X → ∀ e, chkE T x .st sc e = true → Good g ex W X P cF x e) : Snd g ex k T P cF x where
  st := h
  wk := fun X W sc C e hc => by
    have G := h X W sc C e (by rw [hm .st .wk]; exact hc)
    exact ⟨G.v.weak, G.t⟩
  it := fun X W sc C e hc tg => (piq_seq C (h X W sc C e (by rw [hm .st .it]; exact hc)).v).weak
  its := fun X W sc C e hc tg => piq_seq C (h X W sc C e (by rw [hm .st .its]; exact hc)).v
  as := fun X W sc C es hc => by rw [ha] at hc; cases hc
  aw := fun X W sc C es hc => by rw [ha] at hc; cases hc
theorem froS_eq (f : Pv.Env → Res D) : (fun e => (f e).bind froS) = fun e => (f e).bind fun d => .ok (.fro d) := rfl
/-- .. whose value is no new list and which is no comprehension -/
theorem Good.of (C : Cn g T.N sc k W X) {x : Pv.X} {e : Expr} (h : PEq g ex W (RS g) X e (ev P cF x)) (hn : evN P cF x = fun e => (ev P cF x e).bind froS) (hnl : ∀ a b c d, e ≠ .ListComp a b c d)
    (ht : testOk x = true → PTq g ex W X e (ev P cF x)) (hw : testOk x = true → isBool e = true → PWq g ex W X e (ev P cF x)) : Good g ex W X P cF x e :=
  ⟨h, by rw [hn]; exact h.slot, ht, hw, fun ⟨a, b, c, d, e1⟩ => absurd e1 (hnl a b c d)⟩
theorem conv_toD (r : Res D) (b : Bool) : (r.bind (conv b)).bind Slot.toD = r := by
  cases r with
  | ok d => cases d <;> cases b <;> rfl
  | exc c p => rfl
  | bad => rfl
/-- .. that perhaps makes a new list -/
theorem Good.ofN (C : Cn g T.N sc k W X) {x : Pv.X} {e : Expr} (h : PNq g ex W X e (fun e => (ev P cF x e).bind (conv true))) (hn : evN P cF x = fun e => (ev P cF x e).bind (conv true)) (hnl : ∀ a b c d, e ≠ .ListComp a b c d)
    (hg : plainE e = true) : Good g ex W X P cF x e := by
  have he : PEq g ex W (RS g) X e (ev P cF x) := by
    have q := h.value
    have : (fun e => ((ev P cF x e).bind (conv true)).bind Slot.toD) = ev P cF x := by funext e; exact conv_toD _ _
    rw [this] at q
    exact q
  refine ⟨he, by rw [hn]; exact h, fun _ => ptq_gen C he.weak (isTrue_gen hg), fun _ hb => ?_, fun ⟨a, b, c, d, e1⟩ => absurd e1 (hnl a b c d)⟩
  cases e <;> first | (cases hb; done) | (cases hg; done)
theorem nmOk_of (C : Cn g T.N sc k W X) {i : Nat} {x : Str} {pos : Pos} (h : nmOk T sc i x = true) : PE X (.Name x pos) (tVar i) := by
  unfold nmOk at h
  simp only [Bool.and_eq_true, Bool.or_eq_true, decide_eq_true_eq, Bool.not_eq_true'] at h
  obtain ⟨⟨⟨h1, h2⟩, h3⟩, h4⟩ := h
  refine pe_var (by rw [C.hN]; exact h1) ?_ h3 h4
  rw [C.sc]
  rcases h2 with (h | h) | h
  · exact .inl h
  · exact .inr (.inl h)
  · exact .inr (.inr h)
theorem glOk_of (C : Cn g T.N sc k W X) {x : Str} (h : glOk sc x = true) : Gl X x ∧ (x == ("__debug__" : Str)) = false ∧ x ≠ "__name__" := by
  unfold glOk at h
  simp only [Bool.and_eq_true, decide_eq_true_eq, Bool.not_eq_true'] at h
  obtain ⟨⟨h1, h2⟩, h3⟩ := h
  refine ⟨?_, h2, of_decide_eq_false h3⟩
  show X.env.scope.names.lookup x = some .globalImplicit
  rw [C.sc]
  exact h1
theorem gen_plain {e : Expr} (h : plainE e = true) : isBool e = true → False := by
  intro hb
  cases e <;> first | (cases hb; done) | (cases h; done)
/-- a plain expression, by its value -/
theorem Good.plain (C : Cn g T.N sc k W X) {x : Pv.X} {e : Expr} (h : PEq g ex W (RS g) X e (ev P cF x)) (hn : evN P cF x = fun e => (ev P cF x e).bind froS) (hnl : ∀ a b c d, e ≠ .ListComp a b c d)
    (hg : plainE e = true) : Good g ex W X P cF x e :=
  Good.of C h hn hnl (fun _ => ptq_gen C h.weak (isTrue_gen hg)) fun _ hb => (gen_plain hg hb).elim
theorem snd_v (i : Nat) : Snd g ex k T P cF (.v i) := Snd.of (fun _ _ _ _ => rfl) (fun _ _ _ => rfl) fun X W sc C e hc => by
  cases e with
  | Name x p => exact Good.plain C (pq_v (nmOk_of C hc)) rfl (fun _ _ _ _ => by simp) rfl
  | _ => cases hc
theorem snd_o (i : Nat) : Snd g ex k T P cF (.o i) where
  st := fun X W sc C e hc => by cases hc
  wk := fun X W sc C e hc => by
    cases e with
    | Name x p =>
      have h := pq_o (g := g) (ex := ex) (W := W) (nmOk_of C (pos := p) hc)
      exact ⟨h, fun _ => ptq_gen C h (isTrue_gen rfl)⟩
    | _ => cases hc
  it := fun X W sc C e hc tg => by
    cases e with
    | Name x p => exact piq_seqW C (pq_o (nmOk_of C hc))
    | _ => cases hc
  its := fun X W sc C e hc tg => by cases hc
  as := fun X W sc C es hc => by cases hc
  aw := fun X W sc C es hc => by cases hc
theorem snd_c (d : D) : Snd g ex k T P cF (.c d) := Snd.of (fun _ _ _ _ => rfl) (fun _ _ _ => rfl) fun X W sc C e hc => by
  cases e with
  | Constant c j p =>
    have hc : constOk d c = true := hc
    cases d with
    | non => cases c <;> first | (cases hc; done) | exact Good.plain C (pq_c pe_non fun _ => rfl) rfl (fun _ _ _ _ => by simp) rfl
    | bl a =>
      cases c with
      | bool b => cases (eq_of_beq hc); exact Good.plain C (pq_c pe_bl fun _ => rfl) rfl (fun _ _ _ _ => by simp) rfl
      | _ => cases hc
    | int a =>
      cases c with
      | int b => cases (eq_of_beq hc); exact Good.plain C (pq_c pe_int fun _ => rfl) rfl (fun _ _ _ _ => by simp) rfl
      | _ => cases hc
    | str a =>
      cases c with
      | str b =>
        obtain ⟨h1, h2⟩ := Bool.and_eq_true_iff.mp hc
        have h1 : a = b.cps.toList := eq_of_beq h1
        have eb : b = toStr a := by rw [h1]
        subst eb
        refine Good.plain C (pq_c pe_str fun _ => ⟨rfl, fun c hc => ?_⟩) rfl (fun _ _ _ _ => by simp) rfl
        exact of_decide_eq_true (List.all_eq_true.mp h2 c hc)
      | _ => cases hc
    | _ => simp [constOk] at hc
  | _ => cases hc
theorem snd_gl (Wd : Wld g ex T P cF k) (j : Nat) : Snd g ex k T P cF (.gl j) := Snd.of (fun _ _ _ _ => rfl) (fun _ _ _ => rfl) fun X W sc C e hc => by
  cases e with
  | Name x p =>
    obtain ⟨h1, h2⟩ := Bool.and_eq_true_iff.mp hc
    obtain ⟨v, u, d, hm, ru, hd, rd⟩ := Wd.gl j x (of_decide_eq_true h1)
    obtain ⟨hg, hdb, _⟩ := glOk_of C h2
    have : ev P cF (.gl j) = fun _ => .ok d := by funext e; simp only [ev, hd]
    refine Good.plain C ?_ rfl (fun _ _ _ _ => by simp) rfl
    rw [this]
    exact pq_c (pe_glob hg (by rw [C.mg]; exact hm) ru hdb) rd
  | _ => cases hc
theorem snd_bin (op : Operator) {a b : Pv.X} (ha : Snd g ex k T P cF a) (hb : Snd g ex k T P cF b) : Snd g ex k T P cF (.bin op a b) := Snd.of (fun _ _ _ _ => rfl) (fun _ _ _ => rfl) fun X W sc C e hc => by
  cases e with
  | BinOp l op' r p =>
    have hc : (decide (op = op') && chkE T a .wk sc l && chkE T b .wk sc r) = true := hc
    simp only [Bool.and_eq_true, decide_eq_true_eq] at hc
    obtain ⟨⟨rfl, h1⟩, h2⟩ := hc
    exact Good.ofN C (pn_bin C (ha.wk X W sc C l h1).1 (hb.wk X W sc C r h2).1) rfl (fun _ _ _ _ => by simp) rfl
  | _ => cases hc
theorem snd_neg {a : Pv.X} (ha : Snd g ex k T P cF a) : Snd g ex k T P cF (.neg a) := Snd.of (fun _ _ _ _ => rfl) (fun _ _ _ => rfl) fun X W sc C e hc => by
  cases e with
  | UnaryOp op l p =>
    cases op with
    | USub => exact Good.plain C (pq_neg (ha.st X W sc C l hc).v) rfl (fun _ _ _ _ => by simp) rfl
    | _ => cases hc
  | _ => cases hc
theorem snd_cmp (op : CmpOp) {a b : Pv.X} (ha : Snd g ex k T P cF a) (hb : Snd g ex k T P cF b) : Snd g ex k T P cF (.cmp op a b) := Snd.of (fun _ _ _ _ => rfl) (fun _ _ _ => rfl) fun X W sc C e hc => by
  cases e with
  | Compare l ops rs p =>
    match ops, rs, hc with
    | [op'], [r], hc =>
      have hc : (decide (op = op') && !behindInMarks op r && chkE T a .wk sc l && chkE T b .wk sc r) = true := hc
      simp only [Bool.and_eq_true, decide_eq_true_eq, Bool.not_eq_true'] at hc
      obtain ⟨⟨⟨rfl, h0⟩, h1⟩, h2⟩ := hc
      have A := (ha.wk X W sc C l h1).1
      have B := (hb.wk X W sc C r h2).1
      exact Good.of C (pq_cmp C A B h0) rfl (fun _ _ _ _ => by simp) (fun _ => ptq_cmp C A B h0) (fun _ h => by cases h)
    | [], _, hc => cases hc
    | _ :: _ :: _, [], hc => cases hc
    | _ :: _ :: _, _ :: _, hc => cases hc
    | [_], [], hc => cases hc
    | [_], _ :: _ :: _, hc => cases hc
  | _ => cases hc
theorem snd_cmp2 (op op' : CmpOp) {a b c : Pv.X} (ha : Snd g ex k T P cF a) (hb : Snd g ex k T P cF b) (hc' : Snd g ex k T P cF c) : Snd g ex k T P cF (.cmp2 op op' a b c) := Snd.of (fun _ _ _ _ => rfl) (fun _ _ _ => rfl) fun X W sc C e hc => by
  cases e with
  | Compare l ops rs p =>
    match ops, rs, hc with
    | [o, o'], [r, s], hc =>
      have hc : (decide (op = o) && decide (op' = o') && !lastMarks [op, op'] [r, s] && chkE T a .wk sc l && chkE T b .wk sc r && chkE T c .wk sc s) = true := hc
      simp only [Bool.and_eq_true, decide_eq_true_eq, Bool.not_eq_true'] at hc
      obtain ⟨⟨⟨⟨⟨rfl, rfl⟩, h0⟩, h1⟩, h2⟩, h3⟩ := hc
      have A := (ha.wk X W sc C l h1).1
      have B := (hb.wk X W sc C r h2).1
      have D := (hc'.wk X W sc C s h3).1
      exact Good.of C (pq_cmp2 C A B D h0) rfl (fun _ _ _ _ => by simp) (fun _ => ptq_cmp2 C A B D h0) (fun _ h => by cases h)
    | [], _, hc => cases hc
    | [_], _, hc => cases hc
    | [_, _], [], hc => cases hc
    | [_, _], [_], hc => cases hc
    | [_, _], _ :: _ :: _ :: _, hc => cases hc
    | _ :: _ :: _ :: _, _, hc => cases hc
  | _ => cases hc
theorem snd_and {a b : Pv.X} (ha : Snd g ex k T P cF a) (hb : Snd g ex k T P cF b) : Snd g ex k T P cF (.and a b) := Snd.of (fun _ _ _ _ => rfl) (fun _ _ _ => rfl) fun X W sc C e hc => by
  cases e with
  | BoolOp op es p =>
    cases op with
    | Or => match es, hc with | [], hc => cases hc | [_], hc => cases hc | _ :: _ :: _, hc => cases hc
    | And =>
      match es, hc with
      | [], hc => cases hc
      | [_], hc => cases hc
      | [l, r], hc =>
        have hc : (chkE T a .st sc l && chkE T b .st sc r) = true := hc
        obtain ⟨h1, h2⟩ := Bool.and_eq_true_iff.mp hc
        have A := ha.st X W sc C l h1
        have B := hb.st X W sc C r h2
        have w : testOk (.and a b) = true → PWq g ex W X (.BoolOp .And [l, r] p) (ev P cF (.and a b)) := fun ht => by
          obtain ⟨t1, t2⟩ := Bool.and_eq_true_iff.mp ht
          exact pwq_and (A.t t1) (pw_and1 (B.t t2))
        exact Good.of C (pq_and (R := RS g) C A.v (pe_one B.v)) rfl (fun _ _ _ _ => by simp) (fun ht => (w ht).pt) (fun ht _ => w ht)
      | l :: r :: s :: rest, hc =>
        have hc : (chkE T a .st sc l && chkE T b .st sc (.BoolOp .And (r :: s :: rest) p)) = true := hc
        obtain ⟨h1, h2⟩ := Bool.and_eq_true_iff.mp hc
        have A := ha.st X W sc C l h1
        have B := hb.st X W sc C _ h2
        have w : testOk (.and a b) = true → PWq g ex W X (.BoolOp .And (l :: r :: s :: rest) p) (ev P cF (.and a b)) := fun ht => by
          obtain ⟨t1, t2⟩ := Bool.and_eq_true_iff.mp ht
          exact pwq_and (A.t t1) (B.w t2 rfl)
        exact Good.of C (pq_and (R := RS g) C A.v B.v) rfl (fun _ _ _ _ => by simp) (fun ht => (w ht).pt) (fun ht _ => w ht)
  | _ => cases hc
theorem snd_or {a b : Pv.X} (ha : Snd g ex k T P cF a) (hb : Snd g ex k T P cF b) : Snd g ex k T P cF (.or a b) := Snd.of (fun _ _ _ _ => rfl) (fun _ _ _ => rfl) fun X W sc C e hc => by
  cases e with
  | BoolOp op es p =>
    cases op with
    | And => match es, hc with | [], hc => cases hc | [_], hc => cases hc | _ :: _ :: _, hc => cases hc
    | Or =>
      match es, hc with
      | [], hc => cases hc
      | [_], hc => cases hc
      | [l, r], hc =>
        have hc : (chkE T a .st sc l && chkE T b .st sc r) = true := hc
        obtain ⟨h1, h2⟩ := Bool.and_eq_true_iff.mp hc
        have A := ha.st X W sc C l h1
        have B := hb.st X W sc C r h2
        have w : testOk (.or a b) = true → PWq g ex W X (.BoolOp .Or [l, r] p) (ev P cF (.or a b)) := fun ht => by
          obtain ⟨t1, t2⟩ := Bool.and_eq_true_iff.mp ht
          exact pwq_or (A.t t1) (pw_or1 (B.t t2))
        exact Good.of C (pq_or (R := RS g) C A.v (pe_one B.v)) rfl (fun _ _ _ _ => by simp) (fun ht => (w ht).pt) (fun ht _ => w ht)
      | l :: r :: s :: rest, hc =>
        have hc : (chkE T a .st sc l && chkE T b .st sc (.BoolOp .Or (r :: s :: rest) p)) = true := hc
        obtain ⟨h1, h2⟩ := Bool.and_eq_true_iff.mp hc
        have A := ha.st X W sc C l h1
        have B := hb.st X W sc C _ h2
        have w : testOk (.or a b) = true → PWq g ex W X (.BoolOp .Or (l :: r :: s :: rest) p) (ev P cF (.or a b)) := fun ht => by
          obtain ⟨t1, t2⟩ := Bool.and_eq_true_iff.mp ht
          exact pwq_or (A.t t1) (B.w t2 rfl)
        exact Good.of C (pq_or (R := RS g) C A.v B.v) rfl (fun _ _ _ _ => by simp) (fun ht => (w ht).pt) (fun ht _ => w ht)
  | _ => cases hc
theorem snd_not {a : Pv.X} (ha : Snd g ex k T P cF a) : Snd g ex k T P cF (.not a) := Snd.of (fun _ _ _ _ => rfl) (fun _ _ _ => rfl) fun X W sc C e hc => by
  cases e with
  | UnaryOp op l p =>
    cases op with
    | Not =>
      obtain ⟨A, At⟩ := ha.wk X W sc C l hc
      exact Good.of C (pq_not C A) rfl (fun _ _ _ _ => by simp) (fun ht => ptq_not (At ht)) (fun _ h => by cases h)
    | _ => cases hc
  | _ => cases hc
theorem snd_ite {t a b : Pv.X} (ht : Snd g ex k T P cF t) (ha : Snd g ex k T P cF a) (hb : Snd g ex k T P cF b) : Snd g ex k T P cF (.ite t a b) := Snd.of (fun _ _ _ _ => rfl) (fun _ _ _ => rfl) fun X W sc C e hc => by
  cases e with
  | IfExp t' a' b' p =>
    have hc : (testOk t && chkE T t .wk sc t' && chkE T a .st sc a' && chkE T b .st sc b') = true := hc
    simp only [Bool.and_eq_true] at hc
    obtain ⟨⟨⟨h0, h1⟩, h2⟩, h3⟩ := hc
    exact Good.of C (pq_ite ((ht.wk X W sc C t' h1).2 h0) (ha.st X W sc C a' h2).v (hb.st X W sc C b' h3).v) rfl (fun _ _ _ _ => by simp) (fun q => by cases q) (fun _ h => by cases h)
  | _ => cases hc
theorem snd_nil : Snd g ex k T P cF .nil where
  st := fun X W sc C e hc => by cases hc
  wk := fun X W sc C e hc => by cases hc
  it := fun X W sc C e hc => by cases hc
  its := fun X W sc C e hc => by cases hc
  as := fun X W sc C es hc => by
    have : es = [] := by cases es with | nil => rfl | cons => cases hc
    subst this
    exact paq_nil fun _ _ => RepA.nil
  aw := fun X W sc C es hc => by
    have : es = [] := by cases es with | nil => rfl | cons => cases hc
    subst this
    exact paq_nil fun _ _ => .nil
theorem ev_cons (a r : Pv.X) : (fun e => (ev P cF (.cons a r) e).lst) = fun e => (ev P cF a e).bind fun x => (ev P cF r e).lst.bind fun l => .ok (x :: l) := by
  funext e
  simp only [ev]
  rw [lst_bind]
  congr 1
  funext x
  exact cons_lst _ x
theorem snd_cons {a r : Pv.X} (ha : Snd g ex k T P cF a) (hr : Snd g ex k T P cF r) : Snd g ex k T P cF (.cons a r) where
  st := fun X W sc C e hc => by cases hc
  wk := fun X W sc C e hc => by cases hc
  it := fun X W sc C e hc => by cases hc
  its := fun X W sc C e hc => by cases hc
  as := fun X W sc C es hc => by
    cases es with
    | nil => cases hc
    | cons e es =>
      have hc : (notStar e && chkE T a .st sc e && chkA T r false sc es) = true := hc
      simp only [Bool.and_eq_true] at hc
      obtain ⟨⟨h0, h1⟩, h2⟩ := hc
      rw [ev_cons]
      exact paq_cons h0 (ha.st X W sc C e h1).v (hr.as X W sc C es h2)
  aw := fun X W sc C es hc => by
    cases es with
    | nil => cases hc
    | cons e es =>
      have hc : (notStar e && chkE T a .wk sc e && chkA T r true sc es) = true := hc
      simp only [Bool.and_eq_true] at hc
      obtain ⟨⟨h0, h1⟩, h2⟩ := hc
      rw [ev_cons]
      exact paq_consW h0 (ha.wk X W sc C e h1).1 (hr.aw X W sc C es h2)
theorem snd_tup {args : Pv.X} (ha : Snd g ex k T P cF args) : Snd g ex k T P cF (.tup args) := Snd.of (fun _ _ _ _ => rfl) (fun _ _ _ => rfl) fun X W sc C e hc => by
  cases e with
  | Tuple es j p => exact Good.plain C (pq_tup (ha.as X W sc C es hc)) rfl (fun _ _ _ _ => by simp) rfl
  | _ => cases hc
theorem lst_conv {r : Res (List D)} : ((r.bind fun l => if l.length ≤ line then Res.ok (D.lst l) else .bad).bind (conv true)) = r.bind fun l => if l.length ≤ line then Res.ok (Slot.own l) else .bad := by
  cases r with
  | ok l =>
    show (if l.length ≤ line then Res.ok (D.lst l) else .bad).bind (conv true) = if l.length ≤ line then Res.ok (Slot.own l) else .bad
    by_cases h : l.length ≤ line
    · rw [if_pos h, if_pos h]; rfl
    · rw [if_neg h, if_neg h]; rfl
  | exc c p => rfl
  | bad => rfl
theorem snd_lst {args : Pv.X} (ha : Snd g ex k T P cF args) : Snd g ex k T P cF (.lst args) := Snd.of (fun _ _ _ _ => rfl) (fun _ _ _ => rfl) fun X W sc C e hc => by
  cases e with
  | List es p =>
    refine Good.ofN C ?_ rfl (fun _ _ _ _ => by simp) rfl
    have : (fun e => (ev P cF (.lst args) e).bind (conv true)) = fun e => (ev P cF args e).lst.bind fun l => if l.length ≤ line then .ok (.own l) else .bad := by
      funext e
      simp only [ev]
      exact lst_conv
    rw [this]
    exact pn_lst (ha.as X W sc C es hc)
  | _ => cases hc
theorem snd_sub {a i : Pv.X} (ha : Snd g ex k T P cF a) (hi : Snd g ex k T P cF i) : Snd g ex k T P cF (.sub a i) := Snd.of (fun _ _ _ _ => rfl) (fun _ _ _ => rfl) fun X W sc C e hc => by
  cases e with
  | Subscript a' i' p =>
    have hc : (notSlice i' && chkE T a .wk sc a' && chkE T i .wk sc i') = true := hc
    simp only [Bool.and_eq_true] at hc
    obtain ⟨⟨h0, h1⟩, h2⟩ := hc
    exact Good.plain C (pq_sub C (ha.wk X W sc C a' h1).1 (hi.wk X W sc C i' h2).1 h0) rfl (fun _ _ _ _ => by simp) rfl
  | _ => cases hc
theorem snd_slc {a lo hi : Pv.X} (ha : Snd g ex k T P cF a) (hl : Snd g ex k T P cF lo) (hh : Snd g ex k T P cF hi) : Snd g ex k T P cF (.slc a lo hi) := Snd.of (fun _ _ _ _ => rfl) (fun _ _ _ => rfl) fun X W sc C e hc => by
  cases e with
  | Subscript a' s p =>
    cases s with
    | Slice lo' hi' st p2 =>
      cases st with
      | some _ => cases hc
      | none =>
        have hc : (chkE T a .wk sc a' && optC lo (fun l => chkE T lo .st sc l) lo' && optC hi (fun l => chkE T hi .st sc l) hi') = true := hc
        rw [Bool.and_eq_true, Bool.and_eq_true] at hc
        obtain ⟨⟨h0, h1⟩, h2⟩ := hc
        have part : ∀ {y : Pv.X} {o : Option Expr}, Snd g ex k T P cF y → optC y (fun l => chkE T y .st sc l) o = true → POq g ex W X o (fun e => if y.isNil then .ok none else (ev P cF y e).bind optI) := by
          intro y o hy h
          cases o with
          | none =>
            have h : y.isNil = true := h
            simp only [h, if_true]
            exact poq_none
          | some l =>
            have h : (!y.isNil && chkE T y .st sc l) = true := h
            obtain ⟨h1, h2⟩ := Bool.and_eq_true_iff.mp h
            have h1 : y.isNil = false := by simpa using h1
            simp only [h1, Bool.false_eq_true, if_false]
            exact poq_some (hy.st X W sc C l h2).v
        exact Good.ofN C (pn_slc C (ha.wk X W sc C a' h0).1 (part hl h1) (part hh h2)) rfl (fun _ _ _ _ => by simp) rfl
    | _ => cases hc
  | _ => cases hc
theorem snd_call (Wd : Wld g ex T P cF k) (f : Nat) {args : Pv.X} (ha : Snd g ex k T P cF args) : Snd g ex k T P cF (.call f args) := Snd.of (fun _ _ _ _ => rfl) (fun _ _ _ => rfl) fun X W sc C e hc => by
  cases e with
  | Call fn es kws p =>
    cases fn with
    | Name x p2 =>
      match es, kws, hc with
      | [], _, hc => cases hc
      | e1 :: es, _ :: _, hc => cases hc
      | e1 :: es, [], hc =>
        have hc : (decide (T.fns[f]? = some x) && glOk sc x && (e1 :: es).all notStar && chkA T args false sc (e1 :: es)) = true := hc
        rw [Bool.and_eq_true, Bool.and_eq_true, Bool.and_eq_true] at hc
        obtain ⟨⟨⟨h0, h1⟩, h2⟩, h3⟩ := hc
        obtain ⟨hg, hdb, _⟩ := glOk_of C h1
        have n := pn_call (p := p2) (pos := p) C (Wd.fn f x (of_decide_eq_true h0)) hg hdb h2 (ha.as X W sc C _ h3)
        have v : PEq g ex W (RS g) X (.Call (.Name x p2) (e1 :: es) [] p) (ev P cF (.call f args)) := by
          have q := n.value
          have : (fun e => ((ev P cF args e).lst.bind fun l => cF f l).bind Slot.toD) = ev P cF (.call f args) := by
            funext e
            simp only [ev]
            rw [bind_assoc]
          rw [this] at q
          exact q
        exact ⟨v, n, fun _ => ptq_gen C v.weak (isTrue_gen rfl), (fun _ h => by cases h), fun ⟨_, _, _, _, h⟩ => by cases h⟩
    | _ => cases hc
  | _ => cases hc
end
end Pv

namespace Pv
open PySem PySem.Spec L2
section
variable {g : Gr} {ex : Nat → Option (Addr × Option Str)} {W : WX} {X : Cx} {sc : Scope} {k : Nat} {T : Nm} {P : Prog} {cF : Nat → List D → Res Slot}
theorem bi_conv {b : BI} (hb : b ≠ .range) (args : Pv.X) : (fun e => (ev P cF (.bi b args) e).bind (conv true)) = fun e => (ev P cF args e).lst.bind (bfD b) := by
  funext e
  simp only [ev]
  rw [bind_assoc]
  congr 1
  funext l
  unfold biI bfD
  rw [if_neg hb]
theorem ofN_v {x : Pv.X} {e : Expr} (h : PNq g ex W X e (fun e => (ev P cF x e).bind (conv true))) : PEq g ex W (RS g) X e (ev P cF x) := by
  have q := h.value
  have : (fun e => ((ev P cF x e).bind (conv true)).bind Slot.toD) = ev P cF x := by funext e; exact conv_toD _ _
  rw [this] at q
  exact q
theorem bi_named (Wd : Wld g ex T P cF k) (C : Cn g T.N sc k W X) {b : BI} {nm : String} {args : Pv.X} {es : List Expr} {p pos : Pos} (hn : biName b = some nm) (hgl : glOk sc (Str.ofString nm) = true) (hst : es.all notStar = true) (hl : 0 < es.length)
    (ha : PAq g ex W (RAw g) X es (fun e => (ev P cF args e).lst)) : PNq g ex W X (.Call (.Name (Str.ofString nm) p) es [] pos) (fun e => (ev P cF (.bi b args) e).bind (conv true)) := by
  obtain ⟨hg, hdb, hnn⟩ := glOk_of C hgl
  have hr : b ≠ .range := by intro h; subst h; cases hn
  rw [bi_conv hr]
  cases es with
  | nil => simp at hl
  | cons e1 es =>
    cases b with
    | len => cases hn; exact callB_of C (C.K ▸ call_len) hg (Wd.bt _ (by simp)) (by decide +kernel) ha hst (fun ds vs G H σ Q gh r p => len_ok gh r p) hnn hdb
    | abs => cases hn; exact callB_of C call_abs hg (Wd.bt _ (by simp)) PyProof.Rows.boot_abs ha hst (fun ds vs G H σ Q gh r p => abs_ok gh r p) hnn hdb
    | int1 => cases hn; exact callT_of C call_int1 hg (Wd.bt _ (by simp)) PyProof.Rows.boot_int ha hst (fun ds vs G H σ Q gh r p => int_ok gh r p) hnn hdb
    | max2 => cases hn; exact callB_of C (call_max2 C.calm) hg (Wd.bt _ (by simp)) (by decide +kernel) ha hst (fun ds vs G H σ Q gh r p => max2_ok gh r p) hnn hdb
    | min2 => cases hn; exact callB_of C (call_min2 C.calm) hg (Wd.bt _ (by simp)) (by decide +kernel) ha hst (fun ds vs G H σ Q gh r p => min2_ok gh r p) hnn hdb
    | all => cases hn; exact callB_of C (C.K ▸ cr_all C.calm) hg (Wd.bt _ (by simp)) (by decide +kernel) ha hst (fun ds vs G H σ Q gh r p => all_ok gh r p) hnn hdb
    | any => cases hn; exact callB_of C (C.K ▸ cr_any C.calm) hg (Wd.bt _ (by simp)) (by decide +kernel) ha hst (fun ds vs G H σ Q gh r p => any_ok gh r p) hnn hdb
    | sum => cases hn; exact callB_of C (C.K ▸ cr_sum C.calm) hg (Wd.bt _ (by simp)) (by decide +kernel) ha hst (fun ds vs G H σ Q gh r p => sum_ok gh r p) hnn hdb
    | list => cases hn; exact callT_of C (C.K ▸ call_list_of) hg (Wd.bt _ (by simp)) PyProof.Rows.boot_list ha hst (fun ds vs G H σ Q gh r p => list_ok gh r p) hnn hdb
    | tuple => cases hn; exact callT_of C (C.K ▸ call_tuple_of) hg (Wd.bt _ (by simp)) PyProof.Rows.boot_tuple ha hst (fun ds vs G H σ Q gh r p => tuple_ok gh r p) hnn hdb
    | _ => cases hn
theorem ev_one (f : List D → Res D) (a : Res D) : ((a.bind fun x => Res.ok [x]).bind f) = a.bind fun x => f [x] := by rw [bind_assoc]; rfl
theorem bi_named_good (Wd : Wld g ex T P cF k) (C : Cn g T.N sc k W X) {b : BI} {nm : String} {args : Pv.X} {es : List Expr} {p pos : Pos} (hn : biName b = some nm) (hgl : glOk sc (Str.ofString nm) = true) (hst : es.all notStar = true) (hl : 0 < es.length)
    (ha : PAq g ex W (RAw g) X es (fun e => (ev P cF args e).lst)) : Good g ex W X P cF (.bi b args) (.Call (.Name (Str.ofString nm) p) es [] pos) := by
  have n := bi_named (p := p) (pos := pos) Wd C hn hgl hst hl ha
  by_cases hb : b = .list
  · subst hb
    exact Good.ofN C n rfl (fun _ _ _ _ => by simp) rfl
  · refine Good.plain C (ofN_v n) ?_ (fun _ _ _ _ => by simp) rfl
    cases b <;> first | rfl | exact absurd rfl hb
theorem args_one {args : Pv.X} (ha : Snd g ex k T P cF args) (C : Cn g T.N sc k W X) {e1 : Expr} (h : chkA T args true sc [e1] = true) : ∃ a, args = .cons a .nil ∧ chkE T a .wk sc e1 = true := by
  cases args with
  | cons a r =>
    have h : (notStar e1 && chkE T a .wk sc e1 && chkA T r true sc []) = true := h
    simp only [Bool.and_eq_true] at h
    cases r with
    | nil => exact ⟨a, rfl, h.1.2⟩
    | cons _ _ => exact absurd h.2 (by simp [chkA])
    | _ => exact absurd h.2 (by simp [chkA])
  | nil => cases h
  | _ => exact absurd h (by simp [chkA])
theorem args_two {args : Pv.X} (ha : Snd g ex k T P cF args) (C : Cn g T.N sc k W X) {e1 e2 : Expr} (h : chkA T args true sc [e1, e2] = true) : ∃ a b, args = .cons a (.cons b .nil) ∧ chkE T a .wk sc e1 = true ∧ chkE T b .wk sc e2 = true := by
  cases args with
  | cons a r =>
    have h : (notStar e1 && chkE T a .wk sc e1 && chkA T r true sc [e2]) = true := h
    simp only [Bool.and_eq_true] at h
    cases r with
    | cons b r2 =>
      have h2 : (notStar e2 && chkE T b .wk sc e2 && chkA T r2 true sc []) = true := h.2
      simp only [Bool.and_eq_true] at h2
      cases r2 with
      | nil => exact ⟨a, b, rfl, h.1.2, h2.1.2⟩
      | cons _ _ => exact absurd h2.2 (by simp [chkA])
      | _ => exact absurd h2.2 (by simp [chkA])
    | nil => exact absurd h.2 (by simp [chkA])
    | _ => exact absurd h.2 (by simp [chkA])
  | nil => cases h
  | _ => exact absurd h (by simp [chkA])
/-- arguments: the terms they are -/
inductive ArgR (g : Gr) (ex : Nat → Option (Addr × Option Str)) (W : WX) (X : Cx) (P : Prog) (cF : Nat → List D → Res Slot) : Pv.X → List Expr → Prop where
  | nil : ArgR g ex W X P cF .nil []
  | cons {a r e es} : PEq g ex W (RW g) X e (ev P cF a) → ArgR g ex W X P cF r es → ArgR g ex W X P cF (.cons a r) (e :: es)
theorem range_its (r : Res (List D)) : ((r.bind (biI .range)).bind itemsOf) = r.bind (itD .range) := by
  cases r with
  | ok l =>
    show ((itD .range l).bind lstOk).bind itemsOf = itD .range l
    cases itD .range l <;> rfl
  | exc c p => rfl
  | bad => rfl
theorem lst_cons_nil (r : Res D) (f : List D → Res (List D)) : ((r.bind fun x => (Res.ok (D.lst [])).lst.bind fun l => Res.ok (D.lst (x :: l))).lst.bind f) = r.bind fun x => f [x] := by
  cases r <;> rfl
theorem lst_cons_cons (r q : Res D) (f : List D → Res (List D)) : ((r.bind fun x => (q.bind fun y => (Res.ok (D.lst [])).lst.bind fun l => Res.ok (D.lst (y :: l))).lst.bind fun l => Res.ok (D.lst (x :: l))).lst.bind f) = r.bind fun x => q.bind fun y => f [x, y] := by
  cases r with
  | ok x => cases q <;> rfl
  | exc c p => rfl
  | bad => rfl
/-- an argument's own promise, as snd_bi needs it -/
structure SndA (g : Gr) (ex : Nat → Option (Addr × Option Str)) (k : Nat) (T : Nm) (P : Prog) (cF : Nat → List D → Res Slot) (args : Pv.X) : Prop where
  whole : Snd g ex k T P cF args
  hd : ∀ a r, args = .cons a r → Snd g ex k T P cF a
  tl : ∀ a b r, args = .cons a (.cons b r) → Snd g ex k T P cF b
theorem range_piq (Wd : Wld g ex T P cF k) (C : Cn g T.N sc k W X) {args : Pv.X} {es : List Expr} {p pos : Pos} {tg : Expr} (ha : SndA g ex k T P cF args) (hgl : glOk sc "range" = true) (hst : es.all notStar = true) (hl : 0 < es.length ∧ es.length ≤ 2) (hc : chkA T args true sc es = true) :
    PIq g ex W (RIs g) X tg (.Call (.Name "range" p) es [] pos) (fun e => (ev P cF (.bi .range args) e).bind itemsOf) := by
  obtain ⟨hg, _, _⟩ := glOk_of C hgl
  have hm : g.mg "range" = none := Wd.bt "range" (by simp)
  match es, hst, hl, hc with
  | [], _, hl, _ => exact absurd hl.1 (by simp)
  | [e1], hst, _, hc =>
    obtain ⟨a, rfl, h1⟩ := args_one ha.whole C hc
    have A := ((ha.hd a _ rfl).wk X W sc C e1 h1).1
    have : (fun e => (ev P cF (.bi .range (.cons a .nil)) e).bind itemsOf) = fun e => (ev P cF a e).bind fun x => itD .range [x] := by
      funext e
      simp only [ev]
      rw [range_its]
      exact lst_cons_nil _ _
    rw [this]
    exact piq_range1 C hg hm (by simpa using hst) A
  | [e1, e2], hst, _, hc =>
    obtain ⟨a, b, rfl, h1, h2⟩ := args_two ha.whole C hc
    have A := ((ha.hd a _ rfl).wk X W sc C e1 h1).1
    have B := ((ha.tl a b _ rfl).wk X W sc C e2 h2).1
    have : (fun e => (ev P cF (.bi .range (.cons a (.cons b .nil))) e).bind itemsOf) = fun e => (ev P cF a e).bind fun x => (ev P cF b e).bind fun y => itD .range [x, y] := by
      funext e
      simp only [ev]
      rw [range_its]
      exact lst_cons_cons _ _ _
    rw [this]
    simp only [List.all_cons, List.all_nil, Bool.and_true, Bool.and_eq_true] at hst
    exact piq_range2 C hg hm hst.1 hst.2 A B
  | _ :: _ :: _ :: _, _, hl, _ => exact absurd hl.2 (by simp)
theorem isi_good (Wd : Wld g ex T P cF k) (C : Cn g T.N sc k W X) {b : BI} {tn : String} {isT : D → Bool} {args : Pv.X} {e1 : Expr} {p p2 pos : Pos} (hb : b ≠ .range) (hbd : ∀ d, biD b [d] = if d.isDic then .bad else .ok (.bl (isT d)))
    (hm2 : g.mg (Str.ofString tn) = none) (hv2 : bootBuiltins (Str.ofString tn) = some (.type tn)) (hk : ∀ d, d.isDic = false → kitB (tyNm d) tn = some (isT d)) (hn : evN P cF (.bi b args) = fun e => (ev P cF (.bi b args) e).bind froS)
    (ha : SndA g ex k T P cF args) (hgl : glOk sc "isinstance" = true) (hgl2 : glOk sc (Str.ofString tn) = true) (hst : notStar e1 = true) (hc : chkA T args true sc [e1] = true) :
    Good g ex W X P cF (.bi b args) (.Call (.Name "isinstance" p) [e1, .Name (Str.ofString tn) p2] [] pos) := by
  obtain ⟨hg, _, _⟩ := glOk_of C hgl
  obtain ⟨hg2, hd2, hn2⟩ := glOk_of C hgl2
  obtain ⟨a, rfl, h1⟩ := args_one ha.whole C hc
  have A := ((ha.hd a _ rfl).wk X W sc C e1 h1).1
  refine Good.plain C ?_ hn (fun _ _ _ _ => by simp) rfl
  have : ev P cF (.bi b (.cons a .nil)) = fun e => (ev P cF a e).bind fun d => if d.isDic then .bad else .ok (.bl (isT d)) := by
    funext e
    simp only [ev]
    cases ev P cF a e with
    | ok d =>
      show biI b [d] = _
      unfold biI
      rw [if_neg hb]
      exact hbd d
    | exc c p => rfl
    | bad => rfl
  rw [this]
  exact pq_isi (x := Str.ofString tn) C hg (Wd.bt "isinstance" (by simp)) hg2 hm2 hv2 hn2 hd2 hst A hk
theorem ofString_inj {a b : String} (h : Str.ofString a = Str.ofString b) (d : decide (Str.ofString a = Str.ofString b) = true → a = b) : a = b := d (decide_eq_true h)
theorem bi_cases {b : BI} {args : Pv.X} (Wd : Wld g ex T P cF k) (ha : SndA g ex k T P cF args) (hb : b ≠ .range) {m : Md} (C : Cn g T.N sc k W X) {e : Expr} (hc : chkE T (.bi b args) m sc e = true) : Good g ex W X P cF (.bi b args) e := by
  cases e with
  | Call fn es kws pos =>
    cases fn with
    | Name x p =>
      cases kws with
      | cons _ _ => cases hc
      | nil =>
        rw [chkE] at hc
        obtain ⟨h0, h1⟩ := Bool.and_eq_true_iff.mp hc
        rw [if_neg hb] at h1
        cases ht : isTy b with
        | some tn =>
          rw [ht] at h1
          obtain ⟨h2, h3⟩ := Bool.and_eq_true_iff.mp (show (decide (x = "isinstance") && _) = true from h1)
          have hx : x = "isinstance" := of_decide_eq_true h2
          subst hx
          match es, h3 with
          | [e1, .Name y p2], h3 =>
            have h3 : (decide (y = Str.ofString tn) && glOk sc y && notStar e1 && chkA T args true sc [e1]) = true := h3
            simp only [Bool.and_eq_true, decide_eq_true_eq] at h3
            obtain ⟨⟨⟨rfl, h4⟩, h5⟩, h6⟩ := h3
            cases b with
            | isList => cases ht; exact isi_good Wd C (tn := "list") (isT := D.isL) hb (fun _ => rfl) (Wd.bt "list" (by simp)) PyProof.Rows.boot_list (fun d hd => by cases d <;> first | (cases hd; done) | (dsimp only [tyNm, D.isL]; decide +kernel)) rfl ha h0 h4 h5 h6
            | isBool => cases ht; exact isi_good Wd C (tn := "bool") (isT := D.isB) hb (fun _ => rfl) (Wd.bt "bool" (by simp)) (by decide +kernel) (fun d hd => by cases d <;> first | (cases hd; done) | (dsimp only [tyNm, D.isB]; decide +kernel)) rfl ha h0 h4 h5 h6
            | _ => cases ht
        | none =>
          rw [ht] at h1
          cases hn : biName b with
          | none => rw [hn] at h1; cases h1
          | some nm =>
            rw [hn] at h1
            have h1 : (decide (x = Str.ofString nm) && es.all notStar && decide (0 < es.length) && chkA T args true sc es) = true := h1
            simp only [Bool.and_eq_true, decide_eq_true_eq] at h1
            obtain ⟨⟨⟨rfl, h2⟩, h3⟩, h4⟩ := h1
            exact bi_named_good Wd C hn h0 h2 h3 (ha.whole.aw X W sc C es h4)
    | _ => cases hc
  | _ => cases hc
theorem bi_range {args : Pv.X} (Wd : Wld g ex T P cF k) (ha : SndA g ex k T P cF args) {m : Md} (hm : m = .it ∨ m = .its) (C : Cn g T.N sc k W X) {e : Expr} (hc : chkE T (.bi .range args) m sc e = true) (tg : Expr) : PIq g ex W (RIs g) X tg e (fun e => (ev P cF (.bi .range args) e).bind itemsOf) := by
  cases e with
  | Call fn es kws pos =>
    cases fn with
    | Name x p =>
      cases kws with
      | cons _ _ => cases hc
      | nil =>
        rw [chkE] at hc
        obtain ⟨h0, h1⟩ := Bool.and_eq_true_iff.mp hc
        rw [if_pos rfl] at h1
        rw [Bool.and_eq_true, Bool.and_eq_true, Bool.and_eq_true, Bool.and_eq_true] at h1
        obtain ⟨⟨⟨⟨h1, h2⟩, h3⟩, h4⟩, h5⟩ := h1
        have hx : x = "range" := of_decide_eq_true h2
        subst hx
        exact range_piq Wd C ha h0 h3 (of_decide_eq_true h4) h5
    | _ => cases hc
  | _ => cases hc
theorem bi_range_no {args : Pv.X} {m : Md} (hm : m = .st ∨ m = .wk) {e : Expr} : chkE T (.bi .range args) m sc e = false := by
  cases e with
  | Call fn es kws pos =>
    cases fn with
    | Name x p =>
      cases kws with
      | cons _ _ => rfl
      | nil =>
        rw [chkE, if_pos rfl]
        rcases hm with rfl | rfl
        · simp
        · simp
    | _ => rfl
  | _ => rfl
theorem snd_bi (Wd : Wld g ex T P cF k) (b : BI) {args : Pv.X} (ha : SndA g ex k T P cF args) : Snd g ex k T P cF (.bi b args) := by
  by_cases hb : b = .range
  · subst hb
    exact { st := fun X W sc C e hc => by rw [bi_range_no (.inl rfl)] at hc; cases hc
            wk := fun X W sc C e hc => by rw [bi_range_no (.inr rfl)] at hc; cases hc
            it := fun X W sc C e hc tg => (bi_range Wd ha (.inl rfl) C hc tg).weak
            its := fun X W sc C e hc tg => bi_range Wd ha (.inr rfl) C hc tg
            as := fun X W sc C es hc => by cases hc
            aw := fun X W sc C es hc => by cases hc }
  · exact { st := fun X W sc C e hc => bi_cases Wd ha hb C hc
            wk := fun X W sc C e hc => have G := bi_cases Wd ha hb C hc; ⟨G.v.weak, G.t⟩
            it := fun X W sc C e hc tg => (piq_seq C (bi_cases Wd ha hb C hc).v).weak
            its := fun X W sc C e hc tg => piq_seq C (bi_cases Wd ha hb C hc).v
            as := fun X W sc C es hc => by cases hc
            aw := fun X W sc C es hc => by cases hc }
theorem m1_conv (b : BI) (o a : Pv.X) : (fun e => (ev P cF (.m1 b o a) e).bind (conv true)) = fun e => ((ev P cF o e).bind fun x => if recvOk b x then (ev P cF a e).bind fun y => biD b [x, y] else .bad).bind (conv true) := by
  funext e; simp only [ev]
theorem snd_m1 (b : BI) {o a : Pv.X} (ho : Snd g ex k T P cF o) (ha : Snd g ex k T P cF a) : Snd g ex k T P cF (.m1 b o a) := Snd.of (fun _ _ _ _ => rfl) (fun _ _ _ => rfl) fun X W sc C e hc => by
  cases e with
  | Call fn es kws pos =>
    cases fn with
    | Attribute o' nm apos =>
      match es, kws, hc with
      | [], _, hc => cases hc
      | [_], _ :: _, hc => cases hc
      | _ :: _ :: _, _, hc => cases hc
      | [a'], [], hc =>
        rw [chkE] at hc
        rw [Bool.and_eq_true, Bool.and_eq_true, Bool.and_eq_true, Bool.and_eq_true, Bool.and_eq_true] at hc
        obtain ⟨⟨⟨⟨⟨h0, h1⟩, h2⟩, h3⟩, h4⟩, h5⟩ := hc
        have O := (ho.wk X W sc C o' h4).1
        have A := (ha.wk X W sc C a' h5).1
        cases b with
        | split =>
          have h0 : nm = Str.ofString "split" := of_decide_eq_true h0
          subst h0
          refine Good.ofN C ?_ rfl (fun _ _ _ _ => by simp) rfl
          rw [m1_conv]
          exact pn_split C O A h1 h2 h3
        | join =>
          have h0 : nm = Str.ofString "join" := of_decide_eq_true h0
          subst h0
          refine Good.plain C (ofN_v ?_) rfl (fun _ _ _ _ => by simp) rfl
          rw [m1_conv]
          exact pn_join C O A h1 h2 h3
        | _ => cases h0
    | _ => cases hc
  | _ => cases hc
end
end Pv

namespace Pv
open PySem PySem.Spec L2
section
variable {g : Gr} {ex : Nat → Option (Addr × Option Str)} {W : WX} {X : Cx} {sc : Scope} {k : Nat} {T : Nm} {P : Prog} {cF : Nat → List D → Res Slot}
/-- the context of a comprehension's block -/
theorem Cn.blk (C : Cn g T.N sc k W X) {scope : Scope} (s : Shared) (H : Hp) (A : Addr) (cl : List (Str × Addr)) (fp : List Addr) :
    Cn g T.N (relS scope sc) k W0 (X.blk s H scope (compEnvC scope cl A X.env) fp) :=
  ⟨C.prog, C.w, C.K, C.mg, C.base, C.hN, C.nd, by rw [← C.sc]; rfl, C.calm, C.room, takes0, PassesOwn.never⟩
theorem locOk_blk (C : Cn g T.N sc k W X) {scope : Scope} {i : Nat} {x : Str} {p : Pos} (h : locOk T scope i x = true) (s : Shared) (H : Hp) (A : Addr) (cl : List (Str × Addr)) (fp : List Addr) :
    PG (X.blk s H scope (compEnvC scope cl A X.env) fp) (.Name x p) (gName i) := by
  unfold locOk at h
  rw [Bool.and_eq_true, Bool.or_eq_true] at h
  obtain ⟨h1, h2⟩ := h
  have h1 : T.N[i]? = some x := of_decide_eq_true h1
  refine pg_name (by show X.N.Nodup; rw [C.hN]; exact C.nd) (by show X.N[i]? = some x; rw [C.hN]; exact h1) ?_ ?_
  · rcases h2 with h | h
    · exact .inl (lookup_relS_keep (by simp) (of_decide_eq_true h))
    · exact .inr (lookup_relS_keep (by simp) (of_decide_eq_true h))
  · rcases h2 with h | h
    · exact .inr (lookup_relS_keep (by simp) (of_decide_eq_true h))
    · exact .inl (by show (scope.names.lookup x == some .cell) = true; rw [of_decide_eq_true h]; rfl)
theorem pgs_names {X : Cx} {sc : Scope} (hp : ∀ i x p, locOk T sc i x = true → PG X (.Name x p) (gName i)) : ∀ {is : List Nat} {es : List Expr}, locsOk T sc is es = true →
    PGs X es (gMany is) ∧ (assignEach es X.env).length = is.length ∧ (assignEach es X.env).findIdx? (·.1) = none
  | [], [], _ => ⟨pgs_nil, rfl, rfl⟩
  | [], _ :: _, h => by cases h
  | i :: is, [], h => by cases h
  | i :: is, e :: es, h => by
    cases e with
    | Name x p =>
      have h : (locOk T sc i x && locsOk T sc is es) = true := h
      obtain ⟨h1, h2⟩ := Bool.and_eq_true_iff.mp h
      obtain ⟨a, b, c⟩ := pgs_names hp h2
      refine ⟨pgs_cons (hp i x p h1) a rfl, ?_, ?_⟩
      · show (assignEach es X.env).length + 1 = _
        rw [b]; rfl
      · show List.findIdx? (·.1) ((false, assign (.Name x p) X.env) :: assignEach es X.env) = none
        rw [List.findIdx?_cons, c]; rfl
    | _ => cases h
theorem pg_tg {X : Cx} {sc : Scope} (hc : X.calm = true) (hK : X.K = g.K) (hp : ∀ i x p, locOk T sc i x = true → PG X (.Name x p) (gName i)) {t : Tg} {tg : Expr} (h : tgOk T sc t tg = true) : PG X tg (gOf g.K t) := by
  cases t with
  | one i =>
    cases tg with
    | Name x p => exact hp i x p h
    | _ => cases h
  | many is =>
    cases tg with
    | Tuple es j p =>
      obtain ⟨a, b, c⟩ := pgs_names hp (show locsOk T sc is es = true from h)
      have := pg_tup (pos := p) (k := j) hc a b c
      rw [hK] at this
      exact this
    | _ => cases h
theorem lc_step (cond elt : Pv.X) (t : Tg) (own : List Nat) (e : Pv.Env) : (fun d => (bindT t d (wipeE e own)).bind fun e1 => (ev P cF cond e1).bind fun c => c.truth.bind fun c =>
          if c then (ev P cF elt e1).bind fun y => .ok (some y) else .ok none) = stepC t own (fun e => (ev P cF cond e).bind D.truth) (ev P cF elt) e := by
  funext d
  unfold stepC
  congr 1
  funext e1
  rw [bind_assoc]
theorem lc_ev (elt cond it : Pv.X) (t : Tg) (own : List Nat) : (fun e => (ev P cF (.lc elt t it cond own) e).bind (conv true)) =
    fun e => ((ev P cF it e).bind itemsOf).bind fun items => (compL (stepC t own (fun e => (ev P cF cond e).bind D.truth) (ev P cF elt) e) items).nox.bind fun l => if l.length ≤ line then .ok (.own l) else .bad := by
  funext e
  simp only [ev]
  rw [bind_assoc]
  congr 1
  funext items
  rw [lc_step]
  exact lst_conv
theorem own_map (own : List Nat) : (ownP T own).map (·.2) = own := by
  unfold ownP
  rw [List.map_map]
  exact (List.map_congr_left fun _ _ => rfl).trans (List.map_id' own)
theorem fold_not {e : Expr} (h : notSetE e = true) (env : PySem.Env) (x : Value) : foldedSetIterable e env x = pure x := by
  cases e <;> first | (cases h; done) | rfl
theorem snd_lc (elt : Pv.X) (t : Tg) (it cond : Pv.X) (own : List Nat) (he : Snd g ex k T P cF elt) (hi : Snd g ex k T P cF it) (hco : Snd g ex k T P cF cond) : Snd g ex k T P cF (.lc elt t it cond own) :=
  Snd.of (fun _ _ _ _ => rfl) (fun _ _ _ => rfl) fun X W sc C e hc => by
  cases e with
  | ListComp elt' gens scope pos =>
    match gens, hc with
    | [], hc => cases hc
    | _ :: _ :: _, hc => simp [chkE] at hc
    | [⟨tg, it', ifs, as⟩], hc =>
        rw [chkE] at hc
        rw [Bool.and_eq_true, Bool.and_eq_true, Bool.and_eq_true, Bool.and_eq_true, Bool.and_eq_true, Bool.and_eq_true, Bool.and_eq_true] at hc
        obtain ⟨⟨⟨⟨⟨⟨⟨h0, h1⟩, h2⟩, h3⟩, h4⟩, h5⟩, h6⟩, h7⟩ := hc
        have h0 : as = 0 := of_decide_eq_true h0
        subst h0
        have ok : BlkOk X.N X.env.scope scope (ownP T own) := by rw [C.hN, C.sc]; exact blkOk_by h3
        have hsub : ∀ i ∈ t.slots, i ∈ (ownP T own).map (·.2) := fun i hi => by
          rw [own_map]
          have := List.all_eq_true.mp h5 i hi
          simpa using this
        have ht : ∀ (s : Shared) (H : Hp) (A : Addr) (cl : List (Str × Addr)) (fp : List Addr), PTs (X.blk s H scope (compEnvC scope cl A X.env) fp) ifs (tq g ex W0 RB fun e => (ev P cF cond e).bind D.truth) := fun s H A cl fp => by
          have B := C.blk (scope := scope) s H A cl fp
          match ifs, h7 with
          | [], h7 =>
            have : cond = .c (.bl true) := by
              have h7 : isTt cond = true := h7
              unfold isTt at h7
              split at h7
              · rfl
              · cases h7
            subst this
            refine ⟨fun pins s σ H Q I q => pts_nil.run pins s σ H Q I ?_⟩
            obtain ⟨e, H0, G0, G, F, p⟩ := q
            exact p true H G F.refl rfl
          | [c], h7 =>
            have h7 : (testOk cond && chkE T cond .wk (relS scope sc) c) = true := h7
            obtain ⟨q1, q2⟩ := Bool.and_eq_true_iff.mp h7
            exact pts_one ((hco.wk _ W0 _ B c q2).2 q1)
          | _ :: _ :: _, h7 => cases h7
        have L := lcb (k := k) C (pos := pos) (hi.it X W sc C it' h1 tg) ok (fun s H A cl fp => pg_tg (X := X.blk s H scope (compEnvC scope cl A X.env) fp) C.calm C.K (fun i x p h => locOk_blk C h s H A cl fp) h4) ht
          (fun s H A cl fp => (he.st _ W0 _ (C.blk (scope := scope) s H A cl fp) elt' h6).v) hsub (fold_not h2 _)
        rw [own_map, ← lc_ev elt cond it t own] at L
        have hn : evN P cF (.lc elt t it cond own) = fun e => (ev P cF (.lc elt t it cond own) e).bind (conv true) := rfl
        have v := ofN_v L.pe
        exact ⟨v, by rw [hn]; exact L.pe, fun _ => ptq_gen C v.weak (isTrue_gen rfl), (fun _ h => by cases h), fun _ => by rw [hn]; exact L⟩
  | _ => cases hc
/-- every expression -/
theorem snd_all (Wd : Wld g ex T P cF k) : ∀ x : Pv.X, SndA g ex k T P cF x
  | .v i => ⟨snd_v i, (fun _ _ h => by cases h), fun _ _ _ h => by cases h⟩
  | .o i => ⟨snd_o i, (fun _ _ h => by cases h), fun _ _ _ h => by cases h⟩
  | .c d => ⟨snd_c d, (fun _ _ h => by cases h), fun _ _ _ h => by cases h⟩
  | .gl j => ⟨snd_gl Wd j, (fun _ _ h => by cases h), fun _ _ _ h => by cases h⟩
  | .bin op a b => ⟨snd_bin op (snd_all Wd a).whole (snd_all Wd b).whole, (fun _ _ h => by cases h), fun _ _ _ h => by cases h⟩
  | .neg a => ⟨snd_neg (snd_all Wd a).whole, (fun _ _ h => by cases h), fun _ _ _ h => by cases h⟩
  | .cmp op a b => ⟨snd_cmp op (snd_all Wd a).whole (snd_all Wd b).whole, (fun _ _ h => by cases h), fun _ _ _ h => by cases h⟩
  | .cmp2 op op' a b c => ⟨snd_cmp2 op op' (snd_all Wd a).whole (snd_all Wd b).whole (snd_all Wd c).whole, (fun _ _ h => by cases h), fun _ _ _ h => by cases h⟩
  | .and a b => ⟨snd_and (snd_all Wd a).whole (snd_all Wd b).whole, (fun _ _ h => by cases h), fun _ _ _ h => by cases h⟩
  | .or a b => ⟨snd_or (snd_all Wd a).whole (snd_all Wd b).whole, (fun _ _ h => by cases h), fun _ _ _ h => by cases h⟩
  | .not a => ⟨snd_not (snd_all Wd a).whole, (fun _ _ h => by cases h), fun _ _ _ h => by cases h⟩
  | .ite t a b => ⟨snd_ite (snd_all Wd t).whole (snd_all Wd a).whole (snd_all Wd b).whole, (fun _ _ h => by cases h), fun _ _ _ h => by cases h⟩
  | .call f args => ⟨snd_call Wd f (snd_all Wd args).whole, (fun _ _ h => by cases h), fun _ _ _ h => by cases h⟩
  | .bi b args => ⟨snd_bi Wd b (snd_all Wd args), (fun _ _ h => by cases h), fun _ _ _ h => by cases h⟩
  | .m1 b o a => ⟨snd_m1 b (snd_all Wd o).whole (snd_all Wd a).whole, (fun _ _ h => by cases h), fun _ _ _ h => by cases h⟩
  | .sub a i => ⟨snd_sub (snd_all Wd a).whole (snd_all Wd i).whole, (fun _ _ h => by cases h), fun _ _ _ h => by cases h⟩
  | .slc a lo hi => ⟨snd_slc (snd_all Wd a).whole (snd_all Wd lo).whole (snd_all Wd hi).whole, (fun _ _ h => by cases h), fun _ _ _ h => by cases h⟩
  | .tup args => ⟨snd_tup (snd_all Wd args).whole, (fun _ _ h => by cases h), fun _ _ _ h => by cases h⟩
  | .lst args => ⟨snd_lst (snd_all Wd args).whole, (fun _ _ h => by cases h), fun _ _ _ h => by cases h⟩
  | .lc elt t it cond own => ⟨snd_lc elt t it cond own (snd_all Wd elt).whole (snd_all Wd it).whole (snd_all Wd cond).whole, (fun _ _ h => by cases h), fun _ _ _ h => by cases h⟩
  | .nil => ⟨snd_nil, (fun _ _ h => by cases h), fun _ _ _ h => by cases h⟩
  | .cons a r => ⟨snd_cons (snd_all Wd a).whole (snd_all Wd r).whole, (fun _ _ h => by cases h; exact (snd_all Wd a).whole), fun _ b r' h => by cases h; exact (snd_all Wd (.cons b r')).hd b r' rfl⟩
end
end Pv

namespace Pv
open PySem PySem.Spec L2
def isComp : Expr → Bool
  | .ListComp _ _ _ _ => true
  | .SetComp _ _ _ _ => true
  | .DictComp _ _ _ _ _ => true
  | _ => false
/-- does a comprehension's value go to the name at once -/
def swC (sc : Scope) (x : Str) (p : Pos) : Expr → Bool
  | .ListComp a b s q => sc.kind == .function && sc.names.lookup x == some .local && p.line == q.line && !(s.names.any fun (n, k) => n == x && (k == .local || k == .cell))
  | _ => false
def frzOf : S → Option Nat
  | .frz i => some i
  | _ => none
def parC (sc : Scope) (x y : Str) (px py : Pos) (ts vs : List Expr) : Bool :=
  sc.kind == .function && sc.names.lookup x == some .local && sc.names.lookup y == some .local && px.line == py.line && !(x == y) && !(vs.all (foldedForSure 8)) && !(vs.all (constantsAlone 8))
def seqC (z : Bool) (l : List Stmt) (f : List Stmt → Bool) (h : Stmt → Bool) : Bool := if z then f l else match l with
  | s :: r => h s && f r
  | [] => false
mutual
def chkS (T : Nm) : S → Scope → Stmt → Bool
  | .skip, _, st => match st with | .Pass _ => true | _ => false
  | .seq _ _, _, _ => false
  | .frz _, _, _ => false
  | .set i e, sc, st => match st with
    | .Assign [.Name x _] v _ => locOk T sc i x && !isComp v && chkE T e .st sc v
    | _ => false
  | .setN i e, sc, st => match st with
    | .Assign [.Name x p] v _ => locOk T sc i x && chkE T e .st sc v && (!isComp v || swC sc x p v)
    | _ => false
  | .setT is e, sc, st => match st with
    | .Assign [.Tuple ts _ _] v _ => locsOk T sc is ts && !isTupE v && chkE T e .st sc v
    | _ => false
  | .par i j a b, sc, st => match st with
    | .Assign [.Tuple [.Name x px, .Name y py] _ _] (.Tuple [a', b'] _ _) _ => locOk T sc i x && locOk T sc j y && !(i == j) && notStar a' && notStar b' && parC sc x y px py [] [a', b'] && chkE T a .st sc a' && chkE T b .st sc b'
    | _ => false
  | .app i e, sc, st => match st with
    | .Expr (.Call (.Attribute (.Name x _) nm apos) [v] [] cpos) _ => decide (nm = "append") && nmOk T sc i x && notStar v && (apos.endLine == cpos.line) && chkE T e .st sc v
    | _ => false
  | .seti i k e, sc, st => match st with
    | .Assign [.Subscript (.Name x _) ke _] v _ => nmOk T sc i x && notSlice ke && chkE T k .st sc ke && chkE T e .st sc v
    | _ => false
  | .aug i op e, sc, st => match st with
    | .AugAssign (.Name x _) op' v _ => decide (op = op') && locOk T sc i x && chkE T e .st sc v
    | _ => false
  | .ite c a b, sc, st => match st with
    | .If c' a' b' _ => testOk c && chkE T c .wk sc c' && chkB T a sc a' && chkB T b sc b'
    | _ => false
  | .for_ t it body, sc, st => match st with
    | .For tg it' body' [] _ => chkE T it .its sc it' && notSetE it' && tgOk T sc t tg && chkB T body sc body'
    | _ => false
  | .while_ c body, sc, st => match st with
    | .While c' body' [] _ => testOk c && chkE T c .wk sc c' && chkB T body sc body'
    | _ => false
  | .ret e, sc, st => match st with
    | .Return (some v) _ => chkE T e .st sc v
    | .Return none _ => (match e with | .c .non => true | _ => false)
    | _ => false
  | .retN e, sc, st => match st with
    | .Return (some v) _ => chkE T e .st sc v
    | _ => false
  | .retO i, sc, st => match st with
    | .Return (some (.Name x _)) _ => nmOk T sc i x
    | _ => false
  | .brk, _, st => match st with | .Break _ => true | _ => false
  | .cnt, _, st => match st with | .Continue _ => true | _ => false
  | .drop e, sc, st => match st with
    | .Expr v _ => !isComp v && chkE T e .st sc v
    | _ => false
def chkB (T : Nm) : S → Scope → List Stmt → Bool
  | .skip, _, l => l.isEmpty
  | .seq a b, sc, l => seqC (frzOf a).isSome l (fun l => chkB T b sc l) (fun s => chkS T a sc s)
  | _, _, _ => false
end
section
variable {g : Gr} {ex : Nat → Option (Addr × Option Str)} {W : WX} {X : Cx} {sc : Scope} {k : Nat} {T : Nm} {P : Prog} {cF : Nat → List D → Res Slot}
/-- the context of a def's body -/
structure Cb (g : Gr) (T : Nm) (sc : Scope) (k : Nat) (W : WX) (X : Cx) : Prop where
  c : Cn g T.N sc k W X
  fn : ∀ x, X.fn x = true
structure SndS (g : Gr) (ex : Nat → Option (Addr × Option Str)) (k : Nat) (T : Nm) (P : Prog) (cF : Nat → List D → Res Slot) (s : S) : Prop where
  st : ∀ (X : Cx) (W : WX) (sc : Scope), Cb g T sc k W X → ∀ st, chkS T s sc st = true → PSq g ex W X st (exS P cF s)
  bl : ∀ (X : Cx) (W : WX) (sc : Scope), Cb g T sc k W X → ∀ st, chkB T s sc st = true → PSsq g ex W X st (exS P cF s)
theorem locOk_loc (C : Cn g T.N sc k W X) {i : Nat} {x : Str} (h : locOk T sc i x = true) : X.N[i]? = some x ∧ Loc X.env.scope x := by
  unfold locOk at h
  rw [Bool.and_eq_true, Bool.or_eq_true] at h
  obtain ⟨h1, h2⟩ := h
  refine ⟨by rw [C.hN]; exact of_decide_eq_true h1, ?_⟩
  rcases h2 with h | h
  · exact .inl (by rw [C.sc]; exact of_decide_eq_true h)
  · exact .inr (by rw [C.sc]; exact of_decide_eq_true h)
theorem locOk_pg (C : Cb g T sc k W X) {i : Nat} {x : Str} {p : Pos} (h : locOk T sc i x = true) : PG X (.Name x p) (gName i) := by
  obtain ⟨h1, h2⟩ := locOk_loc C.c h
  exact pg_name (by rw [C.c.hN]; exact C.c.nd) h1 h2 (.inl (C.fn x))
theorem comp_sw {v : Expr} (h : isComp v = false) (t : Option Expr) (l : Nat) (env : PySem.Env) : swapsWith v t l env = pure false := by
  cases v <;> first | rfl | (cases h; done)
theorem blockK {env : PySem.Env} (h : env.scope.kind = .function) : env.blockKind = .function := by
  unfold PySem.Env.blockKind
  rw [h]
  rfl
theorem swC_sw (C : Cb g T sc k W X) {x : Str} {p : Pos} {v : Expr} {l : Nat} (h : swC sc x p v = true) : swapsWith v (some (.Name x p)) l X.env = pure true ∧ X.env.scope.names.lookup x = some .local ∧ ∃ a b c d, v = .ListComp a b c d := by
  cases v with
  | ListComp a b s q =>
    have h : (sc.kind == .function && sc.names.lookup x == some .local && p.line == q.line && !(s.names.any fun (n, k) => n == x && (k == .local || k == .cell))) = true := h
    rw [← C.c.sc] at h
    refine ⟨?_, ?_, _, _, _, _, rfl⟩
    · have hk : (X.env.scope.kind == ScopeKind.function) = true := by
        rw [Bool.and_eq_true, Bool.and_eq_true, Bool.and_eq_true] at h
        exact h.1.1.1
      have hb : X.env.blockKind = .function := blockK (eq_of_beq hk)
      show (pure (X.env.blockKind == .function && X.env.scope.names.lookup x == some .local && p.line == q.line && !(s.names.any fun (n, k) => n == x && (k == .local || k == .cell))) : Sem Bool) = pure true
      rw [eq_of_beq hk] at h
      rw [hb, h]
    · rw [Bool.and_eq_true, Bool.and_eq_true, Bool.and_eq_true] at h
      exact eq_of_beq h.1.1.2
  | _ => cases h
theorem par_sw (C : Cb g T sc k W X) {x y : Str} {px py pt pt2 : Pos} {kt k2} {a b : Expr} (ha : notStar a = true) (hnb : notStar b = true) (h : parC sc x y px py [] [a, b] = true) :
    swappedStores [.Tuple [.Name x px, .Name y py] kt pt] (.Tuple [a, b] k2 pt2) X.env = pure (some [x, y]) := by
  unfold parC at h
  rw [← C.c.sc] at h
  simp only [Bool.and_eq_true, Bool.not_eq_true'] at h
  obtain ⟨⟨⟨⟨⟨⟨h1, h2⟩, h3⟩, h4⟩, h5⟩, h6⟩, h7⟩ := h
  have hb : X.env.blockKind = .function := blockK (eq_of_beq h1)
  have hs : ([a, b].any fun | .Starred .. => true | _ => false) = false := by
    cases a <;> cases b <;> first | rfl | (cases ha; done) | (cases hnb; done)
  have h5' : (y == x) = false := by
    cases q : (y == x) with
    | false => rfl
    | true => rw [eq_of_beq q] at h5; simp at h5
  have h4' : (py.line == px.line) = true := by rw [eq_of_beq h4]; simp
  have n1 : X.env.kindOf x = some .local := eq_of_beq h2
  have n2 : X.env.kindOf y = some .local := eq_of_beq h3
  unfold swappedStores
  simp only [List.length_cons, List.length_nil, hb, List.head?_cons, Option.map_some, Option.getD_some, Expr.pos, List.filterMap_cons, List.filterMap_nil, n1, n2, h4', h6, h7, hs]
  simp
  have e2 : [x, y].eraseDups.length = 2 := by
    rw [List.eraseDups_cons]
    simp [h5', List.eraseDups_cons]
  rw [if_pos e2, if_neg]
  rintro (q | q)
  · clear hs; cases a <;> first | (cases q; done) | (cases ha; done)
  · clear hs; cases b <;> first | (cases q; done) | (cases hnb; done)
theorem frzOf_eq {s : S} {i : Nat} (h : frzOf s = some i) : s = .frz i := by
  unfold frzOf at h
  split at h
  · cases h; rfl
  · cases h
theorem SndS.of {s : S} (hb : ∀ sc l, chkB T s sc l = false) (h : ∀ (X : Cx) (W : WX) (sc : Scope), Cb g T sc k W X → ∀ st, chkS T s sc st = true → PSq g ex W X st (exS P cF s)) : SndS g ex k T P cF s :=
  ⟨h, fun X W sc C st hc => by rw [hb] at hc; cases hc⟩
theorem slot_sw {v : Expr} (h : isComp v = false) : isComp v = false := h
theorem snds_skip : SndS g ex k T P cF .skip where
  st := fun X W sc C st hc => by
    cases st with
    | Pass p => exact psq_pass
    | _ => cases hc
  bl := fun X W sc C st hc => by
    cases st with
    | nil => exact psq_nil
    | cons _ _ => cases hc
theorem snds_seq {a b : S} (A : SndS g ex k T P cF a) (B : SndS g ex k T P cF b) : SndS g ex k T P cF (.seq a b) where
  st := fun X W sc C st hc => by cases hc
  bl := fun X W sc C st hc => by
    have hc : seqC (frzOf a).isSome st (fun l => chkB T b sc l) (fun s => chkS T a sc s) = true := hc
    cases hf : frzOf a with
    | some i =>
      rw [hf] at hc
      have := frzOf_eq hf
      subst this
      exact psq_frz i (B.bl X W sc C st hc)
    | none =>
      rw [hf] at hc
      cases st with
      | nil => cases hc
      | cons s r =>
        have hc : (chkS T a sc s && chkB T b sc r) = true := hc
        obtain ⟨h1, h2⟩ := Bool.and_eq_true_iff.mp hc
        exact psq_cons (A.st X W sc C s h1) (B.bl X W sc C r h2)
theorem snds_frz (i : Nat) : SndS g ex k T P cF (.frz i) where
  st := fun X W sc C st hc => by cases hc
  bl := fun X W sc C st hc => by cases hc
theorem snds_all (Wd : Wld g ex T P cF k) : ∀ s : S, SndS g ex k T P cF s
  | .skip => snds_skip
  | .seq a b => snds_seq (snds_all Wd a) (snds_all Wd b)
  | .frz i => snds_frz i
  | .set i e => SndS.of (fun _ _ => rfl) fun X W sc C st hc => by
      unfold chkS at hc
      split at hc
      · rename_i x p v pos
        rw [Bool.and_eq_true, Bool.and_eq_true, Bool.not_eq_true'] at hc
        obtain ⟨⟨h1, h2⟩, h3⟩ := hc
        obtain ⟨l1, l2⟩ := locOk_loc C.c h1
        have G := ((snd_all Wd e).whole.st X W sc C.c v h3)
        have q := psq_setN (k := k) C.c C.fn (pos := pos) (pos' := p) l1 l2 (PEq.slot G.v) (comp_sw h2 _ _ _)
        have : (fun e' => ((ev P cF e e').bind fun d => Res.ok (Slot.fro d)).bind fun s => Res.ok (Out.nx (e'.set i s))) = exS P cF (.set i e) := by
          funext e'
          simp only [exS]
          rw [bind_assoc]
          rfl
        rw [this] at q
        exact q
      · cases hc
  | .setN i e => SndS.of (fun _ _ => rfl) fun X W sc C st hc => by
      unfold chkS at hc
      split at hc
      · rename_i x p v pos
        rw [Bool.and_eq_true, Bool.and_eq_true, Bool.or_eq_true, Bool.not_eq_true'] at hc
        obtain ⟨⟨h1, h2⟩, h3⟩ := hc
        obtain ⟨l1, l2⟩ := locOk_loc C.c h1
        have G := ((snd_all Wd e).whole.st X W sc C.c v h2)
        rcases h3 with h3 | h3
        · exact psq_setN (k := k) C.c C.fn l1 l2 G.n (comp_sw h3 _ _ _)
        · obtain ⟨q1, q2, q3⟩ := swC_sw (l := pos.line) C h3
          exact psq_setLc l1 q2 (G.lc q3) q1
      · cases hc
  | .setT is e => SndS.of (fun _ _ => rfl) fun X W sc C st hc => by
      unfold chkS at hc
      split at hc
      · rename_i ts j pt v pos
        rw [Bool.and_eq_true, Bool.and_eq_true, Bool.not_eq_true'] at hc
        obtain ⟨⟨h1, h2⟩, h3⟩ := hc
        have G := ((snd_all Wd e).whole.st X W sc C.c v h3)
        exact psq_setT (pg_tg (t := .many is) C.c.calm C.c.K (fun i x p h => locOk_pg C h) h1) G.v (swapped_not2 h2 _)
      · cases hc
  | .par i j a b => SndS.of (fun _ _ => rfl) fun X W sc C st hc => by
      unfold chkS at hc
      split at hc
      · rename_i x px y py kt pt a' b' k2 pt2 pos
        rw [Bool.and_eq_true, Bool.and_eq_true, Bool.and_eq_true, Bool.and_eq_true, Bool.and_eq_true, Bool.and_eq_true, Bool.and_eq_true, Bool.not_eq_true'] at hc
        obtain ⟨⟨⟨⟨⟨⟨⟨h1, h2⟩, h3⟩, h4⟩, h5⟩, h6⟩, h7⟩, h8⟩ := hc
        have GA := ((snd_all Wd a).whole.st X W sc C.c a' h7)
        have GB := ((snd_all Wd b).whole.st X W sc C.c b' h8)
        have hx : sc.names.lookup x = some .local ∧ sc.names.lookup y = some .local := by
          unfold parC at h6
          simp only [Bool.and_eq_true] at h6
          exact ⟨eq_of_beq h6.1.1.1.1.1.2, eq_of_beq h6.1.1.1.1.2⟩
        exact psq_par (k := k) C.c (locOk_loc C.c h1).1 (locOk_loc C.c h2).1 (by simpa using h3) (by rw [C.c.sc]; exact hx.1) (by rw [C.c.sc]; exact hx.2) h4 h5 GA.v GB.v (par_sw C h4 h5 h6)
      · cases hc
  | .app i e => SndS.of (fun _ _ => rfl) fun X W sc C st hc => by
      unfold chkS at hc
      split at hc
      · rename_i x px nm apos v cpos pos
        rw [Bool.and_eq_true, Bool.and_eq_true, Bool.and_eq_true, Bool.and_eq_true] at hc
        obtain ⟨⟨⟨⟨h1, h2⟩, h3⟩, h4⟩, h5⟩ := hc
        have h1 : nm = "append" := of_decide_eq_true h1
        subst h1
        have G := ((snd_all Wd e).whole.st X W sc C.c v h5)
        exact psq_app (nmOk_of C.c h2) G.v h3 h4 C.c.K
      · cases hc
  | .seti i kx e => SndS.of (fun _ _ => rfl) fun X W sc C st hc => by
      unfold chkS at hc
      split at hc
      · rename_i x px ke tpos v pos
        rw [Bool.and_eq_true, Bool.and_eq_true, Bool.and_eq_true] at hc
        obtain ⟨⟨⟨h1, h2⟩, h3⟩, h4⟩ := hc
        have GK := ((snd_all Wd kx).whole.st X W sc C.c ke h3)
        have G := ((snd_all Wd e).whole.st X W sc C.c v h4)
        exact psq_seti (nmOk_of C.c h1) GK.v G.v h2
      · cases hc
  | .aug i op e => SndS.of (fun _ _ => rfl) fun X W sc C st hc => by
      unfold chkS at hc
      split at hc
      · rename_i x px op' v pos
        rw [Bool.and_eq_true, Bool.and_eq_true] at hc
        obtain ⟨⟨h1, h2⟩, h3⟩ := hc
        have h1 : op = op' := of_decide_eq_true h1
        subst h1
        obtain ⟨l1, l2⟩ := locOk_loc C.c h2
        have G := ((snd_all Wd e).whole.st X W sc C.c v h3)
        exact psq_aug (k := k) C.c C.fn l1 l2 G.v
      · cases hc
  | .ite c a b => SndS.of (fun _ _ => rfl) fun X W sc C st hc => by
      have A := snds_all Wd a
      have B := snds_all Wd b
      unfold chkS at hc
      split at hc
      · rename_i c' a' b' pos
        rw [Bool.and_eq_true, Bool.and_eq_true, Bool.and_eq_true] at hc
        obtain ⟨⟨⟨h1, h2⟩, h3⟩, h4⟩ := hc
        exact psq_ite (((snd_all Wd c).whole.wk X W sc C.c c' h2).2 h1) (A.bl X W sc C a' h3) (B.bl X W sc C b' h4)
      · cases hc
  | .for_ t it body => SndS.of (fun _ _ => rfl) fun X W sc C st hc => by
      have B := snds_all Wd body
      unfold chkS at hc
      split at hc
      · rename_i tg it' body' pos
        rw [Bool.and_eq_true, Bool.and_eq_true, Bool.and_eq_true] at hc
        obtain ⟨⟨⟨h1, h2⟩, h3⟩, h4⟩ := hc
        exact psq_for (k := k) C.c ((snd_all Wd it).whole.its X W sc C.c it' h1 tg) (pg_tg C.c.calm C.c.K (fun i x p h => locOk_pg C h) h3) (B.bl X W sc C body' h4) (fold_not h2 _)
      · cases hc
  | .while_ c body => SndS.of (fun _ _ => rfl) fun X W sc C st hc => by
      have B := snds_all Wd body
      unfold chkS at hc
      split at hc
      · rename_i c' body' pos
        rw [Bool.and_eq_true, Bool.and_eq_true] at hc
        obtain ⟨⟨h1, h2⟩, h3⟩ := hc
        exact psq_while (k := k) C.c P.wf (((snd_all Wd c).whole.wk X W sc C.c c' h2).2 h1) (B.bl X W sc C body' h3)
      · cases hc
  | .ret e => SndS.of (fun _ _ => rfl) fun X W sc C st hc => by
      unfold chkS at hc
      split at hc
      · rename_i v pos
        have G := ((snd_all Wd e).whole.st X W sc C.c v hc)
        have q := psq_retN (pos := pos) (PEq.slot G.v)
        have : (fun e' => ((ev P cF e e').bind fun d => Res.ok (Slot.fro d)).bind fun s => Res.ok (Out.ret s)) = exS P cF (.ret e) := by
          funext e'
          simp only [exS]
          rw [bind_assoc]
          rfl
        rw [this] at q
        exact q
      · split at hc
        · exact psq_retNone
        · cases hc
      · cases hc
  | .retN e => SndS.of (fun _ _ => rfl) fun X W sc C st hc => by
      unfold chkS at hc
      split at hc
      · rename_i v pos
        exact psq_retN ((snd_all Wd e).whole.st X W sc C.c v hc).n
      · cases hc
  | .retO i => SndS.of (fun _ _ => rfl) fun X W sc C st hc => by
      unfold chkS at hc
      split at hc
      · exact psq_retO (nmOk_of C.c hc)
      · cases hc
  | .brk => SndS.of (fun _ _ => rfl) fun X W sc C st hc => by
      cases st with
      | Break p => exact psq_brk
      | _ => cases hc
  | .cnt => SndS.of (fun _ _ => rfl) fun X W sc C st hc => by
      cases st with
      | Continue p => exact psq_cnt
      | _ => cases hc
  | .drop e => SndS.of (fun _ _ => rfl) fun X W sc C st hc => by
      unfold chkS at hc
      split at hc
      · rename_i v pos
        rw [Bool.and_eq_true, Bool.not_eq_true'] at hc
        obtain ⟨h1, h2⟩ := hc
        exact psq_drop ((snd_all Wd e).whole.st X W sc C.c v h2).v (comp_sw h1 _ _ _)
      · cases hc
end
end Pv

namespace Pv
open PySem PySem.Spec L2
def fnScopeC (N ps : List Str) (sc : Scope) : Bool :=
  sc.kind == .function && !sc.isCoroutine && !sc.isGenerator && decide N.Nodup && decide (N.take ps.length = ps) &&
    (ps.all fun x => decide (sc.names.lookup x = some .local) || decide (sc.names.lookup x = some .cell)) && sc.names.all fun y => !(y.2 == .free)
theorem fnScope_by {N ps : List Str} {sc : Scope} (h : fnScopeC N ps sc = true) : FnScope N ps sc := by
  unfold fnScopeC at h
  simp only [Bool.and_eq_true, decide_eq_true_eq, Bool.not_eq_true'] at h
  obtain ⟨⟨⟨⟨⟨⟨h1, h2⟩, h3⟩, h4⟩, h5⟩, h6⟩, h7⟩ := h
  refine ⟨eq_of_beq h1, h2, h3, h4, h5, fun x hx => ?_, fun y hy e => ?_⟩
  · have := List.all_eq_true.mp h6 x hx
    simpa using this
  · have := List.all_eq_true.mp h7 y hy
    rw [e] at this
    simp at this
def chkF (fns gls : List Str) (fn : Fn) (N ps : List Str) (st : Stmt) : Bool :=
  decide (fn.np = ps.length) && decide (fn.ns = N.length) && fnScopeC N ps (defScope st) && chkB ⟨fns, gls, N⟩ fn.body (defScope st) (defBody st)
/-- the def at a place, as the world holds it -/
def FnW (g : Gr) (P : Prog) (fns gls : List Str) (fi : Nat) (x : Str) : Prop :=
  ∃ fa fd st qual ps N fn, P.fns[fi]? = some fn ∧ g.mg x = some (.ref fa) ∧ Fun g.K x qual st fa fd ∧ Binds g.K fd ps [] ∧ chkF fns gls fn N ps st = true
section
variable {g : Gr} {ex : Nat → Option (Addr × Option Str)} {P : Prog} {fns gls : List Str}
theorem start_fr {G H : Hp} {ds : List D} {vs : List V} {N : List Str} (gh : Same G H) (r : RepA g G ds vs) (h : ds.length ≤ N.length) :
    FR g H G (ds.map Slot.fro ++ List.replicate (N.length - ds.length) Slot.no) (L2.start N vs) H G := by
  have hl := r.length
  have own : ∀ (i : Nat) s, (ds.map Slot.fro ++ List.replicate (N.length - ds.length) Slot.no)[i]? = some s → s.isOwn = true → False := fun i s h o => by
    have := List.mem_of_getElem? h
    rcases List.mem_append.mp this with q | q
    · obtain ⟨d, _, rfl⟩ := List.mem_map.mp q; cases o
    · rw [List.eq_of_mem_replicate q] at o; cases o
  refine ⟨by simp [L2.start, hl], fun i s hs => ?_, fun i j s t a _ h1 _ o1 => (own i s h1 o1).elim, fun i s a h1 o1 => (own i s h1 o1).elim, Same.refl _, Same.refl _, gh, fun a q => .inl q⟩
  by_cases hi : i < ds.length
  · rw [List.getElem?_append_left (by simpa using hi), List.getElem?_map] at hs
    obtain ⟨d, hd, rfl⟩ := Option.map_eq_some_iff.mp hs
    obtain ⟨v, hv, rv⟩ := r.get hd
    refine ⟨v, ?_, rv⟩
    unfold L2.start
    rw [List.getElem?_append_left (by simp [hl]; exact hi), List.getElem?_map, hv]
    rfl
  · rw [List.getElem?_append_right (by simpa using Nat.le_of_not_lt hi)] at hs
    have := List.eq_of_mem_replicate (List.mem_of_getElem? hs)
    subst this
    trivial
theorem runF_ok {n f : Nat} {fn : Fn} (h : P.fns[f]? = some fn) (args : List D) : runF P (n + 1) f args = if args.length = fn.np ∧ fn.np ≤ fn.ns then
        (exS P (runF P n) fn.body (args.map Slot.fro ++ List.replicate (fn.ns - fn.np) Slot.no)).bind endS
      else .bad := by
  simp only [runF, h]
theorem wld_of (hf : ∀ fi x, fns[fi]? = some x → FnAt g ex (runF P n) n fi x)
    (hgl : ∀ (j : Nat) x, gls[j]? = some x → ∃ v u d, g.mg x = some u ∧ RelV v u ∧ P.gls[j]? = some d ∧ ∀ G, Rep g G d v)
    (hbt : ∀ x ∈ (["len", "abs", "int", "max", "min", "all", "any", "sum", "list", "tuple", "isinstance", "bool", "range"] : List String), g.mg (Str.ofString x) = none) (N : List Str) :
    Wld g ex ⟨fns, gls, N⟩ P (runF P n) n := ⟨hf, hgl, hbt⟩
theorem fn_step {n fi : Nat} {x : Str} {fa : Addr} {fd : FuncData} {st : Stmt} {qual : Str} {ps N : List Str} {fn : Fn} (h1 : P.fns[fi]? = some fn) (h3 : Fun g.K x qual st fa fd) (h5 : chkF fns gls fn N ps st = true)
    (Wd : Wld g ex ⟨fns, gls, N⟩ P (runF P n) n) : FnOk g.P g.w g.K g.mg g.base (L2.CX g.P g.w) (n + 1) fa fd ps (spP g ex (runF P (n + 1)) fi) := by
  unfold chkF at h5
  simp only [Bool.and_eq_true, decide_eq_true_eq] at h5
  obtain ⟨⟨⟨c1, c2⟩, c3⟩, c4⟩ := h5
  have S := fnScope_by c3
  have hlen : ∀ vs H Q E, spP g ex (runF P (n + 1)) fi vs H Q E → vs.length = ps.length := fun vs H Q E ⟨G, ds, gh, r, p⟩ => by
    rw [runF_ok h1] at p
    by_cases hc : ds.length = fn.np ∧ fn.np ≤ fn.ns
    · rw [r.length, hc.1, c1]
    · rw [if_neg hc] at p; exact p.elim
  refine h3.okX S hlen fun cdv A outer s H vs Q E hr sp => ?_
  have Cbx : Cb g ⟨fns, gls, N⟩ (defScope st) n (fun cls d _ H => E cls d H) (cxOf (L2.CX g.P g.w) g.P g.w g.K g.mg g.base N qual (defScope st) fa cdv A outer s H E) :=
    ⟨⟨rfl, rfl, rfl, rfl, rfl, rfl, S.nd, rfl, rfl, hr, takes_of rfl rfl rfl rfl, passes_of rfl⟩, fun _ => rfl⟩
  refine ⟨tS g ex (fun cls d _ H => E cls d H) (exS P (runF P n) fn.body), (snds_all Wd fn.body).bl _ _ _ Cbx _ c4, ?_⟩
  obtain ⟨G, ds, gh, r, p⟩ := sp
  rw [runF_ok h1] at p
  by_cases hc : ds.length = fn.np ∧ fn.np ≤ fn.ns
  · rw [if_pos hc] at p
    refine ⟨_, H, G, G, start_fr (N := N) gh r (by rw [hc.1, ← c2]; exact hc.2), ?_⟩
    rw [← c2, hc.1]
    cases he : exS P (runF P n) fn.body (ds.map Slot.fro ++ List.replicate (fn.ns - fn.np) Slot.no) with
    | ok o =>
      rw [he] at p
      cases o with
      | nx e => exact fun σ H' G' F => p .non H' G' F.toExt rfl
      | ret s => exact fun v H' G' e r => p v H' G' e r
      | brk e => exact p.elim
      | cnt e => exact p.elim
    | exc c d =>
      rw [he] at p
      exact fun cls dd σ H' G' e x => p cls dd H' G' e x
    | bad => rw [he] at p; exact p.elim
  · rw [if_neg hc] at p; exact p.elim
theorem fns_ok (hf : ∀ fi x, fns[fi]? = some x → FnW g P fns gls fi x)
    (hgl : ∀ (j : Nat) x, gls[j]? = some x → ∃ v u d, g.mg x = some u ∧ RelV v u ∧ P.gls[j]? = some d ∧ ∀ G, Rep g G d v)
    (hbt : ∀ x ∈ (["len", "abs", "int", "max", "min", "all", "any", "sum", "list", "tuple", "isinstance", "bool", "range"] : List String), g.mg (Str.ofString x) = none) :
    ∀ (n fi : Nat) (x : Str), fns[fi]? = some x → FnAt g ex (runF P n) n fi x
  | 0, fi, x, hx => by
    obtain ⟨fa, fd, st, qual, ps, N, fn, h1, h2, h3, h4, h5⟩ := hf fi x hx
    refine ⟨fa, fd, ps, h2, ⟨fun vs H Q E q => ?_, fun A outer s H args us vs Q E _ _ _ _ q => ?_⟩, h3.kp, h4⟩
    · obtain ⟨G, ds, _, _, p⟩ := q
      exact False.elim p
    · obtain ⟨G, ds, _, _, p⟩ := q
      exact False.elim p
  | n + 1, fi, x, hx => by
    obtain ⟨fa, fd, st, qual, ps, N, fn, h1, h2, h3, h4, h5⟩ := hf fi x hx
    exact ⟨fa, fd, ps, h2, fn_step h1 h3 h5 (wld_of (fns_ok hf hgl hbt n) hgl hbt N), h3.kp, h4⟩
end
end Pv

/-! From the head's facts to the world of the evaluator; the end of a law. -/
namespace Pv
open PySem PySem.Spec L2
/-- a written value that is the data d -/
def WV (g : Gr) (d : D) (u : Value) : Prop := ∃ v, RelV v u ∧ ∀ G, Rep g G d v
theorem wv_int {g : Gr} {i : Int} {t : Tok} : WV g (.int i) (.int i t) := ⟨.int i, ⟨t, rfl⟩, fun _ => rfl⟩
theorem wv_str {g : Gr} {l : List Nat} {z : Str} {t : Tok} (h : z = toStr l := by rfl) (h2 : (l.all fun c => decide (c < 0x110000)) = true := by decide) : WV g (.str l) (.str z t) :=
  ⟨.str (toStr l), ⟨t, by rw [h]⟩, fun _ => ⟨rfl, fun c hc => of_decide_eq_true (List.all_eq_true.mp h2 c hc)⟩⟩
theorem wv_bl {g : Gr} {b : Bool} : WV g (.bl b) (.bool b) := ⟨.bl b, rfl, fun _ => rfl⟩
theorem wv_non {g : Gr} : WV g .non .none := ⟨.non, rfl, fun _ => rfl⟩
inductive WVs (g : Gr) : List D → List Value → Prop
  | nil : WVs g [] []
  | cons {d u ds us} : WV g d u → WVs g ds us → WVs g (d :: ds) (u :: us)
theorem WVs.vals {g : Gr} : ∀ {ds us}, WVs g ds us → ∃ vs, Vals vs us ∧ ∀ G, RepA g G ds vs
  | _, _, .nil => ⟨[], .nil, fun _ => RepA.nil⟩
  | _, _, .cons ⟨v, r, h⟩ t => by
    obtain ⟨vs, r2, h2⟩ := t.vals
    exact ⟨v :: vs, .cons r r2, fun G => RepA.cons (h G) (h2 G)⟩
theorem wv_tup {g : Gr} {a : Addr} {o : Obj} {its : Array Value} {n : Nat} {ds : List D} (h1 : g.K.lookup a = some o) (h2 : o.cls = .type "tuple") (h3 : o.data = .seq its n) (h4 : its.size ≤ sizeLine) (h5 : WVs g ds its.toList) : WV g (.tup ds) (.ref a) := by
  obtain ⟨vs, r, h⟩ := h5.vals
  refine ⟨.ref a, rfl, fun G => ?_⟩
  unfold Rep
  exact ⟨a, vs, rfl, .inr ⟨o, its, n, h1, h2, h3, h4, r⟩, h G⟩
inductive EntR (g : Gr) : List DictEntry → List (List Nat × D) → Prop
  | nil : EntR g [] []
  | cons {e : DictEntry} {k d l r t z} : e.key = .str z t → z = toStr k → WV g d e.val → EntR g l r → EntR g (e :: l) ((k, d) :: r)
theorem str_beq (k : List Nat) (z : Str) : (toStr k == z) = (k == z.cps.toList) := by
  cases h : (k == z.cps.toList) with
  | true =>
    have : k = z.cps.toList := eq_of_beq h
    subst this
    simp [toStr]
  | false =>
    cases q : (toStr k == z) with
    | false => rfl
    | true =>
      have : toStr k = z := eq_of_beq q
      subst this
      simp [toStr] at h
theorem EntR.find {g : Gr} : ∀ {l : List DictEntry} {kvs : List (List Nat × D)}, EntR g l kvs → ∃ vs : List V, vs.length = kvs.length ∧ (∀ G, RepK g G (kvs.map fun p => (.str p.1, p.2)) (kvs.map fun p => .str p.1) vs) ∧ l.any (·.refKey) = false ∧
    ∀ z : Str, match ((kvs.map fun p => (.str p.1 : D)).zip vs).find? (fun p => p.1.eqv (.str z.cps.toList)) with
      | none => l.find? (·.key.isStr z) = none
      | some p => ∃ e, l.find? (·.key.isStr z) = some e ∧ RelV p.2 e.val
  | _, _, .nil => ⟨[], rfl, fun _ => by unfold RepK; exact ⟨rfl, rfl⟩, rfl, fun z => rfl⟩
  | e :: l, (k, d) :: r, .cons (z := z0) hk hz ⟨v, rv, hv⟩ t => by
    obtain ⟨vs, h1, h2, h3, h4⟩ := t.find
    subst hz
    refine ⟨v :: vs, by simp [h1], fun G => ?_, ?_, fun z => ?_⟩
    · simp only [List.map_cons]
      unfold RepK
      exact ⟨_, v, vs, rfl, rfl, hv G, h2 G⟩
    · simp only [List.any_cons, h3, Bool.or_false]
      unfold DictEntry.refKey
      rw [hk]
    · simp only [List.map_cons, List.zip_cons_cons, List.find?_cons, D.eqv]
      have he : e.key.isStr z = (k == z.cps.toList) := by rw [hk]; exact str_beq k z
      rw [he]
      cases (k == z.cps.toList) with
      | true => exact ⟨e, rfl, rv⟩
      | false => exact h4 z
theorem wv_dict {g : Gr} {a : Addr} {es : Array DictEntry} {n : Nat} {kvs : List (List Nat × D)} (h1 : g.K.lookup a = some ⟨.type "dict", none, .dict es n, #[]⟩) (h2 : PySem.W.KeysLit g.w.params es.toList) (h3 : (a == sysModules) = false) (h4 : EntR g es.toList kvs) :
    WV g (.dic 0 (kvs.map fun p => (.str p.1, p.2))) (.ref a) := by
  obtain ⟨vs, e1, e2, e3, e4⟩ := h4.find
  refine ⟨.ref a, rfl, fun G => ?_⟩
  unfold Rep
  refine ⟨a, _, vs, rfl, .inr (.inr ⟨rfl, es, n, ⟨h1, h2, h3⟩, by simp [e1], fun z => ?_⟩), e2 G⟩
  have hn : PySem.W.nsIn g.K a z = match es.toList.find? (·.key.isStr z) with | some e => some (some e.val) | none => some none := by
    unfold PySem.W.nsIn
    rw [h1]
    show (match es.toList.find? (·.key.isStr z) with | some e => some (some e.val) | none => if es.toList.any (·.refKey) then none else some none) = _
    rw [e3]
    rfl
  have q := e4 z
  cases hf : ((kvs.map fun p => (.str p.1 : D)).zip vs).find? (fun p => p.1.eqv (.str z.cps.toList)) with
  | none =>
    rw [hf] at q
    exact ⟨none, by rw [hn, q], rfl⟩
  | some p =>
    rw [hf] at q
    obtain ⟨e, he, r⟩ := q
    exact ⟨some e.val, by rw [hn, he], e.val, rfl, r⟩
theorem wv_dictK {P : Program} {w : World} {K : PySem.W.Frag} {mg : Str → Option Value} {base : Heap} {a : Addr} {es : Array DictEntry} {n : Nat} {kvs : List (List Nat × D)} (h1 : K.lookup a = some ⟨.type "dict", none, .dict es n, #[]⟩) (h2 : PySem.W.KeysLit w.params es.toList) (h3 : (a == sysModules) = false) (h4 : EntR ⟨P, w, K, mg, base⟩ es.toList kvs) :
    WV ⟨P, w, K, mg, base⟩ (.dic 0 (kvs.map fun p => (.str p.1, p.2))) (.ref a) := wv_dict h1 h2 h3 h4
theorem wv_tupK {P : Program} {w : World} {K : PySem.W.Frag} {mg : Str → Option Value} {base : Heap} {a : Addr} {o : Obj} {its : Array Value} {n : Nat} {ds : List D} (h1 : K.lookup a = some o) (h2 : o.cls = .type "tuple") (h3 : o.data = .seq its n) (h4 : its.size ≤ sizeLine) (h5 : WVs ⟨P, w, K, mg, base⟩ ds its.toList) :
    WV ⟨P, w, K, mg, base⟩ (.tup ds) (.ref a) := wv_tup h1 h2 h3 h4 h5
/-- a constant of the top -/
def GlW (g : Gr) (P : Prog) (j : Nat) (x : Str) : Prop := ∃ u d, g.mg x = some u ∧ WV g d u ∧ P.gls[j]? = some d
theorem gl_of {g : Gr} {P : Prog} {j : Nat} {x : Str} (h : GlW g P j x) : ∃ v u d, g.mg x = some u ∧ RelV v u ∧ P.gls[j]? = some d ∧ ∀ G, Rep g G d v := by
  obtain ⟨u, d, h1, ⟨v, r, h2⟩, h3⟩ := h
  exact ⟨v, u, d, h1, r, h3, h2⟩
/-- what a law's own def promises -/
def spL (K : PySem.W.Frag) : Sp := fun vs H Q _ => ∃ (a : Addr) (ns : List Int), vs = [.ref a] ∧ SqL K H a (ns.map V.int) ∧ ns.length ≤ 63 ∧ ∀ H', Q (.bl true) H'
theorem rep_ints {g : Gr} {G : Hp} : ∀ ns : List Int, RepA g G (ns.map D.int) (ns.map V.int)
  | [] => RepA.nil
  | _ :: ns => RepA.cons rfl (rep_ints ns)
theorem law_of {g : Gr} {ex : Nat → Option (Addr × Option Str)} {P : Prog} {fns gls : List Str} {fi n : Nat} {x : Str} {fa : Addr} {fd : FuncData} {st : Stmt} {qual : Str} {N : List Str} {fn : Fn}
    (hf : ∀ fi x, fns[fi]? = some x → FnW g P fns gls fi x) (hgl : ∀ (j : Nat) x, gls[j]? = some x → GlW g P j x)
    (hbt : ∀ x ∈ (["len", "abs", "int", "max", "min", "all", "any", "sum", "list", "tuple", "isinstance", "bool", "range"] : List String), g.mg (Str.ofString x) = none)
    (h1 : P.fns[fi]? = some fn) (h3 : Fun g.K x qual st fa fd) (h5 : chkF fns gls fn N ["_law_script"] st = true)
    (h : ∀ ns : List Int, ns.length ≤ 63 → runF P (n + 1) fi [.lst (ns.map .int)] = .ok (.fro (.bl true))) : FnOk g.P g.w g.K g.mg g.base (L2.CX g.P g.w) (n + 1) fa fd ["_law_script"] (spL g.K) := by
  have gl : ∀ (j : Nat) x, gls[j]? = some x → ∃ v u d, g.mg x = some u ∧ RelV v u ∧ P.gls[j]? = some d ∧ ∀ G, Rep g G d v := fun j x hx => gl_of (hgl j x hx)
  have F := fn_step (ex := ex) h1 h3 h5 (wld_of (fns_ok hf gl hbt n) gl hbt N)
  refine F.imp fun vs H Q E ⟨a, ns, e, hs, hn, q⟩ => ?_
  refine ⟨H, [.lst (ns.map .int)], Same.refl _, ?_, ?_⟩
  · subst e
    refine RepA.cons ?_ RepA.nil
    unfold Rep
    exact ⟨a, _, rfl, hs, rep_ints ns⟩
  · rw [h ns hn]
    intro v H' G' _ r
    cases (show v = .bl true from r)
    exact q H'
theorem no_out {P : Program} {w : World} {H : Hp} {s : Shared} {e : Value} {s' : Shared} (h : L2.CX P w [] H s (fun _ _ _ => False) e s') : False := by
  obtain ⟨_, _, _, _, _, _, _, _, _, _, _, _, z⟩ := h
  exact z.elim
theorem walkL {l : PySem.W.OpenLaw} {n : Nat} {q : Program} {loose : List Str} {XP : (Str → Option Value) → Heap → Prop} {YP : World → Heap → Prop} {d : DefRec} {K : Params → PySem.W.Frag} (hn : l.most = some 63) (hdf : d.params.defaults = []) (hk : n ≤ 60)
    (hY : ∀ (w : World) (h : Heap), YP w h → (K w.params).In h)
    (F : ∀ (w : World) (mg : Str → Option Value) (fa : Addr) (h : Heap), (K w.params).In h → h.Ns mainGlobals mg → mg d.name = some (.ref fa) →
      ∃ fd : FuncData, (∀ (s : Shared) (u : Value), BindsTo s fd ⟨[u], []⟩ [("_law_script", u)]) ∧ ∀ base : Heap, (K w.params).In base → base.Ns mainGlobals mg → FnOk l.prog w (K w.params) mg base (L2.CX l.prog w) n fa fd ["_law_script"] (spL (K w.params))) :
    PySem.W.WalkO q loose XP YP l.row.toRowW d [] (fun f vs => PySem.call f vs) := by
  have h1 : callerA.depth + 3 * 60 + 5 < recursionLimit := by decide
  have h2 : callerA.units + 16 * 60 + 200 < cLine := by decide
  refine L2.walk_of (n := 63) (k := n) (x := "_law_script") (CX := fun w => L2.CX l.prog w) (sp := fun w => spL (K w.params)) hn (by decide) hdf ⟨rfl, by omega, by omega⟩ hY F (fun _ _ a ns hl _ hS => ⟨a, ns, rfl, hS, hl, fun _ => rfl⟩) fun w H s e s' z => no_out z
end Pv

/-! Plain laws: how the evaluator's terms are read. -/
namespace Pv
open PySem
@[simp] theorem rb_ok {α β : Type} (a : α) (f : α → Res β) : (Res.ok a).bind f = f a := rfl
@[simp] theorem rb_bad {α β : Type} (f : α → Res β) : (Res.bad : Res α).bind f = .bad := rfl
@[simp] theorem rb_exc {α β : Type} (c : Nat) (p : D) (f : α → Res β) : (Res.exc c p : Res α).bind f = .exc c p := rfl
@[simp] theorem rn_ok {α : Type} (a : α) : (Res.ok a).nox = .ok a := rfl
@[simp] theorem rl_ok (l : List D) : (Res.ok (D.lst l)).lst = .ok l := rfl
@[simp] theorem rs_fro (d : D) : Slot.toD (.fro d) = .ok d := rfl
@[simp] theorem rs_own (l : List D) : Slot.toD (.own l) = .ok (.lst l) := rfl
@[simp] theorem th_nx (f : Env → Res Out) (e : Env) : thenS f (.nx e) = f e := rfl
@[simp] theorem th_ret (f : Env → Res Out) (s : Slot) : thenS f (.ret s) = .ok (.ret s) := rfl
@[simp] theorem th_brk (f : Env → Res Out) (s : Env) : thenS f (.brk s) = .ok (.brk s) := rfl
@[simp] theorem th_cnt (f : Env → Res Out) (s : Env) : thenS f (.cnt s) = .ok (.cnt s) := rfl
@[simp] theorem en_ret (s : Slot) : endS (.ret s) = .ok s := rfl
@[simp] theorem en_nx (e : Env) : endS (.nx e) = .ok (.fro .non) := rfl
@[simp] theorem cv_lst (l : List D) : conv true (.lst l) = .ok (.own l) := rfl
@[simp] theorem cv_int (i : Int) (b : Bool) : conv b (.int i) = .ok (.fro (.int i)) := rfl
@[simp] theorem cv_str (i : List Nat) (b : Bool) : conv b (.str i) = .ok (.fro (.str i)) := rfl
@[simp] theorem cv_bl (i : Bool) (b : Bool) : conv b (.bl i) = .ok (.fro (.bl i)) := rfl
@[simp] theorem cv_tup (i : List D) (b : Bool) : conv b (.tup i) = .ok (.fro (.tup i)) := rfl
@[simp] theorem io_lst (l : List D) : itemsOf (.lst l) = .ok l := rfl
@[simp] theorem io_tup (l : List D) : itemsOf (.tup l) = .ok l := rfl
@[simp] theorem io_str (l : List Nat) : itemsOf (.str l) = .ok (l.map fun c => .str [c]) := rfl
@[simp] theorem tr_bl (b : Bool) : D.truth (.bl b) = .ok b := rfl
@[simp] theorem bt_one (i : Nat) (d : D) (e : Env) : bindT (.one i) d e = .ok (e.set i (.fro d)) := rfl
@[simp] theorem fs_ok (d : D) : froS d = .ok (.fro d) := rfl
@[simp] theorem oi_ok (i : Int) : optI (.int i) = .ok (some i) := rfl
@[simp] theorem isNil_nil : Pv.X.isNil .nil = true := rfl
/-- a loop by its invariant -/
theorem forL_inv {f : D → Env → Res Out} (I : Nat → Env → Prop) {items : List D} {e : Env} (h0 : I 0 e)
    (step : ∀ i d e, items[i]? = some d → I i e → ∃ e', (f d e = .ok (.nx e') ∨ f d e = .ok (.cnt e')) ∧ I (i + 1) e') : ∃ e', forL f items e = .ok (.nx e') ∧ I items.length e' := by
  suffices h : ∀ (l : List D) (i : Nat) (e : Env), (∀ j, l[j]? = items[i + j]?) → i + l.length = items.length → I i e → ∃ e', forL f l e = .ok (.nx e') ∧ I items.length e' from
    h items 0 e (fun j => by rw [Nat.zero_add]) (by rw [Nat.zero_add]) h0
  intro l
  induction l with
  | nil => intro i e _ hl hI; exact ⟨e, rfl, by rw [← hl]; exact hI⟩
  | cons d ds ih =>
    intro i e hj hl hI
    have hd : items[i]? = some d := by have := hj 0; rw [Nat.add_zero] at this; exact this.symm
    obtain ⟨e', q, hI'⟩ := step i d e hd hI
    obtain ⟨e2, q2, hI2⟩ := ih (i + 1) e' (fun j => by have := hj (j + 1); rw [List.getElem?_cons_succ] at this; rw [this]; congr 1; omega) (by simp only [List.length_cons] at hl; omega) hI'
    refine ⟨e2, ?_, hI2⟩
    unfold forL
    rcases q with q | q <;> rw [q] <;> exact q2
/-- a while loop by its invariant and a measure -/
theorem whL_inv {t : Env → Res Bool} {f : Env → Res Out} (I : Nat → Env → Prop) {e : Env} {m : Nat} (h0 : I m e)
    (step : ∀ m e, I m e → t e = .ok false ∨ (t e = .ok true ∧ ∃ m' e', m' < m ∧ (f e = .ok (.nx e') ∨ f e = .ok (.cnt e')) ∧ I m' e')) :
    ∀ (n : Nat), m < n → ∃ m' e', whL t f n e = .ok (.nx e') ∧ I m' e' ∧ t e' = .ok false := by
  intro n
  induction n generalizing m e with
  | zero => intro h; omega
  | succ n ih =>
    intro hn
    rcases step m e h0 with q | ⟨q, m', e', hm, q2, hI⟩
    · exact ⟨m, e, by unfold whL; rw [q]; rfl, h0, q⟩
    · obtain ⟨m2, e2, q3, q4⟩ := ih hI (by omega)
      refine ⟨m2, e2, ?_, q4⟩
      unfold whL
      rw [q]
      rcases q2 with q2 | q2 <;> simp [q2, turnS] <;> exact q3
theorem compL_map {f : D → Res (Option D)} {α : Type} (mk : α → D) (g : α → D) : ∀ {items : List α}, (∀ a ∈ items, f (mk a) = .ok (some (g a))) → compL f (items.map mk) = .ok (items.map g)
  | [], _ => rfl
  | a :: as, h => by
    simp only [List.map_cons, compL, h a List.mem_cons_self, rb_ok, compL_map mk g (items := as) fun b hb => h b (List.mem_cons_of_mem _ hb), consO]
theorem compL_filter {f : D → Res (Option D)} {α : Type} (mk : α → D) (p : α → Bool) (g : α → D) : ∀ {items : List α}, (∀ a ∈ items, f (mk a) = .ok (if p a then some (g a) else none)) → compL f (items.map mk) = .ok ((items.filter p).map g)
  | [], _ => rfl
  | a :: as, h => by
    simp only [List.map_cons, compL, h a List.mem_cons_self, rb_ok, compL_filter mk p g (items := as) fun b hb => h b (List.mem_cons_of_mem _ hb)]
    cases hp : p a <;> simp [consO, hp]
theorem runF_def {P : Prog} {n f : Nat} {fn : Fn} (h : P.fns[f]? = some fn) {args : List D} (ha : args.length = fn.np) (hs : fn.np ≤ fn.ns) :
    runF P (n + 1) f args = (exS P (runF P n) fn.body (args.map Slot.fro ++ List.replicate (fn.ns - fn.np) Slot.no)).bind endS := by
  simp only [runF, h]
  rw [if_pos ⟨ha, hs⟩]
@[simp] theorem biI_range (l : List D) : biI .range l = (itD .range l).bind lstOk := by unfold biI; rw [if_pos rfl]
@[simp] theorem biI_other {b : BI} (h : b ≠ .range) (l : List D) : biI b l = biD b l := by unfold biI; rw [if_neg h]
theorem map_range_int (i n : Int) : rangeL i n = ((List.range (n - i).toNat).map fun k : Nat => i + (k : Int)).map .int := by
  unfold rangeL
  rw [List.map_map]
  rfl
theorem range_get {n : Int} {i : Nat} {d : D} (h : (rangeL 0 n)[i]? = some d) : d = .int i ∧ (i : Int) < n := by
  unfold rangeL at h
  rw [List.getElem?_map] at h
  obtain ⟨k, hk, rfl⟩ := Option.map_eq_some_iff.mp h
  obtain ⟨h1, h2⟩ := List.getElem?_eq_some_iff.mp hk
  simp at h2 h1
  subst h2
  exact ⟨by simp, by omega⟩
theorem rangeL_len (i n : Int) : (rangeL i n).length = (n - i).toNat := by simp [rangeL]
theorem log2_small {j : Nat} (h : j < 2 ^ 63) : j.log2 + 1 ≤ 9000 := by
  by_cases h0 : j = 0
  · subst h0; decide
  · have := (Nat.log2_lt h0).mpr h
    omega
@[simp] theorem bD_add (i j : Int) : binD .Add (.int i) (.int j) = .ok (.int (i + j)) := rfl
@[simp] theorem bD_sub (i j : Int) : binD .Sub (.int i) (.int j) = .ok (.int (i - j)) := rfl
@[simp] theorem bD_mulr {i j : Int} (h : j.natAbs < 2 ^ 63) : binD .Mult (.int i) (.int j) = .ok (.int (i * j)) := by
  show (if mulOk i j then Res.ok (D.int (i * j)) else .bad) = _
  rw [if_pos (by unfold mulOk; simp [h])]
@[simp] theorem bD_mull {i j : Int} (h : i.natAbs < 2 ^ 63) : binD .Mult (.int i) (.int j) = .ok (.int (i * j)) := by
  show (if mulOk i j then Res.ok (D.int (i * j)) else .bad) = _
  rw [if_pos (by unfold mulOk; simp [h])]
@[simp] theorem bD_div {i j : Int} (h : 0 < j ∧ j < 2 ^ 63) : binD .FloorDiv (.int i) (.int j) = .ok (.int (i / j)) := by
  show (if divOk j then Res.ok (D.int (i / j)) else .bad) = _
  rw [if_pos]
  unfold divOk
  simp only [Bool.and_eq_true, decide_eq_true_eq]
  exact ⟨h.1, Nat.ble_eq.mpr (log2_small (by omega))⟩
@[simp] theorem bD_mod {i j : Int} (h : 0 < j) : binD .Mod (.int i) (.int j) = .ok (.int (i % j)) := by
  show (if decide (0 < j) then Res.ok (D.int (i % j)) else .bad) = _
  rw [if_pos (by simpa using h)]
@[simp] theorem bD_pow {i j : Int} (h : 0 ≤ j ∧ j ≤ 1000 ∧ i.natAbs < 2 ^ 64) : binD .Pow (.int i) (.int j) = .ok (.int (i ^ j.toNat)) := by
  show (if 0 ≤ j ∧ j ≤ 1000 ∧ i.natAbs < 2 ^ 64 then Res.ok (D.int (i ^ j.toNat)) else .bad) = _
  rw [if_pos h]
@[simp] theorem bD_adds {x y : List Nat} (h : x.length + y.length ≤ 16777216) : binD .Add (.str x) (.str y) = .ok (.str (x ++ y)) := if_pos h
@[simp] theorem bD_addl {x y : List D} (h : x.length + y.length ≤ 16777216) : binD .Add (.lst x) (.lst y) = .ok (.lst (x ++ y)) := if_pos h
@[simp] theorem bD_addt {x y : List D} (h : x.length + y.length ≤ 16777216) : binD .Add (.tup x) (.tup y) = .ok (.tup (x ++ y)) := if_pos h
@[simp] theorem bD_reps {x : List Nat} {k : Int} (h : 0 ≤ k ∧ k ≤ 16777216 ∧ x.length * k.toNat ≤ 16777216) : binD .Mult (.str x) (.int k) = .ok (.str (List.replicate k.toNat x).flatten) := if_pos h
@[simp] theorem cD_eqi (i j : Int) : cmpD .Eq (.int i) (.int j) = .ok (.bl (i == j)) := rfl
@[simp] theorem cD_nei (i j : Int) : cmpD .NotEq (.int i) (.int j) = .ok (.bl (!(i == j))) := rfl
@[simp] theorem cD_eqs (i j : List Nat) : cmpD .Eq (.str i) (.str j) = .ok (.bl (i == j)) := rfl
@[simp] theorem cD_nes (i j : List Nat) : cmpD .NotEq (.str i) (.str j) = .ok (.bl (!(i == j))) := rfl
@[simp] theorem cD_eqb (i j : Bool) : cmpD .Eq (.bl i) (.bl j) = .ok (.bl (i == j)) := rfl
@[simp] theorem cD_neb (i j : Bool) : cmpD .NotEq (.bl i) (.bl j) = .ok (.bl (!(i == j))) := rfl
@[simp] theorem cD_lt (i j : Int) : cmpD .Lt (.int i) (.int j) = .ok (.bl (decide (i < j))) := rfl
@[simp] theorem cD_le (i j : Int) : cmpD .LtE (.int i) (.int j) = .ok (.bl (decide (i ≤ j))) := rfl
@[simp] theorem cD_gt (i j : Int) : cmpD .Gt (.int i) (.int j) = .ok (.bl (decide (j < i))) := rfl
@[simp] theorem cD_ge (i j : Int) : cmpD .GtE (.int i) (.int j) = .ok (.bl (decide (j ≤ i))) := rfl
@[simp] theorem cD_inc (c : Nat) (y : List Nat) : cmpD .In (.str [c]) (.str y) = .ok (.bl (y.contains c)) := rfl
@[simp] theorem cD_ninc (c : Nat) (y : List Nat) : cmpD .NotIn (.str [c]) (.str y) = .ok (.bl (!y.contains c)) := rfl
@[simp] theorem iD_int (i : Int) : biD .int1 [.int i] = .ok (.int i) := rfl
@[simp] theorem iD_intb (i : Bool) : biD .int1 [.bl i] = .ok (.int (if i then 1 else 0)) := rfl
@[simp] theorem iD_abs (i : Int) : biD .abs [.int i] = .ok (.int (if i < 0 then -i else i)) := rfl
@[simp] theorem iD_max (i j : Int) : biD .max2 [.int i, .int j] = .ok (.int (if j > i then j else i)) := rfl
@[simp] theorem iD_min (i j : Int) : biD .min2 [.int i, .int j] = .ok (.int (if j < i then j else i)) := rfl
@[simp] theorem iD_lenl (l : List D) : biD .len [.lst l] = .ok (.int l.length) := rfl
@[simp] theorem iD_lent (l : List D) : biD .len [.tup l] = .ok (.int l.length) := rfl
@[simp] theorem iD_lens {l : List Nat} (h : l.length ≤ 16777216) : biD .len [.str l] = .ok (.int l.length) := if_pos h
@[simp] theorem iD_listl (l : List D) : biD .list [.lst l] = .ok (.lst l) := rfl
@[simp] theorem iD_listt (l : List D) : biD .list [.tup l] = .ok (.lst l) := rfl
@[simp] theorem iD_tupl (l : List D) : biD .tuple [.lst l] = .ok (.tup l) := rfl
@[simp] theorem iD_tupt (l : List D) : biD .tuple [.tup l] = .ok (.tup l) := rfl
@[simp] theorem iD_isl (l : List D) : biD .isList [.lst l] = .ok (.bl true) := rfl
@[simp] theorem iD_isb (l : Bool) : biD .isBool [.bl l] = .ok (.bl true) := rfl
theorem blsOf_map {α : Type} (f : α → Bool) : ∀ l : List α, blsOf (l.map fun a => D.bl (f a)) = some (l.map f)
  | [] => rfl
  | a :: l => by simp [blsOf, blsOf_map f l]
theorem intsOf_map {α : Type} (f : α → Int) : ∀ l : List α, intsOf (l.map fun a => D.int (f a)) = some (l.map f)
  | [] => rfl
  | a :: l => by simp [intsOf, intsOf_map f l]
theorem strsOf_map {α : Type} (f : α → List Nat) : ∀ l : List α, strsOf (l.map fun a => D.str (f a)) = some (l.map f)
  | [] => rfl
  | a :: l => by simp [strsOf, strsOf_map f l]
@[simp] theorem iD_all {α : Type} (f : α → Bool) (l : List α) : biD .all [.lst (l.map fun a => D.bl (f a))] = .ok (.bl (l.all f)) := by
  show (match blsOf (l.map fun a => D.bl (f a)) with | some bs => Res.ok (D.bl (bs.all id)) | none => .bad) = _
  rw [blsOf_map]
  simp
@[simp] theorem iD_any {α : Type} (f : α → Bool) (l : List α) : biD .any [.lst (l.map fun a => D.bl (f a))] = .ok (.bl (l.any f)) := by
  show (match blsOf (l.map fun a => D.bl (f a)) with | some bs => Res.ok (D.bl (bs.any id)) | none => .bad) = _
  rw [blsOf_map]
  simp
@[simp] theorem iD_sum {α : Type} (f : α → Int) (l : List α) : biD .sum [.lst (l.map fun a => D.int (f a))] = .ok (.int (l.map f).sum) := by
  show (match intsOf (l.map fun a => D.int (f a)) with | some bs => Res.ok (D.int bs.sum) | none => .bad) = _
  rw [intsOf_map]
theorem atL_nat {α : Type} {xs : List α} {i : Int} {a : α} (h : 0 ≤ i) (h1 : xs[i.toNat]? = some a) : atL xs i = some a := by
  have hl := (List.getElem?_eq_some_iff.mp h1).1
  unfold atL ixNat
  rw [if_pos h, if_pos (by omega)]
  exact h1
@[simp] theorem sD_lst {l : List D} {i : Int} {d : D} (h : atL l i = some d) : subD (.lst l) (.int i) = .ok d := by
  show (match atL l i with | some d => Res.ok d | none => .bad) = _
  rw [h]
@[simp] theorem sD_tup {l : List D} {i : Int} {d : D} (h : atL l i = some d) : subD (.tup l) (.int i) = .ok d := by
  show (match atL l i with | some d => Res.ok d | none => .bad) = _
  rw [h]
theorem sD_str {l : List Nat} {i : Int} {c : Nat} (hl : l.length ≤ 16777216) (h : atL l i = some c) : subD (.str l) (.int i) = .ok (.str [c]) := by
  show (if l.length ≤ line then (match atL l i with | some c => Res.ok (D.str [c]) | none => .bad) else .bad) = _
  rw [if_pos (show l.length ≤ line from hl), h]
@[simp] theorem zD_lst (l : List D) (a b : Option Int) : slcD (.lst l) a b = .ok (.lst (cutL l a b)) := rfl
@[simp] theorem zD_tup (l : List D) (a b : Option Int) : slcD (.tup l) a b = .ok (.tup (cutL l a b)) := rfl
@[simp] theorem zD_str {l : List Nat} (h : l.length ≤ 16777216) (a b : Option Int) : slcD (.str l) a b = .ok (.str (cutL l a b)) := if_pos h
theorem cutL_to {α : Type} (l : List α) {n : Int} (h : 0 ≤ n) : cutL l none (some n) = l.take n.toNat := by
  unfold cutL cutIx
  simp only
  rw [if_neg (by omega)]
  simp [List.take_eq_take_min]
theorem cutL_from {α : Type} (l : List α) {n : Int} (h : 0 ≤ n) : cutL l (some n) none = l.drop n.toNat := by
  unfold cutL cutIx
  simp only
  rw [if_neg (by omega)]
  by_cases hn : n.toNat ≤ l.length
  · have : Nat.min n.toNat l.length = n.toNat := Nat.min_eq_left hn
    rw [this, List.take_of_length_le (by simp)]
  · have : Nat.min n.toNat l.length = l.length := Nat.min_eq_right (by omega)
    rw [this, List.drop_of_length_le (Nat.le_refl _), List.drop_of_length_le (by omega)]
    simp
@[simp] theorem rd_some {e : Env} {i : Nat} {d : D} (h : e[i]? = some (.fro d)) : rdF e i = .ok d := by unfold rdF; rw [h]
@[simp] theorem tD_range1 {j : Int} (h : -4611686018427387904 ≤ j ∧ j < 4611686018427387904) : itD .range [.int j] = .ok (rangeL 0 j) := if_pos h
@[simp] theorem tD_range2 {i j : Int} (h : (-4611686018427387904 ≤ i ∧ i < 4611686018427387904) ∧ -4611686018427387904 ≤ j ∧ j < 4611686018427387904) : itD .range [.int i, .int j] = .ok (rangeL i j) := if_pos h
@[simp] theorem lk_ok (l : List D) : lstOk l = .ok (.lst l) := rfl
theorem app_ok {e : Env} {i : Nat} {l : List D} (h : e[i]? = some (.own l)) (hl : l.length + 1 ≤ 16777216) (d : D) : appS e i d = .ok (.nx (e.set i (.own (l ++ [d])))) := by
  unfold appS
  rw [h]
  exact if_pos hl
theorem own_ok {e : Env} {i : Nat} {l : List D} (h : e[i]? = some (.own l)) : isOwnL e i = true := by unfold isOwnL; rw [h]
theorem own_no {e : Env} {i : Nat} {s : Slot} (h : e[i]? = some s) (hs : ∀ l, s ≠ .own l) : isOwnL e i = false := by
  unfold isOwnL
  rw [h]
  cases s <;> first | rfl | exact absurd rfl (hs _)
@[simp] theorem inl_0 (i : Nat) : Pv.X.isNil (.v i) = false := rfl
@[simp] theorem inl_1 (i : Nat) : Pv.X.isNil (.o i) = false := rfl
@[simp] theorem inl_2 (d : D) : Pv.X.isNil (.c d) = false := rfl
@[simp] theorem inl_3 (i : Nat) : Pv.X.isNil (.gl i) = false := rfl
@[simp] theorem inl_4 (op : Operator) (a b : Pv.X) : Pv.X.isNil (.bin op a b) = false := rfl
@[simp] theorem inl_5 (a : Pv.X) : Pv.X.isNil (.neg a) = false := rfl
@[simp] theorem inl_6 (q : BI) (a : Pv.X) : Pv.X.isNil (.bi q a) = false := rfl
@[simp] theorem inl_7 (i : Nat) (a : Pv.X) : Pv.X.isNil (.call i a) = false := rfl
@[simp] theorem inl_8 (a b : Pv.X) : Pv.X.isNil (.sub a b) = false := rfl
section
variable {P : Prog} {cF : Nat → List D → Res Slot}
theorem seq_nx {a b : S} {e e' : Env} (h : exS P cF a e = .ok (.nx e')) : exS P cF (.seq a b) e = exS P cF b e' := by simp [exS, h]
theorem seq_ret {a b : S} {e : Env} {s : Slot} (h : exS P cF a e = .ok (.ret s)) : exS P cF (.seq a b) e = .ok (.ret s) := by simp [exS, h]
theorem for_nx {t : Tg} {it : Pv.X} {b : S} {e e' : Env} {d : D} {l : List D} (h : ev P cF it e = .ok d) (hl : itemsOf d = .ok l) (hf : forL (fun d e => (bindT t d e).bind fun e1 => exS P cF b e1) l e = .ok (.nx e')) : exS P cF (.for_ t it b) e = .ok (.nx e') := by
  simp only [exS, h, rb_ok, hl]
  exact hf
end
@[simp] theorem fl_str (l : List Nat) : D.flat (.str l) = true := rfl
@[simp] theorem fl_int (l : Int) : D.flat (.int l) = true := rfl
@[simp] theorem fl_bl (l : Bool) : D.flat (.bl l) = true := rfl
@[simp] theorem fl_non : D.flat .non = true := rfl
theorem depA_strs : ∀ l : List (List Nat), depA (l.map .str) = some 1
  | [] => rfl
  | a :: l => by
    simp only [List.map_cons, depA, depA_strs l, D.dep]
    rfl
theorem depA_ints : ∀ l : List Int, depA (l.map .int) = some 1
  | [] => rfl
  | a :: l => by
    simp only [List.map_cons, depA, depA_ints l, D.dep]
    rfl
@[simp] theorem fl_strs (l : List (List Nat)) : D.flat (.lst (l.map .str)) = true := by
  show (match depA (l.map .str) with | some n => Nat.ble n 60 | none => false) = true
  rw [depA_strs]
  rfl
@[simp] theorem fl_ints (l : List Int) : D.flat (.lst (l.map .int)) = true := by
  show (match depA (l.map .int) with | some n => Nat.ble n 60 | none => false) = true
  rw [depA_ints]
  rfl
@[simp] theorem eq_strs : ∀ a b : List (List Nat), eqvA (a.map .str) (b.map .str) = (a == b)
  | [], [] => rfl
  | [], _ :: _ => rfl
  | _ :: _, [] => rfl
  | x :: a, y :: b => by
    simp only [List.map_cons, eqvA, D.eqv, eq_strs a b]
    rfl
theorem cD_inT {a : D} {l : List D} (h : a.flat = true) (h2 : l.all D.flat = true) : cmpD .In a (.tup l) = .ok (.bl (l.any fun y => y.eqv a)) := by
  simp only [cmpD]
  rw [h, h2]
  rfl
theorem cD_ninT {a : D} {l : List D} (h : a.flat = true) (h2 : l.all D.flat = true) : cmpD .NotIn a (.tup l) = .ok (.bl (!l.any fun y => y.eqv a)) := by
  simp only [cmpD]
  rw [h, h2]
  rfl
theorem cD_inD (a : List Nat) (l : List (D × D)) : cmpD .In (.str a) (.dic 0 l) = .ok (.bl (l.any fun p => p.1.eqv (.str a))) := by
  cases a with
  | nil => rfl
  | cons c r => cases r <;> rfl
theorem cD_ninD (a : List Nat) (l : List (D × D)) : cmpD .NotIn (.str a) (.dic 0 l) = .ok (.bl (!l.any fun p => p.1.eqv (.str a))) := by
  cases a with
  | nil => rfl
  | cons c r => cases r <;> rfl
theorem cD_eqF {a b : D} (h : a.flat = true) (h2 : b.flat = true) : cmpD .Eq a b = .ok (.bl (a.eqv b)) := by
  simp only [cmpD]
  rw [h, h2]
  rfl
theorem cD_neF {a b : D} (h : a.flat = true) (h2 : b.flat = true) : cmpD .NotEq a b = .ok (.bl (!a.eqv b)) := by
  simp only [cmpD]
  rw [h, h2]
  rfl
section
variable {P : Prog} {cF : Nat → List D → Res Slot}
theorem lc_ok {elt it : Pv.X} {t : Tg} {own : List Nat} {e : Env} {d : D} {α : Type} {as : List α} {mk g : α → D} {b : α → Env} (hi : ev P cF it e = .ok d) (hd : itemsOf d = .ok (as.map mk)) (hb : ∀ a ∈ as, bindT t (mk a) (wipeE e own) = .ok (b a))
    (he : ∀ a ∈ as, ev P cF elt (b a) = .ok (g a)) (hl : as.length ≤ 16777216) : ev P cF (.lc elt t it (.c (.bl true)) own) e = .ok (.lst (as.map g)) := by
  simp only [ev, hi, rb_ok, hd]
  rw [compL_map mk g]
  · simp only [rn_ok, rb_ok, List.length_map]
    exact if_pos hl
  · intro a ha
    rw [hb a ha]
    simp [he a ha]
theorem lc_okc {elt it cond : Pv.X} {t : Tg} {own : List Nat} {e : Env} {d : D} {α : Type} {as : List α} {mk g : α → D} {p : α → Bool} {b : α → Env} (hi : ev P cF it e = .ok d) (hd : itemsOf d = .ok (as.map mk)) (hb : ∀ a ∈ as, bindT t (mk a) (wipeE e own) = .ok (b a))
    (hc : ∀ a ∈ as, ev P cF cond (b a) = .ok (.bl (p a))) (he : ∀ a ∈ as, p a = true → ev P cF elt (b a) = .ok (g a)) (hl : as.length ≤ 16777216) : ev P cF (.lc elt t it cond own) e = .ok (.lst ((as.filter p).map g)) := by
  simp only [ev, hi, rb_ok, hd]
  rw [compL_filter mk p g]
  · simp only [rn_ok, rb_ok, List.length_map]
    exact if_pos (Nat.le_trans (List.length_filter_le _ _) hl)
  · intro a ha
    rw [hb a ha]
    simp only [rb_ok, hc a ha, tr_bl]
    cases hp : p a with
    | true => simp [he a ha hp]
    | false => simp
theorem ev_or {a b : Pv.X} {e : Env} {x y : Bool} (h : ev P cF a e = .ok (.bl x)) (h2 : x = false → ev P cF b e = .ok (.bl y)) : ev P cF (.or a b) e = .ok (.bl (x || y)) := by
  simp only [ev, h, rb_ok, tr_bl]
  cases x with
  | true => rfl
  | false => simp [h2 rfl]
theorem ev_and {a b : Pv.X} {e : Env} {x y : Bool} (h : ev P cF a e = .ok (.bl x)) (h2 : x = true → ev P cF b e = .ok (.bl y)) : ev P cF (.and a b) e = .ok (.bl (x && y)) := by
  simp only [ev, h, rb_ok, tr_bl]
  cases x with
  | true => simp [h2 rfl]
  | false => rfl
theorem ev_not {a : Pv.X} {e : Env} {x : Bool} (h : ev P cF a e = .ok (.bl x)) : ev P cF (.not a) e = .ok (.bl (!x)) := by
  simp only [ev, h, rb_ok, tr_bl]
theorem ev_le2 {a b c : Pv.X} {e : Env} {i j k : Int} (ha : ev P cF a e = .ok (.int i)) (hb : ev P cF b e = .ok (.int j)) (hc : ev P cF c e = .ok (.int k)) : ev P cF (.cmp2 .LtE .LtE a b c) e = .ok (.bl (decide (i ≤ j) && decide (j ≤ k))) := by
  simp only [ev, ha, hb, hc, rb_ok, cD_le]
  cases decide (i ≤ j) <;> rfl
theorem dec_nat {a b : Nat} : decide ((a : Int) ≤ (b : Int)) = decide (a ≤ b) := by
  by_cases h : a ≤ b
  · rw [decide_eq_true h, decide_eq_true (by omega)]
  · rw [decide_eq_false h, decide_eq_false (by omega)]
theorem ev_bin {op : Operator} {a b : Pv.X} {e : Env} {x y z : D} (ha : ev P cF a e = .ok x) (hb : ev P cF b e = .ok y) (h : binD op x y = .ok z) : ev P cF (.bin op a b) e = .ok z := by
  simp only [ev, ha, hb, rb_ok, h]
theorem ev_cmp {op : CmpOp} {a b : Pv.X} {e : Env} {x y z : D} (ha : ev P cF a e = .ok x) (hb : ev P cF b e = .ok y) (h : cmpD op x y = .ok z) : ev P cF (.cmp op a b) e = .ok z := by
  simp only [ev, ha, hb, rb_ok, h]
theorem ev_sub {a b : Pv.X} {e : Env} {x y z : D} (ha : ev P cF a e = .ok x) (hb : ev P cF b e = .ok y) (h : subD x y = .ok z) : ev P cF (.sub a b) e = .ok z := by
  simp only [ev, ha, hb, rb_ok, h]
theorem ev_bi1 {q : BI} {a : Pv.X} {e : Env} {x z : D} (hq : q ≠ .range) (ha : ev P cF a e = .ok x) (h : biD q [x] = .ok z) : ev P cF (.bi q (.cons a .nil)) e = .ok z := by
  simp only [ev, ha, rb_ok, rl_ok, biI_other hq, h]
theorem ev_bi2 {q : BI} {a b : Pv.X} {e : Env} {x y z : D} (hq : q ≠ .range) (ha : ev P cF a e = .ok x) (hb : ev P cF b e = .ok y) (h : biD q [x, y] = .ok z) : ev P cF (.bi q (.cons a (.cons b .nil))) e = .ok z := by
  simp only [ev, ha, hb, rb_ok, rl_ok, biI_other hq, h]
theorem ev_len {a : Pv.X} {e : Env} {l : List D} (ha : ev P cF a e = .ok (.lst l)) : ev P cF (.bi .len (.cons a .nil)) e = .ok (.int l.length) := ev_bi1 (by decide) ha rfl
theorem ev_range1 {a : Pv.X} {e : Env} {j : Int} (ha : ev P cF a e = .ok (.int j)) (h : -4611686018427387904 ≤ j ∧ j < 4611686018427387904) : ev P cF (.bi .range (.cons a .nil)) e = .ok (.lst (rangeL 0 j)) := by
  simp only [ev, ha, rb_ok, rl_ok, biI_range, tD_range1 h, lk_ok]
theorem ev_range2 {a b : Pv.X} {e : Env} {i j : Int} (ha : ev P cF a e = .ok (.int i)) (hb : ev P cF b e = .ok (.int j)) (h : (-4611686018427387904 ≤ i ∧ i < 4611686018427387904) ∧ -4611686018427387904 ≤ j ∧ j < 4611686018427387904) : ev P cF (.bi .range (.cons a (.cons b .nil))) e = .ok (.lst (rangeL i j)) := by
  simp only [ev, ha, hb, rb_ok, rl_ok, biI_range, tD_range2 h, lk_ok]
theorem ev_mod {e : Env} {x : Pv.X} {k m : Int} (h : ev P cF x e = .ok (.int k)) (hm : 0 < m) : ev P cF (.bin .Mod (.bi .int1 (.cons x .nil)) (.c (.int m))) e = .ok (.int (k % m)) :=
  ev_bin (ev_bi1 (by decide) h rfl) rfl (bD_mod hm)
theorem set_ok {i : Nat} {x : Pv.X} {e : Env} {d : D} (h : ev P cF x e = .ok d) : exS P cF (.set i x) e = .ok (.nx (e.set i (.fro d))) := by
  simp only [exS, h, rb_ok]
theorem ev_call {f : Nat} {args : Pv.X} {e : Env} {l : List D} {s : Slot} {d : D} (h : ev P cF args e = .ok (.lst l)) (hf : cF f l = .ok s) (hd : s.toD = .ok d) : ev P cF (.call f args) e = .ok d := by
  simp only [ev, h, rl_ok, rb_ok, hf, hd]
theorem ite_t {c : Pv.X} {a b : S} {e : Env} (h : ev P cF c e = .ok (.bl true)) : exS P cF (.ite c a b) e = exS P cF a e := by
  simp [exS, h]
theorem ite_f {c : Pv.X} {a b : S} {e : Env} (h : ev P cF c e = .ok (.bl false)) : exS P cF (.ite c a b) e = exS P cF b e := by
  simp [exS, h]
theorem ret_ok {x : Pv.X} {e : Env} {d : D} (h : ev P cF x e = .ok d) : exS P cF (.ret x) e = .ok (.ret (.fro d)) := by
  simp [exS, h]
theorem skip_ok {e : Env} : exS P cF .skip e = .ok (.nx e) := rfl
/-- if c: return x -/
theorem if_ret {c x : Pv.X} {e : Env} {d : D} {r : S} (h : ev P cF c e = .ok (.bl true)) (h2 : ev P cF x e = .ok d) : exS P cF (.seq (.ite c (.seq (.ret x) .skip) .skip) r) e = .ok (.ret (.fro d)) :=
  seq_ret (by rw [ite_t h, seq_ret (ret_ok h2)])
theorem if_skip {c : Pv.X} {a : S} {e : Env} {r : S} (h : ev P cF c e = .ok (.bl false)) : exS P cF (.seq (.ite c a .skip) r) e = exS P cF r e :=
  seq_nx (by rw [ite_f h]; rfl)
theorem ev_all {x : Pv.X} {e : Env} {α : Type} {as : List α} {f : α → Bool} (h : ev P cF x e = .ok (.lst (as.map fun a => .bl (f a)))) : ev P cF (.bi .all (.cons x .nil)) e = .ok (.bl (as.all f)) := by
  simp [ev, h]
theorem ev_any {x : Pv.X} {e : Env} {α : Type} {as : List α} {f : α → Bool} (h : ev P cF x e = .ok (.lst (as.map fun a => .bl (f a)))) : ev P cF (.bi .any (.cons x .nil)) e = .ok (.bl (as.any f)) := by
  simp [ev, h]
end
end Pv

namespace Pv
open PySem
def rowB : S := (.seq (.set 4 (.bin .Mod (.bi .int1 (.cons (.bin .Add (.bin .Mult (.v 4) (.c (.int (16807)))) (.bin .Mult (.c (.int (271))) (.bin .Add (.v 5) (.c (.int (3)))))) .nil)) (.c (.int (2147483629))))) (.seq (.ite (.cmp .GtE (.bi .abs (.cons (.v 0) .nil)) (.bin .Pow (.c (.int (10))) (.c (.int (18))))) (.seq (.app 2 (.bin .Mod (.bi .int1 (.cons (.v 3) .nil)) (.c (.int (1009))))) (.seq (.set 3 (.bin .FloorDiv (.v 3) (.c (.int (1009))))) .skip)) (.seq (.app 2 (.bin .Mod (.bi .int1 (.cons (.bin .FloorDiv (.v 4) (.c (.int (7)))) .nil)) (.c (.int (1009))))) .skip)) .skip))
def rowA : Fn := ⟨2, 6, (.seq (.setN 2 (.lst .nil)) (.seq (.set 3 (.bi .abs (.cons (.v 0) .nil))) (.seq (.set 4 (.bin .Mod (.bi .int1 (.cons (.bin .Add (.bin .Mult (.v 3) (.c (.int (48271)))) (.c (.int (69621)))) .nil)) (.c (.int (2147483647))))) (.seq (.for_ (.one 5) (.bi .range (.cons (.v 1) .nil)) rowB) (.seq (.retO 2) .skip)))))⟩
def numB2 : S := (.seq (.app 4 (.v 6)) .skip)
def numB1 (r : Nat) : S := (.seq (.for_ (.one 6) (.call r (.cons (.v 5) (.cons (.v 3) .nil))) numB2) .skip)
def numB3 : S := (.seq (.app 4 (.c (.int (0)))) .skip)
def numA (r : Nat) : Fn := ⟨2, 7, (.seq (.set 2 (.slc (.v 0) .nil (.c (.int (63))))) (.seq (.set 3 (.bin .Add (.c (.int (1))) (.bin .FloorDiv (.v 1) (.bi .max2 (.cons (.c (.int (1))) (.cons (.bi .len (.cons (.v 2) .nil)) .nil)))))) (.seq (.setN 4 (.lst .nil)) (.seq (.for_ (.one 5) (.v 2) (numB1 r)) (.seq (.while_ (.cmp .Lt (.bi .len (.cons (.o 4) .nil)) (.v 1)) numB3) (.seq (.retN (.slc (.o 4) .nil (.v 1))) .skip))))))⟩
abbrev small (l : List Int) : Prop := ∀ x ∈ l, 0 ≤ x ∧ x < 1009
theorem row_ok {P : Prog} {n f : Nat} (h : P.fns[f]? = some rowA) (c m : Int) (hm : 0 ≤ m ∧ m < 1000000) :
    ∃ l : List Int, runF P (n + 1) f [.int c, .int m] = .ok (.own (l.map .int)) ∧ l.length = m.toNat ∧ small l := by
  rw [runF_def h rfl (by decide)]
  have key : ∀ (a : Int), ∃ e', forL (fun d e => exS P (runF P n) rowB (e.set 5 (.fro d))) (rangeL 0 m)
      [.fro (.int c), .fro (.int m), .own [], .fro (.int (if c < 0 then -c else c)), .fro (.int a), .no] = .ok (.nx e') ∧
      ∃ (l : List Int) (r a : Int) (s : Slot), e' = [.fro (.int c), .fro (.int m), .own (l.map .int), .fro (.int r), .fro (.int a), s] ∧ l.length = (rangeL 0 m).length ∧ small l := by
    intro a
    refine forL_inv (fun i e => ∃ (l : List Int) (r a : Int) (s : Slot), e = [.fro (.int c), .fro (.int m), .own (l.map .int), .fro (.int r), .fro (.int a), s] ∧ l.length = i ∧ small l) ⟨[], _, _, _, rfl, rfl, fun x h => by cases h⟩ ?_
    rintro i d e hd ⟨l, r, a, s, rfl, hl, hs⟩
    obtain ⟨rfl, hi⟩ := range_get hd
    have hz : l.length + 1 ≤ line := by
      rw [hl]
      unfold line
      omega
    by_cases hc : (1000000000000000000 : Int) ≤ (if c < 0 then -c else c)
    · refine ⟨_, .inl ?_, l ++ [r % 1009], r / 1009, (a * 16807 + 271 * (i + 3)) % 2147483629, .fro (.int i), rfl, by simp [hl], ?_⟩
      · simp [rowB, exS, ev, rdF, hc, isOwnL, appS, hz]
      · intro x hx
        rcases List.mem_append.mp hx with hx | hx
        · exact hs x hx
        · simp at hx; subst hx; omega
    · refine ⟨_, .inl ?_, l ++ [((a * 16807 + 271 * (i + 3)) % 2147483629) / 7 % 1009], r, (a * 16807 + 271 * (i + 3)) % 2147483629, .fro (.int i), rfl, by simp [hl], ?_⟩
      · simp [rowB, exS, ev, rdF, hc, isOwnL, appS, hz]
      · intro x hx
        rcases List.mem_append.mp hx with hx | hx
        · exact hs x hx
        · simp at hx; subst hx; omega
  obtain ⟨e', q, l, r, a, s, rfl, hl, hs⟩ := key (((if c < 0 then -c else c) * 48271 + 69621) % 2147483647)
  refine ⟨l, ?_, by rw [hl, rangeL_len]; omega, hs⟩
  have hmm : (-4611686018427387904 ≤ m ∧ m < 4611686018427387904) := by omega
  simp [rowA, exS, ev, rdF, evN, hmm, q, retS]
theorem num_ok {P : Prog} {n f r : Nat} (hr : P.fns[r]? = some rowA) (h : P.fns[f]? = some (numA r)) (hw : 100000 ≤ P.wf) (ns : List Int) (m : Int) (hm : 0 ≤ m ∧ m < 10000) :
    ∃ l : List Int, runF P (n + 2) f [.lst (ns.map .int), .int m] = .ok (.own (l.map .int)) ∧ l.length = m.toNat ∧ small l := by
  rw [runF_def h rfl (by show 2 ≤ 7; decide)]
  generalize hcs : (ns.take 63) = cs
  have hcl : cs.length ≤ 63 := by rw [← hcs]; simp; omega
  have hcut : cutL (ns.map D.int) none (some 63) = cs.map .int := by
    rw [cutL_to _ (by decide), ← hcs, List.map_take]
    rfl
  generalize hE : 1 + m / (if (cs.length : Int) > 1 then (cs.length : Int) else 1) = each
  have hE2 : 0 ≤ each ∧ each < 100000 := by
    subst hE
    split
    · have := Int.ediv_le_self (cs.length : Int) hm.1
      have := Int.ediv_nonneg hm.1 (show (0 : Int) ≤ (cs.length : Int) by omega)
      omega
    · omega
  let E : List Int → Slot → Slot → Env := fun l s t => [.fro (.lst (ns.map .int)), .fro (.int m), .fro (.lst (cs.map .int)), .fro (.int each), .own (l.map .int), s, t]
  have inner : ∀ (k l : List Int) (s t : Slot), l.length + k.length ≤ 16777216 → small l → small k → ∃ t' , forL (fun d e => exS P (runF P (n + 1)) numB2 (e.set 6 (.fro d))) (k.map .int) (E l s t) = .ok (.nx (E (l ++ k) s t')) := by
    intro k
    induction k with
    | nil => intro l s t _ _ _; exact ⟨t, by simp [forL]⟩
    | cons x k ih =>
      intro l s t hl h1 h2
      simp only [List.length_cons] at hl
      obtain ⟨t', q⟩ := ih (l ++ [x]) s (.fro (.int x)) (by simp; omega) (fun y hy => by
        rcases List.mem_append.mp hy with hy | hy
        · exact h1 y hy
        · rw [List.mem_singleton.mp hy]; exact h2 x List.mem_cons_self) fun y hy => h2 y (List.mem_cons_of_mem _ hy)
      refine ⟨t', ?_⟩
      have hz : l.length + 1 ≤ line := by unfold line; omega
      simp only [List.map_cons, forL]
      have : exS P (runF P (n + 1)) numB2 ((E l s t).set 6 (.fro (.int x))) = .ok (.nx (E (l ++ [x]) s (.fro (.int x)))) := by
        simp [numB2, E, exS, ev, rdF, isOwnL, appS, hz]
      rw [this]
      simp only [rb_ok, turnS]
      rw [q]
      simp
  have outer : ∃ e', forL (fun d e => exS P (runF P (n + 1)) (numB1 r) (e.set 5 (.fro d))) (cs.map .int) (E [] .no .no) = .ok (.nx e') ∧ ∃ l s t, e' = E l s t ∧ l.length = (cs.map D.int).length * each.toNat ∧ small l := by
    refine forL_inv (fun i e => ∃ l s t, e = E l s t ∧ l.length = i * each.toNat ∧ small l) ⟨[], _, _, rfl, by simp, fun x h => by cases h⟩ ?_
    rintro i d e hd ⟨l, s, t, rfl, hl, hs⟩
    rw [List.getElem?_map] at hd
    obtain ⟨c, hc, rfl⟩ := Option.map_eq_some_iff.mp hd
    have hi : i < 63 := by have := (List.getElem?_eq_some_iff.mp hc).1; omega
    obtain ⟨k, q, hk, hks⟩ := row_ok (n := n) hr c each (by omega)
    have hb : l.length + k.length ≤ 16777216 := by
      rw [hl, hk]
      have : i * each.toNat ≤ 63 * each.toNat := Nat.mul_le_mul_right _ (by omega)
      omega
    obtain ⟨t', q2⟩ := inner k l (.fro (.int c)) t hb hs hks
    refine ⟨_, .inl ?_, l ++ k, .fro (.int c), t', rfl, by rw [List.length_append, hl, hk, Nat.succ_mul], ?_⟩
    · have : (E l s t).set 5 (.fro (.int c)) = E l (.fro (.int c)) t := rfl
      rw [this]
      have v5 : rdF (E l (.fro (.int c)) t) 5 = .ok (.int c) := rfl
      have v3 : rdF (E l (.fro (.int c)) t) 3 = .ok (.int each) := rfl
      simp [numB1, exS, ev, v5, v3, q, q2]
    · intro x hx
      rcases List.mem_append.mp hx with hx | hx
      · exact hs x hx
      · exact hks x hx
  obtain ⟨e', q, l, s, t, rfl, hl, hs⟩ := outer
  have wh : ∃ m' e', whL (fun e => ((ev P (runF P (n + 1)) (.cmp .Lt (.bi .len (.cons (.o 4) .nil)) (.v 1)) e).bind D.truth)) (exS P (runF P (n + 1)) numB3) P.wf (E l s t) = .ok (.nx e') ∧ (∃ l, e' = E l s t ∧ small l ∧ m' = m.toNat - l.length ∧ l.length ≤ 16000000) ∧ ((ev P (runF P (n + 1)) (.cmp .Lt (.bi .len (.cons (.o 4) .nil)) (.v 1)) e').bind D.truth) = .ok false := by
    refine whL_inv (fun k e => ∃ l, e = E l s t ∧ small l ∧ k = m.toNat - l.length ∧ l.length ≤ 16000000) (m := m.toNat - l.length) ⟨l, rfl, hs, rfl, ?_⟩ ?_ P.wf (by omega)
    · rw [hl, List.length_map]
      have : cs.length * each.toNat ≤ 63 * each.toNat := Nat.mul_le_mul_right _ (by omega)
      omega
    · rintro k e ⟨l, rfl, hs, rfl, hb⟩
      have v4 : rdO (E l s t) 4 = .ok (.lst (l.map .int)) := rfl
      have v1 : rdF (E l s t) 1 = .ok (.int m) := rfl
      by_cases hlt : (l.length : Int) < m
      · refine .inr ⟨by simp [ev, v4, v1, hlt], m.toNat - (l ++ [0]).length, E (l ++ [0]) s t, by simp; omega, .inl ?_, l ++ [0], rfl, ?_, rfl, by simp; omega⟩
        · have hz : l.length + 1 ≤ line := by unfold line; omega
          simp [numB3, E, exS, ev, isOwnL, appS, hz]
        · intro x hx
          rcases List.mem_append.mp hx with hx | hx
          · exact hs x hx
          · rw [List.mem_singleton.mp hx]; omega
      · exact .inl (by simp [ev, v4, v1, hlt])
  obtain ⟨m', e', q2, ⟨l2, rfl, hs2, _, _⟩, q3⟩ := wh
  have v4 : rdO (E l2 s t) 4 = .ok (.lst (l2.map .int)) := rfl
  have v1 : rdF (E l2 s t) 1 = .ok (.int m) := rfl
  have hge : ¬ (l2.length : Int) < m := by
    intro hlt
    simp [ev, v4, v1, hlt] at q3
  refine ⟨l2.take m.toNat, ?_, by simp; omega, fun x hx => hs2 x (List.mem_of_mem_take hx)⟩
  have hpos : 0 < (if (cs.length : Int) > 1 then (cs.length : Int) else 1) ∧ (if (cs.length : Int) > 1 then (cs.length : Int) else 1) < 9223372036854775808 := by split <;> omega
  have hE' : (1 : Int) + m / (if (1 : Int) < (cs.length : Int) then (cs.length : Int) else 1) = each := hE
  show (exS P (runF P (n + 1)) (numA r).body [.fro (.lst (ns.map .int)), .fro (.int m), .no, .no, .no, .no, .no]).bind endS = _
  unfold numA
  rw [seq_nx (e' := [.fro (.lst (ns.map .int)), .fro (.int m), .fro (.lst (cs.map .int)), .no, .no, .no, .no]) (by simp [exS, ev, rdF, hcut])]
  rw [seq_nx (e' := [.fro (.lst (ns.map .int)), .fro (.int m), .fro (.lst (cs.map .int)), .fro (.int each), .no, .no, .no]) (by simp [exS, ev, rdF, bD_div hpos, hE'])]
  rw [seq_nx (e' := E [] .no .no) (by simp [exS, ev, evN]; rfl)]
  rw [seq_nx (e' := E l s t) (for_nx (d := .lst (cs.map .int)) rfl rfl (by simpa using q))]
  rw [seq_nx (e' := E l2 s t) (by simp only [exS]; exact q2)]
  rw [seq_ret (s := .own ((l2.take m.toNat).map .int)) ?_]
  · rfl
  · simp only [exS, evN, ev, v4, v1, rb_ok, isNil_nil, inl_0, zD_lst, cv_lst, if_true, Bool.false_eq_true, if_false, oi_ok]
    rw [cutL_to _ hm.1, List.map_take]
end Pv

namespace Pv
open PySem L2
def k57f0_e0 : Pv.X := (.cmp .In (.v 1) (.gl 0))
def k57f0 : Fn := ⟨1, 2, (.seq (.ite (.or (.not (.cmp2 .LtE .LtE (.c (.int (1))) (.bi .len (.cons (.v 0) .nil)) (.gl 1))) (.cmp .In (.sub (.v 0) (.c (.int (0)))) (.c (.str [48, 49, 50, 51, 52, 53, 54, 55, 56, 57])))) (.seq (.ret (.c (.bl false))) .skip) .skip) (.seq (.ret (.bi .all (.cons (.lc k57f0_e0 (.one 1) (.v 0) (.c (.bl true)) [1]) .nil))) .skip))⟩
def k57N0 : List Str := ["text", "char"]
def k57p0 : List Str := ["text"]
def k57f1_e0 : Pv.X := (.cmp .In (.v 1) (.gl 2))
def k57f1 : Fn := ⟨1, 2, (.seq (.ite (.or (.not (.cmp2 .LtE .LtE (.c (.int (1))) (.bi .len (.cons (.v 0) .nil)) (.gl 3))) (.not (.bi .all (.cons (.lc k57f1_e0 (.one 1) (.v 0) (.c (.bl true)) [1]) .nil)))) (.seq (.ret (.c (.bl false))) .skip) .skip) (.seq (.ret (.or (.cmp .Eq (.v 0) (.c (.str [48]))) (.cmp .NotEq (.sub (.v 0) (.c (.int (0)))) (.c (.str [48]))))) .skip))⟩
def k57N1 : List Str := ["word", "char"]
def k57p1 : List Str := ["word"]
def k57f2_c0 : Pv.X := (.cmp .NotEq (.v 1) (.c (.str [])))
def k57f2 : Fn := ⟨1, 2, (.seq (.retN (.lc (.v 1) (.one 1) (.m1 .split (.v 0) (.c (.str [32]))) k57f2_c0 [1])) .skip)⟩
def k57N2 : List Str := ["line", "word"]
def k57p2 : List Str := ["line"]
def k57f3_e0 : Pv.X := (.call 0 (.cons (.v 3) .nil))
def k57f3_e1 : Pv.X := (.call 1 (.cons (.v 3) .nil))
def k57f3 : Fn := ⟨1, 6, (.seq (.par 1 2 (.sub (.v 0) (.c (.int (0)))) (.slc (.v 0) (.c (.int (1))) .nil)) (.seq (.ite (.cmp .In (.v 1) (.gl 4)) (.seq (.ret (.and (.cmp .Eq (.bi .len (.cons (.v 2) .nil)) (.sub (.gl 4) (.v 1))) (.bi .all (.cons (.lc k57f3_e0 (.one 3) (.v 2) (.c (.bl true)) [3]) .nil)))) .skip) .skip) (.seq (.ite (.or (.cmp .NotEq (.v 1) (.c (.str [97, 115, 107]))) (.or (.cmp .Lt (.bi .len (.cons (.v 2) .nil)) (.c (.int (3)))) (.or (.cmp .NotIn (.sub (.v 2) (.c (.int (1)))) (.gl 5)) (.or (.not (.call 0 (.cons (.sub (.v 2) (.c (.int (0)))) .nil))) (.not (.call 0 (.cons (.sub (.v 2) (.c (.int (2)))) .nil))))))) (.seq (.ret (.c (.bl false))) .skip) .skip) (.seq (.setT [4, 5] (.sub (.gl 5) (.sub (.v 2) (.c (.int (1)))))) (.seq (.ret (.and (.cmp2 .LtE .LtE (.v 4) (.bin .Sub (.bi .len (.cons (.v 2) .nil)) (.c (.int (3)))) (.v 5)) (.bi .all (.cons (.lc k57f3_e1 (.one 3) (.slc (.v 2) (.c (.int (3))) .nil) (.c (.bl true)) [3]) .nil)))) .skip)))))⟩
def k57N3 : List Str := ["words", "first", "rest", "word", "least", "most"]
def k57p3 : List Str := ["words"]
def k57f4 : Fn := rowA
def k57N4 : List Str := ["_law_cell", "_law_many", "_law_row_here", "_law_rest", "_law_mixed", "_law_k"]
def k57p4 : List Str := ["_law_cell", "_law_many"]
def k57f5 : Fn := numA 4
def k57N5 : List Str := ["_law_script", "_law_many", "_law_cells", "_law_each", "_law_numbers_here", "_law_cell", "_law_number"]
def k57p5 : List Str := ["_law_script", "_law_many"]
def k57f6_e0 : Pv.X := (.sub (.v 3) (.bin .Add (.c (.int (26))) (.bin .Mod (.bi .int1 (.cons (.bin .Add (.bin .Add (.v 1) (.bin .Mult (.bin .Mult (.v 7) (.v 7)) (.c (.int (3))))) (.bin .FloorDiv (.v 0) (.c (.int (28))))) .nil)) (.c (.int (10))))))
def k57f6_e1 : Pv.X := (.sub (.v 3) (.bin .Mod (.bi .int1 (.cons (.bin .Add (.bin .Add (.v 1) (.bin .Mult (.bin .Mult (.c (.int (11))) (.v 7)) (.v 0))) (.v 7)) .nil)) (.c (.int (36)))))
def k57f6 : Fn := ⟨2, 9, (.seq (.set 2 (.tup (.cons (.c (.str [115, 99, 104, 101, 109, 101])) (.cons (.c (.str [112, 114, 111, 100, 117, 99, 116])) (.cons (.c (.str [108, 105, 115, 116])) (.cons (.c (.str [114, 101, 109, 111, 118, 101])) (.cons (.c (.str [100, 114, 111, 112])) (.cons (.c (.str [97, 110, 115, 119, 101, 114])) (.cons (.c (.str [97, 110, 115, 119, 101, 114, 115])) (.cons (.c (.str [112, 114, 105, 110, 116])) (.cons (.c (.str [115, 99, 104, 101, 109, 101, 115])) (.cons (.c (.str [113, 117, 101, 115, 116, 105, 111, 110, 115])) (.cons (.c (.str [117, 110, 100, 111])) (.cons (.c (.str [114, 101, 100, 111])) .nil)))))))))))))) (.seq (.set 2 (.bin .Add (.v 2) (.tup (.cons (.c (.str [97, 115, 107])) (.cons (.c (.str [112, 111, 105, 110, 116, 115])) (.cons (.c (.str [107, 105, 110, 100])) (.cons (.c (.str [103, 114, 101, 97, 116, 101, 115, 116])) (.cons (.c (.str [98, 111, 117, 110, 100])) (.cons (.c (.str [101, 110, 100])) (.cons (.c (.str [48])) (.cons (.c (.str [55])) .nil))))))))))) (.seq (.set 3 (.c (.str [97, 98, 99, 100, 101, 102, 103, 104, 105, 106, 107, 108, 109, 110, 111, 112, 113, 114, 115, 116, 117, 118, 119, 120, 121, 122, 48, 49, 50, 51, 52, 53, 54, 55, 56, 57]))) (.seq (.ite (.cmp .Eq (.bin .Mod (.bi .int1 (.cons (.v 0) .nil)) (.c (.int (4)))) (.c (.int (0)))) (.seq (.ret (.sub (.v 2) (.bin .Mod (.bi .int1 (.cons (.bin .FloorDiv (.v 0) (.c (.int (4)))) .nil)) (.c (.int (20)))))) .skip) .skip) (.seq (.set 4 (.bin .Mod (.bi .int1 (.cons (.bin .FloorDiv (.v 0) (.c (.int (4)))) .nil)) (.c (.int (7))))) (.seq (.ite (.cmp .Eq (.bin .Mod (.bi .int1 (.cons (.v 0) .nil)) (.c (.int (4)))) (.c (.int (1)))) (.seq (.set 5 (.bin .Add (.bin .Add (.c (.int (1))) (.v 4)) (.bin .Mult (.c (.int (56))) (.bi .int1 (.cons (.cmp .Eq (.bin .Mod (.bi .int1 (.cons (.v 1) .nil)) (.c (.int (5)))) (.c (.int (0)))) .nil))))) (.seq (.set 6 (.m1 .join (.c (.str [])) (.lc k57f6_e0 (.one 7) (.bi .range (.cons (.v 5) .nil)) (.c (.bl true)) [7]))) (.seq (.retN (.bin .Add (.sub (.tup (.cons (.c (.str [])) (.cons (.c (.str [])) (.cons (.c (.str [])) (.cons (.c (.str [45])) .nil))))) (.bin .Mod (.bi .int1 (.cons (.v 1) .nil)) (.c (.int (4))))) (.v 6))) .skip))) .skip) (.seq (.setN 8 (.bin .Add (.sub (.v 3) (.bin .Mod (.bi .int1 (.cons (.v 1) .nil)) (.c (.int (36))))) (.m1 .join (.c (.str [])) (.lc k57f6_e1 (.one 7) (.bi .range (.cons (.bin .Mult (.v 4) (.c (.int (2)))) .nil)) (.c (.bl true)) [7])))) (.seq (.ite (.cmp .Eq (.bin .Mod (.bi .int1 (.cons (.v 1) .nil)) (.c (.int (9)))) (.c (.int (0)))) (.seq (.retN (.bin .Add (.bin .Add (.slc (.o 8) .nil (.c (.int (2)))) (.c (.str [95]))) (.slc (.o 8) (.c (.int (2))) .nil))) .skip) .skip) (.seq (.retO 8) .skip)))))))))⟩
def k57N6 : List Str := ["_law_number", "_law_more", "_law_words", "_law_letters", "_law_size", "_law_long", "_law_figures", "_law_k", "_law_word_here"]
def k57p6 : List Str := ["_law_number", "_law_more"]
def k57f7_e0 : Pv.X := (.cmp .In (.v 1) (.c (.str [97, 98, 99, 100, 101, 102, 103, 104, 105, 106, 107, 108, 109, 110, 111, 112, 113, 114, 115, 116, 117, 118, 119, 120, 121, 122, 48, 49, 50, 51, 52, 53, 54, 55, 56, 57])))
def k57f7 : Fn := ⟨1, 2, (.seq (.ite (.or (.cmp .Lt (.bi .len (.cons (.v 0) .nil)) (.c (.int (1)))) (.or (.cmp .Gt (.bi .len (.cons (.v 0) .nil)) (.c (.int (12)))) (.cmp .NotIn (.sub (.v 0) (.c (.int (0)))) (.c (.str [97, 98, 99, 100, 101, 102, 103, 104, 105, 106, 107, 108, 109, 110, 111, 112, 113, 114, 115, 116, 117, 118, 119, 120, 121, 122]))))) (.seq (.ret (.c (.bl false))) .skip) .skip) (.seq (.ret (.bi .all (.cons (.lc k57f7_e0 (.one 1) (.v 0) (.c (.bl true)) [1]) .nil))) .skip))⟩
def k57N7 : List Str := ["_law_word_here", "_law_char"]
def k57p7 : List Str := ["_law_word_here"]
def k57f8_e0 : Pv.X := (.call 7 (.cons (.v 1) .nil))
def k57f8 : Fn := ⟨1, 2, (.seq (.ret (.bi .all (.cons (.lc k57f8_e0 (.one 1) (.v 0) (.c (.bl true)) [1]) .nil))) .skip)⟩
def k57N8 : List Str := ["_law_words", "_law_word_here"]
def k57p8 : List Str := ["_law_words"]
def k57f9_e0 : Pv.X := (.cmp .In (.v 1) (.c (.str [48, 49, 50, 51, 52, 53, 54, 55, 56, 57])))
def k57f9 : Fn := ⟨1, 2, (.seq (.ite (.or (.cmp .Lt (.bi .len (.cons (.v 0) .nil)) (.c (.int (1)))) (.or (.cmp .Gt (.bi .len (.cons (.v 0) .nil)) (.c (.int (61)))) (.and (.cmp .Gt (.bi .len (.cons (.v 0) .nil)) (.c (.int (1)))) (.cmp .Eq (.sub (.v 0) (.c (.int (0)))) (.c (.str [48])))))) (.seq (.ret (.c (.bl false))) .skip) .skip) (.seq (.ret (.bi .all (.cons (.lc k57f9_e0 (.one 1) (.v 0) (.c (.bl true)) [1]) .nil))) .skip))⟩
def k57N9 : List Str := ["_law_word_here", "_law_char"]
def k57p9 : List Str := ["_law_word_here"]
def k57f10_e0 : Pv.X := (.call 9 (.cons (.v 3) .nil))
def k57f10 : Fn := ⟨1, 4, (.seq (.set 1 (.sub (.v 0) (.c (.int (0))))) (.seq (.set 2 (.slc (.v 0) (.c (.int (1))) .nil)) (.seq (.ite (.cmp .In (.v 1) (.tup (.cons (.c (.str [97, 110, 115, 119, 101, 114, 115])) (.cons (.c (.str [115, 99, 104, 101, 109, 101, 115])) (.cons (.c (.str [113, 117, 101, 115, 116, 105, 111, 110, 115])) (.cons (.c (.str [117, 110, 100, 111])) (.cons (.c (.str [114, 101, 100, 111])) .nil))))))) (.seq (.ret (.cmp .Eq (.bi .len (.cons (.v 2) .nil)) (.c (.int (0))))) .skip) .skip) (.seq (.ite (.cmp .In (.v 1) (.tup (.cons (.c (.str [115, 99, 104, 101, 109, 101])) (.cons (.c (.str [114, 101, 109, 111, 118, 101])) (.cons (.c (.str [100, 114, 111, 112])) (.cons (.c (.str [97, 110, 115, 119, 101, 114])) (.cons (.c (.str [112, 114, 105, 110, 116])) .nil))))))) (.seq (.ret (.and (.cmp .Eq (.bi .len (.cons (.v 2) .nil)) (.c (.int (1)))) (.call 7 (.cons (.sub (.v 2) (.c (.int (0)))) .nil)))) .skip) .skip) (.seq (.ite (.cmp .Eq (.v 1) (.c (.str [108, 105, 115, 116]))) (.seq (.ret (.and (.cmp .Eq (.bi .len (.cons (.v 2) .nil)) (.c (.int (2)))) (.call 8 (.cons (.v 2) .nil)))) .skip) .skip) (.seq (.ite (.cmp .Eq (.v 1) (.c (.str [112, 114, 111, 100, 117, 99, 116]))) (.seq (.ret (.and (.cmp .Eq (.bi .len (.cons (.v 2) .nil)) (.c (.int (3)))) (.call 8 (.cons (.v 2) .nil)))) .skip) .skip) (.seq (.ite (.or (.cmp .NotEq (.v 1) (.c (.str [97, 115, 107]))) (.or (.cmp .Lt (.bi .len (.cons (.v 2) .nil)) (.c (.int (3)))) (.or (.not (.call 7 (.cons (.sub (.v 2) (.c (.int (0)))) .nil))) (.not (.call 7 (.cons (.sub (.v 2) (.c (.int (2)))) .nil)))))) (.seq (.ret (.c (.bl false))) .skip) .skip) (.seq (.ite (.not (.bi .all (.cons (.lc k57f10_e0 (.one 3) (.slc (.v 2) (.c (.int (3))) .nil) (.c (.bl true)) [3]) .nil))) (.seq (.ret (.c (.bl false))) .skip) .skip) (.seq (.ite (.cmp .In (.sub (.v 2) (.c (.int (1)))) (.tup (.cons (.c (.str [103, 114, 101, 97, 116, 101, 115, 116])) (.cons (.c (.str [98, 111, 117, 110, 100])) .nil)))) (.seq (.ret (.cmp .LtE (.bi .len (.cons (.v 2) .nil)) (.c (.int (9))))) .skip) .skip) (.seq (.ret (.cmp .In (.tup (.cons (.sub (.v 2) (.c (.int (1)))) (.cons (.bi .len (.cons (.v 2) .nil)) .nil))) (.tup (.cons (.tup (.cons (.c (.str [112, 111, 105, 110, 116, 115])) (.cons (.c (.int (3))) .nil))) (.cons (.tup (.cons (.c (.str [107, 105, 110, 100])) (.cons (.c (.int (5))) .nil))) .nil))))) .skip))))))))))⟩
def k57N10 : List Str := ["_law_words", "_law_first", "_law_rest", "_law_word_here"]
def k57p10 : List Str := ["_law_words"]
def k57f11_c0 : Pv.X := (.call 7 (.cons (.v 3) .nil))
def k57f11_c1 : Pv.X := (.call 9 (.cons (.v 3) .nil))
def k57f11_e0 : Pv.X := (.sub (.v 4) (.bin .Mod (.v 7) (.bi .len (.cons (.v 4) .nil))))
def k57f11 : Fn := ⟨2, 8, (.seq (.set 2 (.bin .Add (.lc (.v 3) (.one 3) (.v 1) k57f11_c0 [3]) (.lst (.cons (.c (.str [97])) (.cons (.c (.str [98])) (.cons (.c (.str [99])) .nil)))))) (.seq (.set 4 (.bin .Add (.lc (.v 3) (.one 3) (.v 1) k57f11_c1 [3]) (.lst (.cons (.c (.str [48])) (.cons (.c (.str [55])) (.cons (.c (.str [49, 50])) .nil)))))) (.seq (.set 5 (.bin .Mod (.bi .int1 (.cons (.sub (.v 0) (.c (.int (43)))) .nil)) (.c (.int (8))))) (.seq (.set 6 (.bin .Mod (.bi .int1 (.cons (.sub (.v 0) (.c (.int (42)))) .nil)) (.c (.int (12))))) (.seq (.ite (.cmp .Lt (.v 6) (.c (.int (3)))) (.seq (.retN (.lst (.cons (.sub (.tup (.cons (.c (.str [97, 110, 115, 119, 101, 114, 115])) (.cons (.c (.str [115, 99, 104, 101, 109, 101, 115])) (.cons (.c (.str [113, 117, 101, 115, 116, 105, 111, 110, 115])) (.cons (.c (.str [117, 110, 100, 111])) (.cons (.c (.str [114, 101, 100, 111])) .nil)))))) (.bin .Mod (.v 5) (.c (.int (5))))) .nil))) .skip) .skip) (.seq (.ite (.cmp .Lt (.v 6) (.c (.int (5)))) (.seq (.retN (.lst (.cons (.sub (.tup (.cons (.c (.str [115, 99, 104, 101, 109, 101])) (.cons (.c (.str [114, 101, 109, 111, 118, 101])) (.cons (.c (.str [100, 114, 111, 112])) (.cons (.c (.str [97, 110, 115, 119, 101, 114])) (.cons (.c (.str [112, 114, 105, 110, 116])) .nil)))))) (.bin .Mod (.v 5) (.c (.int (5))))) (.cons (.sub (.v 2) (.c (.int (0)))) .nil)))) .skip) .skip) (.seq (.ite (.cmp .Eq (.v 6) (.c (.int (5)))) (.seq (.retN (.lst (.cons (.c (.str [112, 114, 111, 100, 117, 99, 116])) (.cons (.sub (.v 2) (.c (.int (0)))) (.cons (.sub (.v 2) (.c (.int (1)))) (.cons (.sub (.v 2) (.c (.int (2)))) .nil)))))) .skip) .skip) (.seq (.ite (.cmp .Eq (.v 6) (.c (.int (6)))) (.seq (.retN (.lst (.cons (.c (.str [108, 105, 115, 116])) (.cons (.sub (.v 2) (.c (.int (0)))) (.cons (.sub (.v 2) (.c (.int (1)))) .nil))))) .skip) .skip) (.seq (.ite (.cmp .Eq (.v 6) (.c (.int (7)))) (.seq (.retN (.lst (.cons (.c (.str [97, 115, 107])) (.cons (.sub (.v 2) (.c (.int (0)))) (.cons (.c (.str [112, 111, 105, 110, 116, 115])) (.cons (.sub (.v 2) (.c (.int (1)))) .nil)))))) .skip) .skip) (.seq (.ite (.cmp .Eq (.v 6) (.c (.int (8)))) (.seq (.retN (.lst (.cons (.c (.str [97, 115, 107])) (.cons (.sub (.v 2) (.c (.int (0)))) (.cons (.c (.str [107, 105, 110, 100])) (.cons (.sub (.v 2) (.c (.int (1)))) (.cons (.sub (.v 4) (.c (.int (0)))) (.cons (.sub (.v 4) (.c (.int (1)))) .nil)))))))) .skip) .skip) (.seq (.retN (.bin .Add (.lst (.cons (.c (.str [97, 115, 107])) (.cons (.sub (.v 2) (.c (.int (0)))) (.cons (.sub (.tup (.cons (.c (.str [103, 114, 101, 97, 116, 101, 115, 116])) (.cons (.c (.str [98, 111, 117, 110, 100])) .nil))) (.bin .Mod (.bi .int1 (.cons (.sub (.v 0) (.c (.int (44)))) .nil)) (.c (.int (2))))) (.cons (.sub (.v 2) (.c (.int (1)))) .nil))))) (.lc k57f11_e0 (.one 7) (.bi .range (.cons (.v 5) .nil)) (.c (.bl true)) [7]))) .skip)))))))))))⟩
def k57N11 : List Str := ["_law_numbers_here", "_law_words", "_law_names", "_law_word_here", "_law_figures", "_law_many", "_law_kind", "_law_k"]
def k57p11 : List Str := ["_law_numbers_here", "_law_words"]
def k57f12_e0 : Pv.X := (.call 6 (.cons (.sub (.v 1) (.bin .Mult (.c (.int (2))) (.v 3))) (.cons (.sub (.v 1) (.bin .Add (.bin .Mult (.c (.int (2))) (.v 3)) (.c (.int (1))))) .nil)))
def k57f12_b0 : S := (.seq (.set 6 (.bin .Add (.v 6) (.sub (.o 2) (.v 3)))) (.seq (.ite (.cmp .Lt (.bin .Add (.v 3) (.c (.int (1)))) (.bi .len (.cons (.o 2) .nil))) (.seq (.set 6 (.bin .Add (.v 6) (.bin .Mult (.c (.str [32])) (.bin .Add (.c (.int (1))) (.bin .Mod (.bi .int1 (.cons (.bin .Add (.sub (.v 1) (.c (.int (48)))) (.bin .Mult (.v 3) (.sub (.v 1) (.c (.int (49)))))) .nil)) (.c (.int (3)))))))) .skip) .skip) .skip))
def k57f12 : Fn := ⟨1, 10, (.seq (.set 1 (.call 5 (.cons (.v 0) (.cons (.c (.int (60))) .nil)))) (.seq (.setN 2 (.lc k57f12_e0 (.one 3) (.bi .range (.cons (.bin .Add (.c (.int (1))) (.bin .Mod (.bi .int1 (.cons (.sub (.v 1) (.c (.int (40)))) .nil)) (.c (.int (10))))) .nil)) (.c (.bl true)) [3])) (.seq (.ite (.cmp .Gt (.bin .Mod (.bi .int1 (.cons (.sub (.v 1) (.c (.int (41)))) .nil)) (.c (.int (3)))) (.c (.int (0)))) (.seq (.frz 2) (.seq (.setN 4 (.call 11 (.cons (.v 1) (.cons (.v 2) .nil)))) (.seq (.set 5 (.bin .Mod (.bi .int1 (.cons (.sub (.v 1) (.c (.int (45)))) .nil)) (.bi .len (.cons (.o 4) .nil)))) (.seq (.ite (.cmp .Eq (.bin .Mod (.bi .int1 (.cons (.sub (.v 1) (.c (.int (46)))) .nil)) (.c (.int (6)))) (.c (.int (0)))) (.seq (.seti 4 (.v 5) (.sub (.o 2) (.c (.int (0))))) .skip) .skip) (.seq (.ite (.and (.cmp .Eq (.bin .Mod (.bi .int1 (.cons (.sub (.v 1) (.c (.int (46)))) .nil)) (.c (.int (6)))) (.c (.int (1)))) (.cmp .Gt (.bi .len (.cons (.o 4) .nil)) (.c (.int (1))))) (.seq (.setN 4 (.bin .Add (.slc (.o 4) .nil (.v 5)) (.slc (.o 4) (.bin .Add (.v 5) (.c (.int (1)))) .nil))) .skip) .skip) (.seq (.ite (.cmp .Eq (.bin .Mod (.bi .int1 (.cons (.sub (.v 1) (.c (.int (46)))) .nil)) (.c (.int (6)))) (.c (.int (2)))) (.seq (.app 4 (.sub (.o 2) (.c (.int (0))))) .skip) .skip) (.seq (.frz 4) (.seq (.setN 2 (.v 4)) .skip)))))))) .skip) (.seq (.set 6 (.bin .Mult (.c (.str [32])) (.bin .Mod (.bi .int1 (.cons (.sub (.v 1) (.c (.int (47)))) .nil)) (.c (.int (3)))))) (.seq (.for_ (.one 3) (.bi .range (.cons (.bi .len (.cons (.o 2) .nil)) .nil)) k57f12_b0) (.seq (.set 6 (.bin .Add (.v 6) (.bin .Mult (.c (.str [32])) (.bin .Mod (.bi .int1 (.cons (.sub (.v 1) (.c (.int (50)))) .nil)) (.c (.int (3))))))) (.seq (.set 7 (.call 2 (.cons (.v 6) .nil))) (.seq (.ite (.or (.not (.bi .isList (.cons (.v 7) .nil))) (.or (.cmp .NotEq (.v 7) (.o 2)) (.cmp .NotEq (.call 2 (.cons (.bin .Mult (.c (.str [32])) (.bin .Mod (.bi .int1 (.cons (.sub (.v 1) (.c (.int (51)))) .nil)) (.c (.int (4))))) .nil)) (.lst .nil)))) (.seq (.ret (.c (.bl false))) .skip) .skip) (.seq (.ite (.cmp .NotEq (.call 2 (.cons (.c (.str [97, 9, 98, 32, 9])) .nil)) (.lst (.cons (.c (.str [97, 9, 98])) (.cons (.c (.str [9])) .nil)))) (.seq (.ret (.c (.bl false))) .skip) .skip) (.seq (.set 8 (.bi .list (.cons (.o 2) .nil))) (.seq (.set 9 (.call 3 (.cons (.v 8) .nil))) (.seq (.frz 2) (.seq (.ret (.and (.bi .isBool (.cons (.v 9) .nil)) (.and (.cmp .Eq (.v 9) (.call 10 (.cons (.v 2) .nil))) (.cmp .Eq (.v 8) (.o 2))))) .skip)))))))))))))⟩
def k57N12 : List Str := ["_law_script", "_law_numbers_here", "_law_words", "_law_k", "_law_line", "_law_place", "_law_text", "_law_told", "_law_passed", "_law_actual"]
def k57p12 : List Str := ["_law_script"]
def k57fns : List Str := ["is_name", "is_number", "split_words", "is_command", "_law_row", "_law_numbers", "_law_word", "_law_is_name", "_law_all_names", "_law_is_number", "_law_command", "_law_formed", "law"]
def k57gls : List Str := ["NAME_CHARS", "MOST_NAME_CHARS", "DIGITS", "MOST_DIGITS", "FORMS", "ASKED"]
def k57P : Prog := ⟨[k57f0, k57f1, k57f2, k57f3, k57f4, k57f5, k57f6, k57f7, k57f8, k57f9, k57f10, k57f11, k57f12], [(.str [97, 98, 99, 100, 101, 102, 103, 104, 105, 106, 107, 108, 109, 110, 111, 112, 113, 114, 115, 116, 117, 118, 119, 120, 121, 122, 48, 49, 50, 51, 52, 53, 54, 55, 56, 57]), (.int (12)), (.str [48, 49, 50, 51, 52, 53, 54, 55, 56, 57]), (.int (61)), (.dic 0 [((.str [115, 99, 104, 101, 109, 101]), (.int (1))), ((.str [112, 114, 111, 100, 117, 99, 116]), (.int (3))), ((.str [108, 105, 115, 116]), (.int (2))), ((.str [114, 101, 109, 111, 118, 101]), (.int (1))), ((.str [100, 114, 111, 112]), (.int (1))), ((.str [97, 110, 115, 119, 101, 114]), (.int (1))), ((.str [97, 110, 115, 119, 101, 114, 115]), (.int (0))), ((.str [112, 114, 105, 110, 116]), (.int (1))), ((.str [115, 99, 104, 101, 109, 101, 115]), (.int (0))), ((.str [113, 117, 101, 115, 116, 105, 111, 110, 115]), (.int (0))), ((.str [117, 110, 100, 111]), (.int (0))), ((.str [114, 101, 100, 111]), (.int (0)))]), (.dic 0 [((.str [112, 111, 105, 110, 116, 115]), (.tup [(.int (0)), (.int (0))])), ((.str [107, 105, 110, 100]), (.tup [(.int (2)), (.int (2))])), ((.str [103, 114, 101, 97, 116, 101, 115, 116]), (.tup [(.int (0)), (.int (6))])), ((.str [98, 111, 117, 110, 100]), (.tup [(.int (0)), (.int (6))]))])], 100000⟩
/- places: is_name=3/1 is_number=7/1 split_words=11/1 is_command=12/1 _law_row=14/2 _law_numbers=15/2 _law_word=16/2 _law_is_name=17/1 _law_all_names=18/1 _law_is_number=19/1 _law_command=20/1 _law_formed=21/2 law=22/1 -/
end Pv

namespace Pv
open PySem L2
def k57S (j : Nat) : Stmt := PySem.Challenge.pw_schemebound_k57_words_of_a_session.main.body.getD j (.Pass ⟨0, 0, 0, 0⟩)
theorem k57c0 : chkF k57fns k57gls k57f0 k57N0 k57p0 (k57S 3) = true := by decide +kernel
theorem k57c1 : chkF k57fns k57gls k57f1 k57N1 k57p1 (k57S 7) = true := by decide +kernel
theorem k57c2 : chkF k57fns k57gls k57f2 k57N2 k57p2 (k57S 11) = true := by decide +kernel
theorem k57c3 : chkF k57fns k57gls k57f3 k57N3 k57p3 (k57S 12) = true := by decide +kernel
theorem k57c4 : chkF k57fns k57gls k57f4 k57N4 k57p4 (k57S 14) = true := by decide +kernel
theorem k57c5 : chkF k57fns k57gls k57f5 k57N5 k57p5 (k57S 15) = true := by decide +kernel
theorem k57c6 : chkF k57fns k57gls k57f6 k57N6 k57p6 (k57S 16) = true := by decide +kernel
theorem k57c7 : chkF k57fns k57gls k57f7 k57N7 k57p7 (k57S 17) = true := by decide +kernel
theorem k57c8 : chkF k57fns k57gls k57f8 k57N8 k57p8 (k57S 18) = true := by decide +kernel
theorem k57c9 : chkF k57fns k57gls k57f9 k57N9 k57p9 (k57S 19) = true := by decide +kernel
theorem k57c10 : chkF k57fns k57gls k57f10 k57N10 k57p10 (k57S 20) = true := by decide +kernel
theorem k57c11 : chkF k57fns k57gls k57f11 k57N11 k57p11 (k57S 21) = true := by decide +kernel
theorem k57c12 : chkF k57fns k57gls k57f12 k57N12 k57p12 (k57S 22) = true := by decide +kernel
end Pv

namespace Pv
open PySem
def letters : List Nat := [97, 98, 99, 100, 101, 102, 103, 104, 105, 106, 107, 108, 109, 110, 111, 112, 113, 114, 115, 116, 117, 118, 119, 120, 121, 122, 48, 49, 50, 51, 52, 53, 54, 55, 56, 57]
def digits : List Nat := [48, 49, 50, 51, 52, 53, 54, 55, 56, 57]
def nmS : List Nat → Bool
  | [] => false
  | c :: r => decide (r.length + 1 ≤ 12) && !digits.contains c && (c :: r).all letters.contains
def nbS : List Nat → Bool
  | [] => false
  | c :: r => decide (r.length + 1 ≤ 61) && (c :: r).all digits.contains && (decide (r = []) || !(c == 48))
section
variable {n : Nat}
@[simp] theorem g57_0 : k57P.gls[0]? = some (.str letters) := rfl
@[simp] theorem g57_1 : k57P.gls[1]? = some (.int 12) := rfl
@[simp] theorem g57_2 : k57P.gls[2]? = some (.str digits) := rfl
@[simp] theorem g57_3 : k57P.gls[3]? = some (.int 61) := rfl
theorem at0 {α : Type} (c : α) (r : List α) : atL (c :: r) 0 = some c := by
  unfold atL ixNat
  simp
theorem name_ok (w : List Nat) (hw : w.length ≤ 1000) : runF k57P (n + 1) 0 [.str w] = .ok (.fro (.bl (nmS w))) := by
  rw [runF_def (show k57P.fns[0]? = some k57f0 from rfl) rfl (by decide)]
  show (exS k57P (runF k57P n) k57f0.body [.fro (.str w), .no]).bind endS = _
  have hl : w.length ≤ 16777216 := by omega
  have A : ev k57P (runF k57P n) (.bi .all (.cons (.lc k57f0_e0 (.one 1) (.v 0) (.c (.bl true)) [1]) .nil)) [.fro (.str w), .no] = .ok (.bl (w.all letters.contains)) := by
    refine ev_all (f := letters.contains) (lc_ok (d := .str w) rfl rfl (b := fun c => [.fro (.str w), .fro (.str [c])]) (fun a ha => rfl) (fun a ha => ?_) hl)
    simp [k57f0_e0, ev, rdF]
  unfold k57f0
  cases w with
  | nil => simp [exS, ev, rdF, nmS]
  | cons c r =>
    have hs : subD (.str (c :: r)) (.int 0) = .ok (.str [c]) := sD_str hl (at0 c r)
    simp only [List.length_cons] at hl hw
    have T : ev k57P (runF k57P n) (.or (.not (.cmp2 .LtE .LtE (.c (.int (1))) (.bi .len (.cons (.v 0) .nil)) (.gl 1))) (.cmp .In (.sub (.v 0) (.c (.int (0)))) (.c (.str [48, 49, 50, 51, 52, 53, 54, 55, 56, 57])))) [.fro (.str (c :: r)), .no] = .ok (.bl (!(decide (r.length + 1 ≤ 12) && !digits.contains c))) := by
      have h0 : (1 : Int) ≤ (r.length : Int) + 1 := by omega
      by_cases h1 : r.length + 1 ≤ 12
      · have h1' : (r.length : Int) + 1 ≤ 12 := by omega
        simp [ev, rdF, hl, h0, h1', hs, h1, digits]
      · have h1' : ¬ (r.length : Int) + 1 ≤ 12 := by omega
        simp [ev, rdF, hl, h0, h1', hs, h1]
    cases q : (decide (r.length + 1 ≤ 12) && !digits.contains c) with
    | true =>
      rw [q] at T
      rw [seq_nx (e' := [.fro (.str (c :: r)), .no]) (by simp only [exS, T, rb_ok, tr_bl]; rfl)]
      rw [seq_ret (s := .fro (.bl ((c :: r).all letters.contains))) (by simp only [exS, A, rb_ok])]
      rw [show nmS (c :: r) = (decide (r.length + 1 ≤ 12) && !digits.contains c && (c :: r).all letters.contains) from rfl, q]
      rfl
    | false =>
      rw [q] at T
      rw [seq_ret (s := .fro (.bl false)) (by simp only [exS, T, rb_ok, tr_bl]; rfl)]
      rw [show nmS (c :: r) = (decide (r.length + 1 ≤ 12) && !digits.contains c && (c :: r).all letters.contains) from rfl, q]
      rfl
theorem number_ok (w : List Nat) (hw : w.length ≤ 1000) : runF k57P (n + 1) 1 [.str w] = .ok (.fro (.bl (nbS w))) := by
  rw [runF_def (show k57P.fns[1]? = some k57f1 from rfl) rfl (by decide)]
  show (exS k57P (runF k57P n) k57f1.body [.fro (.str w), .no]).bind endS = _
  have hl : w.length ≤ 16777216 := by omega
  have A : ev k57P (runF k57P n) (.bi .all (.cons (.lc k57f1_e0 (.one 1) (.v 0) (.c (.bl true)) [1]) .nil)) [.fro (.str w), .no] = .ok (.bl (w.all digits.contains)) := by
    refine ev_all (f := digits.contains) (lc_ok (d := .str w) rfl rfl (b := fun c => [.fro (.str w), .fro (.str [c])]) (fun a ha => rfl) (fun a ha => ?_) hl)
    simp [k57f1_e0, ev, rdF]
  unfold k57f1
  cases w with
  | nil => simp [exS, ev, rdF, nbS]
  | cons c r =>
    have hs : subD (.str (c :: r)) (.int 0) = .ok (.str [c]) := sD_str hl (at0 c r)
    simp only [List.length_cons] at hl hw
    have T : ev k57P (runF k57P n) (.or (.not (.cmp2 .LtE .LtE (.c (.int (1))) (.bi .len (.cons (.v 0) .nil)) (.gl 3))) (.not (.bi .all (.cons (.lc k57f1_e0 (.one 1) (.v 0) (.c (.bl true)) [1]) .nil)))) [.fro (.str (c :: r)), .no] = .ok (.bl (!(decide (r.length + 1 ≤ 61) && (c :: r).all digits.contains))) := by
      have L : ev k57P (runF k57P n) (.cmp2 .LtE .LtE (.c (.int (1))) (.bi .len (.cons (.v 0) .nil)) (.gl 3)) [.fro (.str (c :: r)), .no] = .ok (.bl (decide (r.length + 1 ≤ 61))) := by
        have h0 : (1 : Int) ≤ (r.length : Int) + 1 := by omega
        have h1 : decide ((r.length : Int) + 1 ≤ 61) = decide (r.length + 1 ≤ 61) := by
          by_cases q : r.length + 1 ≤ 61
          · rw [decide_eq_true q, decide_eq_true (by omega)]
          · rw [decide_eq_false q, decide_eq_false (by omega)]
        simp [ev, rdF, hl, h0]
        omega
      rw [ev_or (ev_not L) (fun _ => ev_not A)]
      simp
    have R : ev k57P (runF k57P n) (.or (.cmp .Eq (.v 0) (.c (.str [48]))) (.cmp .NotEq (.sub (.v 0) (.c (.int (0)))) (.c (.str [48])))) [.fro (.str (c :: r)), .no] = .ok (.bl (decide (r = []) || !(c == 48))) := by
      by_cases h : r = []
      · subst h
        by_cases h2 : c = 48
        · subst h2; rfl
        · simp [ev, rdF, hs, h2]
      · simp [ev, rdF, hs, h]
    cases q : (decide (r.length + 1 ≤ 61) && (c :: r).all digits.contains) with
    | true =>
      rw [q] at T
      rw [seq_nx (e' := [.fro (.str (c :: r)), .no]) (by simp only [exS, T, rb_ok, tr_bl]; rfl)]
      rw [seq_ret (s := .fro (.bl (decide (r = []) || !(c == 48)))) (by simp only [exS, R, rb_ok])]
      rw [show nbS (c :: r) = (decide (r.length + 1 ≤ 61) && (c :: r).all digits.contains && (decide (r = []) || !(c == 48))) from rfl, q]
      rfl
    | false =>
      rw [q] at T
      rw [seq_ret (s := .fro (.bl false)) (by simp only [exS, T, rb_ok, tr_bl]; rfl)]
      rw [show nbS (c :: r) = (decide (r.length + 1 ≤ 61) && (c :: r).all digits.contains && (decide (r = []) || !(c == 48))) from rfl, q]
      rfl
theorem lname_ok (w : List Nat) (hw : w.length ≤ 1000) : runF k57P (n + 1) 7 [.str w] = .ok (.fro (.bl (nmS w))) := by
  rw [runF_def (show k57P.fns[7]? = some k57f7 from rfl) rfl (by decide)]
  show (exS k57P (runF k57P n) k57f7.body [.fro (.str w), .no]).bind endS = _
  have hl : w.length ≤ 16777216 := by omega
  have A : ev k57P (runF k57P n) (.bi .all (.cons (.lc k57f7_e0 (.one 1) (.v 0) (.c (.bl true)) [1]) .nil)) [.fro (.str w), .no] = .ok (.bl (w.all letters.contains)) := by
    refine ev_all (f := letters.contains) (lc_ok (d := .str w) rfl rfl (b := fun c => [.fro (.str w), .fro (.str [c])]) (fun a ha => rfl) (fun a ha => ?_) hl)
    simp [k57f7_e0, ev, rdF, letters]
  unfold k57f7
  cases w with
  | nil => simp [exS, ev, rdF, nmS]
  | cons c r =>
    have hs : subD (.str (c :: r)) (.int 0) = .ok (.str [c]) := sD_str hl (at0 c r)
    simp only [List.length_cons] at hl hw
    generalize hz : ([97, 98, 99, 100, 101, 102, 103, 104, 105, 106, 107, 108, 109, 110, 111, 112, 113, 114, 115, 116, 117, 118, 119, 120, 121, 122] : List Nat) = az
    have T : ev k57P (runF k57P n) (.or (.cmp .Lt (.bi .len (.cons (.v 0) .nil)) (.c (.int (1)))) (.or (.cmp .Gt (.bi .len (.cons (.v 0) .nil)) (.c (.int (12)))) (.cmp .NotIn (.sub (.v 0) (.c (.int (0)))) (.c (.str az))))) [.fro (.str (c :: r)), .no] = .ok (.bl (!(decide (r.length + 1 ≤ 12) && az.contains c))) := by
      have h0 : ¬ (r.length : Int) + 1 < 1 := by omega
      by_cases h1 : r.length + 1 ≤ 12
      · have h1' : ¬ (12 : Int) < (r.length : Int) + 1 := by omega
        simp [ev, rdF, hl, h0, h1', hs, h1]
      · have h1' : (12 : Int) < (r.length : Int) + 1 := by omega
        simp [ev, rdF, hl, h0, h1', hs, h1]
    have E : nmS (c :: r) = (decide (r.length + 1 ≤ 12) && az.contains c && (c :: r).all letters.contains) := by
      have : letters = az ++ digits := by subst hz; rfl
      have hd : ∀ x, az.contains x = true → digits.contains x = false := by subst hz; unfold digits; intro x; simp; omega
      unfold nmS
      rw [this]
      simp only [List.all_cons, List.contains_append]
      cases q1 : az.contains c with
      | true => rw [hd c q1]; simp
      | false => cases q2 : digits.contains c <;> simp
    cases q : (decide (r.length + 1 ≤ 12) && az.contains c) with
    | true =>
      rw [q] at T E
      rw [seq_nx (e' := [.fro (.str (c :: r)), .no]) (by simp only [exS, T, rb_ok, tr_bl]; rfl)]
      rw [seq_ret (s := .fro (.bl ((c :: r).all letters.contains))) (by simp only [exS, A, rb_ok]), E]
      rfl
    | false =>
      rw [q] at T E
      rw [seq_ret (s := .fro (.bl false)) (by simp only [exS, T, rb_ok, tr_bl]; rfl), E]
      rfl
theorem lnumber_ok (w : List Nat) (hw : w.length ≤ 1000) : runF k57P (n + 1) 9 [.str w] = .ok (.fro (.bl (nbS w))) := by
  rw [runF_def (show k57P.fns[9]? = some k57f9 from rfl) rfl (by decide)]
  show (exS k57P (runF k57P n) k57f9.body [.fro (.str w), .no]).bind endS = _
  have hl : w.length ≤ 16777216 := by omega
  have A : ev k57P (runF k57P n) (.bi .all (.cons (.lc k57f9_e0 (.one 1) (.v 0) (.c (.bl true)) [1]) .nil)) [.fro (.str w), .no] = .ok (.bl (w.all digits.contains)) := by
    refine ev_all (f := digits.contains) (lc_ok (d := .str w) rfl rfl (b := fun c => [.fro (.str w), .fro (.str [c])]) (fun a ha => rfl) (fun a ha => ?_) hl)
    simp [k57f9_e0, ev, rdF, digits]
  unfold k57f9
  cases w with
  | nil => simp [exS, ev, rdF, nbS]
  | cons c r =>
    have hs : subD (.str (c :: r)) (.int 0) = .ok (.str [c]) := sD_str hl (at0 c r)
    simp only [List.length_cons] at hl hw
    have T : ev k57P (runF k57P n) (.or (.cmp .Lt (.bi .len (.cons (.v 0) .nil)) (.c (.int (1)))) (.or (.cmp .Gt (.bi .len (.cons (.v 0) .nil)) (.c (.int (61)))) (.and (.cmp .Gt (.bi .len (.cons (.v 0) .nil)) (.c (.int (1)))) (.cmp .Eq (.sub (.v 0) (.c (.int (0)))) (.c (.str [48])))))) [.fro (.str (c :: r)), .no] =
        .ok (.bl (!(decide (r.length + 1 ≤ 61) && (decide (r = []) || !(c == 48))))) := by
      have h0 : ¬ (r.length : Int) + 1 < 1 := by omega
      by_cases h1 : r.length + 1 ≤ 61
      · have h1' : ¬ (61 : Int) < (r.length : Int) + 1 := by omega
        by_cases h : r = []
        · subst h; simp [ev, rdF]
        · have h3 : (1 : Int) < (r.length : Int) + 1 := by
            have := List.length_pos_iff.mpr h
            omega
          simp [ev, rdF, hl, h0, h1', hs, h1, h, h3]
      · have h1' : (61 : Int) < (r.length : Int) + 1 := by omega
        simp [ev, rdF, hl, h0, h1', hs, h1]
    have E : nbS (c :: r) = ((decide (r.length + 1 ≤ 61) && (decide (r = []) || !(c == 48))) && (c :: r).all digits.contains) := by
      rw [show nbS (c :: r) = (decide (r.length + 1 ≤ 61) && (c :: r).all digits.contains && (decide (r = []) || !(c == 48))) from rfl]
      cases decide (r.length + 1 ≤ 61) <;> cases (decide (r = []) || !(c == 48)) <;> cases ((c :: r).all digits.contains) <;> rfl
    cases q : (decide (r.length + 1 ≤ 61) && (decide (r = []) || !(c == 48))) with
    | true =>
      rw [q] at T E
      rw [seq_nx (e' := [.fro (.str (c :: r)), .no]) (by simp only [exS, T, rb_ok, tr_bl]; rfl)]
      rw [seq_ret (s := .fro (.bl ((c :: r).all digits.contains))) (by simp only [exS, A, rb_ok]), E]
      rfl
    | false =>
      rw [q] at T E
      rw [seq_ret (s := .fro (.bl false)) (by simp only [exS, T, rb_ok, tr_bl]; rfl), E]
      rfl
end
end Pv

namespace Pv
open PySem
section
variable {n : Nat}
abbrev wds (l : List (List Nat)) : List D := l.map .str
/-- every word of at most 1000 signs -/
abbrev shorts (l : List (List Nat)) : Prop := ∀ w ∈ l, w.length ≤ 1000
theorem at_map {α β : Type} {l : List α} {i : Nat} {a : α} (f : α → β) (h : l[i]? = some a) : atL (l.map f) (i : Int) = some (f a) := by
  refine atL_nat (by omega) ?_
  rw [show (i : Int).toNat = i from rfl, List.getElem?_map, h]
  rfl
theorem split_ok (l : List Nat) (h : l.length + 2 ≤ 16777216) : runF k57P (n + 1) 2 [.str l] = .ok (.own (wds ((splitOn 32 l).filter fun w => !(w == [])))) := by
  rw [runF_def (show k57P.fns[2]? = some k57f2 from rfl) rfl (by decide)]
  show (exS k57P (runF k57P n) k57f2.body [.fro (.str l), .no]).bind endS = _
  have hs : biD .split [.str l, .str [32]] = .ok (.lst ((splitOn 32 l).map .str)) := if_pos ⟨by decide, h⟩
  have hn : ∀ l : List Nat, (splitOn 32 l).length ≤ l.length + 1 := by
    intro l
    induction l with
    | nil => simp [splitOn]
    | cons x r ih =>
      simp only [splitOn]
      cases (x == 32) with
      | true => simp; exact ih
      | false =>
        simp only [Bool.false_eq_true, if_false]
        cases hq : splitOn 32 r with
        | nil => simp
        | cons a as => rw [hq] at ih; simp at ih ⊢; omega
  have A : ev k57P (runF k57P n) (.lc (.v 1) (.one 1) (.m1 .split (.v 0) (.c (.str [32]))) k57f2_c0 [1]) [.fro (.str l), .no] = .ok (.lst (wds ((splitOn 32 l).filter fun w => !(w == [])))) := by
    refine lc_okc (d := .lst ((splitOn 32 l).map .str)) (mk := .str) (b := fun c => [.fro (.str l), .fro (.str c)]) (by simp [ev, rdF, recvOk, hs]) rfl (fun a ha => rfl) (fun a ha => ?_) (fun a ha _ => rfl) (by have := hn l; omega)
    simp [k57f2_c0, ev, rdF]
  unfold k57f2
  rw [seq_ret (s := .own (wds ((splitOn 32 l).filter fun w => !(w == [])))) (by simp only [exS, evN, A, rb_ok, cv_lst])]
  rfl
/-- the forms by their first word -/
def forms : List (List Nat × Nat) := [([115, 99, 104, 101, 109, 101], 1), ([112, 114, 111, 100, 117, 99, 116], 3), ([108, 105, 115, 116], 2), ([114, 101, 109, 111, 118, 101], 1), ([100, 114, 111, 112], 1), ([97, 110, 115, 119, 101, 114], 1),
  ([97, 110, 115, 119, 101, 114, 115], 0), ([112, 114, 105, 110, 116], 1), ([115, 99, 104, 101, 109, 101, 115], 0), ([113, 117, 101, 115, 116, 105, 111, 110, 115], 0), ([117, 110, 100, 111], 0), ([114, 101, 100, 111], 0)]
def asked : List (List Nat × (Nat × Nat)) := [([112, 111, 105, 110, 116, 115], (0, 0)), ([107, 105, 110, 100], (2, 2)), ([103, 114, 101, 97, 116, 101, 115, 116], (0, 6)), ([98, 111, 117, 110, 100], (0, 6))]
def askS : List (List Nat) → Bool
  | a :: b :: c :: r => match asked.lookup b with
    | some (lo, hi) => nmS a && nmS c && (decide (lo ≤ r.length) && decide (r.length ≤ hi) && r.all nbS)
    | none => false
  | _ => false
def cmdS (first : List Nat) (rest : List (List Nat)) : Bool :=
  match forms.lookup first with
  | some k => decide (rest.length = k) && rest.all nmS
  | none => decide (first = [97, 115, 107]) && askS rest
theorem g57_4 : k57P.gls[4]? = some (.dic 0 (forms.map fun p => (.str p.1, .int p.2))) := rfl
theorem g57_5 : k57P.gls[5]? = some (.dic 0 (asked.map fun p => (.str p.1, .tup [.int p.2.1, .int p.2.2]))) := rfl
theorem anyK_look {α : Type} (f : α → D) (x : List Nat) : ∀ l : List (List Nat × α), (l.map fun p => ((.str p.1 : D), f p.2)).any (fun p => p.1.eqv (.str x)) = (l.lookup x).isSome
  | [] => rfl
  | (a, b) :: l => by
    simp only [List.map_cons, List.any_cons, anyK_look f x l, D.eqv, List.lookup_cons]
    cases h : (x == a) with
    | true => rw [eq_of_beq h]; simp
    | false =>
      have : (a == x) = false := by
        cases q : (a == x) with
        | false => rfl
        | true => rw [eq_of_beq q] at h; simp at h
      rw [this]; rfl
theorem lookK_look {α : Type} (f : α → D) (x : List Nat) : ∀ l : List (List Nat × α), lookD (.str x) (l.map fun p => ((.str p.1 : D), f p.2)) = (l.lookup x).map f
  | [] => rfl
  | (a, b) :: l => by
    simp only [List.map_cons, lookD, lookK_look f x l, D.eqv, List.lookup_cons]
    cases h : (x == a) with
    | true => rw [eq_of_beq h]; simp
    | false =>
      have : (a == x) = false := by
        cases q : (a == x) with
        | false => rfl
        | true => rw [eq_of_beq q] at h; simp at h
      rw [this]; simp
def askC : Pv.X := (.or (.cmp .NotEq (.v 1) (.c (.str [97, 115, 107]))) (.or (.cmp .Lt (.bi .len (.cons (.v 2) .nil)) (.c (.int (3)))) (.or (.cmp .NotIn (.sub (.v 2) (.c (.int (1)))) (.gl 5)) (.or (.not (.call 0 (.cons (.sub (.v 2) (.c (.int (0)))) .nil))) (.not (.call 0 (.cons (.sub (.v 2) (.c (.int (2)))) .nil)))))))
def askB : S := (.seq (.ite askC (.seq (.ret (.c (.bl false))) .skip) .skip) (.seq (.setT [4, 5] (.sub (.gl 5) (.sub (.v 2) (.c (.int (1)))))) (.seq (.ret (.and (.cmp2 .LtE .LtE (.v 4) (.bin .Sub (.bi .len (.cons (.v 2) .nil)) (.c (.int (3)))) (.v 5)) (.bi .all (.cons (.lc k57f3_e1 (.one 3) (.slc (.v 2) (.c (.int (3))) .nil) (.c (.bl true)) [3]) .nil)))) .skip)))
theorem ask_ok (first : List Nat) (rest : List (List Nat)) (hs : shorts rest) (hl : rest.length ≤ 1000) (z : D) :
    exS k57P (runF k57P (n + 1)) askB [.fro z, .fro (.str first), .fro (.lst (wds rest)), .no, .no, .no] = .ok (.ret (.fro (.bl ((first == [97, 115, 107]) && askS rest)))) := by
  have T1 : ev k57P (runF k57P (n + 1)) (.cmp .NotEq (.v 1) (.c (.str [97, 115, 107]))) [.fro z, .fro (.str first), .fro (.lst (wds rest)), .no, .no, .no] = .ok (.bl (!(first == [97, 115, 107]))) := by
    simp [ev, rdF]
  have T2 : ev k57P (runF k57P (n + 1)) (.cmp .Lt (.bi .len (.cons (.v 2) .nil)) (.c (.int (3)))) [.fro z, .fro (.str first), .fro (.lst (wds rest)), .no, .no, .no] = .ok (.bl (decide ((rest.length : Int) < 3))) := by
    simp [ev, rdF]
  have stop : ev k57P (runF k57P (n + 1)) askC [.fro z, .fro (.str first), .fro (.lst (wds rest)), .no, .no, .no] = .ok (.bl true) → ((first == [97, 115, 107]) && askS rest) = false →
      exS k57P (runF k57P (n + 1)) askB [.fro z, .fro (.str first), .fro (.lst (wds rest)), .no, .no, .no] = .ok (.ret (.fro (.bl ((first == [97, 115, 107]) && askS rest)))) := fun h h2 => by
    unfold askB
    rw [if_ret h rfl, h2]
  cases hq : (first == [97, 115, 107]) with
  | false =>
    rw [hq] at stop T1
    exact stop ((ev_or (y := true) T1 (by simp)).trans (by simp)) rfl
  | true =>
    rw [hq] at stop T1
    by_cases h3 : (rest.length : Int) < 3
    · rw [decide_eq_true h3] at T2
      refine stop ((ev_or (y := true) T1 fun _ => (ev_or (y := true) T2 (by simp)).trans (by simp)).trans (by simp)) ?_
      match rest, h3 with
      | [], _ => rfl
      | [_], _ => rfl
      | [_, _], _ => rfl
      | _ :: _ :: _ :: _, h3 => simp at h3; omega
    · rw [decide_eq_false h3] at T2
      match rest, h3, hs, hl, T1, T2, stop with
      | [], h3, _, _, _, _, _ => exact absurd (show ((0 : Nat) : Int) < 3 by decide) h3
      | [_], h3, _, _, _, _, _ => exact absurd (show ((1 : Nat) : Int) < 3 by decide) h3
      | [_, _], h3, _, _, _, _, _ => exact absurd (show ((2 : Nat) : Int) < 3 by decide) h3
      | a :: b :: c :: r, _, hs, hl, T1, T2, stop =>
        have e3 : ∀ cF, ev k57P cF (.sub (.v 2) (.c (.int (1)))) [.fro z, .fro (.str first), .fro (.lst (wds (a :: b :: c :: r))), .no, .no, .no] = .ok (.str b) := fun cF => by
          have : atL (wds (a :: b :: c :: r)) 1 = some (.str b) := at_map (i := 1) D.str rfl
          simp only [ev, rdF, List.getElem?_cons_succ, List.getElem?_cons_zero, rb_ok, sD_lst this]
        have e2 : ∀ cF, ev k57P cF (.sub (.v 2) (.c (.int (0)))) [.fro z, .fro (.str first), .fro (.lst (wds (a :: b :: c :: r))), .no, .no, .no] = .ok (.str a) := fun cF => by
          have : atL (wds (a :: b :: c :: r)) 0 = some (.str a) := at_map (i := 0) D.str rfl
          simp only [ev, rdF, List.getElem?_cons_succ, List.getElem?_cons_zero, rb_ok, sD_lst this]
        have e4 : ∀ cF, ev k57P cF (.sub (.v 2) (.c (.int (2)))) [.fro z, .fro (.str first), .fro (.lst (wds (a :: b :: c :: r))), .no, .no, .no] = .ok (.str c) := fun cF => by
          have : atL (wds (a :: b :: c :: r)) 2 = some (.str c) := at_map (i := 2) D.str rfl
          simp only [ev, rdF, List.getElem?_cons_succ, List.getElem?_cons_zero, rb_ok, sD_lst this]
        have T3 : ev k57P (runF k57P (n + 1)) (.cmp .NotIn (.sub (.v 2) (.c (.int (1)))) (.gl 5)) [.fro z, .fro (.str first), .fro (.lst (wds (a :: b :: c :: r))), .no, .no, .no] = .ok (.bl (!(asked.lookup b).isSome)) := by
          rw [ev, e3]
          simp only [ev, g57_5, rb_ok, cD_ninD]
          have := anyK_look (fun k : Nat × Nat => D.tup [.int k.1, .int k.2]) b asked
          rw [show (List.map (fun p : List Nat × (Nat × Nat) => ((.str p.1 : D), D.tup [.int p.2.1, .int p.2.2])) asked).any (fun p => p.1.eqv (.str b)) = _ from this]
        have N1 := ev_call (P := k57P) (f := 0) (args := .cons (.sub (.v 2) (.c (.int (0)))) .nil) (cF := runF k57P (n + 1)) (e := [.fro z, .fro (.str first), .fro (.lst (wds (a :: b :: c :: r))), .no, .no, .no]) (l := [.str a]) (by rw [ev, e2]; rfl) (name_ok (n := n) a (hs a (by simp))) rfl
        have N2 := ev_call (P := k57P) (f := 0) (args := .cons (.sub (.v 2) (.c (.int (2)))) .nil) (cF := runF k57P (n + 1)) (e := [.fro z, .fro (.str first), .fro (.lst (wds (a :: b :: c :: r))), .no, .no, .no]) (l := [.str c]) (by rw [ev, e4]; rfl) (name_ok (n := n) c (hs c (by simp))) rfl
        have C : ev k57P (runF k57P (n + 1)) askC [.fro z, .fro (.str first), .fro (.lst (wds (a :: b :: c :: r))), .no, .no, .no] = .ok (.bl (!((asked.lookup b).isSome && (nmS a && nmS c)))) := by
          unfold askC
          rw [ev_or T1 fun _ => ev_or T2 fun _ => ev_or T3 fun _ => ev_or (ev_not N1) fun _ => ev_not N2]
          cases (asked.lookup b).isSome <;> cases nmS a <;> cases nmS c <;> rfl
        cases hb : asked.lookup b with
        | none =>
          rw [hb] at C
          refine stop C ?_
          simp [askS, hb]
        | some p =>
          obtain ⟨lo, hi⟩ := p
          rw [hb] at C
          cases hnn : (nmS a && nmS c) with
          | false =>
            rw [hnn] at C
            refine stop C ?_
            simp only [askS, hb, hnn]
            rfl
          | true =>
            rw [hnn] at C
            have U : ev k57P (runF k57P (n + 1)) (.sub (.gl 5) (.sub (.v 2) (.c (.int (1))))) [.fro z, .fro (.str first), .fro (.lst (wds (a :: b :: c :: r))), .no, .no, .no] = .ok (.tup [.int lo, .int hi]) := by
              rw [ev, e3]
              simp only [ev, g57_5, rb_ok]
              show (match lookD (.str b) (List.map (fun p : List Nat × (Nat × Nat) => ((.str p.1 : D), D.tup [.int p.2.1, .int p.2.2])) asked) with | some d => Res.ok d | none => .bad) = _
              have := lookK_look (fun k : Nat × Nat => D.tup [.int k.1, .int k.2]) b asked
              rw [show lookD (.str b) (List.map (fun p : List Nat × (Nat × Nat) => ((.str p.1 : D), D.tup [.int p.2.1, .int p.2.2])) asked) = _ from this, hb]
              rfl
            unfold askB
            rw [if_skip C, seq_nx (e' := [.fro z, .fro (.str first), .fro (.lst (wds (a :: b :: c :: r))), .no, .fro (.int lo), .fro (.int hi)]) (by rw [exS, U]; rfl)]
            have A : ev k57P (runF k57P (n + 1)) (.bi .all (.cons (.lc k57f3_e1 (.one 3) (.slc (.v 2) (.c (.int (3))) .nil) (.c (.bl true)) [3]) .nil)) [.fro z, .fro (.str first), .fro (.lst (wds (a :: b :: c :: r))), .no, .fro (.int lo), .fro (.int hi)] = .ok (.bl (r.all nbS)) := by
              refine ev_all (f := nbS) (lc_ok (d := .lst (wds r)) (mk := .str) ?_ rfl (b := fun w => [.fro z, .fro (.str first), .fro (.lst (wds (a :: b :: c :: r))), .fro (.str w), .fro (.int lo), .fro (.int hi)]) (fun a ha => rfl) (fun w hw => ?_) (by simp at hl; omega))
              · have : cutL (wds (a :: b :: c :: r)) (some 3) none = wds r := by rw [cutL_from _ (by decide)]; rfl
                simp [ev, rdF]
                exact this
              · exact ev_call (l := [.str w]) (by simp [ev, rdF]) (number_ok w (hs w (by simp [hw]))) rfl
            have B : ev k57P (runF k57P (n + 1)) (.cmp2 .LtE .LtE (.v 4) (.bin .Sub (.bi .len (.cons (.v 2) .nil)) (.c (.int (3)))) (.v 5)) [.fro z, .fro (.str first), .fro (.lst (wds (a :: b :: c :: r))), .no, .fro (.int lo), .fro (.int hi)] = .ok (.bl (decide (lo ≤ r.length) && decide (r.length ≤ hi))) := by
              have q1 : ev k57P (runF k57P (n + 1)) (.bin .Sub (.bi .len (.cons (.v 2) .nil)) (.c (.int (3)))) [.fro z, .fro (.str first), .fro (.lst (wds (a :: b :: c :: r))), .no, .fro (.int lo), .fro (.int hi)] = .ok (.int r.length) := by
                simp [ev, rdF]
                omega
              rw [ev_le2 rfl q1 rfl, dec_nat, dec_nat]
            rw [seq_ret (ret_ok (ev_and B fun _ => A))]
            simp only [askS, hb, hnn]
            rfl
theorem command_ok (first : List Nat) (rest : List (List Nat)) (hs : shorts rest) (hl : rest.length ≤ 1000) : runF k57P (n + 2) 3 [.lst (wds (first :: rest))] = .ok (.fro (.bl (cmdS first rest))) := by
  rw [runF_def (show k57P.fns[3]? = some k57f3 from rfl) rfl (by decide)]
  show (exS k57P (runF k57P (n + 1)) k57f3.body [.fro (.lst (wds (first :: rest))), .no, .no, .no, .no, .no]).bind endS = _
  have c1 : cutL (.str first :: wds rest) (some 1) none = wds rest := by
    rw [cutL_from _ (by decide)]
    rfl
  have A : ∀ (t u v w x : Slot), ev k57P (runF k57P (n + 1)) (.bi .all (.cons (.lc k57f3_e0 (.one 3) (.v 2) (.c (.bl true)) [3]) .nil)) [t, u, .fro (.lst (wds rest)), v, w, x] = .ok (.bl (rest.all nmS)) := fun t u v w x => by
    refine ev_all (f := nmS) (lc_ok (d := .lst (wds rest)) (mk := .str) rfl rfl (b := fun c => [t, u, .fro (.lst (wds rest)), .fro (.str c), w, x]) (fun a ha => rfl) (fun a ha => ?_) (by omega))
    exact ev_call (l := [.str a]) (by simp [ev, rdF]) (name_ok a (hs a ha)) rfl
  unfold k57f3
  rw [seq_nx (e' := [.fro (.lst (wds (first :: rest))), .fro (.str first), .fro (.lst (wds rest)), .no, .no, .no]) (by simp [exS, ev, rdF, at0]; exact c1)]
  have F : ev k57P (runF k57P (n + 1)) (.cmp .In (.v 1) (.gl 4)) [.fro (.lst (wds (first :: rest))), .fro (.str first), .fro (.lst (wds rest)), .no, .no, .no] = .ok (.bl (forms.lookup first).isSome) := by
    simp only [ev, rdF, g57_4, List.getElem?_cons_succ, List.getElem?_cons_zero, rb_ok, cD_inD]
    have := anyK_look (fun k : Nat => D.int k) first forms
    rw [show (List.map (fun p : List Nat × Nat => ((.str p.1 : D), D.int p.2)) forms).any (fun p => p.1.eqv (.str first)) = _ from this]
  cases hf : forms.lookup first with
  | some k =>
    rw [hf] at F
    rw [if_ret (d := .bl (decide (rest.length = k) && rest.all nmS)) F ?_]
    · simp [cmdS, hf]
    · refine ev_and ?_ fun _ => A _ _ _ _ _
      have : subD (.dic 0 (forms.map fun p => (.str p.1, .int p.2))) (.str first) = .ok (.int k) := by
        show (match lookD (.str first) (List.map (fun p : List Nat × Nat => ((.str p.1 : D), D.int p.2)) forms) with | some d => Res.ok d | none => .bad) = _
        have := lookK_look (fun k : Nat => D.int k) first forms
        rw [show lookD (.str first) (List.map (fun p : List Nat × Nat => ((.str p.1 : D), D.int p.2)) forms) = _ from this, hf]
        rfl
      simp only [ev, rdF, g57_4, List.getElem?_cons_succ, List.getElem?_cons_zero, rb_ok, this, rl_ok, biI_other (show BI.len ≠ .range by decide), iD_lenl, cD_eqi, List.length_map]
      congr 2
      by_cases q : rest.length = k
      · simp [q]
      · simp [q]; omega
  | none =>
    rw [hf] at F
    rw [if_skip F]
    have := ask_ok (n := n) first rest hs hl (.lst (wds (first :: rest)))
    unfold askB askC at this
    rw [this]
    have h2 : (first == [97, 115, 107]) = decide (first = [97, 115, 107]) := by
      by_cases q : first = [97, 115, 107]
      · rw [q]; rfl
      · rw [decide_eq_false q]; simpa using q
    simp only [cmdS, hf, h2]
    rfl
end
end Pv

namespace Pv
open PySem
section
variable {n : Nat}
def grpA : List (List Nat) := [[97, 110, 115, 119, 101, 114, 115], [115, 99, 104, 101, 109, 101, 115], [113, 117, 101, 115, 116, 105, 111, 110, 115], [117, 110, 100, 111], [114, 101, 100, 111]]
def grpB : List (List Nat) := [[115, 99, 104, 101, 109, 101], [114, 101, 109, 111, 118, 101], [100, 114, 111, 112], [97, 110, 115, 119, 101, 114], [112, 114, 105, 110, 116]]
def grpC : List (List Nat) := [[103, 114, 101, 97, 116, 101, 115, 116], [98, 111, 117, 110, 100]]
theorem anyS (x : List Nat) : ∀ l : List (List Nat), (l.map D.str).any (fun y => y.eqv (.str x)) = l.contains x
  | [] => rfl
  | a :: l => by
    simp only [List.map_cons, List.any_cons, anyS x l, D.eqv, List.contains_cons]
    congr 1
    cases h : (x == a) with
    | true => rw [eq_of_beq h]; simp
    | false =>
      cases q : (a == x) with
      | false => rfl
      | true => rw [eq_of_beq q] at h; simp at h
theorem allF : ∀ l : List (List Nat), (l.map D.str).all D.flat = true
  | [] => rfl
  | a :: l => by simp only [List.map_cons, List.all_cons, allF l]; rfl
theorem inS (x : List Nat) (l : List (List Nat)) : cmpD .In (.str x) (.tup (l.map D.str)) = .ok (.bl (l.contains x)) := by
  rw [cD_inT rfl (allF l), anyS]
theorem forms_eq (f : List Nat) : forms.lookup f = if grpA.contains f then some 0 else if grpB.contains f then some 1 else if f == [108, 105, 115, 116] then some 2 else if f == [112, 114, 111, 100, 117, 99, 116] then some 3 else none := by
  by_cases h1 : f = [115, 99, 104, 101, 109, 101]
  · subst h1; rfl
  by_cases h2 : f = [112, 114, 111, 100, 117, 99, 116]
  · subst h2; rfl
  by_cases h3 : f = [108, 105, 115, 116]
  · subst h3; rfl
  by_cases h4 : f = [114, 101, 109, 111, 118, 101]
  · subst h4; rfl
  by_cases h5 : f = [100, 114, 111, 112]
  · subst h5; rfl
  by_cases h6 : f = [97, 110, 115, 119, 101, 114]
  · subst h6; rfl
  by_cases h7 : f = [97, 110, 115, 119, 101, 114, 115]
  · subst h7; rfl
  by_cases h8 : f = [112, 114, 105, 110, 116]
  · subst h8; rfl
  by_cases h9 : f = [115, 99, 104, 101, 109, 101, 115]
  · subst h9; rfl
  by_cases h10 : f = [113, 117, 101, 115, 116, 105, 111, 110, 115]
  · subst h10; rfl
  by_cases h11 : f = [117, 110, 100, 111]
  · subst h11; rfl
  by_cases h12 : f = [114, 101, 100, 111]
  · subst h12; rfl
  have e : ∀ c : List Nat, f ≠ c → (f == c) = false := fun c h => by simpa using h
  simp only [forms, List.lookup_cons, grpA, grpB, List.contains_cons, e _ h1, e _ h2, e _ h3, e _ h4, e _ h5, e _ h6, e _ h7, e _ h8, e _ h9, e _ h10, e _ h11, e _ h12]
  rfl
theorem lall_ok (ws : List (List Nat)) (hs : shorts ws) (hl : ws.length ≤ 1000) : runF k57P (n + 2) 8 [.lst (wds ws)] = .ok (.fro (.bl (ws.all nmS))) := by
  rw [runF_def (show k57P.fns[8]? = some k57f8 from rfl) rfl (by decide)]
  show (exS k57P (runF k57P (n + 1)) k57f8.body [.fro (.lst (wds ws)), .no]).bind endS = _
  unfold k57f8
  have A : ev k57P (runF k57P (n + 1)) (.bi .all (.cons (.lc k57f8_e0 (.one 1) (.v 0) (.c (.bl true)) [1]) .nil)) [.fro (.lst (wds ws)), .no] = .ok (.bl (ws.all nmS)) := by
    refine ev_all (f := nmS) (lc_ok (d := .lst (wds ws)) (mk := .str) rfl rfl (b := fun c => [.fro (.lst (wds ws)), .fro (.str c)]) (fun a ha => rfl) (fun a ha => ?_) (by omega))
    exact ev_call (l := [.str a]) (by simp [ev, rdF]) (lname_ok a (hs a ha)) rfl
  rw [seq_ret (ret_ok A)]
  rfl
theorem dec_len {a b : Nat} : ((a : Int) == (b : Int)) = decide (a = b) := by
  by_cases h : a = b
  · subst h; simp
  · rw [decide_eq_false h]; simp; omega
theorem lcommand_ok (first : List Nat) (rest : List (List Nat)) (hs : shorts rest) (hl : rest.length ≤ 1000) : runF k57P (n + 3) 10 [.lst (wds (first :: rest))] = .ok (.fro (.bl (cmdS first rest))) := by
  rw [runF_def (show k57P.fns[10]? = some k57f10 from rfl) rfl (by decide)]
  show (exS k57P (runF k57P (n + 2)) k57f10.body [.fro (.lst (wds (first :: rest))), .no, .no, .no]).bind endS = _
  have c1 : cutL (.str first :: wds rest) (some 1) none = wds rest := by
    rw [cutL_from _ (by decide)]
    rfl
  unfold k57f10
  rw [seq_nx (e' := [.fro (.lst (wds (first :: rest))), .fro (.str first), .no, .no]) (by simp [exS, ev, rdF, at0])]
  rw [seq_nx (e' := [.fro (.lst (wds (first :: rest))), .fro (.str first), .fro (.lst (wds rest)), .no]) (by simp [exS, ev, rdF]; exact c1)]
  generalize hE : ([.fro (.lst (wds (first :: rest))), .fro (.str first), .fro (.lst (wds rest)), .no] : Env) = E
  have v1 : ∀ cF, ev k57P cF (.v 1) E = .ok (.str first) := fun cF => by subst hE; rfl
  have v2 : ∀ cF, ev k57P cF (.v 2) E = .ok (.lst (wds rest)) := fun cF => by subst hE; rfl
  have L : ∀ cF, ev k57P cF (.bi .len (.cons (.v 2) .nil)) E = .ok (.int rest.length) := fun cF => by rw [ev, ev, v2]; simp [ev]
  have LE : ∀ cF (k : Nat), ev k57P cF (.cmp .Eq (.bi .len (.cons (.v 2) .nil)) (.c (.int k))) E = .ok (.bl (decide (rest.length = k))) := fun cF k => by
    rw [ev, L]
    simp only [ev, rb_ok, cD_eqi, dec_len]
  have S : ∀ cF (i : Nat) (w : List Nat), rest[i]? = some w → ev k57P cF (.sub (.v 2) (.c (.int i))) E = .ok (.str w) := fun cF i w h => by
    rw [ev, v2]
    simp only [ev, rb_ok, sD_lst (at_map D.str h)]
  have N : ∀ (i : Nat) (w : List Nat), rest[i]? = some w → ev k57P (runF k57P (n + 2)) (.call 7 (.cons (.sub (.v 2) (.c (.int i))) .nil)) E = .ok (.bl (nmS w)) := fun i w h =>
    ev_call (l := [.str w]) (by rw [ev, S _ i w h]; rfl) (lname_ok (n := n + 1) w (hs w (List.mem_of_getElem? h))) rfl
  have LE0 : ∀ cF, ev k57P cF (.cmp .Eq (.bi .len (.cons (.v 2) .nil)) (.c (.int (0)))) E = .ok (.bl (decide (rest.length = 0))) := fun cF => LE cF 0
  have LE1 : ∀ cF, ev k57P cF (.cmp .Eq (.bi .len (.cons (.v 2) .nil)) (.c (.int (1)))) E = .ok (.bl (decide (rest.length = 1))) := fun cF => LE cF 1
  have LE2 : ∀ cF, ev k57P cF (.cmp .Eq (.bi .len (.cons (.v 2) .nil)) (.c (.int (2)))) E = .ok (.bl (decide (rest.length = 2))) := fun cF => LE cF 2
  have LE3 : ∀ cF, ev k57P cF (.cmp .Eq (.bi .len (.cons (.v 2) .nil)) (.c (.int (3)))) E = .ok (.bl (decide (rest.length = 3))) := fun cF => LE cF 3
  have N0 : ∀ w, rest[0]? = some w → ev k57P (runF k57P (n + 2)) (.call 7 (.cons (.sub (.v 2) (.c (.int (0)))) .nil)) E = .ok (.bl (nmS w)) := fun w h => N 0 w h
  have N2 : ∀ w, rest[2]? = some w → ev k57P (runF k57P (n + 2)) (.call 7 (.cons (.sub (.v 2) (.c (.int (2)))) .nil)) E = .ok (.bl (nmS w)) := fun w h => N 2 w h
  have AL : ev k57P (runF k57P (n + 2)) (.call 8 (.cons (.v 2) .nil)) E = .ok (.bl (rest.all nmS)) := ev_call (l := [.lst (wds rest)]) (by rw [ev, v2]; rfl) (lall_ok rest hs hl) rfl
  have hc : cmdS first rest = match forms.lookup first with | some k => decide (rest.length = k) && rest.all nmS | none => decide (first = [97, 115, 107]) && askS rest := rfl
  rw [hc, forms_eq]
  have FA : ev k57P (runF k57P (n + 2)) (.cmp .In (.v 1) (.tup (.cons (.c (.str [97, 110, 115, 119, 101, 114, 115])) (.cons (.c (.str [115, 99, 104, 101, 109, 101, 115])) (.cons (.c (.str [113, 117, 101, 115, 116, 105, 111, 110, 115])) (.cons (.c (.str [117, 110, 100, 111])) (.cons (.c (.str [114, 101, 100, 111])) .nil))))))) E = .ok (.bl (grpA.contains first)) := by
    rw [ev, v1]
    exact inS first grpA
  have FB : ev k57P (runF k57P (n + 2)) (.cmp .In (.v 1) (.tup (.cons (.c (.str [115, 99, 104, 101, 109, 101])) (.cons (.c (.str [114, 101, 109, 111, 118, 101])) (.cons (.c (.str [100, 114, 111, 112])) (.cons (.c (.str [97, 110, 115, 119, 101, 114])) (.cons (.c (.str [112, 114, 105, 110, 116])) .nil))))))) E = .ok (.bl (grpB.contains first)) := by
    rw [ev, v1]
    exact inS first grpB
  cases hA : grpA.contains first with
  | true =>
    rw [hA] at FA
    rw [if_ret FA (LE0 _)]
    simp only [if_true]
    cases rest with
    | nil => rfl
    | cons _ _ => rfl
  | false =>
    rw [hA] at FA
    rw [if_skip FA]
    simp only [Bool.false_eq_true, if_false]
    cases hB : grpB.contains first with
    | true =>
      rw [hB] at FB
      have : ev k57P (runF k57P (n + 2)) (.and (.cmp .Eq (.bi .len (.cons (.v 2) .nil)) (.c (.int (1)))) (.call 7 (.cons (.sub (.v 2) (.c (.int (0)))) .nil))) E = .ok (.bl (decide (rest.length = 1) && rest.all nmS)) := by
        by_cases h1 : rest.length = 1
        · obtain ⟨w, rfl⟩ : ∃ w, rest = [w] := by
            match rest, h1 with
            | [w], _ => exact ⟨w, rfl⟩
          rw [ev_and (LE1 _) fun _ => N0 w rfl]
          simp
        · rw [ev_and (y := true) (LE1 _) fun h => absurd (of_decide_eq_true h) h1]
          simp [h1]
      rw [if_ret FB this]
      rfl
    | false =>
      rw [hB] at FB
      rw [if_skip FB]
      simp only [Bool.false_eq_true, if_false]
      have FL : ev k57P (runF k57P (n + 2)) (.cmp .Eq (.v 1) (.c (.str [108, 105, 115, 116]))) E = .ok (.bl (first == [108, 105, 115, 116])) := by
        rw [ev, v1]; simp only [ev, rb_ok, cD_eqs]
      cases hL : (first == [108, 105, 115, 116]) with
      | true =>
        rw [hL] at FL
        rw [if_ret FL (ev_and (LE2 _) fun _ => AL)]
        rfl
      | false =>
        rw [hL] at FL
        rw [if_skip FL]
        simp only [Bool.false_eq_true, if_false]
        have FP : ev k57P (runF k57P (n + 2)) (.cmp .Eq (.v 1) (.c (.str [112, 114, 111, 100, 117, 99, 116]))) E = .ok (.bl (first == [112, 114, 111, 100, 117, 99, 116])) := by
          rw [ev, v1]; simp only [ev, rb_ok, cD_eqs]
        cases hP : (first == [112, 114, 111, 100, 117, 99, 116]) with
        | true =>
          rw [hP] at FP
          rw [if_ret FP (ev_and (LE3 _) fun _ => AL)]
          rfl
        | false =>
          rw [hP] at FP
          rw [if_skip FP]
          simp only [Bool.false_eq_true, if_false]
          have Q1 : ev k57P (runF k57P (n + 2)) (.cmp .NotEq (.v 1) (.c (.str [97, 115, 107]))) E = .ok (.bl (!decide (first = [97, 115, 107]))) := by
            rw [ev, v1]; simp only [ev, rb_ok, cD_nes]
            by_cases q : first = [97, 115, 107]
            · rw [q]; rfl
            · rw [decide_eq_false q, show (first == [97, 115, 107]) = false by simpa using q]
          have Q2 : ev k57P (runF k57P (n + 2)) (.cmp .Lt (.bi .len (.cons (.v 2) .nil)) (.c (.int (3)))) E = .ok (.bl (decide ((rest.length : Int) < 3))) := by
            rw [ev, L]; simp only [ev, rb_ok, cD_lt]
          have stop : ev k57P (runF k57P (n + 2)) (.or (.cmp .NotEq (.v 1) (.c (.str [97, 115, 107]))) (.or (.cmp .Lt (.bi .len (.cons (.v 2) .nil)) (.c (.int (3)))) (.or (.not (.call 7 (.cons (.sub (.v 2) (.c (.int (0)))) .nil))) (.not (.call 7 (.cons (.sub (.v 2) (.c (.int (2)))) .nil)))))) E = .ok (.bl true) → (decide (first = [97, 115, 107]) && askS rest) = false →
              ∀ r, (exS k57P (runF k57P (n + 2)) (.seq (.ite (.or (.cmp .NotEq (.v 1) (.c (.str [97, 115, 107]))) (.or (.cmp .Lt (.bi .len (.cons (.v 2) .nil)) (.c (.int (3)))) (.or (.not (.call 7 (.cons (.sub (.v 2) (.c (.int (0)))) .nil))) (.not (.call 7 (.cons (.sub (.v 2) (.c (.int (2)))) .nil)))))) (.seq (.ret (.c (.bl false))) .skip) .skip) r) E).bind endS = .ok (.fro (.bl (decide (first = [97, 115, 107]) && askS rest))) := fun h h2 r => by
            rw [if_ret h rfl, h2]; rfl
          by_cases hq : first = [97, 115, 107]
          · rw [decide_eq_true hq] at Q1 stop ⊢
            by_cases h3 : (rest.length : Int) < 3
            · rw [decide_eq_true h3] at Q2
              refine stop ((ev_or (y := true) Q1 fun _ => (ev_or (y := true) Q2 (by simp)).trans (by simp)).trans (by simp)) ?_ _
              match rest, h3 with
              | [], _ => rfl
              | [_], _ => rfl
              | [_, _], _ => rfl
              | _ :: _ :: _ :: _, h3 => simp at h3; omega
            · rw [decide_eq_false h3] at Q2
              obtain ⟨a, b, c, r, rfl⟩ : ∃ a b c r, rest = a :: b :: c :: r := by
                match rest, h3 with
                | [], h3 => exact absurd (show ((0 : Nat) : Int) < 3 by decide) h3
                | [_], h3 => exact absurd (show ((1 : Nat) : Int) < 3 by decide) h3
                | [_, _], h3 => exact absurd (show ((2 : Nat) : Int) < 3 by decide) h3
                | a :: b :: c :: r, _ => exact ⟨a, b, c, r, rfl⟩
              have C := ev_or Q1 fun _ => ev_or Q2 fun _ => ev_or (ev_not (N0 a rfl)) fun _ => ev_not (N2 c rfl)
              have Ca : askS (a :: b :: c :: r) = ((nmS a && nmS c) && match asked.lookup b with | some (lo, hi) => decide (lo ≤ r.length) && decide (r.length ≤ hi) && r.all nbS | none => false) := by
                simp only [askS]
                cases asked.lookup b with
                | none => simp
                | some p => rfl
              cases hnn : (nmS a && nmS c) with
              | false =>
                rw [hnn] at Ca
                refine stop (C.trans ?_) (by rw [Ca]; rfl) _
                cases ha : nmS a <;> cases hcc : nmS c <;> first | rfl | (rw [ha, hcc] at hnn; cases hnn)
              | true =>
                rw [hnn] at Ca
                obtain ⟨ha, hcc⟩ := Bool.and_eq_true_iff.mp hnn
                rw [ha, hcc] at C
                rw [if_skip C]
                have NB : ev k57P (runF k57P (n + 2)) (.bi .all (.cons (.lc k57f10_e0 (.one 3) (.slc (.v 2) (.c (.int (3))) .nil) (.c (.bl true)) [3]) .nil)) E = .ok (.bl (r.all nbS)) := by
                  subst hE
                  refine ev_all (f := nbS) (lc_ok (d := .lst (wds r)) (mk := .str) ?_ rfl (b := fun w => [.fro (.lst (wds (first :: a :: b :: c :: r))), .fro (.str first), .fro (.lst (wds (a :: b :: c :: r))), .fro (.str w)]) (fun a ha => rfl) (fun w hw => ?_) (by simp at hl; omega))
                  · have : cutL (wds (a :: b :: c :: r)) (some 3) none = wds r := by rw [cutL_from _ (by decide)]; rfl
                    simp [ev, rdF]
                    exact this
                  · exact ev_call (l := [.str w]) (by simp [ev, rdF]) (lnumber_ok w (hs w (by simp [hw]))) rfl
                rw [Ca]
                cases hnb : r.all nbS with
                | false =>
                  rw [hnb] at NB
                  rw [if_ret (ev_not NB) rfl]
                  cases asked.lookup b with
                  | none => rfl
                  | some p => simp
                | true =>
                  rw [hnb] at NB
                  rw [if_skip (ev_not NB)]
                  have IC : ev k57P (runF k57P (n + 2)) (.cmp .In (.sub (.v 2) (.c (.int (1)))) (.tup (.cons (.c (.str [103, 114, 101, 97, 116, 101, 115, 116])) (.cons (.c (.str [98, 111, 117, 110, 100])) .nil)))) E = .ok (.bl (grpC.contains b)) := by
                    have := S (runF k57P (n + 2)) 1 b rfl
                    rw [ev, show ev k57P (runF k57P (n + 2)) (.sub (.v 2) (.c (.int (1)))) E = _ from this]
                    exact inS b grpC
                  have LN : ∀ cF, ev k57P cF (.bi .len (.cons (.v 2) .nil)) E = .ok (.int (r.length + 3)) := fun cF => by
                    rw [L]; simp; omega
                  cases hC : grpC.contains b with
                  | true =>
                    rw [hC] at IC
                    have : ev k57P (runF k57P (n + 2)) (.cmp .LtE (.bi .len (.cons (.v 2) .nil)) (.c (.int (9)))) E = .ok (.bl (decide (r.length ≤ 6))) := by
                      rw [ev, LN]
                      simp only [ev, rb_ok, cD_le]
                      congr 2
                      by_cases q : r.length ≤ 6
                      · rw [decide_eq_true q, decide_eq_true (by omega)]
                      · rw [decide_eq_false q, decide_eq_false (by omega)]
                    rw [if_ret IC this]
                    have hb : asked.lookup b = some (0, 6) := by
                      by_cases q1 : b = [103, 114, 101, 97, 116, 101, 115, 116]
                      · subst q1; rfl
                      · by_cases q2 : b = [98, 111, 117, 110, 100]
                        · subst q2; rfl
                        · simp [grpC, q1, q2] at hC
                    rw [hb]
                    simp
                  | false =>
                    rw [hC] at IC
                    rw [if_skip IC]
                    have hb : asked.lookup b = if b == [112, 111, 105, 110, 116, 115] then some (0, 0) else if b == [107, 105, 110, 100] then some (2, 2) else none := by
                      have q1 : (b == [103, 114, 101, 97, 116, 101, 115, 116]) = false := by
                        cases q : (b == [103, 114, 101, 97, 116, 101, 115, 116]) with
                        | false => rfl
                        | true => rw [eq_of_beq q] at hC; simp [grpC] at hC
                      have q2 : (b == [98, 111, 117, 110, 100]) = false := by
                        cases q : (b == [98, 111, 117, 110, 100]) with
                        | false => rfl
                        | true => rw [eq_of_beq q] at hC; simp [grpC] at hC
                      simp only [asked, List.lookup_cons, q1, q2]
                      cases (b == [112, 111, 105, 110, 116, 115]) <;> cases (b == [107, 105, 110, 100]) <;> rfl
                    have T : ev k57P (runF k57P (n + 2)) (.cmp .In (.tup (.cons (.sub (.v 2) (.c (.int (1)))) (.cons (.bi .len (.cons (.v 2) .nil)) .nil))) (.tup (.cons (.tup (.cons (.c (.str [112, 111, 105, 110, 116, 115])) (.cons (.c (.int (3))) .nil))) (.cons (.tup (.cons (.c (.str [107, 105, 110, 100])) (.cons (.c (.int (5))) .nil))) .nil)))) E =
                        .ok (.bl ((([112, 111, 105, 110, 116, 115] == b) && ((3 : Int) == r.length + 3)) || (([107, 105, 110, 100] == b) && ((5 : Int) == r.length + 3)))) := by
                      have A1 : ev k57P (runF k57P (n + 2)) (.tup (.cons (.sub (.v 2) (.c (.int (1)))) (.cons (.bi .len (.cons (.v 2) .nil)) .nil))) E = .ok (.tup [.str b, .int (r.length + 3)]) := by
                        have q := S (runF k57P (n + 2)) 1 b rfl
                        have q' : ev k57P (runF k57P (n + 2)) (.sub (.v 2) (.c (.int (1)))) E = .ok (.str b) := q
                        rw [ev, ev, q', ev, LN]
                        rfl
                      rw [ev, A1]
                      simp only [rb_ok]
                      have A2 : ev k57P (runF k57P (n + 2)) (.tup (.cons (.tup (.cons (.c (.str [112, 111, 105, 110, 116, 115])) (.cons (.c (.int (3))) .nil))) (.cons (.tup (.cons (.c (.str [107, 105, 110, 100])) (.cons (.c (.int (5))) .nil))) .nil))) E = .ok (.tup [.tup [.str [112, 111, 105, 110, 116, 115], .int 3], .tup [.str [107, 105, 110, 100], .int 5]]) := rfl
                      rw [A2]
                      simp only [rb_ok]
                      rw [cD_inT rfl rfl]
                      simp [D.eqv, eqvA]
                    rw [seq_ret (ret_ok T)]
                    rw [hb]
                    have sy : ∀ c : List Nat, (c == b) = (b == c) := fun c => by
                      cases q : (b == c) with
                      | true => rw [eq_of_beq q]; simp
                      | false =>
                        cases q2 : (c == b) with
                        | false => rfl
                        | true => rw [eq_of_beq q2] at q; simp at q
                    rw [sy, sy]
                    have z3 : ((3 : Int) == r.length + 3) = decide (r.length = 0) := by
                      by_cases q : r.length = 0
                      · rw [decide_eq_true q, q]; rfl
                      · rw [decide_eq_false q]; simp; omega
                    have z5 : ((5 : Int) == r.length + 3) = decide (r.length = 2) := by
                      by_cases q : r.length = 2
                      · rw [decide_eq_true q, q]; rfl
                      · rw [decide_eq_false q]; simp; omega
                    rw [z3, z5]
                    cases p1 : (b == [112, 111, 105, 110, 116, 115]) with
                    | true =>
                      rw [eq_of_beq p1]
                      simp
                    | false =>
                      cases p2 : (b == [107, 105, 110, 100]) with
                      | true =>
                        simp
                        by_cases q : r.length = 2
                        · simp [q]
                        · rw [decide_eq_false q]
                          by_cases q2 : 2 ≤ r.length
                          · rw [decide_eq_true q2, decide_eq_false (by omega)]; rfl
                          · rw [decide_eq_false q2]; rfl
                      | false => simp
          · rw [decide_eq_false hq] at Q1 stop ⊢
            exact stop ((ev_or (y := true) Q1 (by simp)).trans (by simp)) rfl _
end
end Pv

namespace Pv
open PySem
section
variable {n : Nat}
def wok (w : List Nat) : Bool := !w.isEmpty && !w.contains 32 && decide (w.length ≤ 100)
theorem joinL_one {α : Type} (f : α → Nat) : ∀ as : List α, joinL [] (as.map fun a => [f a]) = as.map f
  | [] => rfl
  | [_] => rfl
  | x :: y :: r => by
    have := joinL_one f (y :: r)
    simp only [List.map_cons] at this ⊢
    simp only [joinL, List.nil_append, this]
    rfl
theorem join_one {α : Type} (f : α → Nat) (as : List α) (h : as.length ≤ 100000) : biD .join [.str [], .lst (as.map fun a => .str [f a])] = .ok (.str (as.map f)) := by
  show (match strsOf (as.map fun a => D.str [f a]) with | some ls => if (ls.map List.length).sum + ls.length * ([] : List Nat).length ≤ line then Res.ok (D.str (joinL [] ls)) else .bad | none => .bad) = _
  rw [strsOf_map (fun a => [f a])]
  simp only [joinL_one, List.map_map]
  rw [if_pos]
  have : (List.map (List.length ∘ fun a => [f a]) as).sum = as.length := by
    clear h
    induction as with
    | nil => rfl
    | cons a as ih => simp only [List.map_cons, List.sum_cons, ih, List.length_cons]; simp; omega
  rw [this]
  unfold line
  simp
  omega
theorem let_at {i : Int} (h : 0 ≤ i ∧ i < 36) : atL letters i = some (letters.getD i.toNat 0) := by
  refine atL_nat h.1 ?_
  have : i.toNat < letters.length := by show i.toNat < 36; omega
  rw [List.getElem?_eq_getElem this]
  simp [List.getD, List.getElem?_eq_getElem this]
theorem let_ok (i : Nat) (h : i < 36) : letters.getD i 0 ≠ 32 := by
  have : i < letters.length := h
  have m := List.getElem_mem this
  rw [show letters.getD i 0 = letters[i] by simp [List.getD, List.getElem?_eq_getElem this]]
  intro q
  rw [q] at m
  revert m
  decide
def tw : List (List Nat) := [[115, 99, 104, 101, 109, 101], [112, 114, 111, 100, 117, 99, 116], [108, 105, 115, 116], [114, 101, 109, 111, 118, 101], [100, 114, 111, 112], [97, 110, 115, 119, 101, 114], [97, 110, 115, 119, 101, 114, 115], [112, 114, 105, 110, 116], [115, 99, 104, 101, 109, 101, 115], [113, 117, 101, 115, 116, 105, 111, 110, 115], [117, 110, 100, 111], [114, 101, 100, 111],
  [97, 115, 107], [112, 111, 105, 110, 116, 115], [107, 105, 110, 100], [103, 114, 101, 97, 116, 101, 115, 116], [98, 111, 117, 110, 100], [101, 110, 100], [48], [55]]
theorem pick {l : List (List Nat)} (hl : l.all wok = true) {i : Int} (h : 0 ≤ i ∧ i < l.length) : ∃ w, atL (wds l) i = some (.str w) ∧ wok w = true := by
  have hi : i.toNat < l.length := by omega
  refine ⟨l[i.toNat], atL_nat h.1 ?_, List.all_eq_true.mp hl _ (List.getElem_mem hi)⟩
  rw [List.getElem?_map, List.getElem?_eq_getElem hi]
  rfl
def dg (a b : Int) (k : Nat) : Nat := letters.getD (26 + (b + (k : Int) * (k : Int) * 3 + a / 28) % 10).toNat 0
def lt (a b : Int) (k : Nat) : Nat := letters.getD ((b + 11 * (k : Int) * a + (k : Int)) % 36).toNat 0
theorem if_skip' {P : Prog} {cF : Nat → List D → Res Slot} {c : Pv.X} {a : S} {e : Env} {r : S} (h : ev P cF c e = .ok (.bl false)) : exS P cF (.seq (.ite c a .skip) r) e = exS P cF r e := seq_nx (by rw [ite_f h]; rfl)
theorem word_ok (a b : Int) (ha : 0 ≤ a ∧ a < 1009) (hb : 0 ≤ b ∧ b < 1009) : ∃ w, runF k57P (n + 1) 6 [.int a, .int b] = .ok (.fro (.str w)) ∧ wok w = true := by
  rw [runF_def (show k57P.fns[6]? = some k57f6 from rfl) rfl (by decide)]
  show ∃ w, (exS k57P (runF k57P n) k57f6.body [.fro (.int a), .fro (.int b), .no, .no, .no, .no, .no, .no, .no]).bind endS = _ ∧ _
  unfold k57f6
  rw [seq_nx (e' := [.fro (.int a), .fro (.int b), .fro (.tup (wds (tw.take 12))), .no, .no, .no, .no, .no, .no]) rfl]
  rw [seq_nx (e' := [.fro (.int a), .fro (.int b), .fro (.tup (wds tw)), .no, .no, .no, .no, .no, .no]) rfl]
  rw [seq_nx (e' := [.fro (.int a), .fro (.int b), .fro (.tup (wds tw)), .fro (.str letters), .no, .no, .no, .no, .no]) rfl]
  by_cases h0 : a % 4 = 0
  · obtain ⟨w, hw, ow⟩ := pick (l := tw) (by decide) (i := a / 4 % 20) (by show 0 ≤ a / 4 % 20 ∧ a / 4 % 20 < 20; omega)
    rw [if_ret (d := .str w) (by simp [ev, rdF, h0]) (by simp [ev, rdF, sD_tup hw])]
    exact ⟨w, rfl, ow⟩
  · rw [if_skip (by simp [ev, rdF, h0])]
    rw [seq_nx (e' := [.fro (.int a), .fro (.int b), .fro (.tup (wds tw)), .fro (.str letters), .fro (.int (a / 4 % 7)), .no, .no, .no, .no]) (by simp [exS, ev, rdF])]
    by_cases h1 : a % 4 = 1
    · generalize hL : (1 + a / 4 % 7 + 56 * (if b % 5 = 0 then 1 else 0) : Int) = L
      have hL2 : 1 ≤ L ∧ L ≤ 63 := by subst hL; split <;> omega
      have J : ∀ (s t : Slot), ev k57P (runF k57P n) (.m1 .join (.c (.str [])) (.lc k57f6_e0 (.one 7) (.bi .range (.cons (.v 5) .nil)) (.c (.bl true)) [7])) [.fro (.int a), .fro (.int b), .fro (.tup (wds tw)), .fro (.str letters), .fro (.int (a / 4 % 7)), .fro (.int L), s, t, .no] =
          .ok (.str ((List.range L.toNat).map (dg a b))) := fun s t => by
        have C : ev k57P (runF k57P n) (.lc k57f6_e0 (.one 7) (.bi .range (.cons (.v 5) .nil)) (.c (.bl true)) [7]) [.fro (.int a), .fro (.int b), .fro (.tup (wds tw)), .fro (.str letters), .fro (.int (a / 4 % 7)), .fro (.int L), s, t, .no] =
            .ok (.lst ((List.range L.toNat).map fun k => .str [dg a b k])) := by
          refine lc_ok (d := .lst (rangeL 0 L)) (mk := fun k : Nat => .int k) (b := fun k : Nat => [.fro (.int a), .fro (.int b), .fro (.tup (wds tw)), .fro (.str letters), .fro (.int (a / 4 % 7)), .fro (.int L), s, .fro (.int k), .no]) ?_ ?_ (fun k hk => rfl) (fun k hk => ?_) (by simp; omega)
          · have : -4611686018427387904 ≤ L ∧ L < 4611686018427387904 := by omega
            simp [ev, rdF, this]
          · simp [rangeL]
          · have hk : k < L.toNat := List.mem_range.mp hk
            have m1 : binD .Mult (.int (k : Int)) (.int (k : Int)) = .ok (.int ((k : Int) * k)) := bD_mulr (by omega)
            have hi : 0 ≤ 26 + (b + (k : Int) * (k : Int) * 3 + a / 28) % 10 ∧ 26 + (b + (k : Int) * (k : Int) * 3 + a / 28) % 10 < 36 := by omega
            have hs := sD_str (l := letters) (by decide) (let_at hi)
            simp [k57f6_e0, ev, rdF, m1, hs, dg]
        rw [ev, C]
        simp only [ev, rb_ok, recvOk, if_true]
        exact join_one _ _ (by simp; omega)
      have T : ev k57P (runF k57P n) (.cmp .Eq (.bin .Mod (.bi .int1 (.cons (.v 0) .nil)) (.c (.int (4)))) (.c (.int (1)))) [.fro (.int a), .fro (.int b), .fro (.tup (wds tw)), .fro (.str letters), .fro (.int (a / 4 % 7)), .no, .no, .no, .no] = .ok (.bl true) := by simp [ev, rdF, h1]
      rw [seq_ret (s := .fro (.str ((if b % 4 = 3 then [45] else []) ++ ((List.range L.toNat).map (dg a b))))) ?_]
      · refine ⟨_, rfl, ?_⟩
        unfold wok
        have z1 : 0 < L.toNat := by omega
        simp only [Bool.and_eq_true, Bool.not_eq_true', decide_eq_true_eq]
        refine ⟨⟨?_, ?_⟩, ?_⟩
        · have : (List.range L.toNat) ≠ [] := by simp; omega
          cases hq : List.range L.toNat with
          | nil => exact absurd hq this
          | cons x r => cases (if b % 4 = 3 then [45] else []) <;> rfl
        · rw [List.contains_append, Bool.or_eq_false_iff]
          refine ⟨by split <;> rfl, ?_⟩
          cases hq : (List.map (dg a b) (List.range L.toNat)).contains 32 with
          | false => rfl
          | true =>
            simp only [List.contains_iff_mem, List.mem_map] at hq
            obtain ⟨k, _, h⟩ := hq
            exact absurd h (let_ok _ (by omega))
        · rw [List.length_append, List.length_map, List.length_range]
          split <;> simp <;> omega
      · rw [ite_t T]
        rw [seq_nx (e' := [.fro (.int a), .fro (.int b), .fro (.tup (wds tw)), .fro (.str letters), .fro (.int (a / 4 % 7)), .fro (.int L), .no, .no, .no]) (by simp [exS, ev, rdF]; exact hL)]
        rw [seq_nx (e' := [.fro (.int a), .fro (.int b), .fro (.tup (wds tw)), .fro (.str letters), .fro (.int (a / 4 % 7)), .fro (.int L), .fro (.str ((List.range L.toNat).map (dg a b))), .no, .no]) (by rw [exS, J]; rfl)]
        have P : subD (.tup (wds [[], [], [], [45]])) (.int (b % 4)) = .ok (.str (if b % 4 = 3 then [45] else [])) := by
          have hb4 : b % 4 = 0 ∨ b % 4 = 1 ∨ b % 4 = 2 ∨ b % 4 = 3 := by omega
          rcases hb4 with h | h | h | h <;> rw [h] <;> rfl
        rw [seq_ret (s := .fro (.str ((if b % 4 = 3 then [45] else []) ++ ((List.range L.toNat).map (dg a b))))) ?_]
        have z : (if b % 4 = 3 then [45] else [] : List Nat).length + ((List.range L.toNat).map (dg a b)).length ≤ 16777216 := by
          rw [List.length_map, List.length_range]
          split <;> simp <;> omega
        have Q : ev k57P (runF k57P n) (.bin .Add (.sub (.tup (.cons (.c (.str [])) (.cons (.c (.str [])) (.cons (.c (.str [])) (.cons (.c (.str [45])) .nil))))) (.bin .Mod (.bi .int1 (.cons (.v 1) .nil)) (.c (.int (4))))) (.v 6)) [.fro (.int a), .fro (.int b), .fro (.tup (wds tw)), .fro (.str letters), .fro (.int (a / 4 % 7)), .fro (.int L), .fro (.str ((List.range L.toNat).map (dg a b))), .no, .no] = .ok (.str ((if b % 4 = 3 then [45] else []) ++ ((List.range L.toNat).map (dg a b)))) := by
          have A1 : ev k57P (runF k57P n) (.sub (.tup (.cons (.c (.str [])) (.cons (.c (.str [])) (.cons (.c (.str [])) (.cons (.c (.str [45])) .nil))))) (.bin .Mod (.bi .int1 (.cons (.v 1) .nil)) (.c (.int (4))))) [.fro (.int a), .fro (.int b), .fro (.tup (wds tw)), .fro (.str letters), .fro (.int (a / 4 % 7)), .fro (.int L), .fro (.str ((List.range L.toNat).map (dg a b))), .no, .no] = .ok (.str (if b % 4 = 3 then [45] else [])) := by
            rw [← P]
            rfl
          rw [ev, A1]
          exact bD_adds z
        rw [exS, evN, Q]
        rfl
    · rw [seq_nx (e' := [.fro (.int a), .fro (.int b), .fro (.tup (wds tw)), .fro (.str letters), .fro (.int (a / 4 % 7)), .no, .no, .no, .no]) (by rw [ite_f (by simp [ev, rdF, h1])]; rfl)]
      have J : ev k57P (runF k57P n) (.m1 .join (.c (.str [])) (.lc k57f6_e1 (.one 7) (.bi .range (.cons (.bin .Mult (.v 4) (.c (.int (2)))) .nil)) (.c (.bl true)) [7])) [.fro (.int a), .fro (.int b), .fro (.tup (wds tw)), .fro (.str letters), .fro (.int (a / 4 % 7)), .no, .no, .no, .no] =
          .ok (.str ((List.range (a / 4 % 7 * 2).toNat).map (lt a b))) := by
        have C : ev k57P (runF k57P n) (.lc k57f6_e1 (.one 7) (.bi .range (.cons (.bin .Mult (.v 4) (.c (.int (2)))) .nil)) (.c (.bl true)) [7]) [.fro (.int a), .fro (.int b), .fro (.tup (wds tw)), .fro (.str letters), .fro (.int (a / 4 % 7)), .no, .no, .no, .no] =
            .ok (.lst ((List.range (a / 4 % 7 * 2).toNat).map fun k => .str [lt a b k])) := by
          refine lc_ok (d := .lst (rangeL 0 (a / 4 % 7 * 2))) (mk := fun k : Nat => .int k) (b := fun k : Nat => [.fro (.int a), .fro (.int b), .fro (.tup (wds tw)), .fro (.str letters), .fro (.int (a / 4 % 7)), .no, .no, .fro (.int k), .no]) ?_ ?_ (fun k hk => rfl) (fun k hk => ?_) (by simp; omega)
          · have : -4611686018427387904 ≤ a / 4 % 7 * 2 ∧ a / 4 % 7 * 2 < 4611686018427387904 := by omega
            simp [ev, rdF, this]
          · simp [rangeL]
          · have hk : k < (a / 4 % 7 * 2).toNat := List.mem_range.mp hk
            have m1 : binD .Mult (.int (11 * (k : Int))) (.int a) = .ok (.int (11 * (k : Int) * a)) := bD_mulr (by omega)
            have hi : 0 ≤ (b + 11 * (k : Int) * a + (k : Int)) % 36 ∧ (b + 11 * (k : Int) * a + (k : Int)) % 36 < 36 := by omega
            have hs := sD_str (l := letters) (by decide) (let_at hi)
            simp [k57f6_e1, ev, rdF, m1, hs, lt]
        rw [ev, C]
        simp only [ev, rb_ok, recvOk, if_true]
        exact join_one _ _ (by simp; omega)
      have hi : 0 ≤ b % 36 ∧ b % 36 < 36 := by omega
      have hs := sD_str (l := letters) (by decide) (let_at hi)
      generalize hw : (letters.getD (b % 36).toNat 0 :: (List.range (a / 4 % 7 * 2).toNat).map (lt a b)) = w
      have wl : 1 ≤ w.length ∧ w.length ≤ 13 := by
        rw [← hw]; simp; omega
      have w32 : w.contains 32 = false := by
        cases hq : w.contains 32 with
        | false => rfl
        | true =>
          rw [← hw] at hq
          simp only [List.contains_iff_mem, List.mem_cons, List.mem_map] at hq
          rcases hq with h | ⟨k, _, h⟩
          · exact absurd h.symm (let_ok _ (by omega))
          · exact absurd h (let_ok _ (by omega))
      have Wd : exS k57P (runF k57P n) (.setN 8 (.bin .Add (.sub (.v 3) (.bin .Mod (.bi .int1 (.cons (.v 1) .nil)) (.c (.int (36))))) (.m1 .join (.c (.str [])) (.lc k57f6_e1 (.one 7) (.bi .range (.cons (.bin .Mult (.v 4) (.c (.int (2)))) .nil)) (.c (.bl true)) [7])))) [.fro (.int a), .fro (.int b), .fro (.tup (wds tw)), .fro (.str letters), .fro (.int (a / 4 % 7)), .no, .no, .no, .no] =
          .ok (.nx [.fro (.int a), .fro (.int b), .fro (.tup (wds tw)), .fro (.str letters), .fro (.int (a / 4 % 7)), .no, .no, .no, .fro (.str w)]) := by
        have A1 : ev k57P (runF k57P n) (.sub (.v 3) (.bin .Mod (.bi .int1 (.cons (.v 1) .nil)) (.c (.int (36))))) [.fro (.int a), .fro (.int b), .fro (.tup (wds tw)), .fro (.str letters), .fro (.int (a / 4 % 7)), .no, .no, .no, .no] = .ok (.str [letters.getD (b % 36).toNat 0]) := by
          rw [← hs]
          simp [ev, rdF]
        rw [exS, evN, ev, A1, J]
        simp only [rb_ok]
        rw [bD_adds (by simp; omega), ← hw]
        rfl
      rw [seq_nx Wd]
      by_cases h9 : b % 9 = 0
      · have c1 : cutL w none (some 2) = w.take 2 := cutL_to _ (by decide)
        have c2 : cutL w (some 2) none = w.drop 2 := cutL_from _ (by decide)
        have l1 : (w.take 2).length ≤ 2 := by simp; omega
        have l2 : (w.drop 2).length ≤ 13 := by simp; omega
        have R : ev k57P (runF k57P n) (.bin .Add (.bin .Add (.slc (.o 8) .nil (.c (.int (2)))) (.c (.str [95]))) (.slc (.o 8) (.c (.int (2))) .nil)) [.fro (.int a), .fro (.int b), .fro (.tup (wds tw)), .fro (.str letters), .fro (.int (a / 4 % 7)), .no, .no, .no, .fro (.str w)] = .ok (.str (w.take 2 ++ [95] ++ w.drop 2)) := by
          have zs : ∀ x y, slcD (.str w) x y = .ok (.str (cutL w x y)) := fun x y => zD_str (by omega) x y
          have b1 := bD_adds (x := w.take 2) (y := [95]) (by simp; omega)
          have b2 := bD_adds (x := w.take 2 ++ [95]) (y := w.drop 2) (by simp; omega)
          simp [ev, rdO, zs, c1, c2, -List.take_append_drop]
          rw [b1]
          simp only [rb_ok]
          rw [b2]
          simp
        rw [seq_ret (s := .fro (.str (w.take 2 ++ [95] ++ w.drop 2))) ?_]
        · refine ⟨_, rfl, ?_⟩
          unfold wok
          simp only [Bool.and_eq_true, Bool.not_eq_true', decide_eq_true_eq]
          refine ⟨⟨?_, ?_⟩, ?_⟩
          · cases w with
            | nil => simp at wl
            | cons x r => rfl
          · have : ∀ x : List Nat, (∀ y ∈ x, y ∈ w) → x.contains 32 = false := fun x hx => by
              cases hq : x.contains 32 with
              | false => rfl
              | true =>
                have := hx 32 (by simpa using hq)
                rw [← List.contains_iff_mem] at this
                rw [this] at w32; cases w32
            rw [List.contains_append, List.contains_append, this _ fun y hy => List.mem_of_mem_take hy, this _ fun y hy => List.mem_of_mem_drop hy]
            rfl
          · simp; omega
        · rw [ite_t (by simp [ev, rdF, h9])]
          rw [seq_ret (s := .fro (.str (w.take 2 ++ [95] ++ w.drop 2))) (by rw [exS, evN, R]; rfl)]
      · rw [if_skip' (by simp [ev, rdF, h9])]
        refine ⟨w, ?_, ?_⟩
        · rfl
        · unfold wok
          rw [w32]
          cases w with
          | nil => simp at wl
          | cons x r => simp at wl ⊢; omega
end
end Pv

namespace Pv
open PySem
section
variable {n : Nat}
theorem wok_short {w : List Nat} (h : wok w = true) : w.length ≤ 1000 := by
  unfold wok at h
  simp only [Bool.and_eq_true, decide_eq_true_eq] at h
  omega
theorem num_at {l : List Int} {m : Nat} (hl : l.length = m) (hs : small l) {i : Nat} (hi : i < m) : atL (l.map D.int) (i : Int) = some (.int (l.getD i 0)) ∧ 0 ≤ l.getD i 0 ∧ l.getD i 0 < 1009 := by
  have h : i < l.length := by omega
  have e : l.getD i 0 = l[i] := by simp [List.getD, List.getElem?_eq_getElem h]
  rw [e]
  refine ⟨at_map D.int (List.getElem?_eq_getElem h), hs _ (List.getElem_mem h)⟩
theorem wd_at {l : List (List Nat)} (hl : l.all wok = true) {i : Nat} (hi : i < l.length) : ∃ w, atL (wds l) (i : Int) = some (.str w) ∧ wok w = true :=
  ⟨l[i], at_map D.str (List.getElem?_eq_getElem hi), List.all_eq_true.mp hl _ (List.getElem_mem hi)⟩
theorem lst_ret {P : Prog} {cF : Nat → List D → Res Slot} {args : Pv.X} {e : Env} {l : List D} (h : ev P cF args e = .ok (.lst l)) (hl : l.length ≤ 16777216) : exS P cF (.retN (.lst args)) e = .ok (.ret (.own l)) := by
  simp only [exS, evN, ev, h, rl_ok, rb_ok]
  rw [if_pos (show l.length ≤ line from hl)]
  rfl
theorem cons_ok {P : Prog} {cF : Nat → List D → Res Slot} {a r : Pv.X} {e : Env} {d : D} {l : List D} (h : ev P cF a e = .ok d) (h2 : ev P cF r e = .ok (.lst l)) : ev P cF (.cons a r) e = .ok (.lst (d :: l)) := by
  simp only [ev, h, h2, rb_ok, rl_ok]
theorem if_retN {P : Prog} {cF : Nat → List D → Res Slot} {c : Pv.X} {a r : S} {e : Env} {s : Slot} (h : ev P cF c e = .ok (.bl true)) (h2 : exS P cF a e = .ok (.ret s)) : exS P cF (.seq (.ite c (.seq a .skip) .skip) r) e = .ok (.ret s) :=
  seq_ret (by rw [ite_t h, seq_ret h2])
theorem formed_ok (l : List Int) (ws : List (List Nat)) (hl : l.length = 60) (hs : small l) (hw : ws.all wok = true) (hn : ws.length ≤ 100) :
    ∃ ln, runF k57P (n + 2) 11 [.lst (l.map .int), .lst (wds ws)] = .ok (.own (wds ln)) ∧ ln ≠ [] ∧ ln.all wok = true ∧ ln.length ≤ 20 := by
  rw [runF_def (show k57P.fns[11]? = some k57f11 from rfl) rfl (by decide)]
  generalize hnm : ws.filter nmS ++ [[97], [98], [99]] = nm
  generalize hfg : ws.filter nbS ++ [[48], [55], [49, 50]] = fg
  have nmo : nm.all wok = true := by
    rw [← hnm, List.all_append]
    have : (ws.filter nmS).all wok = true := List.all_eq_true.mpr fun x hx => List.all_eq_true.mp hw x (List.mem_filter.mp hx).1
    rw [this]; rfl
  have fgo : fg.all wok = true := by
    rw [← hfg, List.all_append]
    have : (ws.filter nbS).all wok = true := List.all_eq_true.mpr fun x hx => List.all_eq_true.mp hw x (List.mem_filter.mp hx).1
    rw [this]; rfl
  have nml : 3 ≤ nm.length := by rw [← hnm]; simp
  have fgl : 3 ≤ fg.length := by rw [← hfg]; simp
  have fgh : fg.length ≤ 200 := by
    rw [← hfg]
    have := List.length_filter_le nbS ws
    simp; omega
  let E0 : Env := [.fro (.lst (l.map .int)), .fro (.lst (wds ws)), .no, .no, .no, .no, .no, .no]
  let E1 : Env := [.fro (.lst (l.map .int)), .fro (.lst (wds ws)), .fro (.lst (wds nm)), .no, .no, .no, .no, .no]
  let E2 : Env := [.fro (.lst (l.map .int)), .fro (.lst (wds ws)), .fro (.lst (wds nm)), .no, .fro (.lst (wds fg)), .no, .no, .no]
  have A : exS k57P (runF k57P (n + 1)) (.set 2 (.bin .Add (.lc (.v 3) (.one 3) (.v 1) k57f11_c0 [3]) (.lst (.cons (.c (.str [97])) (.cons (.c (.str [98])) (.cons (.c (.str [99])) .nil)))))) E0 = .ok (.nx E1) := by
    have C : ev k57P (runF k57P (n + 1)) (.lc (.v 3) (.one 3) (.v 1) k57f11_c0 [3]) E0 = .ok (.lst (wds (ws.filter nmS))) := by
      refine lc_okc (d := .lst (wds ws)) (mk := .str) (b := fun c => [.fro (.lst (l.map .int)), .fro (.lst (wds ws)), .no, .fro (.str c), .no, .no, .no, .no]) rfl rfl (fun a ha => rfl) (fun a ha => ?_) (fun a ha _ => rfl) (by omega)
      exact ev_call (l := [.str a]) rfl (lname_ok a (wok_short (List.all_eq_true.mp hw a ha))) rfl
    have : ev k57P (runF k57P (n + 1)) (.lst (.cons (.c (.str [97])) (.cons (.c (.str [98])) (.cons (.c (.str [99])) .nil)))) E0 = .ok (.lst (wds [[97], [98], [99]])) := rfl
    rw [exS, ev, C, this]
    simp only [rb_ok]
    have hq := List.length_filter_le nmS ws
    rw [bD_addl (by simp; omega), ← List.map_append, hnm]
    rfl
  have B : exS k57P (runF k57P (n + 1)) (.set 4 (.bin .Add (.lc (.v 3) (.one 3) (.v 1) k57f11_c1 [3]) (.lst (.cons (.c (.str [48])) (.cons (.c (.str [55])) (.cons (.c (.str [49, 50])) .nil)))))) E1 = .ok (.nx E2) := by
    have C : ev k57P (runF k57P (n + 1)) (.lc (.v 3) (.one 3) (.v 1) k57f11_c1 [3]) E1 = .ok (.lst (wds (ws.filter nbS))) := by
      refine lc_okc (d := .lst (wds ws)) (mk := .str) (b := fun c => [.fro (.lst (l.map .int)), .fro (.lst (wds ws)), .fro (.lst (wds nm)), .fro (.str c), .no, .no, .no, .no]) rfl rfl (fun a ha => rfl) (fun a ha => ?_) (fun a ha _ => rfl) (by omega)
      exact ev_call (l := [.str a]) rfl (lnumber_ok a (wok_short (List.all_eq_true.mp hw a ha))) rfl
    have : ev k57P (runF k57P (n + 1)) (.lst (.cons (.c (.str [48])) (.cons (.c (.str [55])) (.cons (.c (.str [49, 50])) .nil)))) E1 = .ok (.lst (wds [[48], [55], [49, 50]])) := rfl
    rw [exS, ev, C, this]
    simp only [rb_ok]
    have hq := List.length_filter_le nbS ws
    rw [bD_addl (by simp; omega), ← List.map_append, hfg]
    rfl
  obtain ⟨a43, b43, c43⟩ := num_at hl hs (show 43 < 60 by decide)
  obtain ⟨a42, b42, c42⟩ := num_at hl hs (show 42 < 60 by decide)
  obtain ⟨a44, b44, c44⟩ := num_at hl hs (show 44 < 60 by decide)
  generalize l.getD 43 0 = z43 at *
  generalize l.getD 42 0 = z42 at *
  generalize l.getD 44 0 = z44 at *
  have s43 : subD (.lst (l.map .int)) (.int 43) = .ok (.int z43) := sD_lst a43
  have s42 : subD (.lst (l.map .int)) (.int 42) = .ok (.int z42) := sD_lst a42
  have s44 : subD (.lst (l.map .int)) (.int 44) = .ok (.int z44) := sD_lst a44
  show ∃ ln, (exS k57P (runF k57P (n + 1)) k57f11.body E0).bind endS = _ ∧ _
  unfold k57f11
  rw [seq_nx A, seq_nx B]
  rw [seq_nx (e' := [.fro (.lst (l.map .int)), .fro (.lst (wds ws)), .fro (.lst (wds nm)), .no, .fro (.lst (wds fg)), .fro (.int (z43 % 8)), .no, .no]) (by simp [exS, ev, rdF, E2, s43])]
  rw [seq_nx (e' := [.fro (.lst (l.map .int)), .fro (.lst (wds ws)), .fro (.lst (wds nm)), .no, .fro (.lst (wds fg)), .fro (.int (z43 % 8)), .fro (.int (z42 % 12)), .no]) (by simp [exS, ev, rdF, s42])]
  generalize hm : z43 % 8 = many
  generalize hk : z42 % 12 = kind
  have hm2 : 0 ≤ many ∧ many < 8 := by omega
  generalize hE : ([.fro (.lst (l.map .int)), .fro (.lst (wds ws)), .fro (.lst (wds nm)), .no, .fro (.lst (wds fg)), .fro (.int many), .fro (.int kind), .no] : Env) = E
  have v2 : ∀ cF, ev k57P cF (.v 2) E = .ok (.lst (wds nm)) := fun cF => by subst hE; rfl
  have v4 : ∀ cF, ev k57P cF (.v 4) E = .ok (.lst (wds fg)) := fun cF => by subst hE; rfl
  have v5 : ∀ cF, ev k57P cF (.v 5) E = .ok (.int many) := fun cF => by subst hE; rfl
  have v6 : ∀ cF, ev k57P cF (.v 6) E = .ok (.int kind) := fun cF => by subst hE; rfl
  obtain ⟨w0, p0, o0⟩ := wd_at nmo (show 0 < nm.length by omega)
  obtain ⟨w1, p1, o1⟩ := wd_at nmo (show 1 < nm.length by omega)
  obtain ⟨w2, p2, o2⟩ := wd_at nmo (show 2 < nm.length by omega)
  obtain ⟨f0, q0, r0⟩ := wd_at fgo (show 0 < fg.length by omega)
  obtain ⟨f1, q1, r1⟩ := wd_at fgo (show 1 < fg.length by omega)
  have N0 : ∀ cF, ev k57P cF (.sub (.v 2) (.c (.int (0)))) E = .ok (.str w0) := fun cF => by rw [ev, v2]; exact sD_lst p0
  have N1 : ∀ cF, ev k57P cF (.sub (.v 2) (.c (.int (1)))) E = .ok (.str w1) := fun cF => by rw [ev, v2]; exact sD_lst p1
  have N2 : ∀ cF, ev k57P cF (.sub (.v 2) (.c (.int (2)))) E = .ok (.str w2) := fun cF => by rw [ev, v2]; exact sD_lst p2
  have F0 : ∀ cF, ev k57P cF (.sub (.v 4) (.c (.int (0)))) E = .ok (.str f0) := fun cF => by rw [ev, v4]; exact sD_lst q0
  have F1 : ∀ cF, ev k57P cF (.sub (.v 4) (.c (.int (1)))) E = .ok (.str f1) := fun cF => by rw [ev, v4]; exact sD_lst q1
  have lt : ∀ cF (k : Int), ev k57P cF (.cmp .Lt (.v 6) (.c (.int k))) E = .ok (.bl (decide (kind < k))) := fun cF k => by rw [ev, v6]; rfl
  have eq : ∀ cF (k : Int), ev k57P cF (.cmp .Eq (.v 6) (.c (.int k))) E = .ok (.bl (kind == k)) := fun cF k => by rw [ev, v6]; rfl
  have M5 : ∀ cF, ev k57P cF (.bin .Mod (.v 5) (.c (.int (5)))) E = .ok (.int (many % 5)) := fun cF => by rw [ev, v5]; simp [ev]
  have nilE : ∀ cF, ev k57P cF .nil E = .ok (.lst []) := fun cF => rfl
  have h5 : 0 ≤ many % 5 ∧ many % 5 < 5 := by omega
  by_cases c1 : kind < 3
  · obtain ⟨w, hw1, ow⟩ := pick (l := grpA) (by decide) (i := many % 5) h5
    have G : ∀ cF, ev k57P cF (.sub (.tup (.cons (.c (.str [97, 110, 115, 119, 101, 114, 115])) (.cons (.c (.str [115, 99, 104, 101, 109, 101, 115])) (.cons (.c (.str [113, 117, 101, 115, 116, 105, 111, 110, 115])) (.cons (.c (.str [117, 110, 100, 111])) (.cons (.c (.str [114, 101, 100, 111])) .nil)))))) (.bin .Mod (.v 5) (.c (.int (5))))) E = .ok (.str w) := fun cF => by
      rw [ev, M5]
      exact sD_tup hw1
    rw [if_retN (s := .own (wds [w])) ((lt _ 3).trans (by rw [decide_eq_true c1])) (lst_ret (cons_ok (G _) (nilE _)) (by simp))]
    exact ⟨[w], rfl, by simp, by simp [ow], by simp⟩
  rw [if_skip ((lt _ 3).trans (by rw [decide_eq_false c1]))]
  by_cases c2 : kind < 5
  · obtain ⟨w, hw1, ow⟩ := pick (l := grpB) (by decide) (i := many % 5) h5
    have G : ∀ cF, ev k57P cF (.sub (.tup (.cons (.c (.str [115, 99, 104, 101, 109, 101])) (.cons (.c (.str [114, 101, 109, 111, 118, 101])) (.cons (.c (.str [100, 114, 111, 112])) (.cons (.c (.str [97, 110, 115, 119, 101, 114])) (.cons (.c (.str [112, 114, 105, 110, 116])) .nil)))))) (.bin .Mod (.v 5) (.c (.int (5))))) E = .ok (.str w) := fun cF => by
      rw [ev, M5]
      exact sD_tup hw1
    rw [if_retN (s := .own (wds [w, w0])) ((lt _ 5).trans (by rw [decide_eq_true c2])) (lst_ret (cons_ok (G _) (cons_ok (N0 _) (nilE _))) (by simp))]
    exact ⟨[w, w0], rfl, by simp, by simp [ow, o0], by simp⟩
  rw [if_skip ((lt _ 5).trans (by rw [decide_eq_false c2]))]
  have eqf : ∀ k, kind ≠ k → (kind == k) = false := fun k h => by simpa using h
  by_cases c3 : kind = 5
  · rw [if_retN (s := .own (wds [[112, 114, 111, 100, 117, 99, 116], w0, w1, w2])) ((eq _ 5).trans (by rw [c3]; rfl)) (lst_ret (cons_ok (d := .str [112, 114, 111, 100, 117, 99, 116]) rfl (cons_ok (N0 _) (cons_ok (N1 _) (cons_ok (N2 _) (nilE _))))) (by simp))]
    exact ⟨[[112, 114, 111, 100, 117, 99, 116], w0, w1, w2], rfl, by simp, by simp [o0, o1, o2]; decide, by simp⟩
  rw [if_skip ((eq _ 5).trans (by rw [eqf _ c3]))]
  by_cases c4 : kind = 6
  · rw [if_retN (s := .own (wds [[108, 105, 115, 116], w0, w1])) ((eq _ 6).trans (by rw [c4]; rfl)) (lst_ret (cons_ok (d := .str [108, 105, 115, 116]) rfl (cons_ok (N0 _) (cons_ok (N1 _) (nilE _)))) (by simp))]
    exact ⟨[[108, 105, 115, 116], w0, w1], rfl, by simp, by simp [o0, o1]; decide, by simp⟩
  rw [if_skip ((eq _ 6).trans (by rw [eqf _ c4]))]
  by_cases c5 : kind = 7
  · rw [if_retN (s := .own (wds [[97, 115, 107], w0, [112, 111, 105, 110, 116, 115], w1])) ((eq _ 7).trans (by rw [c5]; rfl)) (lst_ret (cons_ok (d := .str [97, 115, 107]) rfl (cons_ok (N0 _) (cons_ok (d := .str [112, 111, 105, 110, 116, 115]) rfl (cons_ok (N1 _) (nilE _))))) (by simp))]
    exact ⟨[[97, 115, 107], w0, [112, 111, 105, 110, 116, 115], w1], rfl, by simp, by simp [o0, o1]; decide, by simp⟩
  rw [if_skip ((eq _ 7).trans (by rw [eqf _ c5]))]
  by_cases c6 : kind = 8
  · rw [if_retN (s := .own (wds [[97, 115, 107], w0, [107, 105, 110, 100], w1, f0, f1])) ((eq _ 8).trans (by rw [c6]; rfl)) (lst_ret (cons_ok (d := .str [97, 115, 107]) rfl (cons_ok (N0 _) (cons_ok (d := .str [107, 105, 110, 100]) rfl (cons_ok (N1 _) (cons_ok (F0 _) (cons_ok (F1 _) (nilE _))))))) (by simp))]
    exact ⟨[[97, 115, 107], w0, [107, 105, 110, 100], w1, f0, f1], rfl, by simp, by simp [o0, o1, r0, r1]; decide, by simp⟩
  rw [if_skip ((eq _ 8).trans (by rw [eqf _ c6]))]
  obtain ⟨w, hw1, ow⟩ := pick (l := grpC) (by decide) (i := z44 % 2) (by show 0 ≤ z44 % 2 ∧ z44 % 2 < 2; omega)
  have G : ∀ cF, ev k57P cF (.sub (.tup (.cons (.c (.str [103, 114, 101, 97, 116, 101, 115, 116])) (.cons (.c (.str [98, 111, 117, 110, 100])) .nil))) (.bin .Mod (.bi .int1 (.cons (.sub (.v 0) (.c (.int (44)))) .nil)) (.c (.int (2))))) E = .ok (.str w) := fun cF => by
    have : ev k57P cF (.bin .Mod (.bi .int1 (.cons (.sub (.v 0) (.c (.int (44)))) .nil)) (.c (.int (2)))) E = .ok (.int (z44 % 2)) := by subst hE; simp [ev, rdF, s44]
    rw [ev, this]
    exact sD_tup hw1
  have C : ev k57P (runF k57P (n + 1)) (.lc k57f11_e0 (.one 7) (.bi .range (.cons (.v 5) .nil)) (.c (.bl true)) [7]) E = .ok (.lst (wds ((List.range many.toNat).map fun k => fg.getD (k % fg.length) []))) := by
    show _ = Res.ok (D.lst (List.map D.str ((List.range many.toNat).map fun k => fg.getD (k % fg.length) [])))
    rw [List.map_map]
    subst hE
    refine lc_ok (d := .lst (rangeL 0 many)) (mk := fun k : Nat => .int k) (b := fun k : Nat => [.fro (.lst (l.map .int)), .fro (.lst (wds ws)), .fro (.lst (wds nm)), .no, .fro (.lst (wds fg)), .fro (.int many), .fro (.int kind), .fro (.int k)]) ?_ ?_ (fun k hk => rfl) (fun k hk => ?_) (by simp; omega)
    · have : -4611686018427387904 ≤ many ∧ many < 4611686018427387904 := by omega
      simp [ev, rdF, this]
    · simp [rangeL]
    · have hkm : k % fg.length < fg.length := Nat.mod_lt _ (by omega)
      have hb : binD .Mod (.int (k : Int)) (.int (fg.length : Int)) = .ok (.int ((k % fg.length : Nat) : Int)) := by
        rw [bD_mod (by omega)]
        simp
      have hs : subD (.lst (wds fg)) (.int ((k % fg.length : Nat) : Int)) = .ok (.str (fg.getD (k % fg.length) [])) := by
        refine sD_lst (at_map D.str ?_)
        simp [List.getD, List.getElem?_eq_getElem hkm]
      rw [k57f11_e0, ev]
      simp only [ev, rdF, List.getElem?_cons_succ, List.getElem?_cons_zero, rb_ok, rl_ok, biI_other (show BI.len ≠ .range by decide), iD_lenl, List.length_map, hb, hs]
      rfl
  have D1 : ev k57P (runF k57P (n + 1)) (.lst (.cons (.c (.str [97, 115, 107])) (.cons (.sub (.v 2) (.c (.int (0)))) (.cons (.sub (.tup (.cons (.c (.str [103, 114, 101, 97, 116, 101, 115, 116])) (.cons (.c (.str [98, 111, 117, 110, 100])) .nil))) (.bin .Mod (.bi .int1 (.cons (.sub (.v 0) (.c (.int (44)))) .nil)) (.c (.int (2))))) (.cons (.sub (.v 2) (.c (.int (1)))) .nil))))) E = .ok (.lst (wds [[97, 115, 107], w0, w, w1])) := by
    rw [ev, cons_ok (d := .str [97, 115, 107]) rfl (cons_ok (N0 _) (cons_ok (G _) (cons_ok (N1 _) (nilE _))))]
    rfl
  rw [seq_ret (s := .own (wds ([[97, 115, 107], w0, w, w1] ++ ((List.range many.toNat).map fun k => fg.getD (k % fg.length) [])))) ?_]
  · refine ⟨_, rfl, by simp, ?_, by simp; omega⟩
    rw [List.all_append, Bool.and_eq_true]
    refine ⟨by simp [o0, ow, o1]; decide, List.all_eq_true.mpr fun x hx => ?_⟩
    obtain ⟨k, _, rfl⟩ := List.mem_map.mp hx
    have hkm : k % fg.length < fg.length := Nat.mod_lt _ (by omega)
    have : fg.getD (k % fg.length) [] = fg[k % fg.length] := by simp [List.getD, List.getElem?_eq_getElem hkm]
    rw [this]
    exact List.all_eq_true.mp fgo _ (List.getElem_mem hkm)
  · rw [exS, evN, ev, D1, C]
    simp only [rb_ok]
    rw [bD_addl (by simp; omega), ← List.map_append]
    rfl
end
end Pv

namespace Pv
open PySem
section
variable {n : Nat}
theorem compL_ex {f : D → Res (Option D)} {α : Type} (mk : α → D) (p : List Nat → Bool) : ∀ {items : List α}, (∀ a ∈ items, ∃ y, f (mk a) = .ok (some (.str y)) ∧ p y = true) → ∃ l, compL f (items.map mk) = .ok (wds l) ∧ l.length = items.length ∧ l.all p = true
  | [], _ => ⟨[], rfl, rfl, rfl⟩
  | a :: as, h => by
    obtain ⟨y, hy, py⟩ := h a List.mem_cons_self
    obtain ⟨l, hl, h2, h3⟩ := compL_ex mk p (items := as) fun b hb => h b (List.mem_cons_of_mem _ hb)
    refine ⟨y :: l, ?_, by simp [h2], by simp [py]; simpa using h3⟩
    simp only [List.map_cons, compL, hy, rb_ok, hl, consO]
/-! parts of a text -/
theorem sp_app {c : Nat} {w : List Nat} (hw : c ∉ w) : ∀ {t : List Nat} {xs : List (List Nat)} {a : List Nat}, splitOn c t = xs ++ [a] → splitOn c (t ++ w) = xs ++ [a ++ w] := by
  have base : ∀ w : List Nat, c ∉ w → splitOn c w = [w] := by
    intro w
    induction w with
    | nil => intro _; rfl
    | cons x r ih =>
      intro h
      simp only [List.mem_cons, not_or] at h
      have : (x == c) = false := by simpa using fun q => h.1 q.symm
      simp only [splitOn, this, ih h.2]
      rfl
  intro t
  induction t with
  | nil =>
    intro xs a h
    have h : [([] : List Nat)] = xs ++ [a] := h
    cases xs with
    | nil => simp at h; subst h; simpa using base w hw
    | cons x r => simp at h
  | cons x r ih =>
    intro xs a h
    simp only [splitOn] at h
    simp only [List.cons_append, splitOn]
    cases hx : (x == c) with
    | true =>
      rw [hx] at h
      simp only [if_true] at h ⊢
      cases xs with
      | nil =>
        have : splitOn c r = [] := by simp at h; exact h.2
        exact absurd this (by cases r with | nil => simp [splitOn] | cons y s => simp only [splitOn]; cases (y == c) <;> (try simp) <;> cases splitOn c s <;> simp)
      | cons x' xs =>
        simp at h
        obtain ⟨h1, h2⟩ := h
        rw [← h1, ih h2]
        rfl
    | false =>
      rw [hx] at h
      simp only [Bool.false_eq_true, if_false] at h ⊢
      cases hr : splitOn c r with
      | nil => exact absurd hr (by cases r with | nil => simp [splitOn] | cons y s => simp only [splitOn]; cases (y == c) <;> (try simp) <;> cases splitOn c s <;> simp)
      | cons b bs =>
        rw [hr] at h
        have h : (x :: b) :: bs = xs ++ [a] := h
        cases xs with
        | nil =>
          simp at h
          obtain ⟨h1, h2⟩ := h
          subst h2
          rw [ih (xs := []) (a := b) hr]
          rw [← h1]
          rfl
        | cons x' xs =>
          simp at h
          obtain ⟨h1, h2⟩ := h
          rw [ih (xs := b :: xs) (a := a) (by rw [hr, h2]; rfl)]
          rw [← h1]
          rfl
theorem sp_sep {c : Nat} : ∀ {t : List Nat}, splitOn c (t ++ [c]) = splitOn c t ++ [[]]
  | [] => by simp [splitOn]
  | x :: r => by
    simp only [List.cons_append, splitOn, sp_sep (t := r)]
    cases (x == c) with
    | true => rfl
    | false =>
      simp only [Bool.false_eq_true, if_false]
      cases hr : splitOn c r with
      | nil => exact absurd hr (by cases r with | nil => simp [splitOn] | cons y s => simp only [splitOn]; cases (y == c) <;> (try simp) <;> cases splitOn c s <;> simp)
      | cons a as => rfl
def nf (t : List Nat) : List (List Nat) := (splitOn 32 t).filter fun w => !(w == [])
theorem nf_rep (t : List Nat) : ∀ k, nf (t ++ List.replicate k 32) = nf t ∧ (0 < k → ∃ ys, splitOn 32 (t ++ List.replicate k 32) = ys ++ [[]])
  | 0 => ⟨by simp, fun h => by omega⟩
  | k + 1 => by
    have e : t ++ List.replicate (k + 1) 32 = (t ++ List.replicate k 32) ++ [32] := by
      rw [List.replicate_succ', List.append_assoc]
    obtain ⟨h1, _⟩ := nf_rep t k
    rw [e]
    refine ⟨?_, fun _ => ⟨_, sp_sep⟩⟩
    unfold nf at h1 ⊢
    rw [sp_sep, List.filter_append, h1]
    simp
theorem nf_word {t w : List Nat} {ys : List (List Nat)} (h : splitOn 32 t = ys ++ [[]]) (hw : wok w = true) : nf (t ++ w) = nf t ++ [w] := by
  unfold wok at hw
  simp only [Bool.and_eq_true, Bool.not_eq_true', decide_eq_true_eq] at hw
  obtain ⟨⟨h1, h2⟩, _⟩ := hw
  have h32 : 32 ∉ w := by intro q; rw [← List.contains_iff_mem] at q; rw [q] at h2; cases h2
  unfold nf
  rw [sp_app h32 h, h, List.filter_append, List.filter_append]
  cases w with
  | nil => simp at h1
  | cons x r => simp
theorem flat_rep (k : Nat) : (List.replicate k [32]).flatten = List.replicate k 32 := by
  induction k with
  | zero => rfl
  | succ k ih => simp [List.replicate_succ, ih]
theorem spaces (cF : Nat → List D → Res Slot) (e : Env) (x : Pv.X) {k : Int} (h : ev k57P cF x e = .ok (.int k)) (h0 : 0 ≤ k ∧ k ≤ 100) : ev k57P cF (.bin .Mult (.c (.str [32])) x) e = .ok (.str (List.replicate k.toNat 32)) := by
  rw [ev, h]
  simp only [ev, rb_ok]
  rw [bD_reps (by simp; omega), flat_rep]
/-- what stands in the slot of the words -/
def isW (s : Slot) (W : List (List Nat)) : Prop := s = .own (wds W) ∨ s = .fro (.lst (wds W))
theorem isW_rd {s : Slot} {W : List (List Nat)} (h : isW s W) {e : Env} (he : e[2]? = some s) (cF : Nat → List D → Res Slot) : ev k57P cF (.o 2) e = .ok (.lst (wds W)) := by
  simp only [ev, rdO, he]
  rcases h with rfl | rfl <;> rfl
theorem loop_ok (l : List Int) (W : List (List Nat)) (hl : l.length = 60) (hs : small l) (hW : W.all wok = true) (hWl : W.length ≤ 21) (hne : W ≠ []) (v0 s2 s3 s4 s5 : Slot) (h2 : isW s2 W) (t : List Nat) (ht : nf t = []) (hc : ∃ ys, splitOn 32 t = ys ++ [[]]) (htl : t.length ≤ 10) :
    ∃ s3' t', exS k57P (runF k57P n) (.for_ (.one 3) (.bi .range (.cons (.bi .len (.cons (.o 2) .nil)) .nil)) k57f12_b0) [v0, .fro (.lst (l.map .int)), s2, s3, s4, s5, .fro (.str t), .no, .no, .no] = .ok (.nx [v0, .fro (.lst (l.map .int)), s2, s3', s4, s5, .fro (.str t'), .no, .no, .no]) ∧ nf t' = W ∧ t'.length ≤ 4000 := by
  have R : ev k57P (runF k57P n) (.bi .range (.cons (.bi .len (.cons (.o 2) .nil)) .nil)) [v0, .fro (.lst (l.map .int)), s2, s3, s4, s5, .fro (.str t), .no, .no, .no] = .ok (.lst (rangeL 0 W.length)) := by
    have := isW_rd h2 (e := [v0, .fro (.lst (l.map .int)), s2, s3, s4, s5, .fro (.str t), .no, .no, .no]) rfl (runF k57P n)
    have hz : -4611686018427387904 ≤ (W.length : Int) ∧ (W.length : Int) < 4611686018427387904 := by omega
    exact ev_range1 ((ev_len this).trans (by rw [List.length_map])) hz
  obtain ⟨a48, b48, c48⟩ := num_at hl hs (show 48 < 60 by decide)
  obtain ⟨a49, b49, c49⟩ := num_at hl hs (show 49 < 60 by decide)
  generalize l.getD 48 0 = z48 at *
  generalize l.getD 49 0 = z49 at *
  have s48 : subD (.lst (l.map .int)) (.int 48) = .ok (.int z48) := sD_lst a48
  have s49 : subD (.lst (l.map .int)) (.int 49) = .ok (.int z49) := sD_lst a49
  obtain ⟨e', q, s3', t', rfl, hnf, hlen, _⟩ := forL_inv (f := fun d e => exS k57P (runF k57P n) k57f12_b0 (e.set 3 (.fro d))) (items := rangeL 0 W.length) (e := [v0, .fro (.lst (l.map .int)), s2, s3, s4, s5, .fro (.str t), .no, .no, .no])
    (fun i e => ∃ s3 t, e = [v0, .fro (.lst (l.map .int)), s2, s3, s4, s5, .fro (.str t), .no, .no, .no] ∧ nf t = W.take i ∧ t.length ≤ 10 + i * 150 ∧ (i < W.length → ∃ ys, splitOn 32 t = ys ++ [[]])) ⟨s3, t, rfl, ht, by omega, fun _ => hc⟩ (by
    rintro i d e hd ⟨s3, t, rfl, hnf, hlen, hcl⟩
    obtain ⟨rfl, hi⟩ := range_get hd
    have hi : i < W.length := by omega
    obtain ⟨ys, hys⟩ := hcl hi
    have wo : wok W[i] = true := List.all_eq_true.mp hW _ (List.getElem_mem hi)
    have wl : W[i].length ≤ 100 := by
      unfold wok at wo
      simp only [Bool.and_eq_true, decide_eq_true_eq] at wo
      exact wo.2
    have tl : t.length ≤ 4000 := by omega
    let E1 : List Nat → Env := fun t => [v0, .fro (.lst (l.map .int)), s2, .fro (.int i), s4, s5, .fro (.str t), .no, .no, .no]
    have A : exS k57P (runF k57P n) (.set 6 (.bin .Add (.v 6) (.sub (.o 2) (.v 3)))) (E1 t) = .ok (.nx (E1 (t ++ W[i]))) := by
      have := isW_rd h2 (e := E1 t) rfl (runF k57P n)
      have hs := sD_lst (at_map D.str (List.getElem?_eq_getElem hi))
      exact set_ok (ev_bin (x := .str t) rfl (ev_sub this (y := .int i) rfl hs) (bD_adds (by omega)))
    have NF : nf (t ++ W[i]) = W.take (i + 1) := by
      rw [nf_word hys wo, hnf, List.take_add_one, List.getElem?_eq_getElem hi]
      rfl
    have T : ev k57P (runF k57P n) (.cmp .Lt (.bin .Add (.v 3) (.c (.int (1)))) (.bi .len (.cons (.o 2) .nil))) (E1 (t ++ W[i])) = .ok (.bl (decide (i + 1 < W.length))) := by
      have := isW_rd h2 (e := E1 (t ++ W[i])) rfl (runF k57P n)
      refine ev_cmp (ev_bin (x := .int i) rfl rfl rfl) (ev_len this) ?_
      rw [cD_lt, List.length_map]
      congr 2
      by_cases q : i + 1 < W.length
      · rw [decide_eq_true q, decide_eq_true (by omega)]
      · rw [decide_eq_false q, decide_eq_false (by omega)]
    show ∃ e', (exS k57P (runF k57P n) k57f12_b0 (E1 t) = _ ∨ _) ∧ _
    unfold k57f12_b0
    rw [seq_nx A]
    by_cases hq : i + 1 < W.length
    · rw [decide_eq_true hq] at T
      let j : Int := 1 + (z48 + i * z49) % 3
      have hj : 1 ≤ j ∧ j ≤ 3 := by show 1 ≤ 1 + (z48 + i * z49) % 3 ∧ 1 + (z48 + i * z49) % 3 ≤ 3; omega
      have S1 := spaces (runF k57P n) (E1 (t ++ W[i])) (.bin .Add (.c (.int (1))) (.bin .Mod (.bi .int1 (.cons (.bin .Add (.sub (.v 1) (.c (.int (48)))) (.bin .Mult (.v 3) (.sub (.v 1) (.c (.int (49)))))) .nil)) (.c (.int (3))))) (k := j) (by
        exact ev_bin rfl (ev_mod (ev_bin (ev_sub (x := .lst (l.map .int)) rfl rfl s48) (ev_bin (x := .int i) rfl (ev_sub (x := .lst (l.map .int)) rfl rfl s49) (bD_mulr (by omega))) rfl) (by decide)) rfl) (by omega)
      have B : exS k57P (runF k57P n) (.set 6 (.bin .Add (.v 6) (.bin .Mult (.c (.str [32])) (.bin .Add (.c (.int (1))) (.bin .Mod (.bi .int1 (.cons (.bin .Add (.sub (.v 1) (.c (.int (48)))) (.bin .Mult (.v 3) (.sub (.v 1) (.c (.int (49)))))) .nil)) (.c (.int (3)))))))) (E1 (t ++ W[i])) = .ok (.nx (E1 (t ++ W[i] ++ List.replicate j.toNat 32))) := by
        exact set_ok (ev_bin (x := .str (t ++ W[i])) rfl S1 (bD_adds (by simp; omega)))
      rw [seq_nx (e' := E1 (t ++ W[i] ++ List.replicate j.toNat 32)) (by rw [ite_t T, seq_nx B]; rfl)]
      obtain ⟨n1, n2⟩ := nf_rep (t ++ W[i]) j.toNat
      exact ⟨_, .inl rfl, .fro (.int i), _, rfl, by rw [n1, NF], by simp; omega, fun _ => n2 (by omega)⟩
    · rw [decide_eq_false hq] at T
      rw [if_skip' T]
      exact ⟨_, .inl rfl, .fro (.int i), _, rfl, NF, by simp; omega, fun h => absurd h hq⟩)
  refine ⟨s3', t', for_nx R rfl q, ?_, ?_⟩
  · rw [hnf, rangeL_len]
    refine List.take_of_length_le (by omega)
  · rw [rangeL_len] at hlen
    have : ((W.length : Int) - 0).toNat = W.length := by omega
    rw [this] at hlen
    omega
end
end Pv

namespace Pv
open PySem
section
variable {n : Nat}
theorem pick_small {l : List Int} (hl : l.length = 60) (hs : small l) (k : Int) (hk : 0 ≤ k ∧ k < 60) : ∃ z, subD (.lst (l.map .int)) (.int k) = .ok (.int z) ∧ 0 ≤ z ∧ z < 1009 := by
  obtain ⟨i, rfl⟩ := Int.eq_ofNat_of_zero_le hk.1
  exact ⟨l.getD i 0, sD_lst (num_at hl hs (show i < 60 by omega)).1, (num_at hl hs (show i < 60 by omega)).2⟩
theorem eqvA_self (W : List (List Nat)) : eqvA (wds W) (wds W) = true := by rw [eq_strs]; simp
theorem ne_self (W : List (List Nat)) : cmpD .NotEq (.lst (wds W)) (.lst (wds W)) = .ok (.bl false) := by
  rw [cD_neF (fl_strs W) (fl_strs W)]
  simp only [D.eqv, eqvA_self]
  rfl
theorem eq_self (W : List (List Nat)) : cmpD .Eq (.lst (wds W)) (.lst (wds W)) = .ok (.bl true) := by
  rw [cD_eqF (fl_strs W) (fl_strs W)]
  simp only [D.eqv, eqvA_self]
theorem end_ok (l : List Int) (W : List (List Nat)) (hl : l.length = 60) (hs : small l) (hW : W.all wok = true) (hWl : W.length ≤ 21) (hne : W ≠ []) (v0 s2 s3 s4 s5 : Slot) (h2 : isW s2 W) :
    exS k57P (runF k57P (n + 5)) (.seq (.set 6 (.bin .Mult (.c (.str [32])) (.bin .Mod (.bi .int1 (.cons (.sub (.v 1) (.c (.int (47)))) .nil)) (.c (.int (3)))))) (.seq (.for_ (.one 3) (.bi .range (.cons (.bi .len (.cons (.o 2) .nil)) .nil)) k57f12_b0) (.seq (.set 6 (.bin .Add (.v 6) (.bin .Mult (.c (.str [32])) (.bin .Mod (.bi .int1 (.cons (.sub (.v 1) (.c (.int (50)))) .nil)) (.c (.int (3))))))) (.seq (.set 7 (.call 2 (.cons (.v 6) .nil))) (.seq (.ite (.or (.not (.bi .isList (.cons (.v 7) .nil))) (.or (.cmp .NotEq (.v 7) (.o 2)) (.cmp .NotEq (.call 2 (.cons (.bin .Mult (.c (.str [32])) (.bin .Mod (.bi .int1 (.cons (.sub (.v 1) (.c (.int (51)))) .nil)) (.c (.int (4))))) .nil)) (.lst .nil)))) (.seq (.ret (.c (.bl false))) .skip) .skip) (.seq (.ite (.cmp .NotEq (.call 2 (.cons (.c (.str [97, 9, 98, 32, 9])) .nil)) (.lst (.cons (.c (.str [97, 9, 98])) (.cons (.c (.str [9])) .nil)))) (.seq (.ret (.c (.bl false))) .skip) .skip) (.seq (.set 8 (.bi .list (.cons (.o 2) .nil))) (.seq (.set 9 (.call 3 (.cons (.v 8) .nil))) (.seq (.frz 2) (.seq (.ret (.and (.bi .isBool (.cons (.v 9) .nil)) (.and (.cmp .Eq (.v 9) (.call 10 (.cons (.v 2) .nil))) (.cmp .Eq (.v 8) (.o 2))))) .skip))))))))))
      [v0, .fro (.lst (l.map .int)), s2, s3, s4, s5, .no, .no, .no, .no] = .ok (.ret (.fro (.bl true))) := by
  obtain ⟨z47, p47, r47⟩ := pick_small hl hs 47 (by decide)
  obtain ⟨z50, p50, r50⟩ := pick_small hl hs 50 (by decide)
  obtain ⟨z51, p51, r51⟩ := pick_small hl hs 51 (by decide)
  have sp : ∀ (e : Env) (i m z : Int), rdF e 1 = .ok (.lst (l.map .int)) → subD (.lst (l.map .int)) (.int i) = .ok (.int z) → 0 < m ∧ m ≤ 10 → ev k57P (runF k57P (n + 5)) (.bin .Mult (.c (.str [32])) (.bin .Mod (.bi .int1 (.cons (.sub (.v 1) (.c (.int i))) .nil)) (.c (.int m)))) e = .ok (.str (List.replicate (z % m).toNat 32)) := fun e i m z h1 hz hm =>
    spaces _ _ _ (ev_mod (ev_sub h1 rfl hz) hm.1) ⟨Int.emod_nonneg _ (by omega), by have := Int.emod_lt_of_pos z hm.1; omega⟩
  have m3 : ∀ z : Int, 0 ≤ z % 3 ∧ z % 3 < 3 := fun z => by omega
  have m4 : ∀ z : Int, 0 ≤ z % 4 ∧ z % 4 < 4 := fun z => by omega
  -- the spaces ahead
  rw [seq_nx (set_ok (sp _ 47 3 z47 rfl p47 (by decide)))]
  have n0 : nf [] = [] := rfl
  have a1 := nf_rep [] (z47 % 3).toNat
  rw [List.nil_append] at a1
  have hc : ∃ ys, splitOn 32 (List.replicate (z47 % 3).toNat 32) = ys ++ [[]] := by
    by_cases h : 0 < (z47 % 3).toNat
    · exact a1.2 h
    · have : (z47 % 3).toNat = 0 := by omega
      rw [this]; exact ⟨[], rfl⟩
  obtain ⟨s3', t', q, nft, tl⟩ := loop_ok (n := n + 5) l W hl hs hW hWl hne v0 s2 s3 s4 s5 h2 (List.replicate (z47 % 3).toNat 32) (a1.1.trans n0) hc (by have := m3 z47; simp; omega)
  rw [seq_nx (show exS k57P (runF k57P (n + 5)) _ (List.set _ 6 _) = _ from q)]
  -- the spaces behind
  have S2 := sp [v0, .fro (.lst (l.map .int)), s2, s3', s4, s5, .fro (.str t'), .no, .no, .no] 50 3 z50 rfl p50 (by decide)
  have b3 := m3 z50
  rw [seq_nx (set_ok (ev_bin (x := .str t') rfl S2 (bD_adds (by simp; omega))))]
  generalize hT : t' ++ List.replicate (z50 % 3).toNat 32 = T
  have nfT : nf T = W := by rw [← hT, (nf_rep t' _).1, nft]
  have Tl : T.length + 2 ≤ 16777216 := by rw [← hT]; simp; omega
  -- split_words
  let E6 : Env := [v0, .fro (.lst (l.map .int)), s2, s3', s4, s5, .fro (.str T), .no, .no, .no]
  let E7 : Env := [v0, .fro (.lst (l.map .int)), s2, s3', s4, s5, .fro (.str T), .fro (.lst (wds W)), .no, .no]
  have C2 : ∀ (e : Env) (x : Pv.X) (u : List Nat), ev k57P (runF k57P (n + 5)) x e = .ok (.str u) → u.length + 2 ≤ 16777216 → ev k57P (runF k57P (n + 5)) (.call 2 (.cons x .nil)) e = .ok (.lst (wds (nf u))) := fun e x u h hu =>
    ev_call (l := [.str u]) (cons_ok h rfl) (split_ok (n := n + 4) u hu) rfl
  have A7 : exS k57P (runF k57P (n + 5)) (.set 7 (.call 2 (.cons (.v 6) .nil))) E6 = .ok (.nx E7) := by
    rw [set_ok (C2 E6 (.v 6) T rfl Tl), nfT]
    rfl
  show exS k57P (runF k57P (n + 5)) _ E6 = _
  rw [seq_nx A7]
  have W2 := isW_rd h2 (e := E7) rfl (runF k57P (n + 5))
  have X1 : ev k57P (runF k57P (n + 5)) (.not (.bi .isList (.cons (.v 7) .nil))) E7 = .ok (.bl false) := ev_not (x := true) (ev_bi1 (x := .lst (wds W)) (by decide) rfl rfl)
  have X2 : ev k57P (runF k57P (n + 5)) (.cmp .NotEq (.v 7) (.o 2)) E7 = .ok (.bl false) := ev_cmp (x := .lst (wds W)) rfl W2 (ne_self W)
  have X3 : ev k57P (runF k57P (n + 5)) (.cmp .NotEq (.call 2 (.cons (.bin .Mult (.c (.str [32])) (.bin .Mod (.bi .int1 (.cons (.sub (.v 1) (.c (.int (51)))) .nil)) (.c (.int (4))))) .nil)) (.lst .nil)) E7 = .ok (.bl false) := by
    have S3 := sp E7 51 4 z51 rfl p51 (by decide)
    have b4 := m4 z51
    refine ev_cmp (C2 E7 _ _ S3 (by simp; omega)) (y := .lst (wds [])) rfl ?_
    have := (nf_rep [] (z51 % 4).toNat).1
    rw [List.nil_append] at this
    rw [this]
    exact ne_self []
  rw [if_skip' ((ev_or X1 fun _ => ev_or X2 fun _ => X3).trans rfl)]
  rw [if_skip' (ev_cmp (C2 E7 (.c (.str [97, 9, 98, 32, 9])) [97, 9, 98, 32, 9] rfl (by decide)) (y := .lst (wds [[97, 9, 98], [9]])) rfl (ne_self [[97, 9, 98], [9]]))]
  -- is_command
  let E8 : Env := [v0, .fro (.lst (l.map .int)), s2, s3', s4, s5, .fro (.str T), .fro (.lst (wds W)), .fro (.lst (wds W)), .no]
  rw [seq_nx (e' := E8) (set_ok (ev_bi1 (z := .lst (wds W)) (by decide) W2 rfl))]
  obtain ⟨first, rest, rfl⟩ : ∃ f r, W = f :: r := by
    cases W with
    | nil => exact absurd rfl hne
    | cons f r => exact ⟨f, r, rfl⟩
  have hsh : shorts rest := fun w hw => wok_short (List.all_eq_true.mp hW w (List.mem_cons_of_mem _ hw))
  have hrl : rest.length ≤ 1000 := by simp at hWl; omega
  let E9 : Env := [v0, .fro (.lst (l.map .int)), s2, s3', s4, s5, .fro (.str T), .fro (.lst (wds (first :: rest))), .fro (.lst (wds (first :: rest))), .fro (.bl (cmdS first rest))]
  let E10 : Env := [v0, .fro (.lst (l.map .int)), .fro (.lst (wds (first :: rest))), s3', s4, s5, .fro (.str T), .fro (.lst (wds (first :: rest))), .fro (.lst (wds (first :: rest))), .fro (.bl (cmdS first rest))]
  rw [seq_nx (e' := E9) (set_ok (ev_call (l := [.lst (wds (first :: rest))]) rfl (command_ok (n := n + 3) first rest hsh hrl) rfl))]
  rw [seq_nx (e' := E10) (by
    show Res.ok (Out.nx (frzE E9 2)) = _
    rcases h2 with rfl | rfl <;> rfl)]
  have Y1 : ev k57P (runF k57P (n + 5)) (.bi .isBool (.cons (.v 9) .nil)) E10 = .ok (.bl true) := ev_bi1 (x := .bl (cmdS first rest)) (by decide) rfl rfl
  have Y2 : ev k57P (runF k57P (n + 5)) (.cmp .Eq (.v 9) (.call 10 (.cons (.v 2) .nil))) E10 = .ok (.bl true) := by
    refine ev_cmp (x := .bl (cmdS first rest)) rfl (ev_call (l := [.lst (wds (first :: rest))]) rfl (lcommand_ok (n := n + 2) first rest hsh hrl) rfl) ?_
    rw [cD_eqb]
    simp
  have Y3 : ev k57P (runF k57P (n + 5)) (.cmp .Eq (.v 8) (.o 2)) E10 = .ok (.bl true) := ev_cmp (x := .lst (wds (first :: rest))) (y := .lst (wds (first :: rest))) rfl rfl (eq_self _)
  rw [seq_ret (ret_ok (ev_and Y1 fun _ => ev_and Y2 fun _ => Y3))]
  rfl
theorem law_ok (ns : List Int) : runF k57P (n + 6) 12 [.lst (ns.map .int)] = .ok (.fro (.bl true)) := by
  rw [runF_def (show k57P.fns[12]? = some k57f12 from rfl) rfl (by decide)]
  show (exS k57P (runF k57P (n + 5)) k57f12.body [.fro (.lst (ns.map .int)), .no, .no, .no, .no, .no, .no, .no, .no, .no]).bind endS = _
  obtain ⟨l, q, hl, hs⟩ := num_ok (P := k57P) (n := n + 3) (f := 5) (r := 4) rfl rfl (by decide) ns 60 (by decide)
  obtain ⟨z40, p40, r40⟩ := pick_small hl hs 40 (by decide)
  obtain ⟨z41, p41, r41⟩ := pick_small hl hs 41 (by decide)
  obtain ⟨z45, p45, r45⟩ := pick_small hl hs 45 (by decide)
  obtain ⟨z46, p46, r46⟩ := pick_small hl hs 46 (by decide)
  unfold k57f12
  rw [seq_nx (e' := [.fro (.lst (ns.map .int)), .fro (.lst (l.map .int)), .no, .no, .no, .no, .no, .no, .no, .no]) (set_ok (ev_call (l := [.lst (ns.map .int), .int 60]) rfl q rfl))]
  have hm : 1 ≤ 1 + z40 % 10 ∧ 1 + z40 % 10 ≤ 10 := by omega
  generalize hk : 1 + z40 % 10 = K at hm
  obtain ⟨ws, cw, wl, wo⟩ : ∃ ws, compL (fun d => (bindT (.one 3) d (wipeE [.fro (.lst (ns.map .int)), .fro (.lst (l.map .int)), .no, .no, .no, .no, .no, .no, .no, .no] [3])).bind fun e1 => (ev k57P (runF k57P (n + 5)) (.c (.bl true)) e1).bind fun c => c.truth.bind fun c =>
          if c then (ev k57P (runF k57P (n + 5)) k57f12_e0 e1).bind fun y => .ok (some y) else .ok none) ((List.range K.toNat).map fun k : Nat => .int k) = .ok (wds ws) ∧ ws.length = (List.range K.toNat).length ∧ ws.all wok = true := by
    refine compL_ex (fun k : Nat => .int k) wok (items := List.range K.toNat) fun k hk => ?_
    have hk : k < K.toNat := List.mem_range.mp hk
    obtain ⟨x, px, rx⟩ := pick_small hl hs (2 * (k : Int)) (by omega)
    obtain ⟨y, py, ry⟩ := pick_small hl hs (2 * (k : Int) + 1) (by omega)
    obtain ⟨w, qw, ow⟩ := word_ok (n := n + 4) x y rx ry
    refine ⟨w, ?_, ow⟩
    have e0 : ev k57P (runF k57P (n + 5)) k57f12_e0 [.fro (.lst (ns.map .int)), .fro (.lst (l.map .int)), .no, .fro (.int k), .no, .no, .no, .no, .no, .no] = .ok (.str w) := by
      refine ev_call (l := [.int x, .int y]) (cons_ok (ev_sub (x := .lst (l.map .int)) (y := .int (2 * (k : Int))) rfl (ev_bin (x := .int 2) (y := .int k) rfl rfl (bD_mull (by decide))) px) (cons_ok (ev_sub (x := .lst (l.map .int)) (y := .int (2 * (k : Int) + 1)) rfl (ev_bin (ev_bin (x := .int 2) (y := .int k) rfl rfl (bD_mull (by decide))) (y := .int 1) rfl rfl) py) rfl)) qw rfl
    show (ev k57P (runF k57P (n + 5)) k57f12_e0 [.fro (.lst (ns.map .int)), .fro (.lst (l.map .int)), .no, .fro (.int k), .no, .no, .no, .no, .no, .no]).bind _ = _
    rw [e0]
    rfl
  rw [List.length_range] at wl
  let E2 : Env := [.fro (.lst (ns.map .int)), .fro (.lst (l.map .int)), .own (wds ws), .no, .no, .no, .no, .no, .no, .no]
  have LC : exS k57P (runF k57P (n + 5)) (.setN 2 (.lc k57f12_e0 (.one 3) (.bi .range (.cons (.bin .Add (.c (.int (1))) (.bin .Mod (.bi .int1 (.cons (.sub (.v 1) (.c (.int (40)))) .nil)) (.c (.int (10))))) .nil)) (.c (.bl true)) [3])) [.fro (.lst (ns.map .int)), .fro (.lst (l.map .int)), .no, .no, .no, .no, .no, .no, .no, .no] = .ok (.nx E2) := by
    have R : ev k57P (runF k57P (n + 5)) (.bi .range (.cons (.bin .Add (.c (.int (1))) (.bin .Mod (.bi .int1 (.cons (.sub (.v 1) (.c (.int (40)))) .nil)) (.c (.int (10))))) .nil)) [.fro (.lst (ns.map .int)), .fro (.lst (l.map .int)), .no, .no, .no, .no, .no, .no, .no, .no] = .ok (.lst ((List.range K.toNat).map fun k : Nat => .int k)) := by
      refine (ev_range1 (j := K) (ev_bin (x := .int 1) rfl (ev_mod (m := 10) (ev_sub (x := .lst (l.map .int)) rfl (y := .int 40) rfl p40) (by decide)) (by rw [bD_add, hk])) (by omega)).trans ?_
      simp [rangeL]
    simp only [exS, evN]
    rw [ev, R]
    simp only [rb_ok, io_lst]
    rw [cw]
    simp only [rn_ok, rb_ok]
    rw [if_pos (by show (wds ws).length ≤ 16777216; rw [List.length_map, wl]; omega)]
    rfl
  rw [seq_nx LC]
  have wne : ws ≠ [] := by intro h; rw [h] at wl; simp at wl; omega
  have wl2 : ws.length ≤ 10 := by omega
  have T : ev k57P (runF k57P (n + 5)) (.cmp .Gt (.bin .Mod (.bi .int1 (.cons (.sub (.v 1) (.c (.int (41)))) .nil)) (.c (.int (3)))) (.c (.int (0)))) E2 = .ok (.bl (decide (0 < z41 % 3))) :=
    ev_cmp (ev_mod (ev_sub (x := .lst (l.map .int)) rfl (y := .int 41) rfl p41) (by decide)) rfl rfl
  by_cases h41 : ¬ 0 < z41 % 3
  · rw [decide_eq_false h41] at T
    rw [if_skip' T]
    rw [end_ok l ws hl hs wo (by omega) wne _ _ _ _ _ (.inl rfl)]
    rfl
  · have h41 := Decidable.not_not.mp h41
    rw [decide_eq_true h41] at T
    obtain ⟨ln, qf, lne, lo, ll⟩ := formed_ok (n := n + 3) l ws hl hs wo (by omega)
    let F2 : Env := [.fro (.lst (ns.map .int)), .fro (.lst (l.map .int)), .fro (.lst (wds ws)), .no, .no, .no, .no, .no, .no, .no]
    let F : List (List Nat) → Int → Env := fun ln p => [.fro (.lst (ns.map .int)), .fro (.lst (l.map .int)), .fro (.lst (wds ws)), .no, .own (wds ln), .fro (.int p), .no, .no, .no, .no]
    have z6 : ∀ (ln : List (List Nat)) (p k : Int), ev k57P (runF k57P (n + 5)) (.cmp .Eq (.bin .Mod (.bi .int1 (.cons (.sub (.v 1) (.c (.int (46)))) .nil)) (.c (.int (6)))) (.c (.int k))) (F ln p) = .ok (.bl (z46 % 6 == k)) := fun ln p k =>
      ev_cmp (ev_mod (ev_sub (x := .lst (l.map .int)) rfl (y := .int 46) rfl p46) (by decide)) rfl rfl
    obtain ⟨w0, at0', ow0⟩ := wd_at wo (show 0 < ws.length by omega)
    have W0 : ∀ (ln : List (List Nat)) (p : Int), ev k57P (runF k57P (n + 5)) (.sub (.o 2) (.c (.int (0)))) (F ln p) = .ok (.str w0) := fun ln p => ev_sub (x := .lst (wds ws)) (y := .int 0) rfl rfl (sD_lst at0')
    have llen : 0 < ln.length := List.length_pos_iff.mpr lne
    let p := z45 % ln.length
    have hp : 0 ≤ p ∧ p < ln.length := ⟨Int.emod_nonneg _ (by omega), Int.emod_lt_of_pos _ (by omega)⟩
    -- the three changes
    have G1 : ∃ l1, exS k57P (runF k57P (n + 5)) (.ite (.cmp .Eq (.bin .Mod (.bi .int1 (.cons (.sub (.v 1) (.c (.int (46)))) .nil)) (.c (.int (6)))) (.c (.int (0)))) (.seq (.seti 4 (.v 5) (.sub (.o 2) (.c (.int (0))))) .skip) .skip) (F ln p) = .ok (.nx (F l1 p)) ∧ l1.length = ln.length ∧ l1.all wok = true := by
      cases hz : (z46 % 6 == 0) with
      | false => exact ⟨ln, by rw [ite_f ((z6 ln p 0).trans (by rw [hz]))]; rfl, rfl, lo⟩
      | true =>
        refine ⟨ln.set p.toNat w0, ?_, by simp, ?_⟩
        · rw [ite_t ((z6 ln p 0).trans (by rw [hz]))]
          have : exS k57P (runF k57P (n + 5)) (.seti 4 (.v 5) (.sub (.o 2) (.c (.int (0))))) (F ln p) = .ok (.nx (F (ln.set p.toNat w0) p)) := by
            simp only [exS, W0, rb_ok]
            rw [if_pos (show isOwnL (F ln p) 4 = true from rfl)]
            show (match ixNat (wds ln).length p with | some j => Res.ok (Out.nx ((F ln p).set 4 (.own ((wds ln).set j (.str w0))))) | none => .bad) = _
            have : ixNat (wds ln).length p = some p.toNat := by
              unfold ixNat
              rw [if_pos hp.1, if_pos (by rw [List.length_map]; exact hp.2)]
            rw [this]
            show Res.ok (Out.nx ((F ln p).set 4 (.own ((wds ln).set p.toNat (.str w0))))) = _
            rw [← List.map_set]
            rfl
          rw [seq_nx this]
          rfl
        · refine List.all_eq_true.mpr fun x hx => ?_
          rcases List.mem_or_eq_of_mem_set hx with h | h
          · exact List.all_eq_true.mp lo x h
          · rw [h]; exact ow0
    obtain ⟨l1, g1, h1, o1⟩ := G1
    have L4 : ∀ (ln : List (List Nat)) (p : Int), ev k57P (runF k57P (n + 5)) (.bi .len (.cons (.o 4) .nil)) (F ln p) = .ok (.int ln.length) := fun ln p => (ev_len (l := wds ln) rfl).trans (by rw [List.length_map])
    have G2 : ∃ l2, exS k57P (runF k57P (n + 5)) (.ite (.and (.cmp .Eq (.bin .Mod (.bi .int1 (.cons (.sub (.v 1) (.c (.int (46)))) .nil)) (.c (.int (6)))) (.c (.int (1)))) (.cmp .Gt (.bi .len (.cons (.o 4) .nil)) (.c (.int (1))))) (.seq (.setN 4 (.bin .Add (.slc (.o 4) .nil (.v 5)) (.slc (.o 4) (.bin .Add (.v 5) (.c (.int (1)))) .nil))) .skip) .skip) (F l1 p) = .ok (.nx (F l2 p)) ∧ 0 < l2.length ∧ l2.length ≤ 20 ∧ l2.all wok = true := by
      have C := ev_and (z6 l1 p 1) fun _ => (ev_cmp (L4 l1 p) rfl rfl : ev k57P (runF k57P (n + 5)) (.cmp .Gt (.bi .len (.cons (.o 4) .nil)) (.c (.int (1)))) (F l1 p) = .ok (.bl (decide ((1 : Int) < l1.length))))
      cases hz : ((z46 % 6 == 1) && decide ((1 : Int) < l1.length)) with
      | false => exact ⟨l1, by rw [ite_f (C.trans (by rw [hz]))]; rfl, by omega, by omega, o1⟩
      | true =>
        have hgt : 1 < l1.length := by
          have := of_decide_eq_true (Bool.and_eq_true_iff.mp hz).2
          omega
        refine ⟨l1.take p.toNat ++ l1.drop (p + 1).toNat, ?_, by simp; omega, by simp; omega, ?_⟩
        · rw [ite_t (C.trans (by rw [hz]))]
          have c1 : slcD (.lst (wds l1)) none (some p) = .ok (.lst (wds (l1.take p.toNat))) := by rw [zD_lst, cutL_to _ hp.1, ← List.map_take]
          have c2 : slcD (.lst (wds l1)) (some (p + 1)) none = .ok (.lst (wds (l1.drop (p + 1).toNat))) := by rw [zD_lst, cutL_from _ (by omega), ← List.map_drop]
          have a1 : ev k57P (runF k57P (n + 5)) (.slc (.o 4) .nil (.v 5)) (F l1 p) = .ok (.lst (wds (l1.take p.toNat))) := by
            rw [← c1]
            rfl
          have a2 : ev k57P (runF k57P (n + 5)) (.slc (.o 4) (.bin .Add (.v 5) (.c (.int (1)))) .nil) (F l1 p) = .ok (.lst (wds (l1.drop (p + 1).toNat))) := by
            rw [← c2]
            rfl
          have a3 := ev_bin a1 a2 (bD_addl (by simp; omega))
          have : exS k57P (runF k57P (n + 5)) (.setN 4 (.bin .Add (.slc (.o 4) .nil (.v 5)) (.slc (.o 4) (.bin .Add (.v 5) (.c (.int (1)))) .nil))) (F l1 p) = .ok (.nx (F (l1.take p.toNat ++ l1.drop (p + 1).toNat) p)) := by
            simp only [exS, evN]
            rw [a3, ← List.map_append]
            rfl
          rw [seq_nx this]
          rfl
        · rw [List.all_append, Bool.and_eq_true]
          exact ⟨List.all_eq_true.mpr fun x hx => List.all_eq_true.mp o1 x (List.mem_of_mem_take hx), List.all_eq_true.mpr fun x hx => List.all_eq_true.mp o1 x (List.mem_of_mem_drop hx)⟩
    obtain ⟨l2, g2, h2, h2', o2⟩ := G2
    have G3 : ∃ l3, exS k57P (runF k57P (n + 5)) (.ite (.cmp .Eq (.bin .Mod (.bi .int1 (.cons (.sub (.v 1) (.c (.int (46)))) .nil)) (.c (.int (6)))) (.c (.int (2)))) (.seq (.app 4 (.sub (.o 2) (.c (.int (0))))) .skip) .skip) (F l2 p) = .ok (.nx (F l3 p)) ∧ 0 < l3.length ∧ l3.length ≤ 21 ∧ l3.all wok = true := by
      cases hz : (z46 % 6 == 2) with
      | false => exact ⟨l2, by rw [ite_f ((z6 l2 p 2).trans (by rw [hz]))]; rfl, h2, by omega, o2⟩
      | true =>
        refine ⟨l2 ++ [w0], ?_, by simp, by simp; omega, by rw [List.all_append, o2]; simp [ow0]⟩
        rw [ite_t ((z6 l2 p 2).trans (by rw [hz]))]
        have : exS k57P (runF k57P (n + 5)) (.app 4 (.sub (.o 2) (.c (.int (0))))) (F l2 p) = .ok (.nx (F (l2 ++ [w0]) p)) := by
          simp only [exS, W0, rb_ok]
          rw [if_pos (show isOwnL (F l2 p) 4 = true from rfl), app_ok (l := wds l2) rfl (by simp; omega)]
          show Res.ok (Out.nx ((F l2 p).set 4 (.own (wds l2 ++ [.str w0])))) = _
          have : wds l2 ++ [.str w0] = wds (l2 ++ [w0]) := by simp
          rw [this]
          rfl
        rw [seq_nx this]
        rfl
    obtain ⟨l3, g3, h3, h3', o3⟩ := G3
    have B : exS k57P (runF k57P (n + 5)) (.seq (.frz 2) (.seq (.setN 4 (.call 11 (.cons (.v 1) (.cons (.v 2) .nil)))) (.seq (.set 5 (.bin .Mod (.bi .int1 (.cons (.sub (.v 1) (.c (.int (45)))) .nil)) (.bi .len (.cons (.o 4) .nil)))) (.seq (.ite (.cmp .Eq (.bin .Mod (.bi .int1 (.cons (.sub (.v 1) (.c (.int (46)))) .nil)) (.c (.int (6)))) (.c (.int (0)))) (.seq (.seti 4 (.v 5) (.sub (.o 2) (.c (.int (0))))) .skip) .skip) (.seq (.ite (.and (.cmp .Eq (.bin .Mod (.bi .int1 (.cons (.sub (.v 1) (.c (.int (46)))) .nil)) (.c (.int (6)))) (.c (.int (1)))) (.cmp .Gt (.bi .len (.cons (.o 4) .nil)) (.c (.int (1))))) (.seq (.setN 4 (.bin .Add (.slc (.o 4) .nil (.v 5)) (.slc (.o 4) (.bin .Add (.v 5) (.c (.int (1)))) .nil))) .skip) .skip) (.seq (.ite (.cmp .Eq (.bin .Mod (.bi .int1 (.cons (.sub (.v 1) (.c (.int (46)))) .nil)) (.c (.int (6)))) (.c (.int (2)))) (.seq (.app 4 (.sub (.o 2) (.c (.int (0))))) .skip) .skip) (.seq (.frz 4) (.seq (.setN 2 (.v 4)) .skip)))))))) E2 =
        .ok (.nx [.fro (.lst (ns.map .int)), .fro (.lst (l.map .int)), .fro (.lst (wds l3)), .no, .fro (.lst (wds l3)), .fro (.int p), .no, .no, .no, .no]) := by
      rw [seq_nx (e' := F2) rfl]
      have c11 : exS k57P (runF k57P (n + 5)) (.setN 4 (.call 11 (.cons (.v 1) (.cons (.v 2) .nil)))) F2 = .ok (.nx [.fro (.lst (ns.map .int)), .fro (.lst (l.map .int)), .fro (.lst (wds ws)), .no, .own (wds ln), .no, .no, .no, .no, .no]) := by
        simp only [exS, evN]
        rw [cons_ok (d := .lst (l.map .int)) rfl (cons_ok (d := .lst (wds ws)) rfl rfl)]
        simp only [rl_ok, rb_ok]
        rw [qf]
        rfl
      rw [seq_nx c11]
      have s5 : exS k57P (runF k57P (n + 5)) (.set 5 (.bin .Mod (.bi .int1 (.cons (.sub (.v 1) (.c (.int (45)))) .nil)) (.bi .len (.cons (.o 4) .nil)))) [.fro (.lst (ns.map .int)), .fro (.lst (l.map .int)), .fro (.lst (wds ws)), .no, .own (wds ln), .no, .no, .no, .no, .no] = .ok (.nx (F ln p)) := by
        refine set_ok (ev_bin (ev_bi1 (by decide) (ev_sub (x := .lst (l.map .int)) rfl (y := .int 45) rfl p45) rfl) (ev_len (l := wds ln) rfl) ?_)
        rw [List.length_map]
        exact bD_mod (by omega)
      rw [seq_nx s5, seq_nx g1, seq_nx g2, seq_nx g3]
      rfl
    rw [seq_nx (e' := [.fro (.lst (ns.map .int)), .fro (.lst (l.map .int)), .fro (.lst (wds l3)), .no, .fro (.lst (wds l3)), .fro (.int p), .no, .no, .no, .no]) (by rw [ite_t T]; exact B)]
    rw [end_ok l l3 hl hs o3 h3' (by intro h; rw [h] at h3; simp at h3) _ _ _ _ _ (.inr rfl)]
    rfl
end
end Pv

namespace Pv
open PySem PySem.Spec L2
theorem all57 {w : World} {K : PySem.W.Frag} {h : Heap} {mg : Str → Option Value} {fa : Addr} (X : K.In h) (G : h.Ns mainGlobals mg) (hfa : mg "law" = some (.ref fa))
    {f0 f1 f2 f3 f4 f5 f6 f7 f8 f9 f10 f11 f12 : Addr} {od0 an0 od1 an1 od2 an2 od3 an3 od4 an4 od5 an5 od6 an6 od7 an7 od8 an8 od9 an9 od10 an10 od11 an11 od12 an12 : Option Addr} {sl0 sl1 sl2 sl3 sl4 sl5 sl6 sl7 sl8 sl9 sl10 sl11 sl12 : Array (Option Value)} {oc0 kV0 dc0 pm0 cd0 ct0 oc1 kV1 dc1 pm1 cd1 ct1 oc2 kV2 dc2 pm2 cd2 ct2 oc3 kV3 dc3 pm3 cd3 ct3 oc4 kV4 dc4 pm4 cd4 ct4 oc5 kV5 dc5 pm5 cd5 ct5 oc6 kV6 dc6 pm6 cd6 ct6 oc7 kV7 dc7 pm7 cd7 ct7 oc8 kV8 dc8 pm8 cd8 ct8 oc9 kV9 dc9 pm9 cd9 ct9 oc10 kV10 dc10 pm10 cd10 ct10 oc11 kV11 dc11 pm11 cd11 ct11 oc12 kV12 dc12 pm12 cd12 ct12 : Value} {u0 u1 u2 u3 u4 u5 : Value}
    (a0 : PySem.W.nsIn K mainGlobals "is_name" = some (some (.ref f0))) (l0 : K.lookup f0 = some ⟨oc0, od0, .func (PySem.W.fnOf "is_name" "is_name" (defArgs (k57S 3)) (defBody (k57S 3)) (defScope (k57S 3)) .none kV0 dc0 pm0 an0 cd0 ct0), sl0⟩) (c0 : PySem.W.codeIn K cd0 "is_name" = true) (k0 : PySem.W.keepIn K (.ref f0) = true)
    (a1 : PySem.W.nsIn K mainGlobals "is_number" = some (some (.ref f1))) (l1 : K.lookup f1 = some ⟨oc1, od1, .func (PySem.W.fnOf "is_number" "is_number" (defArgs (k57S 7)) (defBody (k57S 7)) (defScope (k57S 7)) .none kV1 dc1 pm1 an1 cd1 ct1), sl1⟩) (c1 : PySem.W.codeIn K cd1 "is_number" = true) (k1 : PySem.W.keepIn K (.ref f1) = true)
    (a2 : PySem.W.nsIn K mainGlobals "split_words" = some (some (.ref f2))) (l2 : K.lookup f2 = some ⟨oc2, od2, .func (PySem.W.fnOf "split_words" "split_words" (defArgs (k57S 11)) (defBody (k57S 11)) (defScope (k57S 11)) .none kV2 dc2 pm2 an2 cd2 ct2), sl2⟩) (c2 : PySem.W.codeIn K cd2 "split_words" = true) (k2 : PySem.W.keepIn K (.ref f2) = true)
    (a3 : PySem.W.nsIn K mainGlobals "is_command" = some (some (.ref f3))) (l3 : K.lookup f3 = some ⟨oc3, od3, .func (PySem.W.fnOf "is_command" "is_command" (defArgs (k57S 12)) (defBody (k57S 12)) (defScope (k57S 12)) .none kV3 dc3 pm3 an3 cd3 ct3), sl3⟩) (c3 : PySem.W.codeIn K cd3 "is_command" = true) (k3 : PySem.W.keepIn K (.ref f3) = true)
    (a4 : PySem.W.nsIn K mainGlobals "_law_row" = some (some (.ref f4))) (l4 : K.lookup f4 = some ⟨oc4, od4, .func (PySem.W.fnOf "_law_row" "_law_row" (defArgs (k57S 14)) (defBody (k57S 14)) (defScope (k57S 14)) .none kV4 dc4 pm4 an4 cd4 ct4), sl4⟩) (c4 : PySem.W.codeIn K cd4 "_law_row" = true) (k4 : PySem.W.keepIn K (.ref f4) = true)
    (a5 : PySem.W.nsIn K mainGlobals "_law_numbers" = some (some (.ref f5))) (l5 : K.lookup f5 = some ⟨oc5, od5, .func (PySem.W.fnOf "_law_numbers" "_law_numbers" (defArgs (k57S 15)) (defBody (k57S 15)) (defScope (k57S 15)) .none kV5 dc5 pm5 an5 cd5 ct5), sl5⟩) (c5 : PySem.W.codeIn K cd5 "_law_numbers" = true) (k5 : PySem.W.keepIn K (.ref f5) = true)
    (a6 : PySem.W.nsIn K mainGlobals "_law_word" = some (some (.ref f6))) (l6 : K.lookup f6 = some ⟨oc6, od6, .func (PySem.W.fnOf "_law_word" "_law_word" (defArgs (k57S 16)) (defBody (k57S 16)) (defScope (k57S 16)) .none kV6 dc6 pm6 an6 cd6 ct6), sl6⟩) (c6 : PySem.W.codeIn K cd6 "_law_word" = true) (k6 : PySem.W.keepIn K (.ref f6) = true)
    (a7 : PySem.W.nsIn K mainGlobals "_law_is_name" = some (some (.ref f7))) (l7 : K.lookup f7 = some ⟨oc7, od7, .func (PySem.W.fnOf "_law_is_name" "_law_is_name" (defArgs (k57S 17)) (defBody (k57S 17)) (defScope (k57S 17)) .none kV7 dc7 pm7 an7 cd7 ct7), sl7⟩) (c7 : PySem.W.codeIn K cd7 "_law_is_name" = true) (k7 : PySem.W.keepIn K (.ref f7) = true)
    (a8 : PySem.W.nsIn K mainGlobals "_law_all_names" = some (some (.ref f8))) (l8 : K.lookup f8 = some ⟨oc8, od8, .func (PySem.W.fnOf "_law_all_names" "_law_all_names" (defArgs (k57S 18)) (defBody (k57S 18)) (defScope (k57S 18)) .none kV8 dc8 pm8 an8 cd8 ct8), sl8⟩) (c8 : PySem.W.codeIn K cd8 "_law_all_names" = true) (k8 : PySem.W.keepIn K (.ref f8) = true)
    (a9 : PySem.W.nsIn K mainGlobals "_law_is_number" = some (some (.ref f9))) (l9 : K.lookup f9 = some ⟨oc9, od9, .func (PySem.W.fnOf "_law_is_number" "_law_is_number" (defArgs (k57S 19)) (defBody (k57S 19)) (defScope (k57S 19)) .none kV9 dc9 pm9 an9 cd9 ct9), sl9⟩) (c9 : PySem.W.codeIn K cd9 "_law_is_number" = true) (k9 : PySem.W.keepIn K (.ref f9) = true)
    (a10 : PySem.W.nsIn K mainGlobals "_law_command" = some (some (.ref f10))) (l10 : K.lookup f10 = some ⟨oc10, od10, .func (PySem.W.fnOf "_law_command" "_law_command" (defArgs (k57S 20)) (defBody (k57S 20)) (defScope (k57S 20)) .none kV10 dc10 pm10 an10 cd10 ct10), sl10⟩) (c10 : PySem.W.codeIn K cd10 "_law_command" = true) (k10 : PySem.W.keepIn K (.ref f10) = true)
    (a11 : PySem.W.nsIn K mainGlobals "_law_formed" = some (some (.ref f11))) (l11 : K.lookup f11 = some ⟨oc11, od11, .func (PySem.W.fnOf "_law_formed" "_law_formed" (defArgs (k57S 21)) (defBody (k57S 21)) (defScope (k57S 21)) .none kV11 dc11 pm11 an11 cd11 ct11), sl11⟩) (c11 : PySem.W.codeIn K cd11 "_law_formed" = true) (k11 : PySem.W.keepIn K (.ref f11) = true)
    (a12 : PySem.W.nsIn K mainGlobals "law" = some (some (.ref f12))) (l12 : K.lookup f12 = some ⟨oc12, od12, .func (PySem.W.fnOf "law" "law" (defArgs (k57S 22)) (defBody (k57S 22)) (defScope (k57S 22)) .none kV12 dc12 pm12 an12 cd12 ct12), sl12⟩) (c12 : PySem.W.codeIn K cd12 "law" = true) (k12 : PySem.W.keepIn K (.ref f12) = true)
    (glo0 : PySem.W.nsIn K mainGlobals "NAME_CHARS" = some (some u0)) (v0 : ∀ mg base, ∃ d, WV ⟨PySem.Challenge.rw_schemebound_k57_words_of_a_session.prog, w, K, mg, base⟩ d u0 ∧ k57P.gls[0]? = some d)
    (glo1 : PySem.W.nsIn K mainGlobals "MOST_NAME_CHARS" = some (some u1)) (v1 : ∀ mg base, ∃ d, WV ⟨PySem.Challenge.rw_schemebound_k57_words_of_a_session.prog, w, K, mg, base⟩ d u1 ∧ k57P.gls[1]? = some d)
    (glo2 : PySem.W.nsIn K mainGlobals "DIGITS" = some (some u2)) (v2 : ∀ mg base, ∃ d, WV ⟨PySem.Challenge.rw_schemebound_k57_words_of_a_session.prog, w, K, mg, base⟩ d u2 ∧ k57P.gls[2]? = some d)
    (glo3 : PySem.W.nsIn K mainGlobals "MOST_DIGITS" = some (some u3)) (v3 : ∀ mg base, ∃ d, WV ⟨PySem.Challenge.rw_schemebound_k57_words_of_a_session.prog, w, K, mg, base⟩ d u3 ∧ k57P.gls[3]? = some d)
    (glo4 : PySem.W.nsIn K mainGlobals "FORMS" = some (some u4)) (v4 : ∀ mg base, ∃ d, WV ⟨PySem.Challenge.rw_schemebound_k57_words_of_a_session.prog, w, K, mg, base⟩ d u4 ∧ k57P.gls[4]? = some d)
    (glo5 : PySem.W.nsIn K mainGlobals "ASKED" = some (some u5)) (v5 : ∀ mg base, ∃ d, WV ⟨PySem.Challenge.rw_schemebound_k57_words_of_a_session.prog, w, K, mg, base⟩ d u5 ∧ k57P.gls[5]? = some d)
    (b0 : PySem.W.nsIn K mainGlobals "len" = some none)
    (b1 : PySem.W.nsIn K mainGlobals "abs" = some none)
    (b2 : PySem.W.nsIn K mainGlobals "int" = some none)
    (b3 : PySem.W.nsIn K mainGlobals "max" = some none)
    (b4 : PySem.W.nsIn K mainGlobals "min" = some none)
    (b5 : PySem.W.nsIn K mainGlobals "all" = some none)
    (b6 : PySem.W.nsIn K mainGlobals "any" = some none)
    (b7 : PySem.W.nsIn K mainGlobals "sum" = some none)
    (b8 : PySem.W.nsIn K mainGlobals "list" = some none)
    (b9 : PySem.W.nsIn K mainGlobals "tuple" = some none)
    (b10 : PySem.W.nsIn K mainGlobals "isinstance" = some none)
    (b11 : PySem.W.nsIn K mainGlobals "bool" = some none)
    (b12 : PySem.W.nsIn K mainGlobals "range" = some none)
    : ∃ fd : FuncData, (∀ (s : Shared) (v : Value), BindsTo s fd ⟨[v], []⟩ [("_law_script", v)]) ∧ ∀ base : Heap, K.In base → base.Ns mainGlobals mg → FnOk PySem.Challenge.rw_schemebound_k57_words_of_a_session.prog w K mg base (L2.CX PySem.Challenge.rw_schemebound_k57_words_of_a_session.prog w) 12 fa fd ["_law_script"] (spL K) := by
  have e := hfa.symm.trans (PySem.W.mg_of X G a12)
  cases e
  have F0 := fun_mk (st := k57S 3) l0 c0 k0
  have B0 := F0.binds (ps := k57p0) fun _ _ _ _ _ _ us hl => match us, hl with | [_], _ => rfl
  have F1 := fun_mk (st := k57S 7) l1 c1 k1
  have B1 := F1.binds (ps := k57p1) fun _ _ _ _ _ _ us hl => match us, hl with | [_], _ => rfl
  have F2 := fun_mk (st := k57S 11) l2 c2 k2
  have B2 := F2.binds (ps := k57p2) fun _ _ _ _ _ _ us hl => match us, hl with | [_], _ => rfl
  have F3 := fun_mk (st := k57S 12) l3 c3 k3
  have B3 := F3.binds (ps := k57p3) fun _ _ _ _ _ _ us hl => match us, hl with | [_], _ => rfl
  have F4 := fun_mk (st := k57S 14) l4 c4 k4
  have B4 := F4.binds (ps := k57p4) fun _ _ _ _ _ _ us hl => match us, hl with | [_, _], _ => rfl
  have F5 := fun_mk (st := k57S 15) l5 c5 k5
  have B5 := F5.binds (ps := k57p5) fun _ _ _ _ _ _ us hl => match us, hl with | [_, _], _ => rfl
  have F6 := fun_mk (st := k57S 16) l6 c6 k6
  have B6 := F6.binds (ps := k57p6) fun _ _ _ _ _ _ us hl => match us, hl with | [_, _], _ => rfl
  have F7 := fun_mk (st := k57S 17) l7 c7 k7
  have B7 := F7.binds (ps := k57p7) fun _ _ _ _ _ _ us hl => match us, hl with | [_], _ => rfl
  have F8 := fun_mk (st := k57S 18) l8 c8 k8
  have B8 := F8.binds (ps := k57p8) fun _ _ _ _ _ _ us hl => match us, hl with | [_], _ => rfl
  have F9 := fun_mk (st := k57S 19) l9 c9 k9
  have B9 := F9.binds (ps := k57p9) fun _ _ _ _ _ _ us hl => match us, hl with | [_], _ => rfl
  have F10 := fun_mk (st := k57S 20) l10 c10 k10
  have B10 := F10.binds (ps := k57p10) fun _ _ _ _ _ _ us hl => match us, hl with | [_], _ => rfl
  have F11 := fun_mk (st := k57S 21) l11 c11 k11
  have B11 := F11.binds (ps := k57p11) fun _ _ _ _ _ _ us hl => match us, hl with | [_, _], _ => rfl
  have F12 := fun_mk (st := k57S 22) l12 c12 k12
  have B12 := F12.binds (ps := k57p12) fun _ _ _ _ _ _ us hl => match us, hl with | [_], _ => rfl
  refine ⟨PySem.W.fnOf "law" "law" (defArgs (k57S 22)) (defBody (k57S 22)) (defScope (k57S 22)) .none kV12 dc12 pm12 an12 cd12 ct12, fun s v => .of_eq rfl, fun base _ _ => ?_⟩
  refine law_of (g := ⟨PySem.Challenge.rw_schemebound_k57_words_of_a_session.prog, w, K, mg, base⟩) (ex := fun _ => none) (fns := k57fns) (gls := k57gls) (P := k57P) (fi := 12) (fn := k57f12) (N := k57N12) (n := 11) ?_ ?_ ?_ rfl F12 k57c12 (fun ns _ => law_ok (n := 6) ns)
  · intro fi x hx
    match fi, hx with
    | 0, hx => cases hx; exact ⟨f0, _, _, _, k57p0, k57N0, k57f0, rfl, PySem.W.mg_of X G a0, F0, B0, k57c0⟩
    | 1, hx => cases hx; exact ⟨f1, _, _, _, k57p1, k57N1, k57f1, rfl, PySem.W.mg_of X G a1, F1, B1, k57c1⟩
    | 2, hx => cases hx; exact ⟨f2, _, _, _, k57p2, k57N2, k57f2, rfl, PySem.W.mg_of X G a2, F2, B2, k57c2⟩
    | 3, hx => cases hx; exact ⟨f3, _, _, _, k57p3, k57N3, k57f3, rfl, PySem.W.mg_of X G a3, F3, B3, k57c3⟩
    | 4, hx => cases hx; exact ⟨f4, _, _, _, k57p4, k57N4, k57f4, rfl, PySem.W.mg_of X G a4, F4, B4, k57c4⟩
    | 5, hx => cases hx; exact ⟨f5, _, _, _, k57p5, k57N5, k57f5, rfl, PySem.W.mg_of X G a5, F5, B5, k57c5⟩
    | 6, hx => cases hx; exact ⟨f6, _, _, _, k57p6, k57N6, k57f6, rfl, PySem.W.mg_of X G a6, F6, B6, k57c6⟩
    | 7, hx => cases hx; exact ⟨f7, _, _, _, k57p7, k57N7, k57f7, rfl, PySem.W.mg_of X G a7, F7, B7, k57c7⟩
    | 8, hx => cases hx; exact ⟨f8, _, _, _, k57p8, k57N8, k57f8, rfl, PySem.W.mg_of X G a8, F8, B8, k57c8⟩
    | 9, hx => cases hx; exact ⟨f9, _, _, _, k57p9, k57N9, k57f9, rfl, PySem.W.mg_of X G a9, F9, B9, k57c9⟩
    | 10, hx => cases hx; exact ⟨f10, _, _, _, k57p10, k57N10, k57f10, rfl, PySem.W.mg_of X G a10, F10, B10, k57c10⟩
    | 11, hx => cases hx; exact ⟨f11, _, _, _, k57p11, k57N11, k57f11, rfl, PySem.W.mg_of X G a11, F11, B11, k57c11⟩
    | 12, hx => cases hx; exact ⟨fa, _, _, _, k57p12, k57N12, k57f12, rfl, PySem.W.mg_of X G a12, F12, B12, k57c12⟩
    | n + 13, hx => cases hx
  · intro j x hx
    match j, hx with
    | 0, hx => cases hx; obtain ⟨d, q1, q2⟩ := v0 mg base; exact ⟨u0, d, PySem.W.mg_of X G glo0, q1, q2⟩
    | 1, hx => cases hx; obtain ⟨d, q1, q2⟩ := v1 mg base; exact ⟨u1, d, PySem.W.mg_of X G glo1, q1, q2⟩
    | 2, hx => cases hx; obtain ⟨d, q1, q2⟩ := v2 mg base; exact ⟨u2, d, PySem.W.mg_of X G glo2, q1, q2⟩
    | 3, hx => cases hx; obtain ⟨d, q1, q2⟩ := v3 mg base; exact ⟨u3, d, PySem.W.mg_of X G glo3, q1, q2⟩
    | 4, hx => cases hx; obtain ⟨d, q1, q2⟩ := v4 mg base; exact ⟨u4, d, PySem.W.mg_of X G glo4, q1, q2⟩
    | 5, hx => cases hx; obtain ⟨d, q1, q2⟩ := v5 mg base; exact ⟨u5, d, PySem.W.mg_of X G glo5, q1, q2⟩
    | n + 6, hx => cases hx
  · intro x hx
    simp only [List.mem_cons, List.not_mem_nil, or_false] at hx
    rcases hx with rfl | rfl | rfl | rfl | rfl | rfl | rfl | rfl | rfl | rfl | rfl | rfl | rfl
    · exact PySem.W.mg_none_of X G b0
    · exact PySem.W.mg_none_of X G b1
    · exact PySem.W.mg_none_of X G b2
    · exact PySem.W.mg_none_of X G b3
    · exact PySem.W.mg_none_of X G b4
    · exact PySem.W.mg_none_of X G b5
    · exact PySem.W.mg_none_of X G b6
    · exact PySem.W.mg_none_of X G b7
    · exact PySem.W.mg_none_of X G b8
    · exact PySem.W.mg_none_of X G b9
    · exact PySem.W.mg_none_of X G b10
    · exact PySem.W.mg_none_of X G b11
    · exact PySem.W.mg_none_of X G b12
end Pv
open PySem PySem.W PyProof.Rows
set_option maxRecDepth 100000 in
set_option maxHeartbeats 0 in
theorem PySem.Challenge.cw_schemebound_k57_words_of_a_session_holds : PySem.Challenge.rw_schemebound_k57_words_of_a_session.Holds := by
  w_on; o_law; k_head; (case hw => w_witness2)
  k_fill
  refine Pv.walkL (l := PySem.Challenge.rw_schemebound_k57_words_of_a_session) (n := 12) rfl rfl (by decide) (fun w h Y => PySem.W.kIn_of Y) ?F
  case F =>
    intro w mg fa h KX G hmg
    refine' Pv.all57 KX G hmg ?a0 ?l0 ?c0 ?k0 ?a1 ?l1 ?c1 ?k1 ?a2 ?l2 ?c2 ?k2 ?a3 ?l3 ?c3 ?k3 ?a4 ?l4 ?c4 ?k4 ?a5 ?l5 ?c5 ?k5 ?a6 ?l6 ?c6 ?k6 ?a7 ?l7 ?c7 ?k7 ?a8 ?l8 ?c8 ?k8 ?a9 ?l9 ?c9 ?k9 ?a10 ?l10 ?c10 ?k10 ?a11 ?l11 ?c11 ?k11 ?a12 ?l12 ?c12 ?k12 ?glo0 ?v0 ?glo1 ?v1 ?glo2 ?v2 ?glo3 ?v3 ?glo4 ?v4 ?glo5 ?v5 ?b0 ?b1 ?b2 ?b3 ?b4 ?b5 ?b6 ?b7 ?b8 ?b9 ?b10 ?b11 ?b12
    (case a0 => k_is)
    (case l0 => k_is)
    (case c0 => k_is)
    (case k0 => k_is)
    (case a1 => k_is)
    (case l1 => k_is)
    (case c1 => k_is)
    (case k1 => k_is)
    (case a2 => k_is)
    (case l2 => k_is)
    (case c2 => k_is)
    (case k2 => k_is)
    (case a3 => k_is)
    (case l3 => k_is)
    (case c3 => k_is)
    (case k3 => k_is)
    (case a4 => k_is)
    (case l4 => k_is)
    (case c4 => k_is)
    (case k4 => k_is)
    (case a5 => k_is)
    (case l5 => k_is)
    (case c5 => k_is)
    (case k5 => k_is)
    (case a6 => k_is)
    (case l6 => k_is)
    (case c6 => k_is)
    (case k6 => k_is)
    (case a7 => k_is)
    (case l7 => k_is)
    (case c7 => k_is)
    (case k7 => k_is)
    (case a8 => k_is)
    (case l8 => k_is)
    (case c8 => k_is)
    (case k8 => k_is)
    (case a9 => k_is)
    (case l9 => k_is)
    (case c9 => k_is)
    (case k9 => k_is)
    (case a10 => k_is)
    (case l10 => k_is)
    (case c10 => k_is)
    (case k10 => k_is)
    (case a11 => k_is)
    (case l11 => k_is)
    (case c11 => k_is)
    (case k11 => k_is)
    (case a12 => k_is)
    (case l12 => k_is)
    (case c12 => k_is)
    (case k12 => k_is)
    (case glo0 => k_is)
    (case v0 => intro mg base; first | exact ⟨_, Pv.wv_int, rfl⟩ | exact ⟨_, Pv.wv_str rfl (by decide), rfl⟩ | skip)
    (case glo1 => k_is)
    (case v1 => intro mg base; first | exact ⟨_, Pv.wv_int, rfl⟩ | exact ⟨_, Pv.wv_str rfl (by decide), rfl⟩ | skip)
    (case glo2 => k_is)
    (case v2 => intro mg base; first | exact ⟨_, Pv.wv_int, rfl⟩ | exact ⟨_, Pv.wv_str rfl (by decide), rfl⟩ | skip)
    (case glo3 => k_is)
    (case v3 => intro mg base; first | exact ⟨_, Pv.wv_int, rfl⟩ | exact ⟨_, Pv.wv_str rfl (by decide), rfl⟩ | skip)
    (case glo4 => k_is)
    (case v4 =>
      intro mg base
      refine' ⟨_, Pv.wv_dictK (kvs := Pv.forms.map fun p => (p.1, .int p.2)) ?y1 ?y2 ?y3 ?y4, rfl⟩
      (case y1 => k_is)
      (case y2 => repeat' (first | exact trivial | refine ⟨⟨_, _, rfl, rfl⟩, ?_⟩))
      (case y3 => decide)
      (case y4 => repeat' (first | exact .nil | refine Pv.EntR.cons rfl rfl Pv.wv_int ?_)))
    (case glo5 => k_is)
    (case v5 =>
      intro mg base
      refine' ⟨_, Pv.wv_dictK (kvs := Pv.asked.map fun p => (p.1, .tup [.int p.2.1, .int p.2.2])) ?y1 ?y2 ?y3 ?y4, rfl⟩
      (case y1 => k_is)
      (case y2 => repeat' (first | exact trivial | refine ⟨⟨_, _, rfl, rfl⟩, ?_⟩))
      (case y3 => decide)
      (case y4 =>
        refine' Pv.EntR.cons rfl rfl ?z1 (Pv.EntR.cons rfl rfl ?z2 (Pv.EntR.cons rfl rfl ?z3 (Pv.EntR.cons rfl rfl ?z4 .nil)))
        all_goals
          refine' Pv.wv_tupK ?q1 ?q2 ?q3 ?q4 ?q5
          (case q1 => k_is); (case q2 => rfl); (case q3 => rfl); (case q4 => decide); (case q5 => exact .cons Pv.wv_int (.cons Pv.wv_int .nil))))
    (case b0 => k_is)
    (case b1 => k_is)
    (case b2 => k_is)
    (case b3 => k_is)
    (case b4 => k_is)
    (case b5 => k_is)
    (case b6 => k_is)
    (case b7 => k_is)
    (case b8 => k_is)
    (case b9 => k_is)
    (case b10 => k_is)
    (case b11 => k_is)
    (case b12 => k_is)
#print axioms PySem.Challenge.cw_schemebound_k57_words_of_a_session_holds

