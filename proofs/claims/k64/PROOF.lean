import PyProof.Rows.All
import HandS.ForMost
import HandS.Flow
import HandS.Star
import HandS.Zip
import HandS.IsInst
import HandS.Wide
import HandS.TupAny
import HandS.NoneIn
import PySem.Challenge.RW_growback_k64_forms_and_blocks
section
set_option Elab.async false
set_option linter.all false
set_option maxRecDepth 100000
/-! GbEv: a small evaluator for the Python that the laws use. -/
namespace GB
open PySem PySem.Spec PyProof.Rows L2

/-- values; a list is told by its place in the evaluator's own heap -/
inductive Vl where
  | non | bl (b : Bool) | int (i : Int) | str (x : Str) | tup (xs : List Vl) | ref (n : Nat)

/-- what stands in the evaluator's heap: a list; a list that is only read -/
inductive Ob where
  | lst (xs : List Vl) | fz (xs : List Vl)

abbrev Hh := List Ob
abbrev Ev := List (Option Vl)

/-- an exception: its class by number, its fields -/
structure Xc where
  cls : Nat
  fs : List Vl

inductive Res (α : Type) where
  | ok (a : α) (h : Hh) | exc (x : Xc) (h : Hh) | bad

def Res.bind {α β : Type} (r : Res α) (k : α → Hh → Res β) : Res β :=
  match r with
  | .ok a h => k a h
  | .exc x h => .exc x h
  | .bad => .bad

/-- behind a statement -/
inductive Fl where
  | nx (σ : Ev) (h : Hh) | ret (v : Vl) (h : Hh) | brk (σ : Ev) (h : Hh) | cnt (σ : Ev) (h : Hh) | exc (x : Xc) (σ : Ev) (h : Hh) | bad

/-- a statement's value wanted: an exception goes on -/
def Res.fl {α : Type} (r : Res α) (σ : Ev) (k : α → Hh → Fl) : Fl :=
  match r with
  | .ok a h => k a h
  | .exc x h => .exc x σ h
  | .bad => .bad

inductive Bop where | add | sub | mul | fdiv | mod | pow
  deriving DecidableEq
inductive Cop where | eq | ne | lt | le | gt | ge
  deriving DecidableEq
inductive Bi where | len | abs | int | max2 | min2 | sum | maxl | minl | all | any | tuple | list
  deriving DecidableEq
inductive Ty where | int | bool | str | list | tuple | dict
  deriving DecidableEq

/-- targets: a name's slot, or several in a tuple -/
inductive Tg where | nm (i : Nat) | tp (is : List Nat)

mutual
inductive Ex where
  | var (i : Nat) | int (i : Int) | bl (b : Bool) | non | str (x : Str)
  | glo (k : Nat)
  | bin (op : Bop) (a b : Ex) | neg (a : Ex) | not (a : Ex)
  | cmp (op : Cop) (a b : Ex) | chain (o p : Cop) (a b c : Ex) | isN (a : Ex) | notN (a : Ex)
  | and (es : Exs) | or (es : Exs)
  | ife (c a b : Ex)
  | tup (es : Exs) | lst (es : Exs)
  | call (f : Nat) (es : Exs)
  | callk (f : Nat) (es : Exs) (ks : List Str) (kes : Exs) (perm : List Nat)
  | bi (b : Bi) (es : Exs)
  | isi (a : Ex) (t : Ty) | isis (a : Ex) (ts : List Ty)
  | ix (a i : Ex)
  | sl (a : Ex) (lo hi : Pt)
  | lc (own : List Nat) (t : Tg) (it : It) (c : Cn) (e : Ex)
inductive Exs where
  | nil | cons (e : Ex) (es : Exs) | star (e : Ex) (es : Exs)
inductive Pt where
  | no | yes (e : Ex)
inductive Cn where
  | no | yes (e : Ex)
inductive It where
  | seq (a : Ex) | range1 (a : Ex) | range2 (a b : Ex) | zip (a b : Ex) | enum (a : Ex)
end

mutual
inductive Sm where
  | pass | brk | cnt
  | ex (e : Ex) | ret (e : Ex) | retN
  | set (i : Nat) (e : Ex)
  | tset (is : List Nat) (e : Ex)
  | sub (a i e : Ex)
  | app (a e : Ex)
  | ite (c : Ex) (a b : Sms)
  | whl (g : Ev → Nat) (c : Ex) (b : Sms)
  | for_ (t : Tg) (it : It) (b : Sms)
  | never
inductive Sms where
  | nil | cons (s : Sm) (ss : Sms)
end

/-! ### values -/
mutual
/-- no list within -/
def Vl.plain : Vl → Bool
  | .tup xs => Vl.plains xs
  | .ref _ => false
  | _ => true
def Vl.plains : List Vl → Bool
  | [] => true
  | x :: xs => Vl.plain x && Vl.plains xs
end

def Ob.items : Ob → List Vl
  | .lst xs => xs
  | .fz xs => xs

/-- the items of a list or a tuple -/
def items (g : Hh) : Vl → Option (List Vl)
  | .tup xs => some xs
  | .ref n => (g[n]?).map Ob.items
  | _ => none

def toDs (f : Vl → Option PyData) : List Vl → Option (List PyData)
  | [] => some []
  | x :: xs => (f x).bind fun d => (toDs f xs).map fun ds => d :: ds
/-- as data -/
def toD : Nat → Hh → Vl → Option PyData
  | 0, _, _ => none
  | n + 1, g, v => match v with
    | .non => some .none
    | .bl b => some (.bool b)
    | .int i => some (.int i)
    | .str x => some (.str x)
    | .tup xs => (toDs (toD n g) xs).map .tuple
    | .ref m => (g[m]?).bind fun o => (toDs (toD n g) o.items).map .list

def eqV' (g : Hh) (v w : Vl) : Option Bool :=
  (toD 12 g v).bind fun d => (toD 12 g w).bind fun e => if SeqAt.shaped d && SeqAt.shaped e then some (PyData.eqv d e) else none

def tru (g : Hh) : Vl → Option Bool
  | .non => some false
  | .bl b => some b
  | .int i => some (i != 0)
  | .str x => if x.length ≤ sizeLine then some ((x.length : Int) != 0) else none
  | .tup xs => some (!xs.isEmpty)
  | .ref n => (g[n]?).map fun o => !o.items.isEmpty

def Res.of {α : Type} (o : Option α) (h : Hh) : Res α := match o with
  | some a => .ok a h
  | none => .bad

def mulOk (i j : Int) : Bool := decide (i.natAbs < 2 ^ 64) || decide (j.natAbs < 2 ^ 64) || decide (i.natAbs.log2 + j.natAbs.log2 < 1000000)

/-- a new list -/
def new (B h : Hh) (xs : List Vl) : Res Vl := .ok (.ref (B ++ h).length) (h ++ [.lst xs])

def bopI : Bop → Int → Int → Option Int
  | .add, i, j => some (i + j)
  | .sub, i, j => some (i - j)
  | .mul, i, j => if mulOk i j then some (i * j) else none
  | .fdiv, i, j => if 0 < j ∧ j.natAbs.log2 < 9000 then some (i / j) else none
  | .mod, i, j => if 0 < j then some (i % j) else none
  | .pow, i, j => if 0 ≤ j ∧ j ≤ 1000000 ∧ i.natAbs < 2 ^ 64 then some (i ^ j.toNat) else none

def lstAt (g : Hh) (n : Nat) : Option (List Vl) := match g[n]? with
  | some (.lst xs) => some xs
  | _ => none

def bop (B h : Hh) : Bop → Vl → Vl → Res Vl
  | op, .int i, .int j => Res.of ((bopI op i j).map .int) h
  | .add, .ref m, .ref n => match lstAt (B ++ h) m, lstAt (B ++ h) n with
    | some xs, some ys => if xs.length + ys.length ≤ sizeLine then new B h (xs ++ ys) else .bad
    | _, _ => .bad
  | .mul, .ref m, .int k => match lstAt (B ++ h) m with
    | some xs => if -(2 ^ 63) ≤ k ∧ k < 2 ^ 63 ∧ xs.length * k.toNat ≤ sizeLine then new B h (List.replicate k.toNat xs).flatten else .bad
    | _ => .bad
  | .add, .tup xs, .tup ys => if xs.isEmpty then .bad else if xs.length + ys.length ≤ sizeLine then .ok (.tup (xs ++ ys)) h else .bad
  | _, _, _ => .bad

def copI : Cop → Int → Int → Bool
  | .eq, i, j => decide (i = j)
  | .ne, i, j => !decide (i = j)
  | .lt, i, j => decide (i < j)
  | .le, i, j => decide (i ≤ j)
  | .gt, i, j => decide (j < i)
  | .ge, i, j => decide (j ≤ i)

def cop (g : Hh) : Cop → Vl → Vl → Option Bool
  | op, .int i, .int j => some (copI op i j)
  | .eq, v, w => eqV' g v w
  | .ne, v, w => (eqV' g v w).map (!·)
  | _, _, _ => none

def isTy (g : Hh) : Ty → Vl → Option Bool
  | .int, .int _ => some true
  | .int, .bl _ => some true
  | .bool, .bl _ => some true
  | .str, .str _ => some true
  | .tuple, .tup _ => some true
  | .list, .ref n => (g[n]?).map fun _ => true
  | _, .ref n => (g[n]?).map fun _ => false
  | _, _ => some false
def isTys (g : Hh) (v : Vl) : List Ty → Option Bool
  | [] => some false
  | t :: ts => (isTy g t v).bind fun b => if b then some true else isTys g v ts

def intsOf : List Vl → Option (List Int)
  | [] => some []
  | .int i :: r => (intsOf r).map fun is => i :: is
  | _ :: _ => none
def blsOf : List Vl → Option (List Bool)
  | [] => some []
  | .bl b :: r => (blsOf r).map fun bs => b :: bs
  | _ :: _ => none

def refItems (g : Hh) : Vl → Option (List Vl)
  | .ref n => (g[n]?).map Ob.items
  | _ => none

def maxI (a : Int) (r : List Int) : Int := r.foldl (fun m x => if x > m then x else m) a
def minI (a : Int) (r : List Int) : Int := r.foldl (fun m x => if x < m then x else m) a

def bi1 (B h : Hh) : Bi → Vl → Res Vl
  | .len, .str x => if x.length ≤ sizeLine then .ok (.int x.length) h else .bad
  | .len, v => match items (B ++ h) v with
    | some xs => .ok (.int xs.length) h
    | none => .bad
  | .abs, .int i => .ok (.int (if i < 0 then -i else i)) h
  | .int, .int i => .ok (.int i) h
  | .int, .bl k => .ok (.int (if k then 1 else 0)) h
  | .sum, v => match (items (B ++ h) v).bind intsOf with
    | some ns => .ok (.int ns.sum) h
    | none => .bad
  | .maxl, v => match (refItems (B ++ h) v).bind intsOf with
    | some (n :: ns) => .ok (.int (maxI n ns)) h
    | _ => .bad
  | .minl, v => match (refItems (B ++ h) v).bind intsOf with
    | some (n :: ns) => .ok (.int (minI n ns)) h
    | _ => .bad
  | .all, v => match (refItems (B ++ h) v).bind blsOf with
    | some bs => .ok (.bl (bs.all id)) h
    | none => .bad
  | .any, v => match (refItems (B ++ h) v).bind blsOf with
    | some bs => .ok (.bl (bs.any id)) h
    | none => .bad
  | .tuple, .tup xs => .ok (.tup xs) h
  | .tuple, v => match refItems (B ++ h) v with
    | some xs => .ok (.tup xs) h
    | none => .bad
  | .list, v => match items (B ++ h) v with
    | some xs => new B h xs
    | none => .bad
  | _, _ => .bad

def bi2 (h : Hh) : Bi → Vl → Vl → Res Vl
  | .max2, .int i, .int j => .ok (.int (if j > i then j else i)) h
  | .min2, .int i, .int j => .ok (.int (if j < i then j else i)) h
  | _, _, _ => .bad

def bi (B h : Hh) (b : Bi) (xs : List Vl) : Res Vl := match xs with
  | [x] => bi1 B h b x
  | [x, y] => bi2 h b x y
  | _ => .bad

def ixV (g : Hh) : Vl → Vl → Option Vl
  | v, .int i => (items g v).bind fun xs => atI xs i
  | _, _ => none

def cutL (xs : List Vl) (lo hi : Option Int) : List Vl := (xs.drop (HT.sIx xs.length 0 lo)).take (HT.sIx xs.length xs.length hi - HT.sIx xs.length 0 lo)

def slV (B h : Hh) : Vl → Option Int → Option Int → Res Vl
  | .tup xs, lo, hi => .ok (.tup (cutL xs lo hi)) h
  | v, lo, hi => match refItems (B ++ h) v with
    | some xs => new B h (cutL xs lo hi)
    | none => .bad

/-- a store into the slots -/
def setTg (g : Hh) : Tg → Vl → Ev → Option Ev
  | .nm i, v, σ => some (σ.set i (some v))
  | .tp is, v, σ => match items g v with
    | some xs => if xs.length = is.length then some ((is.zip xs).foldl (fun s p => s.set p.1 (some p.2)) σ) else none
    | none => none
def wipeE (σ : Ev) : List Nat → Ev
  | [] => σ
  | v :: vs => (wipeE σ vs).set v none

/-- a list is changed -/
def put (B h : Hh) (n : Nat) (f : List Vl → Option (List Vl)) : Option Hh :=
  if n < B.length then none else match h[n - B.length]? with
    | some (.lst xs) => (f xs).map fun ys => h.set (n - B.length) (.lst ys)
    | _ => none

/-- what is walked: turn i, the heap as it stands: an item, or the end -/
inductive Wk where
  | seq (v : Vl) | rng (lo : Int) (n : Nat) | zip (a b : Vl) | enum (a : Vl)
def Wk.at (g : Hh) : Wk → Nat → Option (Option Vl)
  | .seq v, i => (items g v).map fun xs => xs[i]?
  | .rng lo n, i => some (if i < n then some (.int (lo + i)) else none)
  | .zip a b, i => (items g a).bind fun xs => (items g b).map fun ys => match xs[i]?, ys[i]? with
    | some x, some y => some (.tup [x, y])
    | _, _ => none
  | .enum a, i => (items g a).map fun xs => (xs[i]?).map fun x => .tup [.int i, x]
/-- more turns than any while has -/
def gas : Ev → Nat := fun _ => 1000000000000000000000000000000
/-- how many turns at most -/
def Wk.most (g : Hh) : Wk → Nat
  | .seq v => ((items g v).getD []).length
  | .rng _ n => n
  | .zip a _ => ((items g a).getD []).length
  | .enum a => ((items g a).getD []).length

/-- the turns of a comprehension: D its list -/
def lcTurns (B : Hh) (D : Nat) (w : Wk) (turn : Vl → Hh → Res (Option Vl)) : Nat → Nat → Hh → Res Vl
  | m, i, h => match w.at (B ++ h) i with
    | none => .bad
    | some none => .ok (.ref D) h
    | some (some x) => match m with
      | 0 => .bad
      | m + 1 => (turn x h).bind fun o h1 => match o with
        | none => lcTurns B D w turn m (i + 1) h1
        | some y => match put B h1 D (fun acc => if acc.length < sizeLine then some (acc ++ [y]) else none) with
          | none => .bad
          | some h2 => lcTurns B D w turn m (i + 1) h2
/-- the turns of a for -/
def forTurns (B : Hh) (w : Wk) (turn : Vl → Ev → Hh → Fl) : Nat → Nat → Ev → Hh → Fl
  | m, i, σ, h => match w.at (B ++ h) i with
    | none => .bad
    | some none => .nx σ h
    | some (some x) => match m with
      | 0 => .bad
      | m + 1 => match turn x σ h with
        | .nx σ1 h1 => forTurns B w turn m (i + 1) σ1 h1
        | .cnt σ1 h1 => forTurns B w turn m (i + 1) σ1 h1
        | .brk σ1 h1 => .nx σ1 h1
        | r => r
/-- the turns of a while -/
def whlTurns (c : Ev → Hh → Res Bool) (b : Ev → Hh → Fl) : Nat → Ev → Hh → Fl
  | m, σ, h => (c σ h).fl σ fun t h1 => if t then (match m with
      | 0 => .bad
      | m + 1 => match b σ h1 with
        | .nx σ1 h2 => whlTurns c b m σ1 h2
        | .cnt σ1 h2 => whlTurns c b m σ1 h2
        | .brk σ1 h2 => .nx σ1 h2
        | r => r) else .nx σ h1

/-- where one stands: how defs are called; the module's constants -/
structure Cf where
  C : Nat → List Vl → Hh → Hh → Res Vl
  gl : List Vl

def permL (perm : List Nat) (xs : List Vl) : List Vl := perm.filterMap fun i => xs[i]?

/-- a value's truth -/
def toB (B : Hh) (v : Vl) (h : Hh) : Res Bool := Res.of (tru (B ++ h) v) h

mutual
def ev (c : Cf) (B : Hh) : Ex → Ev → Hh → Res Vl
  | .var i, σ, h => match σ[i]? with
    | some (some v) => .ok v h
    | _ => .bad
  | .int i, _, h => .ok (.int i) h
  | .bl b, _, h => .ok (.bl b) h
  | .non, _, h => .ok .non h
  | .str x, _, h => .ok (.str x) h
  | .glo k, _, h => Res.of (c.gl[k]?) h
  | .bin op a b, σ, h => (ev c B a σ h).bind fun x h1 => (ev c B b σ h1).bind fun y h2 => bop B h2 op x y
  | .neg a, σ, h => (ev c B a σ h).bind fun x h1 => match x with
    | .int i => .ok (.int (-i)) h1
    | _ => .bad
  | .not a, σ, h => ((ev c B a σ h).bind (toB B)).bind fun b h1 => .ok (.bl (!b)) h1
  | .cmp op a b, σ, h => (ev c B a σ h).bind fun x h1 => (ev c B b σ h1).bind fun y h2 => Res.of ((cop (B ++ h2) op x y).map .bl) h2
  | .chain o p a b d, σ, h => (ev c B a σ h).bind fun x h1 => (ev c B b σ h1).bind fun y h2 => match cop (B ++ h2) o x y with
    | some true => (ev c B d σ h2).bind fun z h3 => Res.of ((cop (B ++ h3) p y z).map .bl) h3
    | some false => .ok (.bl false) h2
    | none => .bad
  | .isN a, σ, h => (ev c B a σ h).bind fun x h1 => .ok (.bl (match x with | .non => true | _ => false)) h1
  | .notN a, σ, h => (ev c B a σ h).bind fun x h1 => .ok (.bl (match x with | .non => false | _ => true)) h1
  | .and es, σ, h => evAnd c B es σ h
  | .or es, σ, h => evOr c B es σ h
  | .ife t a b, σ, h => ((ev c B t σ h).bind (toB B)).bind fun k h1 => if k then ev c B a σ h1 else ev c B b σ h1
  | .tup es, σ, h => (evs c B es σ h).bind fun xs h1 => if xs.length ≤ sizeLine then .ok (.tup xs) h1 else .bad
  | .lst es, σ, h => (evs c B es σ h).bind fun xs h1 => if xs.length ≤ sizeLine then new B h1 xs else .bad
  | .call f es, σ, h => (evs c B es σ h).bind fun xs h1 => c.C f xs B h1
  | .callk f es _ kes perm, σ, h => (evs c B es σ h).bind fun xs h1 => (evs c B kes σ h1).bind fun ys h2 => c.C f (permL perm (xs ++ ys)) B h2
  | .bi b es, σ, h => (evs c B es σ h).bind fun xs h1 => bi B h1 b xs
  | .isi a t, σ, h => (ev c B a σ h).bind fun x h1 => Res.of ((isTy (B ++ h1) t x).map .bl) h1
  | .isis a ts, σ, h => (ev c B a σ h).bind fun x h1 => Res.of ((isTys (B ++ h1) x ts).map .bl) h1
  | .ix a i, σ, h => (ev c B a σ h).bind fun x h1 => (ev c B i σ h1).bind fun y h2 => Res.of (ixV (B ++ h2) x y) h2
  | .sl a lo hi, σ, h => (ev c B a σ h).bind fun x h1 => (evPt c B lo σ h1).bind fun l h2 => (evPt c B hi σ h2).bind fun u h3 => slV B h3 x l u
  | .lc own t it cn e, σ, h => (evIt c B it σ h).bind fun w h1 =>
      lcTurns B (B ++ h1).length w (fun x h2 => match setTg (B ++ h2) t x (wipeE σ own) with
        | none => .bad
        | some σ2 => (tvCn c B cn σ2 h2).bind fun k h3 => if k then (ev c B e σ2 h3).bind fun y h4 => .ok (some y) h4 else .ok none h3)
        (w.most (B ++ h1)) 0 (h1 ++ [.lst []])
def evAnd (c : Cf) (B : Hh) : Exs → Ev → Hh → Res Vl
  | .nil, _, _ => .bad
  | .star _ _, _, _ => .bad
  | .cons e .nil, σ, h => ev c B e σ h
  | .cons e es, σ, h => (ev c B e σ h).bind fun v h1 => match tru (B ++ h1) v with
    | none => .bad
    | some b => if b then evAnd c B es σ h1 else .ok v h1
def evOr (c : Cf) (B : Hh) : Exs → Ev → Hh → Res Vl
  | .nil, _, _ => .bad
  | .star _ _, _, _ => .bad
  | .cons e .nil, σ, h => ev c B e σ h
  | .cons e es, σ, h => (ev c B e σ h).bind fun v h1 => match tru (B ++ h1) v with
    | none => .bad
    | some b => if b then .ok v h1 else evOr c B es σ h1
def evs (c : Cf) (B : Hh) : Exs → Ev → Hh → Res (List Vl)
  | .nil, _, h => .ok [] h
  | .cons e es, σ, h => (ev c B e σ h).bind fun x h1 => (evs c B es σ h1).bind fun xs h2 => .ok (x :: xs) h2
  | .star e es, σ, h => (ev c B e σ h).bind fun x h1 => match items (B ++ h1) x with
    | none => .bad
    | some xs => (evs c B es σ h1).bind fun ys h2 => .ok (xs ++ ys) h2
def evPt (c : Cf) (B : Hh) : Pt → Ev → Hh → Res (Option Int)
  | .no, _, h => .ok none h
  | .yes e, σ, h => (ev c B e σ h).bind fun x h1 => match x with
    | .int i => .ok (some i) h1
    | _ => .bad
def tvCn (c : Cf) (B : Hh) : Cn → Ev → Hh → Res Bool
  | .no, _, h => .ok true h
  | .yes e, σ, h => (ev c B e σ h).bind (toB B)
def evIt (c : Cf) (B : Hh) : It → Ev → Hh → Res Wk
  | .seq a, σ, h => (ev c B a σ h).bind fun x h1 => match items (B ++ h1) x with
    | some _ => .ok (.seq x) h1
    | none => .bad
  | .range1 a, σ, h => (ev c B a σ h).bind fun x h1 => match x with
    | .int j => if -(2 ^ 62) ≤ j ∧ j < 2 ^ 62 then .ok (.rng 0 j.toNat) h1 else .bad
    | _ => .bad
  | .range2 a b, σ, h => (ev c B a σ h).bind fun x h1 => (ev c B b σ h1).bind fun y h2 => match x, y with
    | .int i, .int j => if -(2 ^ 62) ≤ i ∧ i < 2 ^ 62 ∧ -(2 ^ 62) ≤ j ∧ j < 2 ^ 62 then .ok (.rng i (j - i).toNat) h2 else .bad
    | _, _ => .bad
  | .zip a b, σ, h => (ev c B a σ h).bind fun x h1 => (ev c B b σ h1).bind fun y h2 => match x, y with
    | .tup xs, .tup ys => .ok (.zip (.tup xs) (.tup ys)) h2
    | .ref m, .ref n => match (B ++ h2)[m]?, (B ++ h2)[n]? with
      | some _, some _ => .ok (.zip (.ref m) (.ref n)) h2
      | _, _ => .bad
    | _, _ => .bad
  | .enum a, σ, h => (ev c B a σ h).bind fun x h1 => match x with
    | .ref n => (match (B ++ h1)[n]? with
      | some _ => .ok (.enum (.ref n)) h1
      | none => .bad)
    | _ => .bad
end

mutual
def exc1 (c : Cf) (B : Hh) : Sm → Ev → Hh → Fl
  | .pass, σ, h => .nx σ h
  | .brk, σ, h => .brk σ h
  | .cnt, σ, h => .cnt σ h
  | .ex e, σ, h => (ev c B e σ h).fl σ fun _ h1 => .nx σ h1
  | .ret e, σ, h => (ev c B e σ h).fl σ fun v h1 => .ret v h1
  | .retN, _, h => .ret .non h
  | .set i e, σ, h => (ev c B e σ h).fl σ fun v h1 => .nx (σ.set i (some v)) h1
  | .tset is e, σ, h => (ev c B e σ h).fl σ fun v h1 => match setTg (B ++ h1) (.tp is) v σ with
    | some σ1 => .nx σ1 h1
    | none => .bad
  | .sub a i e, σ, h => (ev c B e σ h).fl σ fun v h1 => (ev c B a σ h1).fl σ fun x h2 => (ev c B i σ h2).fl σ fun y h3 => match x, y with
    | .ref n, .int k => (match put B h3 n (fun xs => (ixN xs.length k).map fun j => xs.set j v) with
      | some h4 => .nx σ h4
      | none => .bad)
    | _, _ => .bad
  | .app a e, σ, h => (ev c B a σ h).fl σ fun x h1 => match x with
    | .ref n => (ev c B e σ h1).fl σ fun y h2 => (match put B h2 n (fun xs => if xs.length < sizeLine then some (xs ++ [y]) else none) with
      | some h3 => .nx σ h3
      | none => .bad)
    | _ => .bad
  | .ite t a b, σ, h => ((ev c B t σ h).bind (toB B)).fl σ fun k h1 => if k then excs c B a σ h1 else excs c B b σ h1
  | .whl g t b, σ, h => whlTurns (fun σ h => (ev c B t σ h).bind (toB B)) (excs c B b) (g σ) σ h
  | .for_ t it b, σ, h => (evIt c B it σ h).fl σ fun w h1 => forTurns B w (fun x σ2 h2 => match setTg (B ++ h2) t x σ2 with
      | none => .bad
      | some σ3 => excs c B b σ3 h2) (w.most (B ++ h1)) 0 σ h1
  | .never, _, _ => .bad
def excs (c : Cf) (B : Hh) : Sms → Ev → Hh → Fl
  | .nil, σ, h => .nx σ h
  | .cons s ss, σ, h => match exc1 c B s σ h with
    | .nx σ1 h1 => excs c B ss σ1 h1
    | r => r
end

/-- a def: how many parameters, how many names in all, whether it leaves the caller's lists alone, its body -/
structure Fn where
  np : Nat
  nn : Nat
  pure : Bool
  body : Sms

def startE (f : Fn) (xs : List Vl) : Ev := xs.map some ++ List.replicate (f.nn - xs.length) none

/-- what a def that leaves the caller's lists alone hands back -/
def outP (B h : Hh) (v : Vl) (h' : Hh) : Res Vl :=
  if v.plain then .ok v h else match v with
  | .ref n => if n < (B ++ h).length then .ok v h else match h'[n - (B ++ h).length]? with
    | some (.lst xs) => if Vl.plains xs then new B h xs else .bad
    | _ => .bad
  | _ => .bad

def callF (T : List Fn) (gl : List Vl) : Nat → Nat → List Vl → Hh → Hh → Res Vl
  | 0, _, _, _, _ => .bad
  | k + 1, f, xs, B, h => match T[f]? with
    | none => .bad
    | some fn => if xs.length ≠ fn.np then .bad else
      if fn.pure then
        match excs ⟨callF T gl k, gl⟩ (B ++ h) fn.body (startE fn xs) [] with
        | .ret v h' => outP B h v h'
        | .nx _ _ => .ok .non h
        | .exc x _ _ => if Vl.plains x.fs then .exc x h else .bad
        | _ => .bad
      else
        match excs ⟨callF T gl k, gl⟩ B fn.body (startE fn xs) h with
        | .ret v h' => .ok v h'
        | .nx _ h' => .ok .non h'
        | .exc x _ h' => .exc x h'
        | _ => .bad
end GB

end
section
set_option Elab.async false
set_option linter.all false
set_option maxRecDepth 100000
/-! GbS1: how the evaluator's values and lists stand in the layer's heap. -/
namespace GB
open PySem PySem.Spec PyProof.Rows L2

section
variable (K : PySem.W.Frag)
mutual
inductive Rw (ρ : List Addr) (H : Hp) : Vl → V → Prop
  | non : Rw ρ H .non .non
  | bl (b : Bool) : Rw ρ H (.bl b) (.bl b)
  | int (i : Int) : Rw ρ H (.int i) (.int i)
  | str (x : Str) : Rw ρ H (.str x) (.str x)
  | tup {xs : List Vl} {a : Addr} {vs : List V} : SqT K H a vs → Rws ρ H xs vs → Rw ρ H (.tup xs) (.ref a)
  | ref {n : Nat} {a : Addr} : ρ[n]? = some a → Rw ρ H (.ref n) (.ref a)
inductive Rws (ρ : List Addr) (H : Hp) : List Vl → List V → Prop
  | nil : Rws ρ H [] []
  | cons {x : Vl} {v : V} {xs : List Vl} {vs : List V} : Rw ρ H x v → Rws ρ H xs vs → Rws ρ H (x :: xs) (v :: vs)
end

structure Ext (ρ : List Addr) (H : Hp) (ρ' : List Addr) (H' : Hp) : Prop where
  pre : ∀ (n : Nat) (a : Addr), ρ[n]? = some a → ρ'[n]? = some a
  tup : ∀ a vs, SqT K H a vs → SqT K H' a vs

/-- a list that is read alone -/
def FzL (H : Hp) (a : Addr) (vs : List V) : Prop :=
  (∃ o, H a = some (.frz o (.lst vs))) ∨
    ∃ (o : Obj) (its : Array Value) (n : Nat), K.lookup a = some o ∧ o.cls = .type "list" ∧ o.dict = none ∧ o.data = .seq its n ∧ its.size ≤ sizeLine ∧ Vals vs its.toList

def ObR (ρ : List Addr) (H : Hp) (a : Addr) : Ob → Prop
  | .lst xs => ∃ vs, H a = some (.lst vs) ∧ Rws K ρ H xs vs
  | .fz xs => ∃ vs, FzL K H a vs ∧ Rws K ρ H xs vs

structure Mt (ρ : List Addr) (g : Hh) (H : Hp) : Prop where
  len : ρ.length = g.length
  inj : ∀ (n m : Nat) (a : Addr) (xs ys : List Vl), ρ[n]? = some a → ρ[m]? = some a → g[n]? = some (.lst xs) → g[m]? = some (.lst ys) → n = m
  ob : ∀ (n : Nat) (o : Ob) (a : Addr), g[n]? = some o → ρ[n]? = some a → ObR K ρ H a o
end

section
variable {K : PySem.W.Frag} {ρ ρ' ρ2 : List Addr} {H H' H2 : Hp} {g : Hh}
mutual
theorem Rw.ext (e : Ext K ρ H ρ' H') : ∀ {x : Vl} {v : V}, Rw K ρ H x v → Rw K ρ' H' x v
  | _, _, .non => .non
  | _, _, .bl b => .bl b
  | _, _, .int i => .int i
  | _, _, .str x => .str x
  | _, _, .tup s r => .tup (e.tup _ _ s) (Rws.ext e r)
  | _, _, .ref h => .ref (e.pre _ _ h)
theorem Rws.ext (e : Ext K ρ H ρ' H') : ∀ {xs : List Vl} {vs : List V}, Rws K ρ H xs vs → Rws K ρ' H' xs vs
  | _, _, .nil => .nil
  | _, _, .cons r rs => .cons (Rw.ext e r) (Rws.ext e rs)
end
theorem Ext.refl : Ext K ρ H ρ H := ⟨fun _ _ h => h, fun _ _ h => h⟩
theorem Ext.trans (a : Ext K ρ H ρ' H') (b : Ext K ρ' H' ρ2 H2) : Ext K ρ H ρ2 H2 := ⟨fun n x h => b.pre n x (a.pre n x h), fun x vs h => b.tup x vs (a.tup x vs h)⟩

theorem Rws.length : ∀ {xs : List Vl} {vs : List V}, Rws K ρ H xs vs → xs.length = vs.length
  | _, _, .nil => rfl
  | _, _, .cons _ rs => by rw [List.length_cons, List.length_cons, Rws.length rs]
theorem Rws.append : ∀ {xs ys : List Vl} {vs ws : List V}, Rws K ρ H xs vs → Rws K ρ H ys ws → Rws K ρ H (xs ++ ys) (vs ++ ws)
  | _, _, _, _, .nil, s => s
  | _, _, _, _, .cons r rs, s => .cons r (Rws.append rs s)
theorem Rws.get : ∀ {xs : List Vl} {vs : List V} {i : Nat} {x : Vl}, Rws K ρ H xs vs → xs[i]? = some x → ∃ v, vs[i]? = some v ∧ Rw K ρ H x v
  | _, _, _, _, .nil, e => by simp at e
  | _, _, 0, _, .cons r _, e => by simp at e; subst e; exact ⟨_, rfl, r⟩
  | _, _, i + 1, x, .cons _ t, e => by
    obtain ⟨u, h1, h2⟩ := Rws.get (i := i) (x := x) t (by simpa using e)
    exact ⟨u, by simpa using h1, h2⟩
theorem Rws.set {x : Vl} {v : V} (r : Rw K ρ H x v) : ∀ {xs : List Vl} {vs : List V} (i : Nat), Rws K ρ H xs vs → Rws K ρ H (xs.set i x) (vs.set i v)
  | _, _, _, .nil => .nil
  | _, _, 0, .cons _ t => .cons r t
  | _, _, i + 1, .cons q t => .cons q (Rws.set r i t)
theorem Rws.take : ∀ {xs : List Vl} {vs : List V} (n : Nat), Rws K ρ H xs vs → Rws K ρ H (xs.take n) (vs.take n)
  | _, _, 0, _ => .nil
  | _, _, _ + 1, .nil => .nil
  | _, _, n + 1, .cons r t => .cons r (Rws.take n t)
theorem Rws.drop : ∀ {xs : List Vl} {vs : List V} (n : Nat), Rws K ρ H xs vs → Rws K ρ H (xs.drop n) (vs.drop n)
  | _, _, 0, r => r
  | _, _, _ + 1, .nil => .nil
  | _, _, n + 1, .cons _ t => Rws.drop n t
theorem Rws.one {x : Vl} {v : V} (r : Rw K ρ H x v) : Rws K ρ H [x] [v] := .cons r .nil
theorem Rws.rep {xs : List Vl} {vs : List V} (h : Rws K ρ H xs vs) : ∀ k : Nat, Rws K ρ H (List.replicate k xs).flatten (List.replicate k vs).flatten
  | 0 => .nil
  | k + 1 => by
    rw [List.replicate_succ, List.replicate_succ, List.flatten_cons, List.flatten_cons]
    exact Rws.append h (Rws.rep h k)
theorem Rws.ints : ∀ {xs : List Vl} {vs : List V} {ns : List Int}, Rws K ρ H xs vs → intsOf xs = some ns → vs = ns.map V.int
  | _, _, _, .nil, e => by simp only [intsOf, Option.some.injEq] at e; subst e; rfl
  | x :: xs, _, ns, .cons r rs, e => by
    cases r with
    | int i =>
      simp only [intsOf, Option.map_eq_some_iff] at e
      obtain ⟨is, e1, e2⟩ := e
      subst e2
      rw [Rws.ints rs e1]; rfl
    | _ => simp [intsOf] at e
theorem Rws.bls : ∀ {xs : List Vl} {vs : List V} {ns : List Bool}, Rws K ρ H xs vs → blsOf xs = some ns → vs = ns.map V.bl
  | _, _, _, .nil, e => by simp only [blsOf, Option.some.injEq] at e; subst e; rfl
  | x :: xs, _, ns, .cons r rs, e => by
    cases r with
    | bl i =>
      simp only [blsOf, Option.map_eq_some_iff] at e
      obtain ⟨is, e1, e2⟩ := e
      subst e2
      rw [Rws.bls rs e1]; rfl
    | _ => simp [blsOf] at e
mutual
/-- plain values lean on no place -/
theorem Rw.plain : ∀ {x : Vl} {v : V}, x.plain = true → Rw K ρ H x v → Rw K ρ' H x v
  | _, _, _, .non => .non
  | _, _, _, .bl b => .bl b
  | _, _, _, .int i => .int i
  | _, _, _, .str x => .str x
  | _, _, p, .tup s r => .tup s (Rws.plain (by simpa [Vl.plain] using p) r)
  | _, _, p, .ref h => by simp [Vl.plain] at p
theorem Rws.plain : ∀ {xs : List Vl} {vs : List V}, Vl.plains xs = true → Rws K ρ H xs vs → Rws K ρ' H xs vs
  | _, _, _, .nil => .nil
  | _, _, p, .cons r rs => by
    simp only [Vl.plains, Bool.and_eq_true] at p
    exact .cons (Rw.plain p.1 r) (Rws.plain p.2 rs)
end

/-! ### the heap -/
theorem SqT.upd_new {a p : Addr} {vs : List V} {o : HO} (hp : H p = none) (h : SqT K H a vs) : SqT K (upd H p o) a vs := by
  rcases h with (h | ⟨u, h⟩) | h
  · exact .inl (.inl (by rw [upd_ne (ne_of_none h hp)]; exact h))
  · exact .inl (.inr ⟨u, by rw [upd_ne (ne_of_none h hp)]; exact h⟩)
  · exact .inr h
theorem SqT.upd_lst {a p : Addr} {vs ws : List V} {o : HO} (hp : H p = some (.lst ws)) (h : SqT K H a vs) : SqT K (upd H p o) a vs := by
  rcases h with (h | ⟨u, h⟩) | h
  · exact .inl (.inl (by rw [upd_ne (ne_of h hp (by simp))]; exact h))
  · exact .inl (.inr ⟨u, by rw [upd_ne (ne_of h hp (by simp))]; exact h⟩)
  · exact .inr h
theorem FzL.upd_new {a p : Addr} {vs : List V} {o : HO} (hp : H p = none) (h : FzL K H a vs) : FzL K (upd H p o) a vs := by
  rcases h with ⟨u, h⟩ | h
  · exact .inl ⟨u, by rw [upd_ne (ne_of_none h hp)]; exact h⟩
  · exact .inr h
theorem FzL.upd_lst {a p : Addr} {vs ws : List V} {o : HO} (hp : H p = some (.lst ws)) (h : FzL K H a vs) : FzL K (upd H p o) a vs := by
  rcases h with ⟨u, h⟩ | h
  · exact .inl ⟨u, by rw [upd_ne (ne_of h hp (by simp))]; exact h⟩
  · exact .inr h
theorem FzL.sq {a : Addr} {vs : List V} (h : FzL K H a vs) : SqL K H a vs := by
  rcases h with ⟨u, h⟩ | h
  · exact .inl (.inr ⟨u, h⟩)
  · exact .inr h
theorem Ext.new {p : Addr} {o : HO} (hp : H p = none) : Ext K ρ H ρ (upd H p o) := ⟨fun _ _ h => h, fun _ _ h => GB.SqT.upd_new hp h⟩
theorem Ext.wr {p : Addr} {o : HO} {ws : List V} (hp : H p = some (.lst ws)) : Ext K ρ H ρ (upd H p o) := ⟨fun _ _ h => h, fun _ _ h => GB.SqT.upd_lst hp h⟩
theorem Ext.more (l : List Addr) : Ext K ρ H (ρ ++ l) H := ⟨fun n a h => by
  rw [List.getElem?_append_left (List.getElem?_eq_some_iff.mp h).1]; exact h, fun _ _ h => h⟩

/-- a new tuple, or anything that is no list of ours -/
theorem Mt.new (m : Mt K ρ g H) {p : Addr} {o : HO} (hp : H p = none) : Mt K ρ g (upd H p o) := by
  refine ⟨m.len, m.inj, fun n ob a e1 e2 => ?_⟩
  have h := m.ob n ob a e1 e2
  cases ob with
  | lst xs => obtain ⟨vs, h1, h2⟩ := h; exact ⟨vs, by rw [upd_ne (ne_of_none h1 hp)]; exact h1, h2.ext (.new hp)⟩
  | fz xs => obtain ⟨vs, h1, h2⟩ := h; exact ⟨vs, h1.upd_new hp, h2.ext (.new hp)⟩
theorem ObR.ext {a : Addr} {o : Ob} (e : Ext K ρ H ρ' H) (h : ObR K ρ H a o) : ObR K ρ' H a o := by
  cases o with
  | lst xs => obtain ⟨vs, h1, h2⟩ := h; exact ⟨vs, h1, h2.ext e⟩
  | fz xs => obtain ⟨vs, h1, h2⟩ := h; exact ⟨vs, h1, h2.ext e⟩
/-- a new list -/
theorem Mt.alloc (m : Mt K ρ g H) {p : Addr} {xs : List Vl} {vs : List V} (hp : H p = none) (r : Rws K ρ H xs vs) : Mt K (ρ ++ [p]) (g ++ [.lst xs]) (upd H p (.lst vs)) := by
  have m1 := m.new (o := .lst vs) hp
  have ex : Ext K ρ (upd H p (.lst vs)) (ρ ++ [p]) (upd H p (.lst vs)) := .more [p]
  have old : ∀ (n : Nat) (a : Addr), ρ[n]? = some a → n < g.length := fun n a h => by rw [← m.len]; exact (List.getElem?_eq_some_iff.mp h).1
  have npl : ∀ (n : Nat) (ys : List Vl), ρ[n]? = some p → g[n]? = some (.lst ys) → False := fun n ys h1 h2 => by
    obtain ⟨vs', h3, _⟩ := m.ob n _ p h2 h1
    rw [hp] at h3; cases h3
  have at_ : ∀ (n : Nat) (a : Addr), (ρ ++ [p])[n]? = some a → ρ[n]? = some a ∨ (n = g.length ∧ a = p) := fun n a h => by
    by_cases hn : n < ρ.length
    · rw [List.getElem?_append_left hn] at h; exact .inl h
    · rw [List.getElem?_append_right (by omega)] at h
      have hl : n - ρ.length < 1 := (List.getElem?_eq_some_iff.mp h).1
      have : n = ρ.length := by omega
      subst this
      simp at h
      exact .inr ⟨m.len, h.symm⟩
  have gat : ∀ (n : Nat) (o : Ob), (g ++ [Ob.lst xs])[n]? = some o → n < g.length → g[n]? = some o := fun n o h hn => by rw [List.getElem?_append_left hn] at h; exact h
  refine ⟨by simp [m.len], fun n k a ys zs e1 e2 e3 e4 => ?_, fun n o a e1 e2 => ?_⟩
  · rcases at_ n a e1 with f1 | ⟨f1, f1'⟩
    · rcases at_ k a e2 with f2 | ⟨f2, f2'⟩
      · exact m.inj n k a ys zs f1 f2 (gat _ _ e3 (old _ _ f1)) (gat _ _ e4 (old _ _ f2))
      · subst f2'
        exact (npl n ys f1 (gat _ _ e3 (old _ _ f1))).elim
    · rcases at_ k a e2 with f2 | ⟨f2, f2'⟩
      · subst f1'
        exact (npl k zs f2 (gat _ _ e4 (old _ _ f2))).elim
      · omega
  · rcases at_ n a e2 with f | ⟨f, f'⟩
    · exact (m1.ob n o a (gat _ _ e1 (old _ _ f)) f).ext ex
    · subst f f'
      simp at e1
      subst e1
      exact ⟨vs, upd_same, (r.ext (.new hp)).ext ex⟩
/-- a list is changed -/
theorem Mt.put (m : Mt K ρ g H) {n : Nat} {a : Addr} {xs ys : List Vl} {ws : List V} (e : g[n]? = some (.lst xs)) (ea : ρ[n]? = some a) (r : Rws K ρ H ys ws) : Mt K ρ (g.set n (.lst ys)) (upd H a (.lst ws)) ∧ Ext K ρ H ρ (upd H a (.lst ws)) := by
  obtain ⟨vs, hv, _⟩ := m.ob n _ a e ea
  have ex : Ext K ρ H ρ (upd H a (.lst ws)) := .wr hv
  have hn : n < g.length := (List.getElem?_eq_some_iff.mp e).1
  have back : ∀ (k : Nat) (zs : List Vl), (g.set n (.lst ys))[k]? = some (.lst zs) → ∃ zs', g[k]? = some (.lst zs') := fun k zs h => by
    by_cases hk : n = k
    · subst hk; exact ⟨xs, e⟩
    · rw [List.getElem?_set_ne hk] at h; exact ⟨zs, h⟩
  refine ⟨⟨by simpa using m.len, fun k l b us zs e1 e2 e3 e4 => ?_, fun k o b e1 e2 => ?_⟩, ex⟩
  · obtain ⟨us', h3⟩ := back _ _ e3
    obtain ⟨zs', h4⟩ := back _ _ e4
    exact m.inj k l b us' zs' e1 e2 h3 h4
  · by_cases hk : n = k
    · subst hk
      rw [List.getElem?_set_self hn] at e1
      cases e1
      rw [ea] at e2; cases e2
      exact ⟨ws, upd_same, r.ext ex⟩
    · rw [List.getElem?_set_ne hk] at e1
      have h := m.ob k o b e1 e2
      cases o with
      | lst us =>
        obtain ⟨vs', h1, h2⟩ := h
        have : b ≠ a := fun z => by subst z; exact hk (m.inj n k b xs us ea e2 e e1)
        exact ⟨vs', by rw [upd_ne this]; exact h1, h2.ext ex⟩
      | fz us =>
        obtain ⟨vs', h1, h2⟩ := h
        exact ⟨vs', h1.upd_lst hv, h2.ext ex⟩
/-- fewer lists are known -/
theorem Mt.less {g' : Hh} (m : Mt K ρ' (g ++ g') H') (hl : ρ.length = g.length) (e : ∀ (n : Nat) (a : Addr), ρ[n]? = some a → ρ'[n]? = some a)
    (ob : ∀ (n : Nat) (o : Ob) (a : Addr), g[n]? = some o → ρ[n]? = some a → ObR K ρ H' a o) : Mt K ρ g H' := by
  refine ⟨hl, fun n k a xs ys e1 e2 e3 e4 => ?_, ob⟩
  have f3 := (List.getElem?_eq_some_iff.mp e3).1
  have f4 := (List.getElem?_eq_some_iff.mp e4).1
  exact m.inj n k a xs ys (e _ _ e1) (e _ _ e2) (by rw [List.getElem?_append_left f3]; exact e3) (by rw [List.getElem?_append_left f4]; exact e4)

/-- what is read -/
theorem Mt.items (m : Mt K ρ g H) {x : Vl} {v : V} {xs : List Vl} (r : Rw K ρ H x v) (e : items g x = some xs) : ∃ a vs, v = .ref a ∧ (SqL K H a vs ∨ SqT K H a vs) ∧ Rws K ρ H xs vs := by
  cases r with
  | tup s rs => simp [GB.items] at e; subst e; exact ⟨_, _, rfl, .inr s, rs⟩
  | @ref n a h =>
    simp only [GB.items, Option.map_eq_some_iff] at e
    obtain ⟨o, e1, e2⟩ := e
    have ho := m.ob n o a e1 h
    subst e2
    cases o with
    | lst ys => obtain ⟨vs, h1, h2⟩ := ho; exact ⟨a, vs, rfl, .inl (SqL.of h1), h2⟩
    | fz ys => obtain ⟨vs, h1, h2⟩ := ho; exact ⟨a, vs, rfl, .inl h1.sq, h2⟩
  | _ => simp [GB.items] at e
theorem Mt.refItems (m : Mt K ρ g H) {x : Vl} {v : V} {xs : List Vl} (r : Rw K ρ H x v) (e : refItems g x = some xs) : ∃ a vs, v = .ref a ∧ SqL K H a vs ∧ Rws K ρ H xs vs := by
  cases r with
  | @ref n a h =>
    simp only [GB.refItems, Option.map_eq_some_iff] at e
    obtain ⟨o, e1, e2⟩ := e
    have ho := m.ob n o a e1 h
    subst e2
    cases o with
    | lst ys => obtain ⟨vs, h1, h2⟩ := ho; exact ⟨a, vs, rfl, SqL.of h1, h2⟩
    | fz ys => obtain ⟨vs, h1, h2⟩ := ho; exact ⟨a, vs, rfl, h1.sq, h2⟩
  | _ => simp [GB.refItems] at e
theorem Mt.lstAt (m : Mt K ρ g H) {n : Nat} {v : V} {xs : List Vl} (r : Rw K ρ H (.ref n) v) (e : lstAt g n = some xs) : ∃ a vs, v = .ref a ∧ ρ[n]? = some a ∧ g[n]? = some (.lst xs) ∧ H a = some (.lst vs) ∧ Rws K ρ H xs vs := by
  cases r with
  | ref h =>
    rename_i a
    have e' : g[n]? = some (.lst xs) := by
      unfold GB.lstAt at e
      split at e
      · rename_i ys q; cases e; exact q
      · cases e
    obtain ⟨vs, h1, h2⟩ := m.ob n _ a e' h
    exact ⟨a, vs, rfl, h, e', h1, h2⟩
end

/-! ### what is asked of an outcome -/
section
variable (K : PySem.W.Frag) (B : Hh)
abbrev RR (α β : Type) := List Addr → Hp → α → β → Prop
/-- the slots -/
def Rs (ρ : List Addr) (H : Hp) (σ' : Ev) (σ : L2.St) : Prop := σ'.length = σ.length ∧ ∀ (i : Nat) (x : Vl), σ'[i]? = some (some x) → ∃ v, σ[i]? = some (some v) ∧ Rw K ρ H x v
def Ok {α β : Type} (ρ : List Addr) (H : Hp) (R : RR α β) (W : Xc → List Addr → Hp → Prop) (r : Res α) (Q : β → Hp → Prop) : Prop :=
  match r with
  | .ok v h' => ∀ ρ' H' v', Ext K ρ H ρ' H' → Mt K ρ' (B ++ h') H' → R ρ' H' v v' → Q v' H'
  | .exc x h' => ∀ ρ' H', Ext K ρ H ρ' H' → Mt K ρ' (B ++ h') H' → W x ρ' H'
  | .bad => False
abbrev WW := L2.St → Xc → List Addr → Hp → Prop
def L {α β : Type} (R : RR α β) (W : WW) (f : Ev → Hh → Res α) : L2.St → Hp → (β → Hp → Prop) → Prop :=
  fun σ H Q => ∃ ρ σ' h, Mt K ρ (B ++ h) H ∧ Rs K ρ H σ' σ ∧ Ok K B ρ H R (W σ) (f σ' h) Q
/-- of a statement -/
def OkS (ρ : List Addr) (H : Hp) (W : WW) (r : Fl) (D : Ends) : Prop :=
  match r with
  | .nx σ' h' => ∀ ρ' H' σ, Ext K ρ H ρ' H' → Mt K ρ' (B ++ h') H' → Rs K ρ' H' σ' σ → D.nx σ H'
  | .brk σ' h' => ∀ ρ' H' σ, Ext K ρ H ρ' H' → Mt K ρ' (B ++ h') H' → Rs K ρ' H' σ' σ → D.bk σ H'
  | .cnt σ' h' => ∀ ρ' H' σ, Ext K ρ H ρ' H' → Mt K ρ' (B ++ h') H' → Rs K ρ' H' σ' σ → D.ct σ H'
  | .ret v h' => ∀ ρ' H' v', Ext K ρ H ρ' H' → Mt K ρ' (B ++ h') H' → Rw K ρ' H' v v' → D.rt v' H'
  | .exc x σ' h' => ∀ ρ' H' σ, Ext K ρ H ρ' H' → Mt K ρ' (B ++ h') H' → Rs K ρ' H' σ' σ → W σ x ρ' H'
  | .bad => False
def LS (W : WW) (f : Ev → Hh → Fl) : TS := fun D σ H => ∃ ρ σ' h, Mt K ρ (B ++ h) H ∧ Rs K ρ H σ' σ ∧ OkS K B ρ H W (f σ' h) D
end
section
variable {K : PySem.W.Frag} {B : Hh} {ρ ρ' : List Addr} {H H' : Hp} {α β γ δ : Type} {R : RR α β} {R' : RR γ δ} {W : Xc → List Addr → Hp → Prop}
theorem Rs.ext {σ' : Ev} {σ : L2.St} (e : Ext K ρ H ρ' H') (h : Rs K ρ H σ' σ) : Rs K ρ' H' σ' σ := ⟨h.1, fun i x q => let ⟨v, h1, h2⟩ := h.2 i x q; ⟨v, h1, h2.ext e⟩⟩
theorem Rs.set {σ' : Ev} {σ : L2.St} {x : Vl} {v : V} (i : Nat) (h : Rs K ρ H σ' σ) (r : Rw K ρ H x v) : Rs K ρ H (σ'.set i (some x)) (σ.set i (some v)) := by
  refine ⟨by simpa using h.1, fun j y q => ?_⟩
  by_cases hj : i = j
  · subst hj
    by_cases hi : i < σ'.length
    · rw [List.getElem?_set_self hi] at q
      cases q
      exact ⟨v, by rw [List.getElem?_set_self (by rw [← h.1]; exact hi)], r⟩
    · rw [List.getElem?_eq_none (by simpa using hi)] at q; cases q
  · rw [List.getElem?_set_ne hj] at q
    obtain ⟨w, h1, h2⟩ := h.2 j y q
    exact ⟨w, by rw [List.getElem?_set_ne hj]; exact h1, h2⟩
theorem Rs.wipe {σ' : Ev} {σ : L2.St} (h : Rs K ρ H σ' σ) : ∀ vs : List Nat, Rs K ρ H (wipeE σ' vs) (L2.wipe σ vs)
  | [] => h
  | v :: vs => by
    have ih := Rs.wipe h vs
    refine ⟨by simpa [wipeE, L2.wipe] using ih.1, fun j y q => ?_⟩
    unfold wipeE at q
    unfold L2.wipe
    by_cases hj : v = j
    · subst hj
      by_cases hi : v < (wipeE σ' vs).length
      · rw [List.getElem?_set_self hi] at q; cases q
      · rw [List.getElem?_eq_none (by simpa using hi)] at q; cases q
    · rw [List.getElem?_set_ne hj] at q
      obtain ⟨w, h1, h2⟩ := ih.2 j y q
      exact ⟨w, by rw [List.getElem?_set_ne hj]; exact h1, h2⟩
theorem Ok.ext {r : Res α} {Q : β → Hp → Prop} (e : Ext K ρ H ρ' H') (h : Ok K B ρ H R W r Q) : Ok K B ρ' H' R W r Q := by
  cases r with
  | ok v h' => exact fun ρ2 H2 v' e2 m q => h ρ2 H2 v' (e.trans e2) m q
  | exc x h' => exact fun ρ2 H2 e2 m => h ρ2 H2 (e.trans e2) m
  | bad => exact h
theorem Ok.mono {r : Res α} {Q Q' : β → Hp → Prop} (h : Ok K B ρ H R W r Q) (hq : ∀ v H, Q v H → Q' v H) : Ok K B ρ H R W r Q' := by
  cases r with
  | ok v h' => exact fun ρ2 H2 v' e2 m q => hq _ _ (h ρ2 H2 v' e2 m q)
  | exc x h' => exact h
  | bad => exact h
/-- THE STEP: one part, then the rest -/
theorem Ok.bind {r : Res γ} {k : γ → Hh → Res α} {Q : β → Hp → Prop} (h : Ok K B ρ H R W (r.bind k) Q) :
    Ok K B ρ H R' W r (fun v' H' => ∃ ρ' v h', Ext K ρ H ρ' H' ∧ Mt K ρ' (B ++ h') H' ∧ R' ρ' H' v v' ∧ Ok K B ρ' H' R W (k v h') Q) := by
  cases r with
  | ok v h' => exact fun ρ2 H2 v' e2 m q => ⟨ρ2, v, h', e2, m, q, Ok.ext e2 h⟩
  | exc x h' => exact h
  | bad => exact h
theorem OkS.ext {W : WW} {r : Fl} {D : Ends} (e : Ext K ρ H ρ' H') (h : OkS K B ρ H W r D) : OkS K B ρ' H' W r D := by
  cases r with
  | nx σ h' => exact fun ρ2 H2 v' e2 m q => h ρ2 H2 v' (e.trans e2) m q
  | brk σ h' => exact fun ρ2 H2 v' e2 m q => h ρ2 H2 v' (e.trans e2) m q
  | cnt σ h' => exact fun ρ2 H2 v' e2 m q => h ρ2 H2 v' (e.trans e2) m q
  | ret v h' => exact fun ρ2 H2 v' e2 m q => h ρ2 H2 v' (e.trans e2) m q
  | exc x σ h' => exact fun ρ2 H2 v' e2 m q => h ρ2 H2 v' (e.trans e2) m q
  | bad => exact h
/-- a part of a statement -/
theorem OkS.part {W : WW} {r : Res γ} {σ' : Ev} {σ : L2.St} {k : γ → Hh → Fl} {D : Ends} (s : Rs K ρ H σ' σ) (h : OkS K B ρ H W (r.fl σ' k) D) :
    Ok K B ρ H R' (W σ) r (fun v' H' => ∃ ρ' v h', Ext K ρ H ρ' H' ∧ Mt K ρ' (B ++ h') H' ∧ R' ρ' H' v v' ∧ OkS K B ρ' H' W (k v h') D) := by
  cases r with
  | ok v h' => exact fun ρ2 H2 v' e2 m q => ⟨ρ2, v, h', e2, m, q, OkS.ext e2 h⟩
  | exc x h' => exact fun ρ2 H2 e2 m => h ρ2 H2 σ e2 m (s.ext e2)
  | bad => exact h
end
end GB

end
section
set_option Elab.async false
set_option linter.all false
set_option maxRecDepth 100000
/-! GbS2: operators, comparisons, built-ins by values. -/
namespace GB
open PySem PySem.Spec PyProof.Rows L2

section
variable {K : PySem.W.Frag} {B h : Hh} {ρ : List Addr} {H : Hp} {W : Xc → List Addr → Hp → Prop}
theorem fin_ok {v : Vl} {v' : V} {Q : VK} (ok : Ok K B ρ H (Rw K) W (.ok v h) Q) (m : Mt K ρ (B ++ h) H) (r : Rw K ρ H v v') : Q v' H := ok ρ H v' .refl m r
theorem fin_new {xs : List Vl} {vs : List V} {p : Addr} {Q : VK} (ok : Ok K B ρ H (Rw K) W (new B h xs) Q) (m : Mt K ρ (B ++ h) H) (r : Rws K ρ H xs vs) (hp : H p = none) : Q (.ref p) (upd H p (.lst vs)) := by
  have m1 := m.alloc hp r
  have e1 : Ext K ρ H (ρ ++ [p]) (upd H p (.lst vs)) := (Ext.new hp).trans (Ext.more [p])
  refine ok (ρ ++ [p]) _ (.ref p) e1 (by rw [← List.append_assoc]; exact m1) (.ref ?_)
  rw [← m.len]
  simp
theorem fin_tup {xs : List Vl} {vs : List V} {p : Addr} {Q : VK} (ok : Ok K B ρ H (Rw K) W (.ok (.tup xs) h) Q) (m : Mt K ρ (B ++ h) H) (r : Rws K ρ H xs vs) (hp : H p = none) : Q (.ref p) (upd H p (.tup vs)) :=
  ok ρ _ (.ref p) (.new hp) (m.new hp) (.tup (SqT.of upd_same) (r.ext (.new hp)))
end

/-- a two-place operation by the evaluator's values -/
def RB (K : PySem.W.Frag) (B : Hh) (W : Xc → List Addr → Hp → Prop) (f : Vl → Vl → Hh → Res Vl) : R2 := fun x' y' H Q =>
  ∃ ρ h x y, Mt K ρ (B ++ h) H ∧ Rw K ρ H x x' ∧ Rw K ρ H y y' ∧ Ok K B ρ H (Rw K) W (f x y h) Q
def RC (K : PySem.W.Frag) (B : Hh) (W : Xc → List Addr → Hp → Prop) (f : List Vl → Hh → Res Vl) : List V → Hp → VK → Prop := fun vs H Q =>
  ∃ ρ h xs, Mt K ρ (B ++ h) H ∧ Rws K ρ H xs vs ∧ Ok K B ρ H (Rw K) W (f xs h) Q

def opOf : Bop → Operator
  | .add => .Add | .sub => .Sub | .mul => .Mult | .fdiv => .FloorDiv | .mod => .Mod | .pow => .Pow
def cpOf : Cop → CmpOp
  | .eq => .Eq | .ne => .NotEq | .lt => .Lt | .le => .LtE | .gt => .Gt | .ge => .GtE

theorem mulOk_ok {i j : Int} (h : mulOk i j = true) : IntMulOk i j := by
  unfold mulOk at h
  simp only [Bool.or_eq_true, decide_eq_true_eq] at h
  rcases h with (h | h) | h
  · exact CMul.ok (.inl (by omega))
  · exact CMul.ok (.inr (by omega))
  · exact CMulW.ok h

section
variable {X : Cx} {B : Hh} {W : Xc → List Addr → Hp → Prop}
theorem op_mulM : OpR X (binaryOp .Mult) (rI (fun i j => mulOk i j = true) fun i j => .int (i * j)) := opI fun _ _ _ _ _ _ _ hc q => mul_int q (mulOk_ok hc)

theorem opB (op : Bop) : OpR X (binaryOp (opOf op)) (RB X.K B W fun x y h => bop B h op x y) := by
  intro pins s σ H x' y' v u Q I rv ru hq
  obtain ⟨ρ, h, x, y, m, rx, ry, ok⟩ := hq
  cases rx with
  | int i =>
    cases ry with
    | int j =>
      cases op with
      | add => exact op_add pins s σ H _ _ v u Q I rv ru ⟨i, j, rfl, rfl, fin_ok ok m (.int _)⟩
      | sub => exact op_sub pins s σ H _ _ v u Q I rv ru ⟨i, j, rfl, rfl, fin_ok ok m (.int _)⟩
      | mul =>
        by_cases c : mulOk i j = true
        · simp only [bop, bopI, c, if_true, Option.map_some, Res.of] at ok
          exact op_mulM pins s σ H _ _ v u Q I rv ru ⟨i, j, rfl, rfl, c, fin_ok ok m (.int _)⟩
        · simp only [bop, bopI, c, if_false, Option.map_none, Res.of] at ok
          exact False.elim ok
      | fdiv =>
        by_cases c : 0 < j ∧ j.natAbs.log2 < 9000
        · simp only [bop, bopI, if_pos c, Option.map_some, Res.of] at ok
          exact op_fdivW pins s σ H _ _ v u Q I rv ru ⟨i, j, rfl, rfl, c, fin_ok ok m (.int _)⟩
        · simp only [bop, bopI, if_neg c, Option.map_none, Res.of] at ok
          exact False.elim ok
      | mod =>
        by_cases c : 0 < j
        · simp only [bop, bopI, if_pos c, Option.map_some, Res.of] at ok
          exact op_mod pins s σ H _ _ v u Q I rv ru ⟨i, j, rfl, rfl, c, fin_ok ok m (.int _)⟩
        · simp only [bop, bopI, if_neg c, Option.map_none, Res.of] at ok
          exact False.elim ok
      | pow =>
        by_cases c : 0 ≤ j ∧ j ≤ 1000000 ∧ i.natAbs < 2 ^ 64
        · simp only [bop, bopI, if_pos c, Option.map_some, Res.of] at ok
          exact op_pow pins s σ H _ _ v u Q I rv ru ⟨i, j, rfl, rfl, c, fin_ok ok m (.int _)⟩
        · simp only [bop, bopI, if_neg c, Option.map_none, Res.of] at ok
          exact False.elim ok
    | _ => cases op <;> exact False.elim ok
  | @tup xs a vs sa ra =>
    cases ry with
    | @tup ys b ws sb rb =>
      cases op with
      | add =>
        by_cases c0 : xs.isEmpty = true
        · simp only [bop, c0, if_true] at ok
          exact False.elim ok
        · by_cases c1 : xs.length + ys.length ≤ sizeLine
          · simp only [bop, c0, if_false, if_pos c1] at ok
            have hne : vs ≠ [] := fun z => by subst z; cases ra; simp at c0
            have l1 := ra.length
            have l2 := rb.length
            refine op_catT pins s σ H _ _ v u Q I rv ru ⟨a, b, vs, ws, rfl, rfl, sa, sb, hne, by omega, fun z => ?_, fun _ p hp => ?_⟩
            · subst z
              have : ys = [] := by cases rb; rfl
              subst this
              refine fin_ok ok m (.tup sa (by simpa using ra))
            · exact fin_tup ok m (ra.append rb) hp
          · simp only [bop, c0, if_false, if_neg c1] at ok
            exact False.elim ok
      | _ => exact False.elim ok
    | _ => cases op <;> exact False.elim ok
  | @ref n a ea =>
    cases ry with
    | int k =>
      cases op with
      | mul =>
        simp only [bop] at ok
        split at ok
        · rename_i xs e
          split at ok
          · rename_i c
            obtain ⟨a', vs, e1, e2, e3, e4, r⟩ := m.lstAt (.ref ea) e
            cases e1
            have l1 := r.length
            exact op_rep pins s σ H _ _ v u Q I rv ru ⟨a, k, vs, rfl, rfl, e4, c.1, c.2.1, by rw [← l1]; exact c.2.2, fun p hp => fin_new ok m (r.rep _) hp⟩
          · exact False.elim ok
        · exact False.elim ok
      | _ => exact False.elim ok
    | @ref n2 b eb =>
      cases op with
      | add =>
        simp only [bop] at ok
        split at ok
        · rename_i xs ys e1 e2
          split at ok
          · rename_i c
            obtain ⟨a', vs, f1, f2, f3, f4, r⟩ := m.lstAt (.ref ea) e1
            obtain ⟨b', ws, g1, g2, g3, g4, q⟩ := m.lstAt (.ref eb) e2
            cases f1
            cases g1
            have l1 := r.length
            have l2 := q.length
            exact op_cat pins s σ H _ _ v u Q I rv ru ⟨a, b, vs, ws, rfl, rfl, f4, g4, by omega, fun p hp => fin_new ok m (r.append q) hp⟩
          · exact False.elim ok
        · exact False.elim ok
      | _ => exact False.elim ok
    | _ => cases op <;> exact False.elim ok
  | _ => cases op <;> cases ry <;> exact False.elim ok

/-! ### data -/
theorem toD_dp {K : PySem.W.Frag} {ρ : List Addr} {H : Hp} {g : Hh} (m : Mt K ρ g H) : ∀ (n : Nat) {x : Vl} {v : V} {d : PyData}, Rw K ρ H x v → toD n g x = some d → Dp K H v d
  | 0, _, _, _, _, e => by simp [toD] at e
  | n + 1, x, v, d, r, e => by
    have all : ∀ {xs : List Vl} {vs : List V} {ds : List PyData}, Rws K ρ H xs vs → toDs (toD n g) xs = some ds → DpAll K H vs ds := by
      intro xs
      induction xs with
      | nil => intro vs ds q e; cases q; simp [toDs] at e; subst e; exact .nil
      | cons x xs ih =>
        intro vs ds q e
        cases q with
        | cons q1 q2 =>
          simp only [toDs, Option.bind_eq_some_iff, Option.map_eq_some_iff] at e
          obtain ⟨d, e1, ds', e2, rfl⟩ := e
          exact .cons (toD_dp m n q1 e1) (ih q2 e2)
    cases r with
    | non => simp [toD] at e; subst e; exact .non
    | bl b => simp [toD] at e; subst e; exact .bl b
    | int i => simp [toD] at e; subst e; exact .int i
    | str y => simp [toD] at e; subst e; exact .str y
    | tup s rs =>
      simp only [toD, Option.map_eq_some_iff] at e
      obtain ⟨ds, e1, rfl⟩ := e
      exact .tup s (all rs e1)
    | @ref k a h =>
      simp only [toD, Option.bind_eq_some_iff, Option.map_eq_some_iff] at e
      obtain ⟨o, e0, ds, e1, rfl⟩ := e
      obtain ⟨a', vs, f1, f2, f3⟩ := m.refItems (xs := o.items) (.ref h) (by simp [refItems, e0])
      cases f1
      exact .lst f2 (all f3 e1)

theorem eqD_of {K : PySem.W.Frag} {ρ : List Addr} {H : Hp} {g : Hh} (m : Mt K ρ g H) {x y : Vl} {x' y' : V} {b : Bool} (rx : Rw K ρ H x x') (ry : Rw K ρ H y y') (e : eqV' g x y = some b) :
    ∃ d d', Dp K H x' d ∧ Dp K H y' d' ∧ SeqAt.shaped d = true ∧ SeqAt.shaped d' = true ∧ PyData.eqv d d' = b := by
  unfold eqV' at e
  simp only [Option.bind_eq_some_iff] at e
  obtain ⟨d, e1, d', e2, e3⟩ := e
  split at e3
  · rename_i c
    rw [Bool.and_eq_true] at c
    exact ⟨d, d', toD_dp m _ rx e1, toD_dp m _ ry e2, c.1, c.2, Option.some.inj e3⟩
  · cases e3

def cop' (B : Hh) (op : Cop) (x y : Vl) (h : Hh) : Res Vl := Res.of ((cop (B ++ h) op x y).map .bl) h
theorem opC (hu : X.A.units + 64 < cLine) (op : Cop) : OpR X (compareOp (cpOf op)) (RB X.K B W (cop' B op)) := by
  intro pins s σ H x' y' v u Q I rv ru hq
  obtain ⟨ρ, h, x, y, m, rx, ry, ok⟩ := hq
  have gen : ∀ (hne : ∀ i j, ¬ (x = .int i ∧ y = .int j)), wpAny (model X.prog X.w) X.A (compareOp (cpOf op) v u) (EP X pins σ Q) X.xe s := by
    intro hne
    have eqc : cop (B ++ h) .eq x y = eqV' (B ++ h) x y := by
      cases x <;> first | rfl | (cases y <;> first | rfl | exact absurd ⟨rfl, rfl⟩ (hne _ _))
    have nec : cop (B ++ h) .ne x y = (eqV' (B ++ h) x y).map (!·) := by
      cases x <;> first | rfl | (cases y <;> first | rfl | exact absurd ⟨rfl, rfl⟩ (hne _ _))
    have no : ∀ o : Cop, o ≠ .eq → o ≠ .ne → cop (B ++ h) o x y = none := by
      intro o h1 h2
      cases o <;> first | exact absurd rfl h1 | exact absurd rfl h2 | (cases x <;> first | rfl | (cases y <;> first | rfl | exact absurd ⟨rfl, rfl⟩ (hne _ _)))
    cases op with
    | eq =>
      unfold cop' at ok
      rw [eqc] at ok
      cases e : eqV' (B ++ h) x y with
      | none => rw [e] at ok; exact False.elim ok
      | some b =>
        rw [e] at ok
        obtain ⟨d, d', h1, h2, h3, h4, h5⟩ := eqD_of m rx ry e
        exact op_eqD hu pins s σ H _ _ v u Q I rv ru ⟨d, d', h1, h2, h3, h4, by rw [h5]; exact fin_ok ok m (.bl b)⟩
    | ne =>
      unfold cop' at ok
      rw [nec] at ok
      cases e : eqV' (B ++ h) x y with
      | none => rw [e] at ok; exact False.elim ok
      | some b =>
        rw [e] at ok
        obtain ⟨d, d', h1, h2, h3, h4, h5⟩ := eqD_of m rx ry e
        exact op_neD hu pins s σ H _ _ v u Q I rv ru ⟨d, d', h1, h2, h3, h4, by rw [h5]; exact fin_ok ok m (.bl _)⟩
    | lt => unfold cop' at ok; rw [no _ (by decide) (by decide)] at ok; exact False.elim ok
    | le => unfold cop' at ok; rw [no _ (by decide) (by decide)] at ok; exact False.elim ok
    | gt => unfold cop' at ok; rw [no _ (by decide) (by decide)] at ok; exact False.elim ok
    | ge => unfold cop' at ok; rw [no _ (by decide) (by decide)] at ok; exact False.elim ok
  cases rx with
  | int i =>
    cases ry with
    | int j =>
      cases op with
      | eq => exact op_eq pins s σ H _ _ v u Q I rv ru ⟨rfl, by
          have := fin_ok (v' := .bl (decide (i = j))) ok m (.bl _)
          have e : decide (V.int i = V.int j) = decide (i = j) := by simp
          rw [e]; exact this⟩
      | ne => exact op_ne pins s σ H _ _ v u Q I rv ru ⟨rfl, by
          have := fin_ok (v' := .bl (!decide (i = j))) ok m (.bl _)
          have e : decide (V.int i = V.int j) = decide (i = j) := by simp
          rw [e]; exact this⟩
      | lt => exact op_lt pins s σ H _ _ v u Q I rv ru ⟨i, j, rfl, rfl, fin_ok ok m (.bl _)⟩
      | le => exact op_le pins s σ H _ _ v u Q I rv ru ⟨i, j, rfl, rfl, fin_ok ok m (.bl _)⟩
      | gt => exact op_gt pins s σ H _ _ v u Q I rv ru ⟨i, j, rfl, rfl, fin_ok ok m (.bl _)⟩
      | ge => exact op_ge pins s σ H _ _ v u Q I rv ru ⟨i, j, rfl, rfl, fin_ok ok m (.bl _)⟩
    | _ => exact gen (fun _ _ z => nomatch z.2)
  | _ => exact gen (fun _ _ z => nomatch z.1)

/-! ### truth -/
theorem tru_of {K : PySem.W.Frag} {ρ : List Addr} {H : Hp} {g : Hh} (m : Mt K ρ g H) {x : Vl} {v : V} {b : Bool} (r : Rw K ρ H x v) (e : tru g x = some b) : TruV K v H b := by
  cases r with
  | non => simp [tru] at e; exact e
  | bl k => simp [tru] at e; exact e.symm
  | int i => simp [tru] at e; exact e.symm
  | str y =>
    simp only [tru] at e
    split at e
    · rename_i c; exact ⟨c, (Option.some.inj e).symm⟩
    · cases e
  | @tup xs a vs s rs =>
    simp only [tru, Option.some.injEq] at e
    refine .inr (.inl ⟨vs, s, ?_⟩)
    rw [← e]
    have := rs.length
    cases xs <;> cases vs <;> simp_all
  | @ref n a h =>
    simp only [tru, Option.map_eq_some_iff] at e
    obtain ⟨o, e0, e1⟩ := e
    obtain ⟨a', vs, f1, f2, f3⟩ := m.refItems (xs := o.items) (.ref h) (by simp [refItems, e0])
    cases f1
    refine .inl ⟨vs, f2, ?_⟩
    rw [← e1]
    have := f3.length
    cases hx : o.items <;> cases vs <;> simp_all

/-! ### built-ins -/
theorem Rws.inv1 {K : PySem.W.Frag} {ρ : List Addr} {H : Hp} {x : Vl} {vs : List V} (r : Rws K ρ H [x] vs) : ∃ v, vs = [v] ∧ Rw K ρ H x v := by
  cases r with
  | cons q t => cases t; exact ⟨_, rfl, q⟩
theorem Rws.inv2 {K : PySem.W.Frag} {ρ : List Addr} {H : Hp} {x y : Vl} {vs : List V} (r : Rws K ρ H [x, y] vs) : ∃ v w, vs = [v, w] ∧ Rw K ρ H x v ∧ Rw K ρ H y w := by
  cases r with
  | cons q t =>
    cases t with
    | cons q2 t2 => cases t2; exact ⟨_, _, rfl, q, q2⟩

theorem bad2 {K : PySem.W.Frag} {ρ : List Addr} {H : Hp} {B h : Hh} {b : Bi} {x y : Vl} {Q : VK} (h1 : b ≠ .max2) (h2 : b ≠ .min2) (ok : Ok K B ρ H (Rw K) W (bi B h b [x, y]) Q) : False := by
  have e : bi B h b [x, y] = .bad := by
    show bi2 h b x y = .bad
    cases b <;> first | exact absurd rfl h1 | exact absurd rfl h2 | (cases x <;> first | rfl | (cases y <;> rfl))
  rw [e] at ok
  exact ok
theorem bad1 {K : PySem.W.Frag} {ρ : List Addr} {H : Hp} {B h : Hh} {b : Bi} {x : Vl} {Q : VK} (h1 : b = .max2 ∨ b = .min2) (ok : Ok K B ρ H (Rw K) W (bi B h b [x]) Q) : False := by
  have e : bi B h b [x] = .bad := by
    show bi1 B h b x = .bad
    rcases h1 with rfl | rfl <;> cases x <;> rfl
  rw [e] at ok
  exact ok
theorem cr_len : CallR X (.builtin "len") (RC X.K B W fun xs h => bi B h .len xs) := by
  intro pins s σ H vs us Q I rv hq
  obtain ⟨ρ, h, xs, m, r, ok⟩ := hq
  match xs, r, ok with
  | [], _, ok => exact False.elim ok
  | _ :: _ :: _ :: _, _, ok => exact False.elim ok
  | [x, y], _, ok => exact False.elim (bad2 (by decide) (by decide) ok)
  | [x], r, ok =>
    obtain ⟨v, rfl, rx⟩ := r.inv1
    have gen : ∀ ys, items (B ++ h) x = some ys → bi B h .len [x] = .ok (.int ys.length) h → wpAny (model X.prog X.w) X.A (call (.builtin "len") us) (EP X pins σ Q) X.xe s := fun ys e1 e2 => by
      replace ok : Ok X.K B ρ H (Rw X.K) W (bi B h .len [x]) Q := ok
      rw [e2] at ok
      obtain ⟨a, ws, rfl, hs, rs⟩ := m.items rx e1
      have hl := rs.length
      refine call_len pins s σ H _ us Q I rv ⟨.ref a, ws.length, rfl, ?_, by rw [← hl]; exact fin_ok ok m (.int _)⟩
      rcases hs with hs | hs
      · exact .inl ⟨ws, hs, rfl⟩
      · exact .inr ⟨ws, hs, rfl⟩
    cases x with
    | str y =>
      cases rx
      simp only [bi, bi1] at ok
      split at ok
      · rename_i c
        exact call_len pins s σ H _ us Q I rv ⟨.str y, y.length, rfl, ⟨c, rfl⟩, fin_ok ok m (.int _)⟩
      · exact False.elim ok
    | tup ys => exact gen ys rfl rfl
    | ref n =>
      cases e : items (B ++ h) (.ref n) with
      | none => simp only [bi, bi1, e] at ok; exact False.elim ok
      | some ys => exact gen ys e (by simp only [bi, bi1, e])
    | _ => exact False.elim ok
theorem cr_abs : CallR X (.builtin "abs") (RC X.K B W fun xs h => bi B h .abs xs) := by
  intro pins s σ H vs us Q I rv hq
  obtain ⟨ρ, h, xs, m, r, ok⟩ := hq
  match xs, r, ok with
  | [], _, ok => exact False.elim ok
  | _ :: _ :: _ :: _, _, ok => exact False.elim ok
  | [x, y], _, ok => exact False.elim (bad2 (by decide) (by decide) ok)
  | [x], r, ok =>
    obtain ⟨v, rfl, rx⟩ := r.inv1
    cases rx with
    | int i => exact call_abs pins s σ H _ us Q I rv ⟨i, rfl, fin_ok ok m (.int _)⟩
    | _ => exact False.elim ok
theorem cr_int : CallR X (.type "int") (RC X.K B W fun xs h => bi B h .int xs) := by
  intro pins s σ H vs us Q I rv hq
  obtain ⟨ρ, h, xs, m, r, ok⟩ := hq
  match xs, r, ok with
  | [], _, ok => exact False.elim ok
  | _ :: _ :: _ :: _, _, ok => exact False.elim ok
  | [x, y], _, ok => exact False.elim (bad2 (by decide) (by decide) ok)
  | [x], r, ok =>
    obtain ⟨v, rfl, rx⟩ := r.inv1
    cases rx with
    | int i => exact call_int1 pins s σ H _ us Q I rv (.inl ⟨i, rfl, fin_ok ok m (.int _)⟩)
    | bl k => exact call_int1 pins s σ H _ us Q I rv (.inr ⟨k, rfl, fin_ok ok m (.int _)⟩)
    | _ => exact False.elim ok
theorem cr_max2 (hc : X.calm = true) : CallR X (.builtin "max") (RC X.K B W fun xs h => bi B h .max2 xs) := by
  intro pins s σ H vs us Q I rv hq
  obtain ⟨ρ, h, xs, m, r, ok⟩ := hq
  match xs, r, ok with
  | [], _, ok => exact False.elim ok
  | [x], _, ok => exact False.elim (bad1 (by decide) ok)
  | _ :: _ :: _ :: _, _, ok => exact False.elim ok
  | [x, y], r, ok =>
    obtain ⟨v, w, rfl, rx, ry⟩ := r.inv2
    cases rx with
    | int i =>
      cases ry with
      | int j => exact call_max2 hc pins s σ H _ us Q I rv ⟨i, j, rfl, fin_ok ok m (.int _)⟩
      | _ => exact False.elim ok
    | _ => exact False.elim ok
theorem cr_min2 (hc : X.calm = true) : CallR X (.builtin "min") (RC X.K B W fun xs h => bi B h .min2 xs) := by
  intro pins s σ H vs us Q I rv hq
  obtain ⟨ρ, h, xs, m, r, ok⟩ := hq
  match xs, r, ok with
  | [], _, ok => exact False.elim ok
  | [x], _, ok => exact False.elim (bad1 (by decide) ok)
  | _ :: _ :: _ :: _, _, ok => exact False.elim ok
  | [x, y], r, ok =>
    obtain ⟨v, w, rfl, rx, ry⟩ := r.inv2
    cases rx with
    | int i =>
      cases ry with
      | int j => exact call_min2 hc pins s σ H _ us Q I rv ⟨i, j, rfl, fin_ok ok m (.int _)⟩
      | _ => exact False.elim ok
    | _ => exact False.elim ok

theorem maxI_mem (a : Int) : ∀ r : List Int, (maxI a r = a ∨ maxI a r ∈ r) ∧ a ≤ maxI a r ∧ ∀ y ∈ r, y ≤ maxI a r := by
  intro r
  induction r generalizing a with
  | nil => exact ⟨.inl rfl, Int.le_refl _, fun _ h => nomatch h⟩
  | cons x r ih =>
    have e : maxI a (x :: r) = maxI (if x > a then x else a) r := rfl
    rw [e]
    obtain ⟨h1, h2, h3⟩ := ih (if x > a then x else a)
    refine ⟨?_, ?_, fun y hy => ?_⟩
    · rcases h1 with h1 | h1
      · rw [h1]
        split
        · exact .inr (by simp)
        · exact .inl rfl
      · exact .inr (List.mem_cons_of_mem _ h1)
    · revert h2; split <;> intro h2 <;> omega
    · rcases List.mem_cons.mp hy with rfl | hy
      · revert h2; split <;> intro h2 <;> omega
      · exact h3 y hy
theorem minI_mem (a : Int) : ∀ r : List Int, (minI a r = a ∨ minI a r ∈ r) ∧ minI a r ≤ a ∧ ∀ y ∈ r, minI a r ≤ y := by
  intro r
  induction r generalizing a with
  | nil => exact ⟨.inl rfl, Int.le_refl _, fun _ h => nomatch h⟩
  | cons x r ih =>
    have e : minI a (x :: r) = minI (if x < a then x else a) r := rfl
    rw [e]
    obtain ⟨h1, h2, h3⟩ := ih (if x < a then x else a)
    refine ⟨?_, ?_, fun y hy => ?_⟩
    · rcases h1 with h1 | h1
      · rw [h1]
        split
        · exact .inr (by simp)
        · exact .inl rfl
      · exact .inr (List.mem_cons_of_mem _ h1)
    · revert h2; split <;> intro h2 <;> omega
    · rcases List.mem_cons.mp hy with rfl | hy
      · revert h2; split <;> intro h2 <;> omega
      · exact h3 y hy

theorem cr_maxl (hc : X.calm = true) : CallR X (.builtin "max") (RC X.K B W fun xs h => bi B h .maxl xs) := by
  intro pins s σ H vs us Q I rv hq
  obtain ⟨ρ, h, xs, m, r, ok⟩ := hq
  match xs, r, ok with
  | [], _, ok => exact False.elim ok
  | _ :: _ :: _ :: _, _, ok => exact False.elim ok
  | [x, y], _, ok => exact False.elim (bad2 (by decide) (by decide) ok)
  | [x], r, ok =>
    obtain ⟨v, rfl, rx⟩ := r.inv1
    simp only [bi, bi1] at ok
    split at ok
    · rename_i n ns e
      simp only [Option.bind_eq_some_iff] at e
      obtain ⟨ys, e1, e2⟩ := e
      obtain ⟨a, ws, rfl, hs, rs⟩ := m.refItems rx e1
      rw [rs.ints e2] at hs
      refine cr_max hc pins s σ H _ us Q I rv ⟨a, n :: ns, rfl, hs, by simp, fun M h1 h2 => ?_⟩
      obtain ⟨g1, g2, g3⟩ := maxI_mem n ns
      have : M = maxI n ns := by
        have a1 : M ≤ maxI n ns := by
          rcases List.mem_cons.mp h1 with rfl | h1
          · exact g2
          · exact g3 _ h1
        have a2 : maxI n ns ≤ M := by
          rcases g1 with g1 | g1
          · rw [g1]; exact h2 n (by simp)
          · exact h2 _ (List.mem_cons_of_mem _ g1)
        omega
      subst this
      exact fin_ok ok m (.int _)
    · exact False.elim ok
theorem cr_minl (hc : X.calm = true) : CallR X (.builtin "min") (RC X.K B W fun xs h => bi B h .minl xs) := by
  intro pins s σ H vs us Q I rv hq
  obtain ⟨ρ, h, xs, m, r, ok⟩ := hq
  match xs, r, ok with
  | [], _, ok => exact False.elim ok
  | _ :: _ :: _ :: _, _, ok => exact False.elim ok
  | [x, y], _, ok => exact False.elim (bad2 (by decide) (by decide) ok)
  | [x], r, ok =>
    obtain ⟨v, rfl, rx⟩ := r.inv1
    simp only [bi, bi1] at ok
    split at ok
    · rename_i n ns e
      simp only [Option.bind_eq_some_iff] at e
      obtain ⟨ys, e1, e2⟩ := e
      obtain ⟨a, ws, rfl, hs, rs⟩ := m.refItems rx e1
      rw [rs.ints e2] at hs
      refine cr_min hc pins s σ H _ us Q I rv ⟨a, n :: ns, rfl, hs, by simp, fun M h1 h2 => ?_⟩
      obtain ⟨g1, g2, g3⟩ := minI_mem n ns
      have : M = minI n ns := by
        have a1 : minI n ns ≤ M := by
          rcases List.mem_cons.mp h1 with rfl | h1
          · exact g2
          · exact g3 _ h1
        have a2 : M ≤ minI n ns := by
          rcases g1 with g1 | g1
          · rw [g1]; exact h2 n (by simp)
          · exact h2 _ (List.mem_cons_of_mem _ g1)
        omega
      subst this
      exact fin_ok ok m (.int _)
    · exact False.elim ok
theorem cr_allB (hc : X.calm = true) : CallR X (.builtin "all") (RC X.K B W fun xs h => bi B h .all xs) := by
  intro pins s σ H vs us Q I rv hq
  obtain ⟨ρ, h, xs, m, r, ok⟩ := hq
  match xs, r, ok with
  | [], _, ok => exact False.elim ok
  | _ :: _ :: _ :: _, _, ok => exact False.elim ok
  | [x, y], _, ok => exact False.elim (bad2 (by decide) (by decide) ok)
  | [x], r, ok =>
    obtain ⟨v, rfl, rx⟩ := r.inv1
    simp only [bi, bi1] at ok
    split at ok
    · rename_i bs e
      simp only [Option.bind_eq_some_iff] at e
      obtain ⟨ys, e1, e2⟩ := e
      obtain ⟨a, ws, rfl, hs, rs⟩ := m.refItems rx e1
      rw [rs.bls e2] at hs
      exact cr_all hc pins s σ H _ us Q I rv ⟨a, bs, rfl, hs, fin_ok ok m (.bl _)⟩
    · exact False.elim ok
theorem cr_anyB (hc : X.calm = true) : CallR X (.builtin "any") (RC X.K B W fun xs h => bi B h .any xs) := by
  intro pins s σ H vs us Q I rv hq
  obtain ⟨ρ, h, xs, m, r, ok⟩ := hq
  match xs, r, ok with
  | [], _, ok => exact False.elim ok
  | _ :: _ :: _ :: _, _, ok => exact False.elim ok
  | [x, y], _, ok => exact False.elim (bad2 (by decide) (by decide) ok)
  | [x], r, ok =>
    obtain ⟨v, rfl, rx⟩ := r.inv1
    simp only [bi, bi1] at ok
    split at ok
    · rename_i bs e
      simp only [Option.bind_eq_some_iff] at e
      obtain ⟨ys, e1, e2⟩ := e
      obtain ⟨a, ws, rfl, hs, rs⟩ := m.refItems rx e1
      rw [rs.bls e2] at hs
      exact cr_any hc pins s σ H _ us Q I rv ⟨a, bs, rfl, hs, fin_ok ok m (.bl _)⟩
    · exact False.elim ok
theorem cr_tupleB : CallR X (.type "tuple") (RC X.K B W fun xs h => bi B h .tuple xs) := by
  intro pins s σ H vs us Q I rv hq
  obtain ⟨ρ, h, xs, m, r, ok⟩ := hq
  match xs, r, ok with
  | [], _, ok => exact False.elim ok
  | _ :: _ :: _ :: _, _, ok => exact False.elim ok
  | [x, y], _, ok => exact False.elim (bad2 (by decide) (by decide) ok)
  | [x], r, ok =>
    obtain ⟨v, rfl, rx⟩ := r.inv1
    cases x with
    | tup ys =>
      cases rx with
      | @tup _ a ws hs rs => exact call_tuple_of pins s σ H _ us Q I rv ⟨a, ws, rfl, .inr ⟨hs, fin_ok ok m (.tup hs rs)⟩⟩
    | ref n =>
      cases e : refItems (B ++ h) (.ref n) with
      | none => simp only [bi, bi1, e] at ok; exact False.elim ok
      | some ys =>
        simp only [bi, bi1, e] at ok
        obtain ⟨a, ws, rfl, hs, rs⟩ := m.refItems rx e
        exact call_tuple_of pins s σ H _ us Q I rv ⟨a, ws, rfl, .inl ⟨hs, fun l hl => fin_tup ok m rs hl⟩⟩
    | _ => exact False.elim ok
theorem cr_listB : CallR X (.type "list") (RC X.K B W fun xs h => bi B h .list xs) := by
  intro pins s σ H vs us Q I rv hq
  obtain ⟨ρ, h, xs, m, r, ok⟩ := hq
  match xs, r, ok with
  | [], _, ok => exact False.elim ok
  | _ :: _ :: _ :: _, _, ok => exact False.elim ok
  | [x, y], _, ok => exact False.elim (bad2 (by decide) (by decide) ok)
  | [x], r, ok =>
    obtain ⟨v, rfl, rx⟩ := r.inv1
    simp only [bi, bi1] at ok
    split at ok
    · rename_i ys e
      obtain ⟨a, ws, rfl, hs, rs⟩ := m.items rx e
      exact call_list_of pins s σ H _ us Q I rv ⟨a, ws, rfl, hs, fun l hl => fin_new ok m rs hl⟩
    · exact False.elim ok
end
end GB

end
section
set_option Elab.async false
set_option linter.all false
set_option maxRecDepth 100000
/-! GbS3: sum of tuples; isinstance; items, slices, displays. -/
namespace GB
open PySem PySem.Spec PyProof.Rows L2

section
variable {prog : Program} {w : World} {A : Around} {E : Value → Shared → Prop} {s : Shared} {l : Addr} {its : List Value} {ns : List Int} {Q : Value → Shared → Prop}
theorem sum_rawT (hh : A.handled = none) (hl : s.heap.IsTuple l its.toArray) (hi : IntsAre its ns)
    (h : ∀ h' tk t', (∀ b o, s.heap.get? b = some o → h'.get? b = some o) → Q (.int ns.sum t') { s with heap := h', toks := tk }) : wpAny (model prog w) A (call (.builtin "sum") [.ref l]) Q E s := by
  obtain ⟨xs, e⟩ := hi.allInts.items
  have hn : numsOf (intItems xs).toList = ns := by rw [← e]; exact hi.numsOf
  rw [nums_intItems] at hn
  rw [e] at hl
  have hlt : l < s.heap.objs.size := by obtain ⟨_, e, _⟩ := hl; exact Heap.lt_size e
  have hne : l ≠ s.heap.objs.size := Nat.ne_of_lt hlt
  refine call_sum_walkG (wpAny_pyIter_tuple hl ?_)
  refine ⟨s.heap.objs.size, _, _, _, _, _, numAt xs, rfl, Walks.tuple (A := A.in1) hh _ l hne (intItems xs), ⟨⟨_, Heap.get?_push_size _ rfl, rfl, rfl⟩, ?_⟩, fun b hb => ?_, (fun _ _ => intItems_at), fun h' tk t' hk => ?_⟩
  · obtain ⟨o, q, r⟩ := hl
    exact ⟨o, Heap.get?_push_of_some _ q, r⟩
  · show b < (s.heap.push _).objs.size
    rw [Heap.size_push]
    rcases List.mem_cons.mp hb with rfl | hb
    · exact Nat.lt_succ_self _
    · have : b = l := by simpa using hb
      rw [this]; exact Nat.lt_succ_of_lt hlt
  · have q := h h' tk t' (fun b o e => hk b o (fun z => by
      have : b = s.heap.objs.size := by simpa using z
      rw [this] at e; exact absurd (Heap.lt_size e) (Nat.lt_irrefl _)) (Heap.get?_push_of_some _ e))
    have : preSum (numAt xs) (intItems xs).size = ns.sum := by
      rw [preSum_eq, List.take_of_length_le (by simp [intItems]), hn]
    rw [this]; exact q
end
section
variable {X : Cx} {B : Hh} {W : Xc → List Addr → Hp → Prop}
theorem cr_sumB (hc : X.calm = true) : CallR X (.builtin "sum") (RC X.K B W fun xs h => bi B h .sum xs) := by
  intro pins s σ H vs us Q I rv hq
  obtain ⟨ρ, h, xs, m, r, ok⟩ := hq
  match xs, r, ok with
  | [], _, ok => exact False.elim ok
  | _ :: _ :: _ :: _, _, ok => exact False.elim ok
  | [x, y], _, ok => exact False.elim (bad2 (by decide) (by decide) ok)
  | [x], r, ok =>
    obtain ⟨v, rfl, rx⟩ := r.inv1
    simp only [bi, bi1] at ok
    split at ok
    · rename_i ns e
      simp only [Option.bind_eq_some_iff] at e
      obtain ⟨ys, e1, e2⟩ := e
      obtain ⟨a, ws, rfl, hs, rs⟩ := m.items rx e1
      rw [rs.ints e2] at hs
      rcases hs with hs | hs
      · exact cr_sum hc pins s σ H _ us Q I rv ⟨a, ns, rfl, hs, fin_ok ok m (.int _)⟩
      · obtain ⟨its, rv', ht, _⟩ := I.tuple hs
        rw [Vals.ref1 rv]
        exact sum_rawT (I.ok.hd hc) ht rv'.ints fun h' tk t' hk => ⟨.int _, H, I.kept hk, ⟨_, rfl⟩, fin_ok ok m (.int _)⟩
    · exact False.elim ok

/-! ### isinstance -/
def tyName : Ty → String
  | .int => "int" | .bool => "bool" | .str => "str" | .list => "list" | .tuple => "tuple" | .dict => "dict"
/-- a value's own type -/
inductive Kd where | non | bl | int | str | tup | ref
def kdOf : Vl → Kd
  | .non => .non | .bl _ => .bl | .int _ => .int | .str _ => .str | .tup _ => .tup | .ref _ => .ref
def kdName : Kd → String
  | .non => "NoneType" | .bl => "bool" | .int => "int" | .str => "str" | .tup => "tuple" | .ref => "list"
def kdTy : Ty → Kd → Bool
  | .int, .int => true | .int, .bl => true | .bool, .bl => true | .str, .str => true | .tuple, .tup => true | .list, .ref => true
  | _, _ => false
theorem isTy_kd {g : Hh} {t : Ty} {x : Vl} {b : Bool} (e : isTy g t x = some b) : b = kdTy t (kdOf x) ∧ (∀ n, x = .ref n → ∃ o, g[n]? = some o) := by
  cases x with
  | ref n =>
    have e' : ∃ o, g[n]? = some o ∧ b = kdTy t .ref := by
      cases t <;> simp only [isTy, Option.map_eq_some_iff] at e <;> obtain ⟨o, e0, e1⟩ := e <;> exact ⟨o, e0, e1.symm⟩
    obtain ⟨o, e0, e1⟩ := e'
    exact ⟨e1, fun k z => by cases z; exact ⟨o, e0⟩⟩
  | _ => exact ⟨by cases t <;> simp [isTy] at e <;> first | exact e.symm | exact e ▸ rfl | (subst e; rfl), fun _ z => nomatch z⟩
theorem kit_kd (K : PySem.W.Frag) (t : Ty) (k : Kd) : PySem.W.kitOne K (.type (kdName k)) (.type (tyName t)) = some (kdTy t k) := by
  cases t <;> cases k <;> exact kit_ty (by decide +kernel)
theorem tyx_of {K : PySem.W.Frag} {ρ : List Addr} {H : Hp} {g : Hh} (m : Mt K ρ g H) {x : Vl} {v : V} (r : Rw K ρ H x v) (hr : ∀ n, x = .ref n → ∃ o, g[n]? = some o) : TyX K H v (.type (kdName (kdOf x))) := by
  cases r with
  | non => exact .base .non
  | bl b => exact .base (.bl b)
  | int i => exact .base (.int i)
  | str y => exact .base (.str y)
  | tup s _ =>
    rcases s with (s | ⟨o, s⟩) | ⟨o, its, n, h1, h2, _⟩
    · exact .base (.tup s)
    · exact .fTuple s
    · exact .kTuple h1 h2
  | @ref n a h =>
    obtain ⟨o, e⟩ := hr n rfl
    have ho := m.ob n o a e h
    cases o with
    | lst ys => obtain ⟨vs, h1, _⟩ := ho; exact .base (.lst h1)
    | fz ys =>
      obtain ⟨vs, h1, _⟩ := ho
      rcases h1 with ⟨u, h1⟩ | ⟨u, its, n', h1, h2, _⟩
      · exact .base (.frz h1)
      · exact .kList h1 h2
theorem isTys_kd {g : Hh} {x : Vl} : ∀ {ts : List Ty} {b : Bool}, isTys g x ts = some b → (ts ≠ [] → ∀ n, x = .ref n → ∃ o, g[n]? = some o) ∧ ∀ K : PySem.W.Frag, PySem.W.kitAny K (.type (kdName (kdOf x))) (ts.map fun t => .type (tyName t)) = some b
  | [], b, e => by simp [isTys] at e; subst e; exact ⟨fun h => absurd rfl h, fun _ => rfl⟩
  | t :: ts, b, e => by
    simp only [isTys, Option.bind_eq_some_iff] at e
    obtain ⟨c, e1, e2⟩ := e
    obtain ⟨h1, h2⟩ := isTy_kd e1
    refine ⟨fun _ => h2, fun K => ?_⟩
    rw [List.map_cons]
    refine kitAny_cons (b := c) (by rw [h1]; exact kit_kd K t _) (fun hc => ?_) (fun hc => ?_)
    · rw [hc] at e2
      exact (isTys_kd (by simpa using e2)).2 K
    · rw [hc] at e2; simpa using e2.symm
end
end GB

end
section
set_option Elab.async false
set_option linter.all false
set_option maxRecDepth 100000
/-! GbS4: each construct's rule over the evaluator's readings. -/
namespace GB
open PySem PySem.Spec PyProof.Rows L2

theorem imp_e {X : Cx} {e : Expr} {t t' : TE} (h : PE X e t) (i : ∀ σ H Q, t' σ H Q → t σ H Q) : PE X e t' := ⟨fun pins s σ H Q I q => h.run pins s σ H Q I (i σ H Q q)⟩
theorem imp_t {X : Cx} {e : Expr} {t t' : TT} (h : PT X e t) (i : ∀ σ H Q, t' σ H Q → t σ H Q) : PT X e t' := ⟨fun pins s σ H Q I q => h.run pins s σ H Q I (i σ H Q q)⟩
theorem imp_w {X : Cx} {e : Expr} {t t' : TT} (h : PW X e t) (i : ∀ σ H Q, t' σ H Q → t σ H Q) : PW X e t' := ⟨fun wh pins s σ H Q I q => h.run wh pins s σ H Q I (i σ H Q q)⟩
theorem imp_a {X : Cx} {e : List Expr} {t t' : TA} (h : PA X e t) (i : ∀ σ H Q, t' σ H Q → t σ H Q) : PA X e t' := ⟨fun pos pins s σ H Q I q => h.run pos pins s σ H Q I (i σ H Q q)⟩
theorem imp_k {X : Cx} {e : List Keyword} {t t' : TA} (h : PK X e t) (i : ∀ σ H Q, t' σ H Q → t σ H Q) : PK X e t' := ⟨fun pos pins s σ H Q I q => h.run pos pins s σ H Q I (i σ H Q q)⟩
theorem imp_o {X : Cx} {e : Option Expr} {t t' : TO} (h : PO X e t) (i : ∀ σ H Q, t' σ H Q → t σ H Q) : PO X e t' := ⟨fun pins s σ H Q I q => h.run pins s σ H Q I (i σ H Q q)⟩
theorem imp_i {X : Cx} {tg e : Expr} {t t' : TI} (h : PI X tg e t) (i : ∀ σ H Q, t' σ H Q → t σ H Q) : PI X tg e t' := ⟨fun pins s σ H Q I q => h.run pins s σ H Q I (i σ H Q q)⟩
theorem imp_s {X : Cx} {e : Stmt} {t t' : TS} (h : PS X e t) (i : ∀ D σ H, t' D σ H → t D σ H) : PS X e t' := ⟨fun pins s σ H D I q => h.run pins s σ H D I (i D σ H q)⟩
theorem imp_ss {X : Cx} {e : List Stmt} {t t' : TS} (h : PSs X e t) (i : ∀ D σ H, t' D σ H → t D σ H) : PSs X e t' := ⟨fun pins s σ H D I q => h.run pins s σ H D I (i D σ H q)⟩
theorem imp_g {X : Cx} {e : Expr} {t t' : TG} (h : PG X e t) (i : ∀ v σ H Q, t' v σ H Q → t v σ H Q) : PG X e t' := ⟨fun pins s σ H v u Q I r q => h.run pins s σ H v u Q I r (i v σ H Q q)⟩
theorem imp_gs {X : Cx} {e : List Expr} {t t' : TGs} (h : PGs X e t) (i : ∀ v σ H Q, t' v σ H Q → t v σ H Q) : PGs X e t' := ⟨fun pins s σ H v u Q I r q => h.run pins s σ H v u Q I r (i v σ H Q q)⟩
theorem or_e {X : Cx} {e : Expr} {t t' : TE} (h : PE X e t) (h' : PE X e t') : PE X e (fun σ H Q => t σ H Q ∨ t' σ H Q) := ⟨fun pins s σ H Q I q => q.elim (h.run pins s σ H Q I) (h'.run pins s σ H Q I)⟩
theorem or_i {X : Cx} {tg e : Expr} {t t' : TI} (h : PI X tg e t) (h' : PI X tg e t') : PI X tg e (fun σ H Q => t σ H Q ∨ t' σ H Q) := ⟨fun pins s σ H Q I q => q.elim (h.run pins s σ H Q I) (h'.run pins s σ H Q I)⟩
theorem or_g {X : Cx} {e : Expr} {t t' : TG} (h : PG X e t) (h' : PG X e t') : PG X e (fun v σ H Q => t v σ H Q ∨ t' v σ H Q) := ⟨fun pins s σ H v u Q I r q => q.elim (h.run pins s σ H v u Q I r) (h'.run pins s σ H v u Q I r)⟩

theorem Res.bind_assoc {α β γ : Type} (r : Res α) (f : α → Hh → Res β) (g : β → Hh → Res γ) : (r.bind f).bind g = r.bind fun x h => (f x h).bind g := by
  cases r <;> rfl
/-- relations that grow with the heap -/
def Mono {α β : Type} (K : PySem.W.Frag) (R : RR α β) : Prop := ∀ ρ H ρ' H' a b, Ext K ρ H ρ' H' → R ρ H a b → R ρ' H' a b
theorem mono_w (K : PySem.W.Frag) : Mono K (Rw K) := fun _ _ _ _ _ _ e r => r.ext e
theorem mono_ws (K : PySem.W.Frag) : Mono K (Rws K) := fun _ _ _ _ _ _ e r => r.ext e
/-- a bool, a number's option: itself -/
def Req {α : Type} : RR α α := fun _ _ a b => a = b
theorem mono_eq (K : PySem.W.Frag) {α : Type} : Mono K (Req (α := α)) := fun _ _ _ _ _ _ _ r => r

section
variable {K : PySem.W.Frag} {B : Hh} {W : WW} {α β γ δ : Type} {R : RR α β} {R' : RR γ δ} {σ : L2.St} {H : Hp}
/-- one part ahead of the rest -/
theorem L.one {f : Ev → Hh → Res γ} {k : Ev → γ → Hh → Res α} {Q : β → Hp → Prop} (h : L K B R W (fun s h => (f s h).bind (k s)) σ H Q) :
    L K B R' W f σ H (fun v' H' => ∃ ρ' σ' v h', Mt K ρ' (B ++ h') H' ∧ Rs K ρ' H' σ' σ ∧ R' ρ' H' v v' ∧ Ok K B ρ' H' R (W σ) (k σ' v h') Q) := by
  obtain ⟨ρ, σ', h0, m, s, ok⟩ := h
  exact ⟨ρ, σ', h0, m, s, ok.bind.mono fun v' H' ⟨ρ', v, h', e, m', r, ok'⟩ => ⟨ρ', σ', v, h', m', s.ext e, r, ok'⟩⟩
/-- two parts ahead of the rest -/
theorem L.two {ε ζ : Type} {R2 : RR ε ζ} (mo : Mono K R') {f : Ev → Hh → Res γ} {f2 : Ev → Hh → Res ε} {k : γ → ε → Hh → Res α} {Q : β → Hp → Prop} (h : L K B R W (fun s h => (f s h).bind fun x h1 => (f2 s h1).bind fun y h2 => k x y h2) σ H Q) :
    L K B R' W f σ H (fun x' H1 => L K B R2 W f2 σ H1 fun y' H2 => ∃ ρ' x y h', Mt K ρ' (B ++ h') H2 ∧ R' ρ' H2 x x' ∧ R2 ρ' H2 y y' ∧ Ok K B ρ' H2 R (W σ) (k x y h') Q) := by
  obtain ⟨ρ, σ', h0, m, s, ok⟩ := h
  refine ⟨ρ, σ', h0, m, s, ok.bind.mono fun x' H1 ⟨ρ1, x, h1, e1, m1, r1, ok1⟩ => ?_⟩
  exact ⟨ρ1, σ', h1, m1, s.ext e1, ok1.bind.mono fun y' H2 ⟨ρ2, y, h2, e2, m2, r2, ok2⟩ => ⟨ρ2, x, y, h2, m2, mo _ _ _ _ _ _ e2 r1, r2, ok2⟩⟩
end

section
variable {X : Cx} {c : Cf} {B : Hh} {W : WW} {pos : Pos}
/-- an expression's reading by the evaluator; a test's; a list's -/
abbrev LE (X : Cx) (c : Cf) (B : Hh) (W : WW) (e : Ex) : TE := L X.K B (Rw X.K) W (ev c B e)
abbrev LT (X : Cx) (c : Cf) (B : Hh) (W : WW) (e : Ex) : TT := L X.K B Req W (fun s h => (ev c B e s h).bind (toB B))
abbrev LA (X : Cx) (c : Cf) (B : Hh) (W : WW) (es : Exs) : TA := L X.K B (Rws X.K) W (evs c B es)

theorem s_var {i : Nat} {x : Str} (hN : X.N[i]? = some x) (hv : Vis X.env.scope x) (hd : (x == ("__debug__" : Str)) = false) (hcd : (x == ("__classdict__" : Str)) = false) : PE X (.Name x pos) (LE X c B W (.var i)) := by
  refine imp_e (pe_var hN hv hd hcd) fun σ H Q ⟨ρ, σ', h, m, s, ok⟩ => ?_
  rw [ev] at ok
  split at ok
  · rename_i v e
    obtain ⟨v', e', r⟩ := s.2 i v e
    exact ⟨v', e', fin_ok ok m r⟩
  · exact False.elim ok
theorem s_int {i : Int} {j : Nat} : PE X (.Constant (.int i) j pos) (LE X c B W (.int i)) := imp_e pe_int fun σ H Q ⟨ρ, σ', h, m, s, ok⟩ => by rw [ev] at ok; exact fin_ok ok m (.int i)
theorem s_bl {b : Bool} {j : Nat} : PE X (.Constant (.bool b) j pos) (LE X c B W (.bl b)) := imp_e pe_bl fun σ H Q ⟨ρ, σ', h, m, s, ok⟩ => by rw [ev] at ok; exact fin_ok ok m (.bl b)
theorem s_non {j : Nat} : PE X (.Constant .none j pos) (LE X c B W .non) := imp_e pe_non fun σ H Q ⟨ρ, σ', h, m, s, ok⟩ => by rw [ev] at ok; exact fin_ok ok m .non
theorem s_str {x : Str} {j : Nat} : PE X (.Constant (.str x) j pos) (LE X c B W (.str x)) := imp_e pe_str fun σ H Q ⟨ρ, σ', h, m, s, ok⟩ => by rw [ev] at ok; exact fin_ok ok m (.str x)
theorem s_glo {j : Nat} {x : Str} (hg : Gl X x) (hd : (x == ("__debug__" : Str)) = false) (hgl : ∀ v, c.gl[j]? = some v → ∃ i t, v = .int i ∧ X.mg x = some (.int i t)) : PE X (.Name x pos) (LE X c B W (.glo j)) := by
  cases e : c.gl[j]? with
  | none => exact ⟨fun pins s σ H Q I ⟨ρ, σ', h, m, s, ok⟩ => by rw [ev, e] at ok; exact False.elim ok⟩
  | some v =>
    obtain ⟨i, t, rfl, hm⟩ := hgl v e
    exact imp_e (pe_glob (v := .int i) hg hm ⟨t, rfl⟩ hd) fun σ H Q ⟨ρ, σ', h, m, s, ok⟩ => by rw [ev, e] at ok; exact fin_ok ok m (.int i)

variable {a b d : Expr} {ea eb ed : Ex}
theorem s_bin {op : Bop} (ha : PE X a (LE X c B W ea)) (hb : PE X b (LE X c B W eb)) : PE X (.BinOp a (opOf op) b pos) (LE X c B W (.bin op ea eb)) := by
  refine ⟨fun pins s σ H Q I q => ?_⟩
  refine (pe_op (opB (B := B) (W := W σ) op) ha hb).run pins s σ H Q I ?_
  have q' : L X.K B (Rw X.K) W (fun s h => (ev c B ea s h).bind fun x h1 => (ev c B eb s h1).bind fun y h2 => bop B h2 op x y) σ H Q := by
    obtain ⟨ρ, σ', h, m, s, ok⟩ := q
    rw [ev] at ok
    exact ⟨ρ, σ', h, m, s, ok⟩
  obtain ⟨ρ, σ', h, m, s, ok⟩ := L.two (R' := Rw X.K) (R2 := Rw X.K) (mono_w _) q'
  refine ⟨ρ, σ', h, m, s, ok.mono fun x' H1 ⟨ρ1, σ1, h1, m1, s1, ok1⟩ => ⟨ρ1, σ1, h1, m1, s1, ok1.mono fun y' H2 ⟨ρ2, x, y, h2, m2, r1, r2, ok2⟩ => ⟨ρ2, h2, x, y, m2, r1, r2, ok2⟩⟩⟩
theorem s_neg (ha : PE X a (LE X c B W ea)) : PE X (.UnaryOp .USub a pos) (LE X c B W (.neg ea)) := by
  refine imp_e (pe_un un_neg ha) fun σ H Q q => ?_
  have q' : L X.K B (Rw X.K) W (fun s h => (ev c B ea s h).bind fun x h1 => match x with | .int i => .ok (.int (-i)) h1 | _ => .bad) σ H Q := by
    obtain ⟨ρ, σ', h, m, s, ok⟩ := q
    rw [ev] at ok
    exact ⟨ρ, σ', h, m, s, ok⟩
  obtain ⟨ρ, σ', h, m, s, ok⟩ := L.one (R' := Rw X.K) q'
  refine ⟨ρ, σ', h, m, s, ok.mono fun x' H1 ⟨ρ1, σ1, x, h1, m1, s1, r, ok1⟩ => ?_⟩
  cases r with
  | int i => exact ⟨i, rfl, fin_ok ok1 m1 (.int _)⟩
  | _ => exact False.elim ok1
/-- a value's truth -/
theorem truK {ρ : List Addr} {H : Hp} {h : Hh} {x : Vl} {x' : V} {σ : L2.St} {α β : Type} {R : RR α β} {k : Bool → Hh → Res α} {Q : β → Hp → Prop} (m : Mt X.K ρ (B ++ h) H) (r : Rw X.K ρ H x x') (ok : Ok X.K B ρ H R (W σ) ((toB B x h).bind k) Q) :
    ∃ t, TruV X.K x' H t ∧ tru (B ++ h) x = some t ∧ Ok X.K B ρ H R (W σ) (k t h) Q := by
  unfold toB at ok
  cases e : tru (B ++ h) x with
  | none => rw [e] at ok; exact False.elim ok
  | some t => rw [e] at ok; exact ⟨t, tru_of m r e, rfl, ok⟩
theorem s_not (ha : PE X a (LE X c B W ea)) : PE X (.UnaryOp .Not a pos) (LE X c B W (.not ea)) := by
  refine imp_e (pe_notT ha) fun σ H Q q => ?_
  have q' : L X.K B (Rw X.K) W (fun s h => (ev c B ea s h).bind fun x h1 => (toB B x h1).bind fun b h1 => .ok (.bl (!b)) h1) σ H Q := by
    obtain ⟨ρ, σ', h, m, s, ok⟩ := q
    rw [ev, Res.bind_assoc] at ok
    exact ⟨ρ, σ', h, m, s, ok⟩
  obtain ⟨ρ, σ', h, m, s, ok⟩ := L.one (R' := Rw X.K) q'
  refine ⟨ρ, σ', h, m, s, ok.mono fun x' H1 ⟨ρ1, σ1, x, h1, m1, s1, r, ok1⟩ => ?_⟩
  obtain ⟨t, ht, _, ok2⟩ := truK m1 r ok1
  exact ⟨t, ht, fin_ok ok2 m1 (.bl _)⟩
theorem s_cmp {op : Cop} (hu : X.A.units + 64 < cLine) (ha : PE X a (LE X c B W ea)) (hb : PE X b (LE X c B W eb)) :
    PE X (.Compare a [cpOf op] [b] pos) (LE X c B W (.cmp op ea eb)) ∧ PT X (.Compare a [cpOf op] [b] pos) (LT X c B W (.cmp op ea eb)) := by
  have hm : behindInMarks (cpOf op) b = false := by cases op <;> exact nomark _
  refine ⟨⟨fun pins s σ H Q I q => ?_⟩, ⟨fun pins s σ H Q I q => ?_⟩⟩
  · refine (pe_cmpR (opC (B := B) (W := W σ) hu op) ha hb hm).run pins s σ H Q I ?_
    have q' : L X.K B (Rw X.K) W (fun s h => (ev c B ea s h).bind fun x h1 => (ev c B eb s h1).bind fun y h2 => cop' B op x y h2) σ H Q := by
      obtain ⟨ρ, σ', h, m, s, ok⟩ := q
      rw [ev] at ok
      exact ⟨ρ, σ', h, m, s, ok⟩
    obtain ⟨ρ, σ', h, m, s, ok⟩ := L.two (R' := Rw X.K) (R2 := Rw X.K) (mono_w _) q'
    refine ⟨ρ, σ', h, m, s, ok.mono fun x' H1 ⟨ρ1, σ1, h1, m1, s1, ok1⟩ => ⟨ρ1, σ1, h1, m1, s1, ok1.mono fun y' H2 ⟨ρ2, x, y, h2, m2, r1, r2, ok2⟩ => ⟨ρ2, h2, x, y, m2, r1, r2, ok2⟩⟩⟩
  · refine (pt_cmpR (opC (B := B) (W := W σ) hu op) ha hb hm).run pins s σ H Q I ?_
    have q' : L X.K B Req W (fun s h => (ev c B ea s h).bind fun x h1 => (ev c B eb s h1).bind fun y h2 => (cop' B op x y h2).bind (toB B)) σ H Q := by
      obtain ⟨ρ, σ', h, m, s, ok⟩ := q
      dsimp only at ok
      rw [ev, Res.bind_assoc] at ok
      refine ⟨ρ, σ', h, m, s, ?_⟩
      simp only [Res.bind_assoc] at ok
      exact ok
    obtain ⟨ρ, σ', h, m, s, ok⟩ := L.two (R' := Rw X.K) (R2 := Rw X.K) (mono_w _) q'
    refine ⟨ρ, σ', h, m, s, ok.mono fun x' H1 ⟨ρ1, σ1, h1, m1, s1, ok1⟩ => ⟨ρ1, σ1, h1, m1, s1, ok1.mono fun y' H2 ⟨ρ2, x, y, h2, m2, r1, r2, ok2⟩ => ⟨ρ2, h2, x, y, m2, r1, r2, ?_⟩⟩⟩
    unfold cop' at ok2 ⊢
    cases e : cop (B ++ h2) op x y with
    | none => rw [e] at ok2; exact False.elim ok2
    | some t =>
      rw [e] at ok2
      intro ρ3 H3 v3 e3 m3 r3
      cases r3
      exact ⟨t, rfl, ok2 ρ3 H3 t e3 m3 rfl⟩
theorem s_chain {o p : Cop} (hu : X.A.units + 64 < cLine) (ha : PE X a (LE X c B W ea)) (hb : PE X b (LE X c B W eb)) (hd : PE X d (LE X c B W ed)) :
    PE X (.Compare a [cpOf o, cpOf p] [b, d] pos) (LE X c B W (.chain o p ea eb ed)) := by
  refine ⟨fun pins s σ H Q I q => ?_⟩
  refine (pe_chain (opC (B := B) (W := fun _ _ _ => False) hu o) (opC (B := B) (W := fun _ _ _ => False) hu p) ha hb hd (by cases p <;> exact nomark _)).run pins s σ H Q I ?_
  have q' : L X.K B (Rw X.K) W (fun s h => (ev c B ea s h).bind fun x h1 => (ev c B eb s h1).bind fun y h2 => match cop (B ++ h2) o x y with
    | some true => (ev c B ed s h2).bind fun z h3 => Res.of ((cop (B ++ h3) p y z).map .bl) h3
    | some false => .ok (.bl false) h2
    | none => .bad) σ H Q := by
      obtain ⟨ρ, σ', h, m, s, ok⟩ := q
      rw [ev] at ok
      exact ⟨ρ, σ', h, m, s, ok⟩
  obtain ⟨ρ, σ', h, m, s, ok⟩ := q'
  refine ⟨ρ, σ', h, m, s, ok.bind.mono fun x' H1 ⟨ρ1, x, h1, e1, m1, r1, ok1⟩ => ?_⟩
  refine ⟨ρ1, σ', h1, m1, s.ext e1, ok1.bind.mono fun y' H2 ⟨ρ2, y, h2, e2, m2, r2, ok2⟩ => ?_⟩
  refine ⟨ρ2, h2, x, y, m2, r1.ext e2, r2, ?_⟩
  unfold cop'
  cases ec : cop (B ++ h2) o x y with
  | none => rw [ec] at ok2; exact False.elim ok2
  | some t =>
    rw [ec] at ok2
    intro ρ3 H3 v3 e3 m3 r3
    cases r3
    refine ⟨t, rfl, ?_⟩
    cases t with
    | false => exact iteF (ok2 ρ3 H3 _ e3 m3 (.bl false))
    | true =>
      refine iteT ⟨ρ3, σ', h2, m3, ((s.ext e1).ext e2).ext e3, (Ok.ext e3 ok2).bind.mono fun z' H4 ⟨ρ4, z, h4, e4, m4, r4, ok4⟩ => ?_⟩
      refine ⟨ρ4, h4, y, z, m4, (r2.ext e3).ext e4, r4, ?_⟩
      show Ok _ _ _ _ _ _ (Res.of ((cop (B ++ h4) p y z).map Vl.bl) h4) _
      cases ed : cop (B ++ h4) p y z with
      | none => rw [ed] at ok4; exact False.elim ok4
      | some t => rw [ed] at ok4; exact ok4
theorem s_isN {j : Nat} {pos' : Pos} (ha : PE X a (LE X c B W ea)) : PE X (.Compare a [.Is] [.Constant .none j pos'] pos) (LE X c B W (.isN ea)) ∧ PT X (.Compare a [.Is] [.Constant .none j pos'] pos) (LT X c B W (.isN ea)) := by
  have val : ∀ {ρ : List Addr} {H : Hp} {x : Vl} {x' : V}, Rw X.K ρ H x x' → decide (x' = .non) = (match x with | .non => true | _ => false) := fun r => by cases r <;> simp
  refine ⟨imp_e (pe_cmp (pc_isN ha)) fun σ H Q q => ?_, imp_t (pt_cmp (pc_isN ha)) fun σ H Q q => ?_⟩
  · obtain ⟨ρ, σ', h, m, s, ok⟩ := q
    rw [ev] at ok
    refine ⟨ρ, σ', h, m, s, ok.bind.mono fun x' H1 ⟨ρ1, x, h1, e1, m1, r, ok1⟩ => ?_⟩
    rw [val r]
    exact fin_ok ok1 m1 (.bl _)
  · obtain ⟨ρ, σ', h, m, s, ok⟩ := q
    dsimp only at ok
    rw [ev, Res.bind_assoc] at ok
    have ok' : Ok X.K B ρ H Req (W σ) ((ev c B ea σ' h).bind fun x h1 => (Res.ok (Vl.bl (match x with | .non => true | _ => false)) h1).bind (toB B)) Q := ok
    refine ⟨ρ, σ', h, m, s, ok'.bind.mono fun x' H1 ⟨ρ1, x, h1, e1, m1, r, ok1⟩ => ⟨_, rfl, ?_⟩⟩
    rw [val r]
    exact ok1 ρ1 H1 _ .refl m1 rfl
theorem s_notN {j : Nat} {pos' : Pos} (ha : PE X a (LE X c B W ea)) : PE X (.Compare a [.IsNot] [.Constant .none j pos'] pos) (LE X c B W (.notN ea)) ∧ PT X (.Compare a [.IsNot] [.Constant .none j pos'] pos) (LT X c B W (.notN ea)) := by
  have val : ∀ {ρ : List Addr} {H : Hp} {x : Vl} {x' : V}, Rw X.K ρ H x x' → (!decide (x' = .non)) = (match x with | .non => false | _ => true) := fun r => by cases r <;> simp
  refine ⟨imp_e (pe_cmp (pc_notN ha)) fun σ H Q q => ?_, imp_t (pt_cmp (pc_notN ha)) fun σ H Q q => ?_⟩
  · obtain ⟨ρ, σ', h, m, s, ok⟩ := q
    rw [ev] at ok
    refine ⟨ρ, σ', h, m, s, ok.bind.mono fun x' H1 ⟨ρ1, x, h1, e1, m1, r, ok1⟩ => ?_⟩
    rw [val r]
    exact fin_ok ok1 m1 (.bl _)
  · obtain ⟨ρ, σ', h, m, s, ok⟩ := q
    dsimp only at ok
    rw [ev, Res.bind_assoc] at ok
    have ok' : Ok X.K B ρ H Req (W σ) ((ev c B ea σ' h).bind fun x h1 => (Res.ok (Vl.bl (match x with | .non => false | _ => true)) h1).bind (toB B)) Q := ok
    refine ⟨ρ, σ', h, m, s, ok'.bind.mono fun x' H1 ⟨ρ1, x, h1, e1, m1, r, ok1⟩ => ⟨_, rfl, ?_⟩⟩
    rw [val r]
    exact ok1 ρ1 H1 _ .refl m1 rfl
theorem s_ife (ht : PT X d (LT X c B W ed)) (ha : PE X a (LE X c B W ea)) (hb : PE X b (LE X c B W eb)) : PE X (.IfExp d a b pos) (LE X c B W (.ife ed ea eb)) := by
  refine imp_e (pe_ifExp ht ha hb) fun σ H Q q => ?_
  obtain ⟨ρ, σ', h, m, s, ok⟩ := q
  rw [ev] at ok
  refine ⟨ρ, σ', h, m, s, ok.bind.mono fun t H1 ⟨ρ1, t', h1, e1, m1, r, ok1⟩ => ?_⟩
  obtain rfl : t' = t := r
  cases t' with
  | true => exact iteT ⟨ρ1, σ', h1, m1, s.ext e1, ok1⟩
  | false => exact iteF ⟨ρ1, σ', h1, m1, s.ext e1, ok1⟩
/-- a test of any expression that is tested by its value -/
theorem s_test (ha : PE X a (LE X c B W ea)) (he : ∀ whole, isTrue a X.env whole = (do let v ← whole; standAt a.pos; holding [v] (truthy v))) : PT X a (LT X c B W ea) := by
  refine imp_t (pt_truth ha he) fun σ H Q q => ?_
  obtain ⟨ρ, σ', h, m, s, ok⟩ := q
  refine ⟨ρ, σ', h, m, s, ok.bind.mono fun x' H1 ⟨ρ1, x, h1, e1, m1, r, ok1⟩ => ?_⟩
  have ok1' : Ok X.K B ρ1 H1 Req (W σ) ((toB B x h1).bind fun b h => .ok b h) Q := by
    cases e : toB B x h1 <;> rw [e] at ok1 <;> exact ok1
  obtain ⟨t, ht, _, ok2⟩ := truK m1 r ok1'
  exact ⟨t, ht, ok2 ρ1 H1 _ .refl m1 rfl⟩
theorem s_notT (ha : PT X a (LT X c B W ea)) : PT X (.UnaryOp .Not a pos) (LT X c B W (.not ea)) := by
  refine imp_t (pt_not ha) fun σ H Q q => ?_
  obtain ⟨ρ, σ', h, m, s, ok⟩ := q
  dsimp only at ok
  rw [ev] at ok
  have ok' : Ok X.K B ρ H Req (W σ) (((ev c B ea σ' h).bind (toB B)).bind fun b h1 => .ok (!b) h1) Q := by
    rw [Res.bind_assoc] at ok
    exact ok
  refine ⟨ρ, σ', h, m, s, ok'.bind.mono fun t H1 ⟨ρ1, t', h1, e1, m1, r, ok1⟩ => ?_⟩
  obtain rfl : t' = t := r
  exact ok1 ρ1 H1 _ .refl m1 rfl

/-! ### argument lists, displays, calls of built-ins -/
theorem s_nil : PA X [] (LA X c B W .nil) := imp_a pa_nil fun σ H Q ⟨ρ, σ', h, m, s, ok⟩ => by rw [evs] at ok; exact ok ρ H _ .refl m .nil
theorem s_cons {es : List Expr} {ees : Exs} (ha : PE X a (LE X c B W ea)) (hr : PA X es (LA X c B W ees)) (hs : starEach (a :: es) X.env = (false, eval a X.env) :: starEach es X.env) : PA X (a :: es) (LA X c B W (.cons ea ees)) := by
  refine imp_a (pa_cons ha hr hs) fun σ H Q ⟨ρ, σ', h, m, s, ok⟩ => ?_
  rw [evs] at ok
  obtain ⟨ρ, σ', h, m, s, ok⟩ := L.two (R' := Rw X.K) (R2 := Rws X.K) (mono_w _) ⟨ρ, σ', h, m, s, ok⟩
  exact ⟨ρ, σ', h, m, s, ok.mono fun x' H1 ⟨ρ1, σ1, h1, m1, s1, ok1⟩ => ⟨ρ1, σ1, h1, m1, s1, ok1.mono fun y' H2 ⟨ρ2, x, y, h2, m2, r1, r2, ok2⟩ => ok2 ρ2 H2 _ .refl m2 (.cons r1 r2)⟩⟩
theorem s_star {es : List Expr} {ees : Exs} {p : Pos} (ha : PE X a (LE X c B W ea)) (hr : PA X es (LA X c B W ees)) : PA X (.Starred a p :: es) (LA X c B W (.star ea ees)) := by
  refine imp_a (StX.pa_star ha hr) fun σ H Q ⟨ρ, σ', h, m, s, ok⟩ => ?_
  rw [evs] at ok
  refine ⟨ρ, σ', h, m, s, ok.bind.mono fun x' H1 ⟨ρ1, x, h1, e1, m1, r, ok1⟩ => ?_⟩
  cases e : items (B ++ h1) x with
  | none => rw [e] at ok1; exact False.elim ok1
  | some xs =>
    rw [e] at ok1
    obtain ⟨p, vs, rfl, hs, rs⟩ := m1.items r e
    refine ⟨p, vs, rfl, hs.symm, ρ1, σ', h1, m1, s.ext e1, ok1.bind.mono fun y' H2 ⟨ρ2, y, h2, e2, m2, r2, ok2⟩ => ?_⟩
    exact ok2 ρ2 H2 _ .refl m2 ((rs.ext e2).append r2)
theorem s_tup {es : List Expr} {ees : Exs} {k : Nat} (hr : PA X es (LA X c B W ees)) : PE X (.Tuple es k pos) (LE X c B W (.tup ees)) := by
  refine imp_e (pe_tup hr) fun σ H Q ⟨ρ, σ', h, m, s, ok⟩ => ?_
  rw [ev] at ok
  refine ⟨ρ, σ', h, m, s, ok.bind.mono fun x' H1 ⟨ρ1, x, h1, e1, m1, r, ok1⟩ => ?_⟩
  split at ok1
  · rename_i hl
    exact ⟨by rw [← r.length]; exact hl, fun p hp => fin_tup ok1 m1 r hp⟩
  · exact False.elim ok1
theorem s_lst {es : List Expr} {ees : Exs} (hr : PA X es (LA X c B W ees)) : PE X (.List es pos) (LE X c B W (.lst ees)) := by
  refine imp_e (pe_lst hr) fun σ H Q ⟨ρ, σ', h, m, s, ok⟩ => ?_
  rw [ev] at ok
  refine ⟨ρ, σ', h, m, s, ok.bind.mono fun x' H1 ⟨ρ1, x, h1, e1, m1, r, ok1⟩ => ?_⟩
  split at ok1
  · rename_i hl
    exact ⟨by rw [← r.length]; exact hl, fun p hp => fin_new ok1 m1 r hp⟩
  · exact False.elim ok1
def biName : Bi → Str
  | .len => "len" | .abs => "abs" | .int => "int" | .max2 => "max" | .min2 => "min" | .sum => "sum" | .maxl => "max" | .minl => "min" | .all => "all" | .any => "any" | .tuple => "tuple" | .list => "list"
theorem s_bi {bb : Bi} {es : List Expr} {ees : Exs} {p : Pos} (hc : X.calm = true) (hg : Gl X (biName bb)) (hm : X.mg (biName bb) = none) (hr : PA X (a :: es) (LA X c B W ees)) (he : starEach (a :: es) X.env = (false, eval a X.env) :: starEach es X.env)
    (hpl : (backTo pos (starEach es X.env)).any (·.1) = false) : PE X (.Call (.Name (biName bb) p) (a :: es) [] pos) (LE X c B W (.bi bb ees)) := by
  have fin : ∀ {σ : L2.St} {H : Hp} {Q : VK}, LE X c B W (.bi bb ees) σ H Q → tCB (RC X.K B (W σ) fun xs h => bi B h bb xs) (LA X c B W ees) σ H Q := fun {σ H Q} ⟨ρ, σ', h, m, s, ok⟩ => by
    rw [ev] at ok
    exact ⟨ρ, σ', h, m, s, ok.bind.mono fun x' H1 ⟨ρ1, x, h1, e1, m1, r, ok1⟩ => ⟨ρ1, h1, x, m1, r, ok1⟩⟩
  refine ⟨fun pins s σ H Q I q => ?_⟩
  cases bb with
  | len => exact (pe_callB (cr_len (B := B) (W := W σ)) hg hm (by decide +kernel) hr (by decide +kernel) (by decide +kernel) he hpl).run pins s σ H Q I (fin q)
  | abs => exact (pe_callB (cr_abs (B := B) (W := W σ)) hg hm (by decide +kernel) hr (by decide +kernel) (by decide +kernel) he hpl).run pins s σ H Q I (fin q)
  | int => exact (pe_callTy (cr_int (B := B) (W := W σ)) hg hm (by decide +kernel) hr (by decide +kernel) (by decide +kernel) he hpl).run pins s σ H Q I (fin q)
  | max2 => exact (pe_callB (cr_max2 (B := B) (W := W σ) hc) hg hm (by decide +kernel) hr (by decide +kernel) (by decide +kernel) he hpl).run pins s σ H Q I (fin q)
  | min2 => exact (pe_callB (cr_min2 (B := B) (W := W σ) hc) hg hm (by decide +kernel) hr (by decide +kernel) (by decide +kernel) he hpl).run pins s σ H Q I (fin q)
  | sum => exact (pe_callB (cr_sumB (B := B) (W := W σ) hc) hg hm (by decide +kernel) hr (by decide +kernel) (by decide +kernel) he hpl).run pins s σ H Q I (fin q)
  | maxl => exact (pe_callB (cr_maxl (B := B) (W := W σ) hc) hg hm (by decide +kernel) hr (by decide +kernel) (by decide +kernel) he hpl).run pins s σ H Q I (fin q)
  | minl => exact (pe_callB (cr_minl (B := B) (W := W σ) hc) hg hm (by decide +kernel) hr (by decide +kernel) (by decide +kernel) he hpl).run pins s σ H Q I (fin q)
  | all => exact (pe_callB (cr_allB (B := B) (W := W σ) hc) hg hm (by decide +kernel) hr (by decide +kernel) (by decide +kernel) he hpl).run pins s σ H Q I (fin q)
  | any => exact (pe_callB (cr_anyB (B := B) (W := W σ) hc) hg hm (by decide +kernel) hr (by decide +kernel) (by decide +kernel) he hpl).run pins s σ H Q I (fin q)
  | tuple => exact (pe_callTy (cr_tupleB (B := B) (W := W σ)) hg hm (by decide +kernel) hr (by decide +kernel) (by decide +kernel) he hpl).run pins s σ H Q I (fin q)
  | list => exact (pe_callTy (cr_listB (B := B) (W := W σ)) hg hm (by decide +kernel) hr (by decide +kernel) (by decide +kernel) he hpl).run pins s σ H Q I (fin q)

/-! ### items and slices -/
theorem s_ix (ha : PE X a (LE X c B W ea)) (hb : PE X b (LE X c B W eb)) (hs : PlainIx b) : PE X (.Subscript a b pos) (LE X c B W (.ix ea eb)) := by
  refine imp_e (pe_ix ix_seq ha hb hs) fun σ H Q ⟨ρ, σ', h, m, s, ok⟩ => ?_
  rw [ev] at ok
  obtain ⟨ρ, σ', h, m, s, ok⟩ := L.two (R' := Rw X.K) (R2 := Rw X.K) (mono_w _) ⟨ρ, σ', h, m, s, ok⟩
  refine ⟨ρ, σ', h, m, s, ok.mono fun x' H1 ⟨ρ1, σ1, h1, m1, s1, ok1⟩ => ⟨ρ1, σ1, h1, m1, s1, ok1.mono fun y' H2 ⟨ρ2, x, y, h2, m2, r1, r2, ok2⟩ => ?_⟩⟩
  cases r2 with
  | int i =>
    replace ok2 : Ok X.K B ρ2 H2 (Rw X.K) (W σ) (Res.of ((items (B ++ h2) x).bind fun xs => atI xs i) h2) Q := by
      have : ixV (B ++ h2) x (.int i) = (items (B ++ h2) x).bind fun xs => atI xs i := by cases x <;> rfl
      rw [this] at ok2; exact ok2
    cases e : (items (B ++ h2) x).bind fun xs => atI xs i with
    | none => rw [e] at ok2; exact False.elim ok2
    | some z =>
      rw [e] at ok2
      rw [Option.bind_eq_some_iff] at e
      obtain ⟨xs, e1, e2⟩ := e
      obtain ⟨p, vs, rfl, hs, rs⟩ := m2.items r1 e1
      have hl := rs.length
      have e3 : ∃ z', atI vs i = some z' ∧ Rw X.K ρ2 H2 z z' := by
        unfold atI at e2 ⊢
        rw [Option.bind_eq_some_iff] at e2
        obtain ⟨j, e4, e5⟩ := e2
        obtain ⟨z', e6, r⟩ := rs.get e5
        exact ⟨z', by rw [← hl, e4]; exact e6, r⟩
      obtain ⟨z', e4, r⟩ := e3
      rcases hs with hs | hs
      · exact .inl ⟨p, vs, i, z', rfl, rfl, hs, e4, fin_ok ok2 m2 r⟩
      · exact .inr (.inl ⟨p, vs, i, z', rfl, rfl, hs, e4, fin_ok ok2 m2 r⟩)
  | _ => cases x <;> exact False.elim ok2
theorem s_no : PO X none (L X.K B Req W (evPt c B .no)) := imp_o po_none fun σ H Q ⟨ρ, σ', h, m, s, ok⟩ => by rw [evPt] at ok; exact ok ρ H _ .refl m rfl
theorem s_yes (ha : PE X a (LE X c B W ea)) : PO X (some a) (L X.K B Req W (evPt c B (.yes ea))) := by
  refine imp_o (po_some ha) fun σ H Q ⟨ρ, σ', h, m, s, ok⟩ => ?_
  rw [evPt] at ok
  refine ⟨ρ, σ', h, m, s, ok.bind.mono fun x' H1 ⟨ρ1, x, h1, e1, m1, r, ok1⟩ => ?_⟩
  cases r with
  | int i => exact ⟨i, rfl, ok1 ρ1 H1 _ .refl m1 rfl⟩
  | _ => exact False.elim ok1
theorem cut_rel {K : PySem.W.Frag} {ρ : List Addr} {H : Hp} {xs : List Vl} {vs : List V} (r : Rws K ρ H xs vs) (lo hi : Option Int) : Rws K ρ H (cutL xs lo hi) (cutV vs lo hi) := by
  unfold cutL cutV
  rw [r.length]
  exact (r.drop _).take _
theorem cut_whole (xs : List Vl) (lo hi : Option Int) (h : HT.sIx xs.length 0 lo = 0 ∧ HT.sIx xs.length xs.length hi = xs.length) : cutL xs lo hi = xs := by
  unfold cutL
  rw [h.1, h.2]
  simp
theorem s_sl {lo hi : Option Expr} {plo phi : Pt} {p2 : Pos} (ha : PE X a (LE X c B W ea)) (hl : PO X lo (L X.K B Req W (evPt c B plo))) (hh : PO X hi (L X.K B Req W (evPt c B phi))) :
    PE X (.Subscript a (.Slice lo hi none p2) pos) (LE X c B W (.sl ea plo phi)) := by
  refine imp_e (pe_slice (sl_tupA.or sl_list) ha hl hh) fun σ H Q ⟨ρ, σ', h, m, s, ok⟩ => ?_
  rw [ev] at ok
  refine ⟨ρ, σ', h, m, s, ok.bind.mono fun x' H1 ⟨ρ1, x, h1, e1, m1, r1, ok1⟩ => ?_⟩
  refine ⟨ρ1, σ', h1, m1, s.ext e1, ok1.bind.mono fun l' H2 ⟨ρ2, l, h2, e2, m2, r2, ok2⟩ => ?_⟩
  refine ⟨ρ2, σ', h2, m2, (s.ext e1).ext e2, ok2.bind.mono fun u' H3 ⟨ρ3, u, h3, e3, m3, r3, ok3⟩ => ?_⟩
  obtain rfl : l = l' := r2
  obtain rfl : u = u' := r3
  have r := (r1.ext e2).ext e3
  cases x with
  | tup xs =>
    cases r with
    | @tup _ p vs hs rs =>
      refine .inl ⟨p, vs, rfl, hs, fun w => ?_, fun _ q hq => fin_tup ok3 m3 (cut_rel rs l u) hq⟩
      have : cutL xs l u = xs := cut_whole xs l u (by rw [rs.length]; exact w)
      refine fin_ok ok3 m3 ?_
      rw [this]
      exact .tup hs rs
  | ref n =>
    simp only [slV] at ok3
    cases e : refItems (B ++ h3) (.ref n) with
    | none => rw [e] at ok3; exact False.elim ok3
    | some xs =>
      rw [e] at ok3
      obtain ⟨p, vs, rfl, hs, rs⟩ := m3.refItems r e
      exact .inr ⟨p, vs, rfl, hs, fun q hq => fin_new ok3 m3 (cut_rel rs l u) hq⟩
  | _ => exact False.elim ok3

/-! ### isinstance -/
end
end GB

end
section
set_option Elab.async false
set_option linter.all false
set_option maxRecDepth 100000
/-! GbS5: isinstance, calls of defs, what is walked, targets, comprehensions. -/
namespace GB
open PySem PySem.Spec PyProof.Rows L2

section
variable {X : Cx} {c : Cf} {B : Hh} {W : WW} {pos : Pos} {a b : Expr} {ea eb : Ex}
theorem s_isi {t : Ty} {p p2 : Pos} (hg : Gl X "isinstance") (hm : X.mg "isinstance" = none) (hg2 : Gl X (tyName t)) (hm2 : X.mg (tyName t) = none) (ha : PE X a (LE X c B W ea))
    (he : ∀ es, starEach (a :: es) X.env = (false, eval a X.env) :: starEach es X.env) : PE X (.Call (.Name "isinstance" p) [a, .Name (tyName t) p2] [] pos) (LE X c B W (.isi ea t)) := by
  have hty : PE X (.Name (tyName t) p2) (tC (.ty (tyName t))) := by
    cases t <;> exact pe_bltn hg2 hm2 (by decide +kernel) rfl (by decide +kernel) (by decide +kernel)
  refine imp_e (pe_callB call_isi hg hm (by decide +kernel) (pa_cons ha (pa_cons hty pa_nil) (he _)) (by decide +kernel) (by decide +kernel) (he _) rfl) fun σ H Q ⟨ρ, σ', h, m, s, ok⟩ => ?_
  rw [ev] at ok
  refine ⟨ρ, σ', h, m, s, ok.bind.mono fun x' H1 ⟨ρ1, x, h1, e1, m1, r, ok1⟩ => ?_⟩
  cases e : isTy (B ++ h1) t x with
  | none => rw [e] at ok1; exact False.elim ok1
  | some k =>
    rw [e] at ok1
    obtain ⟨h2, h3⟩ := isTy_kd e
    exact ⟨x', .ty (tyName t), _, _, k, rfl, .ty _, tyx_of m1 r h3, by rw [h2]; exact kit_kd _ _ _, fin_ok ok1 m1 (.bl k)⟩
theorem pa_tys {t : Ty} {p2 : Pos} {es : List Expr} {ts : List Ty} (hg2 : Gl X (tyName t)) (hm2 : X.mg (tyName t) = none) (hr : PA X es (fun _ H Q => Q (ts.map fun t => V.ty (tyName t)) H)) :
    PA X (.Name (tyName t) p2 :: es) (fun _ H Q => Q ((t :: ts).map fun t => V.ty (tyName t)) H) := by
  have hty : PE X (.Name (tyName t) p2) (tC (.ty (tyName t))) := by
    cases t <;> exact pe_bltn hg2 hm2 (by decide +kernel) rfl (by decide +kernel) (by decide +kernel)
  exact imp_a (pa_cons hty hr rfl) fun σ H Q q => q
theorem s_isis {ts : List Ty} {p : Pos} {es : List Expr} {kt : Nat} {tp : Pos} (hg : Gl X "isinstance") (hm : X.mg "isinstance" = none) (hts : PA X es (fun _ H Q => Q (ts.map fun t => V.ty (tyName t)) H)) (hne : ts ≠ []) (hln : ts.length ≤ sizeLine) (ha : PE X a (LE X c B W ea))
    (he : ∀ es, starEach (a :: es) X.env = (false, eval a X.env) :: starEach es X.env) : PE X (.Call (.Name "isinstance" p) [a, .Tuple es kt tp] [] pos) (LE X c B W (.isis ea ts)) := by
  refine imp_e (pe_callB call_isiT hg hm (by decide +kernel) (pa_cons ha (pa_cons (pe_tup hts) pa_nil) (he _)) (by decide +kernel) (by decide +kernel) (he _) rfl) fun σ H Q ⟨ρ, σ', h, m, s, ok⟩ => ?_
  rw [ev] at ok
  refine ⟨ρ, σ', h, m, s, ok.bind.mono fun x' H1 ⟨ρ1, x, h1, e1, m1, r, ok1⟩ => ?_⟩
  refine ⟨by simpa using hln, fun tp htp => ?_⟩
  cases e : isTys (B ++ h1) x ts with
  | none => rw [e] at ok1; exact False.elim ok1
  | some k =>
    rw [e] at ok1
    obtain ⟨h2, h3⟩ := isTys_kd e
    have hx : Ext X.K ρ1 H1 ρ1 (upd H1 tp (.tup (ts.map fun t => V.ty (tyName t)))) := .new htp
    have pr : ∀ l : List Ty, Paired ClsV (l.map fun t => V.ty (tyName t)) (l.map fun t => Value.type (tyName t)) := fun l => by
      induction l with
      | nil => exact .nil
      | cons t l ih => exact .cons (.ty _) ih
    refine ⟨x', tp, _, _, _, k, rfl, upd_same, pr ts, tyx_of (m1.new htp) (r.ext hx) (h2 hne), h3 X.K, ?_⟩
    exact ok1 ρ1 _ _ hx (m1.new htp) (.bl k)

/-! ### calls of defs -/
/-- the promise of a def, by the evaluator -/
def spC (K : PySem.W.Frag) (C : Nat → List Vl → Hh → Hh → Res Vl) (f : Nat) : Sp := fun vs H Q _ => ∃ B h ρ xs, Mt K ρ (B ++ h) H ∧ Rws K ρ H xs vs ∧ Ok K B ρ H (Rw K) (fun _ _ _ => False) (C f xs B h) Q
abbrev W0 : WW := fun _ _ _ _ => False
def gK (α : Type) (np nk : Nat) (perm : List Nat) (us ws : List α) : List α := if us.length = np ∧ ws.length = nk then perm.filterMap fun i => (us ++ ws)[i]? else []
structure FnAt (P : Program) (w : World) (K : PySem.W.Frag) (mg : Str → Option Value) (base : Heap) (lvl : Nat) (C : Nat → List Vl → Hh → Hh → Res Vl) (kws : List (Nat × Nat × List Str × List Nat)) (f : Nat) (n : Str) (ps : List Str) : Prop where
  ex : ∃ fa fd, mg n = some (.ref fa) ∧ PySem.W.keepIn K (.ref fa) = true ∧ Binds K fd ps [] ∧ FnOk P w K mg base CX0 lvl fa fd ps (spC K C f) ∧
    ∀ np ks perm, (f, np, ks, perm) ∈ kws → KBinds K fd ps ks (gK Value np ks.length perm) (gK V np ks.length perm)
/-- no star among them -/
def noStar : List Expr → Bool
  | [] => true
  | .Starred _ _ :: _ => false
  | _ :: r => noStar r
theorem star_of {a : Expr} {es : List Expr} (env : Env) (h : noStar (a :: es) = true) : starEach (a :: es) env = (false, eval a env) :: starEach es env := by
  cases a <;> first | rfl | (simp [noStar] at h)
theorem noStar_tail {a : Expr} {es : List Expr} (h : noStar (a :: es) = true) : noStar es = true := by
  cases a <;> first | exact h | (simp [noStar] at h)
theorem plain_of (env : Env) (pos : Pos) : ∀ es : List Expr, noStar es = true → (backTo pos (starEach es env)).any (·.1) = false
  | [], _ => by simp [starEach, backTo]
  | a :: es, h => by
    rw [star_of env h]
    have ih := plain_of env pos es (noStar_tail h)
    simpa [backTo] using ih
theorem s_call {f : Nat} {x : Str} {ps : List Str} {lvl : Nat} {kws : List (Nat × Nat × List Str × List Nat)} {es : List Expr} {ees : Exs} {p : Pos} (hr : Room lvl X.A) (hg : Gl X x) (F : FnAt X.prog X.w X.K X.mg X.base lvl c.C kws f x ps) (hd : (x == ("__debug__" : Str)) = false)
    (ha : PA X (a :: es) (LA X c B W0 ees)) (hst : noStar (a :: es) = true) : PE X (.Call (.Name x p) (a :: es) [] pos) (LE X c B W0 (.call f ees)) := by
  obtain ⟨fa, fd, hm, hk, hb, G, _⟩ := F.ex
  refine imp_e (pe_call G hr hg hm hk hb .nil pass0 ha hd (star_of _ hst) (plain_of _ _ _ (noStar_tail hst))) fun σ H Q ⟨ρ, σ', h, m, s, ok⟩ => ?_
  rw [ev] at ok
  exact ⟨ρ, σ', h, m, s, ok.bind.mono fun x' H1 ⟨ρ1, x, h1, e1, m1, r, ok1⟩ => ⟨B, h1, ρ1, x, m1, by simpa using r, ok1⟩⟩
theorem s_call0 {f : Nat} {x : Str} {ps : List Str} {lvl : Nat} {kws : List (Nat × Nat × List Str × List Nat)} {p : Pos} (hr : Room lvl X.A) (hg : Gl X x) (F : FnAt X.prog X.w X.K X.mg X.base lvl c.C kws f x ps) (hd : (x == ("__debug__" : Str)) = false) :
    PE X (.Call (.Name x p) [] [] pos) (LE X c B W0 (.call f .nil)) := by
  obtain ⟨fa, fd, hm, hk, hb, G, _⟩ := F.ex
  refine imp_e (pe_call0 G hr hg hm hk hb .nil pass0 hd) fun σ H Q ⟨ρ, σ', h, m, s, ok⟩ => ?_
  rw [ev, evs] at ok
  exact ⟨B, h, ρ, [], m, .nil, ok⟩
theorem Ok.bindE {K : PySem.W.Frag} {ρ : List Addr} {H : Hp} {α β γ δ : Type} {R : RR α β} {R' : RR γ δ} {W : Xc → List Addr → Hp → Prop} {r : Res γ} {k : γ → Hh → Res α} {Q : β → Hp → Prop} (h : Ok K B ρ H R W (r.bind k) Q) :
    Ok K B ρ H R' W r (fun v' H' => ∃ ρ' v h', r = .ok v h' ∧ Ext K ρ H ρ' H' ∧ Mt K ρ' (B ++ h') H' ∧ R' ρ' H' v v' ∧ Ok K B ρ' H' R W (k v h') Q) := by
  cases r with
  | ok v h' => exact fun ρ2 H2 v' e2 m q => ⟨ρ2, v, h', rfl, e2, m, q, Ok.ext e2 h⟩
  | exc x h' => exact h
  | bad => exact h
/-- how many, where there is no star -/
def lenX : Exs → Option Nat
  | .nil => some 0
  | .cons _ es => (lenX es).map (· + 1)
  | .star _ _ => none
theorem evs_len : ∀ {ees : Exs} {n : Nat} {σ : Ev} {h h' : Hh} {xs : List Vl}, lenX ees = some n → evs c B ees σ h = .ok xs h' → xs.length = n
  | .nil, n, σ, h, h', xs, e, q => by
    rw [evs] at q; cases q; simp [lenX] at e; simpa using e
  | .cons e1 es, n, σ, h, h', xs, e, q => by
    simp only [lenX, Option.map_eq_some_iff] at e
    obtain ⟨k, e2, rfl⟩ := e
    rw [evs] at q
    cases q1 : ev c B e1 σ h with
    | ok y h1 =>
      rw [q1] at q
      simp only [Res.bind] at q
      cases q2 : evs c B es σ h1 with
      | ok ys h2 =>
        rw [q2] at q
        cases q
        rw [List.length_cons, evs_len e2 q2]
      | exc _ _ => rw [q2] at q; cases q
      | bad => rw [q2] at q; cases q
    | exc _ _ => rw [q1] at q; cases q
    | bad => rw [q1] at q; cases q
  | .star _ _, n, σ, h, h', xs, e, q => by simp [lenX] at e
theorem Rws.perm {K : PySem.W.Frag} {ρ : List Addr} {H : Hp} {xs : List Vl} {vs : List V} (r : Rws K ρ H xs vs) : ∀ perm : List Nat, Rws K ρ H (permL perm xs) (perm.filterMap fun i => vs[i]?)
  | [] => .nil
  | i :: is => by
    have ih := Rws.perm r is
    unfold permL at ih ⊢
    rw [List.filterMap_cons, List.filterMap_cons]
    cases e : xs[i]? with
    | none =>
      have : vs[i]? = none := by
        rw [List.getElem?_eq_none_iff] at e ⊢
        rw [← r.length]; exact e
      rw [this]; exact ih
    | some x =>
      obtain ⟨v, e2, q⟩ := r.get e
      rw [e2]
      exact .cons q ih
theorem s_callk {f : Nat} {x : Str} {ps : List Str} {lvl : Nat} {kws : List (Nat × Nat × List Str × List Nat)} {es : List Expr} {ees kes : Exs} {kwl : List Keyword} {ks : List Str} {perm : List Nat} {np : Nat} {p : Pos} (hr : Room lvl X.A) (hg : Gl X x)
    (F : FnAt X.prog X.w X.K X.mg X.base lvl c.C kws f x ps) (hd : (x == ("__debug__" : Str)) = false) (ha : PA X es (LA X c B W0 ees)) (hst : noStar es = true) (hkw : PK X kwl (LA X c B W0 kes)) (hks : kwl.map (·.arg) = ks.map some) (hin : (f, np, ks, perm) ∈ kws) (hl1 : lenX ees = some np) (hl2 : lenX kes = some ks.length) (hl3 : es = [] → ees = .nil) :
    PE X (.Call (.Name x p) es kwl pos) (LE X c B W0 (.callk f ees ks kes perm)) := by
  obtain ⟨fa, fd, hm, hk, hb, G, hkb⟩ := F.ex
  have KB := hkb np ks perm hin
  have names : ∀ (l : List Keyword) (ns : List Str), l.map (·.arg) = ns.map some → (backToKw pos (keywordEach l X.env)).all (·.1.isSome) = true ∧ (backToKw pos (keywordEach l X.env)).filterMap (·.1) = ns ∧ (backToKw pos (keywordEach l X.env)).any (·.1.isNone) = false := by
    intro l
    induction l with
    | nil => intro ns e; cases ns with | nil => simp [keywordEach, backToKw] | cons _ _ => simp at e
    | cons k l ih =>
      intro ns e
      cases ns with
      | nil => simp at e
      | cons n ns =>
        simp only [List.map_cons, List.cons.injEq] at e
        obtain ⟨i1, i2, i3⟩ := ih ns e.2
        obtain ⟨nm, v, kp⟩ := k
        cases (show nm = some n from e.1)
        refine ⟨?_, ?_, ?_⟩
        · show (true && (backToKw pos (keywordEach l X.env)).all (·.1.isSome)) = true
          rw [i1]; rfl
        · show n :: (backToKw pos (keywordEach l X.env)).filterMap (·.1) = n :: ns
          rw [i2]
        · show (false || (backToKw pos (keywordEach l X.env)).any (·.1.isNone)) = false
          rw [i3]; rfl
  obtain ⟨n1, n2, n3⟩ := names kwl ks hks
  have fin : ∀ {σ : L2.St} {H : Hp} {Q : VK}, LE X c B W0 (.callk f ees ks kes perm) σ H Q → tCallK (spC X.K c.C f) (gK V np ks.length perm) E0 (LA X c B W0 ees) (LA X c B W0 kes) σ H Q := fun {σ H Q} ⟨ρ, σ', h, m, s, ok⟩ => by
    rw [ev] at ok
    refine ⟨ρ, σ', h, m, s, ok.bindE.mono fun x' H1 ⟨ρ1, x, h1, q1, e1, m1, r1, ok1⟩ => ?_⟩
    refine ⟨ρ1, σ', h1, m1, s.ext e1, ok1.bindE.mono fun y' H2 ⟨ρ2, y, h2, q2, e2, m2, r2, ok2⟩ => ?_⟩
    have l1 := evs_len hl1 q1
    have l2 := evs_len hl2 q2
    have r1' := r1.ext e2
    have c1 : x'.length = np ∧ y'.length = ks.length := ⟨by rw [← r1'.length]; exact l1, by rw [← r2.length]; exact l2⟩
    refine ⟨B, h2, ρ2, permL perm (x ++ y), m2, ?_, ok2⟩
    unfold gK
    rw [if_pos c1]
    exact (r1'.append r2).perm perm
  cases es with
  | nil =>
    refine ⟨fun pins s σ H Q I q => ?_⟩
    refine wpAny_Call_Name_kw (ld_glob I hg hm ?_ hd)
    have e0 : ees = .nil := hl3 rfl
    subst e0
    have q1 := fin q
    obtain ⟨ρ, σ', h, m, s', ok⟩ := q1
    rw [evs] at ok
    have q2 := ok ρ H [] .refl m .nil
    refine PySem.W.callWith_KW0 (h₀ := X.base) I.ok.mod.kin hk n1 (thn (hkw.run pos pins s σ H _ I q2) fun ws s2 ⟨zs, H2, I2, rz, q3⟩ => ⟨I2.kIn, ?_⟩) (by simpa [starEach, backTo] using n3)
    rw [n2]
    exact run_fnk G hr KB pass0 I2 .nil rz q3
  | cons a r =>
    exact imp_e (pe_callK G hr hg hm hk KB pass0 ha hkw n1 n2 hd (star_of _ hst) (by
      rw [Bool.or_eq_false_iff]
      exact ⟨plain_of _ _ _ hst, n3⟩)) fun σ H Q q => fin q
end
end GB

end
section
set_option Elab.async false
set_option linter.all false
set_option maxRecDepth 100000
/-! GbS6: what is walked, targets, comprehensions. -/
namespace GB
open PySem PySem.Spec PyProof.Rows L2

def WkJ (K : PySem.W.Frag) (B : Hh) : RR Wk L2.It := fun ρ0 H0 w J => ∀ ρ h H i, Ext K ρ0 H0 ρ H → Mt K ρ (B ++ h) H → (w.at (B ++ h) i = some none → J.stop i H) ∧
  ∀ x, w.at (B ++ h) i = some (some x) → J.go i H ∧ ∀ x' H', J.yld i H x' H' → Ext K ρ H ρ H' ∧ Mt K ρ (B ++ h) H' ∧ Rw K ρ H' x x'
section
variable {K : PySem.W.Frag} {B : Hh} {ρ : List Addr} {H : Hp}
theorem Rws.none_of {xs : List Vl} {vs : List V} {i : Nat} (r : Rws K ρ H xs vs) (e : xs[i]? = none) : vs.length ≤ i := by
  rw [← r.length]; exact List.getElem?_eq_none_iff.mp e
theorem wj_tup {a : Addr} {xs : List Vl} {vs : List V} (s : SqT K H a vs) (r : Rws K ρ H xs vs) : WkJ K B ρ H (.seq (.tup xs)) (Itt K a) := by
  intro ρ' h H' i e m
  have s' := e.tup _ _ s
  have r' := r.ext e
  refine ⟨fun q => ⟨vs, s', r'.none_of (by simpa [Wk.at, items] using q)⟩, fun x q => ?_⟩
  obtain ⟨v, hv, rv⟩ := r'.get (show xs[i]? = some x by simpa [Wk.at, items] using q)
  refine ⟨⟨vs, v, s', hv⟩, fun x' H2 ⟨e1, f⟩ => ?_⟩
  subst e1
  have : x' = v := Option.some.inj ((f vs s').symm.trans hv)
  subst this
  exact ⟨.refl, m, rv⟩
theorem wj_ref {a : Addr} {n : Nat} (s : ρ[n]? = some a) : WkJ K B ρ H (.seq (.ref n)) (Itl K a) := by
  intro ρ' h H' i e m
  have s' := e.pre _ _ s
  refine ⟨fun q => ?_, fun x q => ?_⟩
  · simp only [Wk.at, Option.map_eq_some_iff] at q
    obtain ⟨xs, e1, e2⟩ := q
    obtain ⟨a', vs, f1, f2, f3⟩ := m.refItems (.ref s') e1
    cases f1
    exact ⟨vs, f2, f3.none_of e2⟩
  · simp only [Wk.at, Option.map_eq_some_iff] at q
    obtain ⟨xs, e1, e2⟩ := q
    obtain ⟨a', vs, f1, f2, f3⟩ := m.refItems (.ref s') e1
    cases f1
    obtain ⟨v, hv, rv⟩ := f3.get e2
    refine ⟨⟨vs, v, f2, hv⟩, fun x' H2 ⟨e1, f⟩ => ?_⟩
    subst e1
    have : x' = v := Option.some.inj ((f vs f2).symm.trans hv)
    subst this
    exact ⟨.refl, m, rv⟩
theorem wj_rng {lo : Int} {n : Nat} : WkJ K B ρ H (.rng lo n) (Itr lo n) := by
  intro ρ' h H' i e m
  refine ⟨fun q => ?_, fun x q => ?_⟩
  · simp only [Wk.at, Option.some.injEq] at q
    split at q
    · cases q
    · rename_i hn; exact Nat.le_of_not_lt hn
  · simp only [Wk.at, Option.some.injEq] at q
    split at q
    · rename_i hn
      cases q
      refine ⟨hn, fun x' H2 ⟨e1, e2⟩ => ?_⟩
      subst e1 e2
      exact ⟨.refl, m, .int _⟩
    · cases q
theorem wj_zipT {a b : Addr} {xs ys : List Vl} {vs ws : List V} (s : SqT K H a vs) (r : Rws K ρ H xs vs) (s2 : SqT K H b ws) (r2 : Rws K ρ H ys ws) : WkJ K B ρ H (.zip (.tup xs) (.tup ys)) (RZ.ItzT K a b) := by
  intro ρ' h H' i e m
  have s' := e.tup _ _ s
  have r' := r.ext e
  have s2' := e.tup _ _ s2
  have r2' := r2.ext e
  refine ⟨fun q => ⟨vs, ws, s', s2', ?_⟩, fun x q => ?_⟩
  · simp only [Wk.at, items, Option.bind_some, Option.map_some, Option.some.injEq] at q
    cases e1 : xs[i]? with
    | none => exact .inl (r'.none_of e1)
    | some x =>
      cases e2 : ys[i]? with
      | none => exact .inr (r2'.none_of e2)
      | some y => rw [e1, e2] at q; cases q
  · simp only [Wk.at, items, Option.bind_some, Option.map_some, Option.some.injEq] at q
    cases e1 : xs[i]? with
    | none => rw [e1] at q; cases q
    | some x1 =>
      cases e2 : ys[i]? with
      | none => rw [e1, e2] at q; cases q
      | some y1 =>
        rw [e1, e2] at q
        cases q
        obtain ⟨v, hv, rv⟩ := r'.get e1
        obtain ⟨w, hw, rw'⟩ := r2'.get e2
        refine ⟨⟨vs, ws, v, w, s', s2', hv, hw⟩, fun x' H2 ⟨T, x2, y2, f1, f2, f3, f4, f5⟩ => ?_⟩
        subst f1 f3
        have g1 : x2 = v := Option.some.inj ((f4 vs s').symm.trans hv)
        have g2 : y2 = w := Option.some.inj ((f5 ws s2').symm.trans hw)
        subst g1 g2
        exact ⟨.new f2, m.new f2, .tup (SqT.of upd_same) (.cons (rv.ext (.new f2)) (.cons (rw'.ext (.new f2)) .nil))⟩
theorem wj_zipL {a b : Addr} {n k : Nat} (s : ρ[n]? = some a) (s2 : ρ[k]? = some b) : WkJ K B ρ H (.zip (.ref n) (.ref k)) (Itz K a b) := by
  intro ρ' h H' i e m
  have s' := e.pre _ _ s
  have s2' := e.pre _ _ s2
  refine ⟨fun q => ?_, fun x q => ?_⟩
  · simp only [Wk.at, Option.bind_eq_some_iff, Option.map_eq_some_iff] at q
    obtain ⟨xs, e1, ys, e2, q⟩ := q
    obtain ⟨a', vs, f1, f2, f3⟩ := m.refItems (.ref s') e1
    cases f1
    obtain ⟨b', ws, g1, g2, g3⟩ := m.refItems (.ref s2') e2
    cases g1
    refine ⟨vs, ws, f2, g2, ?_⟩
    cases e3 : xs[i]? with
    | none => exact .inl (f3.none_of e3)
    | some x =>
      cases e4 : ys[i]? with
      | none => exact .inr (g3.none_of e4)
      | some y => rw [e3, e4] at q; cases q
  · simp only [Wk.at, Option.bind_eq_some_iff, Option.map_eq_some_iff] at q
    obtain ⟨xs, e1, ys, e2, q⟩ := q
    obtain ⟨a', vs, f1, f2, f3⟩ := m.refItems (.ref s') e1
    cases f1
    obtain ⟨b', ws, g1, g2, g3⟩ := m.refItems (.ref s2') e2
    cases g1
    cases e3 : xs[i]? with
    | none => rw [e3] at q; cases q
    | some x1 =>
      cases e4 : ys[i]? with
      | none => rw [e3, e4] at q; cases q
      | some y1 =>
        rw [e3, e4] at q
        cases q
        obtain ⟨v, hv, rv⟩ := f3.get e3
        obtain ⟨w, hw, rw'⟩ := g3.get e4
        refine ⟨⟨vs, ws, v, w, f2, g2, hv, hw⟩, fun x' H2 ⟨T, x2, y2, k1, k2, k3, k4, k5⟩ => ?_⟩
        subst k1 k3
        have l1 : x2 = v := Option.some.inj ((k4 vs f2).symm.trans hv)
        have l2 : y2 = w := Option.some.inj ((k5 ws g2).symm.trans hw)
        subst l1 l2
        exact ⟨.new k2, m.new k2, .tup (SqT.of upd_same) (.cons (rv.ext (.new k2)) (.cons (rw'.ext (.new k2)) .nil))⟩
theorem wj_enum {a : Addr} {n : Nat} (s : ρ[n]? = some a) : WkJ K B ρ H (.enum (.ref n)) (Ite K a) := by
  intro ρ' h H' i e m
  have s' := e.pre _ _ s
  refine ⟨fun q => ?_, fun x q => ?_⟩
  · simp only [Wk.at, Option.map_eq_some_iff] at q
    obtain ⟨xs, e1, e2⟩ := q
    obtain ⟨a', vs, f1, f2, f3⟩ := m.refItems (.ref s') e1
    cases f1
    refine ⟨vs, f2, f3.none_of ?_⟩
    cases e3 : xs[i]? with
    | none => rfl
    | some _ => rw [e3] at e2; cases e2
  · simp only [Wk.at, Option.map_eq_some_iff] at q
    obtain ⟨xs, e1, x1, e2, e3⟩ := q
    obtain ⟨a', vs, f1, f2, f3⟩ := m.refItems (.ref s') e1
    cases f1
    obtain ⟨v, hv, rv⟩ := f3.get e2
    subst e3
    refine ⟨⟨vs, v, f2, hv⟩, fun x' H2 ⟨T, x2, k1, k2, k3, k4⟩ => ?_⟩
    subst k1 k3
    have l1 : x2 = v := Option.some.inj ((k4 vs f2).symm.trans hv)
    subst l1
    exact ⟨.new k2, m.new k2, .tup (SqT.of upd_same) (.cons (.int _) (.cons (rv.ext (.new k2)) .nil))⟩
end
section
variable {X : Cx} {c : Cf} {B : Hh} {W : WW} {pos p : Pos} {a b tg : Expr} {ea eb : Ex}
abbrev LI (X : Cx) (c : Cf) (B : Hh) (W : WW) (it : It) : TI := L X.K B (WkJ X.K B) W (evIt c B it)
theorem i_seq (ha : PE X a (LE X c B W ea)) : PI X tg a (LI X c B W (.seq ea)) := by
  refine imp_i (or_i (pi_list ha) (pi_tup ha)) fun σ H Q ⟨ρ, σ', h, m, s, ok⟩ => ?_
  rw [evIt] at ok
  cases e : ev c B ea σ' h with
  | bad => rw [e] at ok; exact False.elim ok
  | exc x h1 => rw [e] at ok; exact .inl ⟨ρ, σ', h, m, s, by rw [e]; exact ok⟩
  | ok x h1 =>
    rw [e] at ok
    simp only [Res.bind] at ok
    cases ei : items (B ++ h1) x with
    | none => rw [ei] at ok; exact False.elim ok
    | some xs =>
      rw [ei] at ok
      cases x with
      | tup ys =>
        refine .inr ⟨ρ, σ', h, m, s, ?_⟩
        rw [e]
        intro ρ1 H1 v' e1 m1 r
        cases r with
        | @tup _ p vs hs rs => exact ⟨p, rfl, ⟨vs, hs⟩, ok ρ1 H1 _ e1 m1 (wj_tup hs rs)⟩
      | ref n =>
        refine .inl ⟨ρ, σ', h, m, s, ?_⟩
        rw [e]
        intro ρ1 H1 v' e1 m1 r
        obtain ⟨p, vs, rfl, hs, rs⟩ := m1.refItems r ei
        cases r with
        | ref hn => exact ⟨p, rfl, ⟨vs, hs⟩, ok ρ1 H1 _ e1 m1 (wj_ref hn)⟩
      | _ => simp [items] at ei
theorem i_range1 (hg : Gl X "range") (hm : X.mg "range" = none) (ha : PE X a (LE X c B W ea)) (hs : starEach [a] X.env = [(false, eval a X.env)]) : PI X tg (.Call (.Name "range" p) [a] [] pos) (LI X c B W (.range1 ea)) := by
  refine imp_i (pi_range1 hg hm (pa_cons ha pa_nil hs) hs) fun σ H Q ⟨ρ, σ', h, m, s, ok⟩ => ?_
  rw [evIt] at ok
  refine ⟨ρ, σ', h, m, s, ok.bind.mono fun x' H1 ⟨ρ1, x, h1, e1, m1, r, ok1⟩ => ?_⟩
  cases r with
  | int j =>
    simp only at ok1
    split at ok1
    · rename_i hc
      exact ⟨j, rfl, hc.1, hc.2, ok1 ρ1 H1 _ .refl m1 wj_rng⟩
    · exact False.elim ok1
  | _ => exact False.elim ok1
theorem i_range2 (hg : Gl X "range") (hm : X.mg "range" = none) (ha : PE X a (LE X c B W ea)) (hb : PE X b (LE X c B W eb)) (hs : starEach [a, b] X.env = [(false, eval a X.env), (false, eval b X.env)]) (hs2 : starEach [b] X.env = [(false, eval b X.env)]) :
    PI X tg (.Call (.Name "range" p) [a, b] [] pos) (LI X c B W (.range2 ea eb)) := by
  refine imp_i (pi_range2 hg hm (pa_cons ha (pa_cons hb pa_nil hs2) (by rw [hs, hs2])) hs hs2) fun σ H Q ⟨ρ, σ', h, m, s, ok⟩ => ?_
  rw [evIt] at ok
  obtain ⟨ρ, σ', h, m, s, ok⟩ := L.two (R' := Rw X.K) (R2 := Rw X.K) (mono_w _) ⟨ρ, σ', h, m, s, ok⟩
  refine ⟨ρ, σ', h, m, s, ok.mono fun x' H1 ⟨ρ1, σ1, h1, m1, s1, ok1⟩ => ⟨ρ1, σ1, h1, m1, s1, ok1.mono fun y' H2 ⟨ρ2, x, y, h2, m2, r1, r2, ok2⟩ => ?_⟩⟩
  cases r1 with
  | int i =>
    cases r2 with
    | int j =>
      simp only at ok2
      split at ok2
      · rename_i hc
        exact ⟨i, j, rfl, hc, ok2 ρ2 H2 _ .refl m2 wj_rng⟩
      · exact False.elim ok2
    | _ => exact False.elim ok2
  | _ => exact False.elim ok2
theorem i_zip {elts : List Expr} {kk : Nat} {tpos : Pos} (hg : Gl X "zip") (hm : X.mg "zip" = none) (ha : PE X a (LE X c B W ea)) (hb : PE X b (LE X c B W eb)) (hs : starEach [a, b] X.env = (false, eval a X.env) :: starEach [b] X.env) (hs2 : starEach [b] X.env = [(false, eval b X.env)]) :
    PI X (.Tuple elts kk tpos) (.Call (.Name "zip" p) [a, b] [] pos) (LI X c B W (.zip ea eb)) := by
  refine imp_i (RZ.pi_zipA hg hm (pa_cons ha (pa_cons hb pa_nil hs2) hs) hs (by rw [hs2]; rfl)) fun σ H Q ⟨ρ, σ', h, m, s, ok⟩ => ?_
  rw [evIt] at ok
  obtain ⟨ρ, σ', h, m, s, ok⟩ := L.two (R' := Rw X.K) (R2 := Rw X.K) (mono_w _) ⟨ρ, σ', h, m, s, ok⟩
  refine ⟨ρ, σ', h, m, s, ok.mono fun x' H1 ⟨ρ1, σ1, h1, m1, s1, ok1⟩ => ⟨ρ1, σ1, h1, m1, s1, ok1.mono fun y' H2 ⟨ρ2, x, y, h2, m2, r1, r2, ok2⟩ => ?_⟩⟩
  cases x with
  | tup xs =>
    cases y with
    | tup ys =>
      cases r1 with
      | @tup _ p1 vs hs1 rs1 =>
        cases r2 with
        | @tup _ p2 ws hs2 rs2 => exact ⟨p1, p2, vs, ws, rfl, .inr ⟨hs1, hs2, ok2 ρ2 H2 _ .refl m2 (wj_zipT hs1 rs1 hs2 rs2)⟩⟩
    | _ => exact False.elim ok2
  | ref n =>
    cases y with
    | ref k =>
      simp only at ok2
      split at ok2
      · rename_i o1 o2 e1 e2
        obtain ⟨p1, vs, rfl, hs1, rs1⟩ := m2.refItems (xs := o1.items) r1 (by simp [refItems, e1])
        obtain ⟨p2, ws, rfl, hs2, rs2⟩ := m2.refItems (xs := o2.items) r2 (by simp [refItems, e2])
        cases r1 with
        | ref hn =>
          cases r2 with
          | ref hk => exact ⟨p1, p2, vs, ws, rfl, .inl ⟨hs1, hs2, ok2 ρ2 H2 _ .refl m2 (wj_zipL hn hk)⟩⟩
      · exact False.elim ok2
    | _ => exact False.elim ok2
  | _ => cases y <;> exact False.elim ok2
theorem i_enum {elts : List Expr} {kk : Nat} {tpos : Pos} (hg : Gl X "enumerate") (hm : X.mg "enumerate" = none) (ha : PE X a (LE X c B W ea)) (hs : starEach [a] X.env = [(false, eval a X.env)]) :
    PI X (.Tuple elts kk tpos) (.Call (.Name "enumerate" p) [a] [] pos) (LI X c B W (.enum ea)) := by
  refine imp_i (pi_enum hg hm (pa_cons ha pa_nil hs) hs) fun σ H Q ⟨ρ, σ', h, m, s, ok⟩ => ?_
  rw [evIt] at ok
  refine ⟨ρ, σ', h, m, s, ok.bind.mono fun x' H1 ⟨ρ1, x, h1, e1, m1, r, ok1⟩ => ?_⟩
  cases x with
  | ref n =>
    simp only at ok1
    cases e : (B ++ h1)[n]? with
    | none => rw [e] at ok1; exact False.elim ok1
    | some o =>
      rw [e] at ok1
      obtain ⟨p, vs, rfl, hs, rs⟩ := m1.refItems (xs := o.items) r (by simp [refItems, e])
      cases r with
      | ref hn => exact ⟨p, vs, rfl, hs, ok1 ρ1 H1 _ .refl m1 (wj_enum hn)⟩
  | _ => exact False.elim ok1

/-! ### targets -/
def setS (is : List Nat) (vs : List V) (σ : L2.St) : L2.St := (is.zip vs).foldl (fun s p => s.set p.1 (some p.2)) σ
def gT (K : PySem.W.Frag) : Tg → TG
  | .nm i => gName i
  | .tp is => fun v σ H Q => ∃ a vs, v = .ref a ∧ (SqT K H a vs ∨ SqL K H a vs) ∧ vs.length = is.length ∧ Q (setS is vs σ) H
theorem Rs.setS {K : PySem.W.Frag} {ρ : List Addr} {H : Hp} : ∀ (is : List Nat) {xs : List Vl} {vs : List V} {σ' : Ev} {σ : L2.St}, Rws K ρ H xs vs → Rs K ρ H σ' σ → Rs K ρ H ((is.zip xs).foldl (fun s p => s.set p.1 (some p.2)) σ') (GB.setS is vs σ)
  | [], _, _, _, _, _, s => s
  | i :: is, _, _, _, _, .nil, s => s
  | i :: is, x :: xs, v :: vs, σ', σ, .cons r rs, s => Rs.setS is rs (s.set i r)
def Tg.slots : Tg → List Nat
  | .nm i => [i]
  | .tp is => is
theorem wipe_get (σ : L2.St) (j : Nat) : ∀ vs : List Nat, (L2.wipe σ vs)[j]? = if j ∈ vs then (if j < σ.length then some none else none) else σ[j]?
  | [] => by simp [L2.wipe]
  | v :: vs => by
    have ih := wipe_get σ j vs
    unfold L2.wipe
    by_cases hj : v = j
    · subst hj
      rw [if_pos (by simp)]
      by_cases hl : v < σ.length
      · rw [List.getElem?_set_self (by rw [L2.wipe_length]; exact hl), if_pos hl]
      · rw [List.getElem?_eq_none (by simpa [L2.wipe_length] using hl), if_neg hl]
    · rw [List.getElem?_set_ne hj, ih]
      have : (j ∈ v :: vs) ↔ j ∈ vs := by simp [Ne.symm hj]
      simp [this]
theorem wipe_wipe (σ : L2.St) (vs : List Nat) : L2.wipe (L2.wipe σ vs) vs = L2.wipe σ vs := by
  apply List.ext_getElem?
  intro j
  rw [wipe_get, wipe_get, L2.wipe_length]
  by_cases h : j ∈ vs <;> simp [h]
theorem wipe_set (σ : L2.St) (vs : List Nat) (i : Nat) (x : Option V) (h : i ∈ vs) : L2.wipe (σ.set i x) vs = L2.wipe σ vs := by
  apply List.ext_getElem?
  intro j
  rw [wipe_get, wipe_get, List.length_set]
  by_cases hj : j ∈ vs
  · simp [hj]
  · have : i ≠ j := fun e => hj (e ▸ h)
    simp [hj, List.getElem?_set_ne this]
theorem wipe_setS (vs : List Nat) : ∀ (is : List Nat) (ws : List V) (σ : L2.St), (∀ i ∈ is, i ∈ vs) → L2.wipe (setS is ws σ) vs = L2.wipe σ vs
  | [], _, _, _ => rfl
  | i :: is, [], _, _ => rfl
  | i :: is, w :: ws, σ, h => by
    show L2.wipe (setS is ws (σ.set i (some w))) vs = _
    rw [wipe_setS vs is ws _ (fun j hj => h j (List.mem_cons_of_mem _ hj)), wipe_set _ _ _ _ (h i (by simp))]
theorem gT_of {K : PySem.W.Frag} {ρ : List Addr} {H : Hp} {g : Hh} {t : Tg} {x : Vl} {v : V} {σ' σ1 : Ev} {σ : L2.St} {Q : L2.St → Hp → Prop} (m : Mt K ρ g H) (r : Rw K ρ H x v) (s : Rs K ρ H σ' σ) (e : setTg g t x σ' = some σ1)
    (h : ∀ σ2, Rs K ρ H σ1 σ2 → (∀ own : List Nat, (∀ i ∈ t.slots, i ∈ own) → L2.wipe σ2 own = L2.wipe σ own) → Q σ2 H) : gT K t v σ H Q := by
  cases t with
  | nm i =>
    simp only [setTg, Option.some.injEq] at e
    subst e
    exact h _ (s.set i r) fun own ho => wipe_set _ _ _ _ (ho i (by simp [Tg.slots]))
  | tp is =>
    simp only [setTg] at e
    split at e
    · rename_i xs ei
      split at e
      · rename_i hl
        obtain ⟨a, vs, rfl, hs, rs⟩ := m.items r ei
        have e := Option.some.inj e
        subst e
        exact ⟨a, vs, rfl, hs.symm, by rw [← rs.length]; exact hl, h _ (Rs.setS is rs s) fun own ho => wipe_setS own is vs _ ho⟩
      · cases e
    · cases e
/-- names in a row -/
def gsN (is : List Nat) : TGs := fun vs σ H Q => vs.length = is.length ∧ Q (setS is vs σ) H
structure NmOk (X : Cx) (i : Nat) (x : Str) : Prop where
  ix : X.N[i]? = some x
  loc : Loc X.env.scope x
  fn : X.fn x = true ∨ X.env.scope.names.lookup x = some .local
inductive NmsOk (X : Cx) : List Nat → List Expr → Prop
  | nil : NmsOk X [] []
  | cons {i : Nat} {x : Str} {p : Pos} {is : List Nat} {es : List Expr} : NmOk X i x → NmsOk X is es → NmsOk X (i :: is) (.Name x p :: es)
theorem pgs_names (nd : X.N.Nodup) : ∀ {is : List Nat} {es : List Expr}, NmsOk X is es → PGs X es (gsN is)
  | _, _, .nil => imp_gs pgs_nil fun vs σ H Q ⟨h1, h2⟩ => by
    have : vs = [] := List.eq_nil_of_length_eq_zero h1
    subst this
    exact ⟨rfl, h2⟩
  | i :: is, _, .cons n r => by
    refine imp_gs (pgs_cons (pg_name nd n.ix n.loc n.fn) (pgs_names nd r)) fun vs σ H Q ⟨h1, h2⟩ => ?_
    cases vs with
    | nil => simp at h1
    | cons v vs => exact ⟨v, vs, rfl, by simpa using h1, h2⟩
theorem nms_len {is : List Nat} {es : List Expr} (n : NmsOk X is es) : (assignEach es X.env).length = is.length ∧ (assignEach es X.env).findIdx? (·.1) = none := by
  induction n with
  | nil => exact ⟨rfl, rfl⟩
  | cons _ _ ih => exact ⟨by simp [assignEach, ih.1], by simp [assignEach, List.findIdx?_cons, ih.2]⟩
theorem g_tp (hc : X.calm = true) (nd : X.N.Nodup) {is : List Nat} {es : List Expr} {k : Nat} (n : NmsOk X is es) : PG X (.Tuple es k pos) (gT X.K (.tp is)) := by
  obtain ⟨h1, h2⟩ := nms_len n
  refine imp_g (or_g (pg_tup hc (pgs_names nd n) h1 h2) (pg_unl hc (pgs_names nd n) h1 h2)) fun v σ H Q ⟨a, vs, e, hs, hl, q⟩ => ?_
  rcases hs with hs | hs
  · exact .inl ⟨a, vs, e, hs, hl, hl, q⟩
  · exact .inr ⟨a, vs, e, hs, hl, hl, q⟩

/-! ### comprehensions -/
theorem Mt.put' {K : PySem.W.Frag} {ρ : List Addr} {H : Hp} {B h h2 : Hh} {n : Nat} {f : List Vl → Option (List Vl)} (m : Mt K ρ (B ++ h) H) (e : GB.put B h n f = some h2) :
    ∃ xs ys, (B ++ h)[n]? = some (.lst xs) ∧ f xs = some ys ∧ B ++ h2 = (B ++ h).set n (.lst ys) := by
  unfold GB.put at e
  split at e
  · cases e
  · rename_i hn
    split at e
    · rename_i xs e1
      rw [Option.map_eq_some_iff] at e
      obtain ⟨ys, e2, rfl⟩ := e
      refine ⟨xs, ys, ?_, e2, ?_⟩
      · rw [List.getElem?_append_right (by omega)]; exact e1
      · rw [List.set_append_right _ _ (by omega)]
    · cases e
def PTsB (X : Cx) (ifs : List Expr) (t : TT) : Prop := PTs X ifs t
theorem s_lc {tgx iter elt : Expr} {ifs : List Expr} {scope : Scope} {own : List (Str × Nat)} {t : Tg} {it : It} {cn : Cn} {e : Ex} (hc : X.calm = true) (hN : X.N.Nodup) (hi : PI X tgx iter (LI X c B W0 it)) (ok : BlkOk X.N X.env.scope scope own)
    (hg : ∀ (s : Shared) (H : Hp) (C : Addr) (cl : List (Str × Addr)) (fp : List Addr), PG (X.blk s H scope (compEnvC scope cl C X.env) fp) tgx (gT X.K t)) (ht : ∀ (s : Shared) (H : Hp) (C : Addr) (cl : List (Str × Addr)) (fp : List Addr), PTs (X.blk s H scope (compEnvC scope cl C X.env) fp) ifs (L X.K B Req W0 (tvCn c B cn)))
    (he : ∀ (s : Shared) (H : Hp) (C : Addr) (cl : List (Str × Addr)) (fp : List Addr), PE (X.blk s H scope (compEnvC scope cl C X.env) fp) elt (LE X c B W0 e)) (hs : ∀ x, foldedSetIterable iter X.env x = pure x) (hsl : ∀ i ∈ t.slots, i ∈ own.map (·.2)) {Q : VK} {σ : L2.St} {H : Hp}
    (q : LE X c B W0 (.lc (own.map (·.2)) t it cn e) σ H Q) : tLc (LI X c B W0 it) (gT X.K t) (L X.K B Req W0 (tvCn c B cn)) (LE X c B W0 e) (own.map (·.2)) σ H Q := by
  obtain ⟨ρ, σ', h, m, s, ok⟩ := q
  rw [ev] at ok
  refine ⟨ρ, σ', h, m, s, ok.bind.mono fun J H1 ⟨ρ1, w, h1, e1, m1, wj, ok1⟩ => ?_⟩
  intro D hD
  have m2 := m1.alloc hD (xs := []) .nil
  have e2 : Ext X.K ρ1 H1 (ρ1 ++ [D]) (upd H1 D (.lst [])) := (Ext.new hD).trans (Ext.more [D])
  have s1 := s.ext e1
  refine ⟨fun i fu H2 => ∃ ρ2 h2, Ext X.K (ρ1 ++ [D]) (upd H1 D (.lst [])) ρ2 H2 ∧ Mt X.K ρ2 (B ++ h2) H2 ∧ Ok X.K B ρ2 H2 (Rw X.K) (fun _ _ _ => False) (lcTurns B (B ++ h1).length w (fun x h2 => match setTg (B ++ h2) t x (wipeE σ' (own.map (·.2))) with
        | none => .bad
        | some σ2 => (tvCn c B cn σ2 h2).bind fun k h3 => if k then (ev c B e σ2 h3).bind fun y h4 => .ok (some y) h4 else .ok none h3) fu i h2) Q,
    ⟨w.most (B ++ h1), ρ1 ++ [D], h1 ++ [.lst []], .refl, by rw [← List.append_assoc]; exact m2, ok1.ext e2⟩, ?_⟩
  rintro i fu H2 ⟨ρ2, h2, x2, m3, ok2⟩
  have hDn : ρ2[(B ++ h1).length]? = some D := x2.pre _ _ (by rw [← m1.len]; simp)
  obtain ⟨st, go⟩ := wj ρ2 h2 H2 i (e2.trans x2) m3
  rw [lcTurns] at ok2
  cases ea : w.at (B ++ h2) i with
  | none => rw [ea] at ok2; exact False.elim ok2
  | some o =>
    rw [ea] at ok2
    cases o with
    | none => exact .inl ⟨st ea, ok2 ρ2 H2 _ .refl m3 (.ref hDn)⟩
    | some x =>
      obtain ⟨g1, g2⟩ := go x ea
      cases fu with
      | zero => exact False.elim ok2
      | succ fu =>
        simp only at ok2
        refine .inr ⟨g1, _, fun H' hN => ⟨fu, Nat.lt_succ_self _, hN⟩, fun x' H3 y3 => ?_⟩
        obtain ⟨x3, m4, r4⟩ := g2 x' H3 y3
        have sw := ((((s1.ext e2).ext x2).ext x3).wipe (own.map (·.2)))
        cases es : setTg (B ++ h2) t x (wipeE σ' (own.map (·.2))) with
        | none => rw [es] at ok2; exact False.elim ok2
        | some σ2 =>
          rw [es] at ok2
          refine gT_of m4 r4 sw es fun σ3 s3 hw => ⟨by rw [hw _ hsl, wipe_wipe], ρ2, σ2, h2, m4, s3, ?_⟩
          simp only [Res.bind_assoc] at ok2
          refine (Ok.ext x3 ok2).bind.mono fun k H4 ⟨ρ4, k', h4, x4, m5, rk, ok4⟩ => ?_
          obtain rfl : k' = k := rk
          cases k' with
          | false =>
            refine iteF ⟨ρ4, h4, (x2.trans x3).trans x4, m5, ?_⟩
            exact ok4
          | true =>
            refine iteT ⟨ρ4, σ2, h4, m5, s3.ext x4, ?_⟩
            simp only [if_true, Res.bind_assoc] at ok4
            refine ok4.bind.mono fun y' H5 ⟨ρ5, y, h5, x5, m6, ry, ok5⟩ => ?_
            simp only [Res.bind] at ok5
            cases ep : put B h5 (B ++ h1).length (fun acc => if acc.length < sizeLine then some (acc ++ [y]) else none) with
            | none => rw [ep] at ok5; exact False.elim ok5
            | some h6 =>
              rw [ep] at ok5
              obtain ⟨xs, ys, f1, f2, f3⟩ := m6.put' ep
              have hD5 : ρ5[(B ++ h1).length]? = some D := x5.pre _ _ (x4.pre _ _ hDn)
              obtain ⟨vs, v1, v2⟩ := m6.ob _ _ D f1 hD5
              split at f2
              · rename_i hlt
                cases f2
                obtain ⟨m7, x7⟩ := m6.put f1 hD5 (v2.append (Rws.one ry))
                refine ⟨vs, v1, by rw [← v2.length]; exact hlt, ρ5, h6, ((((x2.trans x3).trans x4).trans x5).trans x7), by rw [f3]; exact m7, ok5.ext x7⟩
              · cases f2
end
end GB

end
section
set_option Elab.async false
set_option linter.all false
set_option maxRecDepth 100000
/-! GbS7: the look that an expression of the text is what the evaluator's form says; that the evaluator is right about it. -/
namespace GB
open PySem PySem.Spec PyProof.Rows L2

structure Ck where
  N : List Str
  defs : List (Str × List Str)
  consts : List Str
  kws : List (Nat × Nat × List Str × List Nat)

def visB (sc : Scope) (x : Str) : Bool := match sc.names.lookup x with
  | some .local => true | some .cell => true | some .free => true | _ => false
def locB (sc : Scope) (x : Str) : Bool := match sc.names.lookup x with
  | some .local => true | some .cell => true | _ => false
def glB (sc : Scope) (x : Str) : Bool := match sc.names.lookup x with
  | some .globalImplicit => true | _ => false
def okName (x : Str) : Bool := !(x == ("__debug__" : Str)) && !(x == ("__classdict__" : Str))
def nSet : Expr → Bool | .Set _ _ _ => false | _ => true
def nSlice : Expr → Bool | .Slice _ _ _ _ => false | _ => true
def bltNames : List Str := ["isinstance", "int", "bool", "str", "list", "tuple", "dict", "len", "abs", "max", "min", "sum", "all", "any", "range", "zip", "enumerate"]

def chkNm (k : Ck) (sc : Scope) (i : Nat) (e : Expr) : Bool := match e with
  | .Name x _ => decide (k.N[i]? = some x) && locB sc x
  | _ => false
def chkNms (k : Ck) (sc : Scope) : List Nat → List Expr → Bool
  | [], [] => true
  | i :: is, e :: es => chkNm k sc i e && chkNms k sc is es
  | _, _ => false
def chkTg (k : Ck) (sc : Scope) : Tg → Expr → Bool
  | .nm i, e => chkNm k sc i e
  | .tp is, e => match e with
    | .Tuple es _ _ => chkNms k sc is es
    | _ => false
def chkTys (sc : Scope) : List Ty → List Expr → Bool
  | [], [] => true
  | t :: ts, e :: es => (match e with | .Name x _ => decide (x = tyName t) && glB sc x | _ => false) && chkTys sc ts es
  | _, _ => false

mutual
def chkE (k : Ck) : Ex → Scope → Expr → Bool
  | .var i, sc, x => match x with
    | .Name n _ => decide (k.N[i]? = some n) && visB sc n && okName n
    | _ => false
  | .int i, _, x => match x with | .Constant (.int j) _ _ => decide (i = j) | _ => false
  | .bl i, _, x => match x with | .Constant (.bool j) _ _ => decide (i = j) | _ => false
  | .non, _, x => match x with | .Constant .none _ _ => true | _ => false
  | .str i, _, x => match x with | .Constant (.str j) _ _ => decide (i = j) | _ => false
  | .glo j, sc, x => match x with
    | .Name n _ => decide (k.consts[j]? = some n) && glB sc n && okName n
    | _ => false
  | .bin op a b, sc, x => match x with | .BinOp l o r _ => decide (o = opOf op) && chkE k a sc l && chkE k b sc r | _ => false
  | .neg a, sc, x => match x with | .UnaryOp .USub y _ => chkE k a sc y | _ => false
  | .not a, sc, x => match x with | .UnaryOp .Not y _ => chkE k a sc y | _ => false
  | .cmp op a b, sc, x => match x with | .Compare l [o] [r] _ => decide (o = cpOf op) && chkE k a sc l && chkE k b sc r | _ => false
  | .chain o p a b d, sc, x => match x with | .Compare l [o', p'] [y, z] _ => decide (o' = cpOf o) && decide (p' = cpOf p) && chkE k a sc l && chkE k b sc y && chkE k d sc z | _ => false
  | .isN a, sc, x => match x with | .Compare l [.Is] [.Constant .none _ _] _ => chkE k a sc l | _ => false
  | .notN a, sc, x => match x with | .Compare l [.IsNot] [.Constant .none _ _] _ => chkE k a sc l | _ => false
  | .and es, sc, x => match x with | .BoolOp .And xs _ => chkB k es sc xs | _ => false
  | .or es, sc, x => match x with | .BoolOp .Or xs _ => chkB k es sc xs | _ => false
  | .ife t a b, sc, x => match x with | .IfExp y l r _ => chkE k t sc y && chkE k a sc l && chkE k b sc r | _ => false
  | .tup es, sc, x => match x with | .Tuple xs _ _ => chkEs k es sc xs | _ => false
  | .lst es, sc, x => match x with | .List xs _ => chkEs k es sc xs | _ => false
  | .call f es, sc, x => match x with
    | .Call (.Name n _) xs [] _ => (match k.defs[f]? with | some (m, _) => decide (n = m) | none => false) && glB sc n && okName n && chkEs k es sc xs && noStar xs
    | _ => false
  | .callk f es ks kes perm, sc, x => match x with
    | .Call (.Name n _) xs kwl _ => (match k.defs[f]? with | some (m, _) => decide (n = m) | none => false) && glB sc n && okName n && chkEs k es sc xs && noStar xs && chkKs k kes sc kwl &&
        decide (kwl.map (·.arg) = ks.map some) && (match lenX es with | some np => decide ((f, np, ks, perm) ∈ k.kws) | none => false) && decide (lenX kes = some ks.length)
    | _ => false
  | .bi b es, sc, x => match x with
    | .Call (.Name n _) xs [] _ => decide (n = biName b) && glB sc n && chkEs k es sc xs && noStar xs && !xs.isEmpty
    | _ => false
  | .isi a t, sc, x => match x with
    | .Call (.Name n _) [y, .Name m _] [] _ => decide (n = ("isinstance" : Str)) && glB sc n && decide (m = tyName t) && glB sc m && chkE k a sc y && noStar [y]
    | _ => false
  | .isis a ts, sc, x => match x with
    | .Call (.Name n _) [y, .Tuple es _ _] [] _ => decide (n = ("isinstance" : Str)) && glB sc n && chkTys sc ts es && !ts.isEmpty && decide (ts.length ≤ 100) && chkE k a sc y && noStar [y]
    | _ => false
  | .ix a i, sc, x => match x with | .Subscript y z _ => nSlice z && chkE k a sc y && chkE k i sc z | _ => false
  | .sl a lo hi, sc, x => match x with | .Subscript y (.Slice l u none _) _ => chkE k a sc y && chkPt k lo sc l && chkPt k hi sc u | _ => false
  | .lc own t it cn e, sc, x => match x with
    | .ListComp elt [⟨tg, iter, ifs, as⟩] scope _ => decide (as = 0) && blkC k.N sc scope (own.map fun i => (k.N.getD i "", i)) && chkTg k scope t tg && (t.slots.all fun i => decide (i ∈ own)) && chkIt k it sc iter tg && chkCn k cn scope ifs && chkE k e scope elt && nSet iter
    | _ => false
def chkEs (k : Ck) : Exs → Scope → List Expr → Bool
  | .nil, _, xs => match xs with | [] => true | _ => false
  | .cons e es, sc, xs => match xs with | x :: r => noStar [x] && chkE k e sc x && chkEs k es sc r | _ => false
  | .star e es, sc, xs => match xs with | .Starred x _ :: r => chkE k e sc x && chkEs k es sc r | _ => false
def chkKs (k : Ck) : Exs → Scope → List Keyword → Bool
  | .nil, _, xs => match xs with | [] => true | _ => false
  | .cons e es, sc, xs => match xs with | ⟨_, x, _⟩ :: r => chkE k e sc x && chkKs k es sc r | _ => false
  | .star _ _, _, _ => false
def chkB (k : Ck) : Exs → Scope → List Expr → Bool
  | .nil, _, _ => false
  | .star _ _, _, _ => false
  | .cons e es, sc, xs => match xs with
    | [] => false
    | x :: r => chkE k e sc x && (match es, r with | .nil, [] => true | .nil, _ => false | _, [] => false | es, r => chkB k es sc r)
def chkPt (k : Ck) : Pt → Scope → Option Expr → Bool
  | .no, _, x => match x with | none => true | _ => false
  | .yes e, sc, x => match x with | some y => chkE k e sc y | _ => false
def chkCn (k : Ck) : Cn → Scope → List Expr → Bool
  | .no, _, x => match x with | [] => true | _ => false
  | .yes e, sc, x => match x with | [y] => chkE k e sc y | _ => false
def chkIt (k : Ck) : It → Scope → Expr → Expr → Bool
  | .seq a, sc, x, _ => chkE k a sc x
  | .range1 a, sc, x, _ => match x with | .Call (.Name n _) [y] [] _ => decide (n = ("range" : Str)) && glB sc n && chkE k a sc y && noStar [y] | _ => false
  | .range2 a b, sc, x, _ => match x with | .Call (.Name n _) [y, z] [] _ => decide (n = ("range" : Str)) && glB sc n && chkE k a sc y && chkE k b sc z && noStar [y, z] | _ => false
  | .zip a b, sc, x, tg => match x, tg with | .Call (.Name n _) [y, z] [] _, .Tuple _ _ _ => decide (n = ("zip" : Str)) && glB sc n && chkE k a sc y && chkE k b sc z && noStar [y, z] | _, _ => false
  | .enum a, sc, x, tg => match x, tg with | .Call (.Name n _) [y] [] _, .Tuple _ _ _ => decide (n = ("enumerate" : Str)) && glB sc n && chkE k a sc y && noStar [y] | _, _ => false
end
end GB

end
section
set_option Elab.async false
set_option linter.all false
set_option maxRecDepth 100000
/-! GbS8: the evaluator is right about every expression that passes the look. -/
namespace GB
open PySem PySem.Spec PyProof.Rows L2

mutual
/-- may stand as a test -/
def tst : Ex → Bool
  | .ife _ _ _ => false
  | .chain _ _ _ _ _ => false
  | .and es => tsts es
  | .or es => tsts es
  | .not a => tst a
  | _ => true
def tsts : Exs → Bool
  | .nil => true
  | .cons e es => tst e && tsts es
  | .star _ _ => false
end
mutual
/-- the tests within may stand as such -/
def tin : Ex → Bool
  | .bin _ a b => tin a && tin b
  | .neg a => tin a
  | .not a => tin a
  | .cmp _ a b => tin a && tin b
  | .chain _ _ a b d => tin a && tin b && tin d
  | .isN a => tin a
  | .notN a => tin a
  | .and es => tins es
  | .or es => tins es
  | .ife t a b => tst t && tin t && tin a && tin b
  | .tup es => tins es
  | .lst es => tins es
  | .call _ es => tins es
  | .callk _ es _ kes _ => tins es && tins kes
  | .bi _ es => tins es
  | .isi a _ => tin a
  | .isis a _ => tin a
  | .ix a i => tin a && tin i
  | .sl a lo hi => tin a && tinP lo && tinP hi
  | .lc _ _ it cn e => tinI it && tinC cn && tin e
  | _ => true
def tins : Exs → Bool
  | .nil => true
  | .cons e es => tin e && tins es
  | .star e es => tin e && tins es
def tinP : Pt → Bool
  | .no => true
  | .yes e => tin e
def tinC : Cn → Bool
  | .no => true
  | .yes e => tst e && tin e
def tinI : It → Bool
  | .seq a => tin a
  | .range1 a => tin a
  | .range2 a b => tin a && tin b
  | .zip a b => tin a && tin b
  | .enum a => tin a
end

def ScOk (sc sc' : Scope) : Prop := ∀ x k, sc.names.lookup x = some k → sc'.names.lookup x = some k ∨ (k = .free ∧ sc'.names.lookup x = some .cell)
structure Good (k : Ck) (c : Cf) (lvl : Nat) (sc : Scope) (X : Cx) : Prop where
  scp : ScOk sc X.env.scope
  fnc : ∀ x, sc.names.lookup x = some .cell → X.fn x = true
  N : X.N = k.N
  nd : k.N.Nodup
  calm : X.calm = true
  room : Room lvl X.A
  bl : ∀ n ∈ bltNames, X.mg n = none
  fn : ∀ f n ps, k.defs[f]? = some (n, ps) → FnAt X.prog X.w X.K X.mg X.base lvl c.C k.kws f n ps
  gl : ∀ (j : Nat) n, k.consts[j]? = some n → ∀ v, c.gl[j]? = some v → ∃ i t, v = .int i ∧ X.mg n = some (.int i t)

theorem lookup_relabel {env : Env} : ∀ {names : List (Str × NameKind)} {x : Str} {k : NameKind}, names.lookup x = some k →
    (names.map fun (n, k) => if (k == NameKind.free && env.scope.kind == .function && env.kindOf n == some .cell) then (n, NameKind.cell) else (n, k)).lookup x = some k ∨
      (k = .free ∧ (names.map fun (n, k) => if (k == NameKind.free && env.scope.kind == .function && env.kindOf n == some .cell) then (n, NameKind.cell) else (n, k)).lookup x = some .cell)
  | [], _, _, h => by simp at h
  | (n, j) :: r, x, k, h => by
    rw [List.map_cons]
    dsimp only
    by_cases hx : x = n
    · subst hx
      simp only [List.lookup_cons, beq_self_eq_true] at h
      cases h
      by_cases hc : (j == NameKind.free && env.scope.kind == .function && env.kindOf x == some .cell) = true
      · rw [if_pos hc]
        simp only [Bool.and_eq_true] at hc
        exact .inr ⟨by simpa using hc.1.1, by simp [List.lookup_cons]⟩
      · rw [if_neg hc]
        exact .inl (by simp [List.lookup_cons])
    · have hb : (x == n) = false := by simpa using hx
      simp only [List.lookup_cons, hb] at h
      have ih := lookup_relabel (env := env) h
      split
      · simpa [List.lookup_cons, hb] using ih
      · simpa [List.lookup_cons, hb] using ih
theorem ScOk.refl (sc : Scope) : ScOk sc sc := fun _ _ h => .inl h

section
variable {k : Ck} {c : Cf} {lvl : Nat} {sc : Scope} {X : Cx}
theorem Good.vis (G : Good k c lvl sc X) {x : Str} (h : visB sc x = true) : Vis X.env.scope x := by
  unfold visB at h
  split at h
  · rename_i e; rcases G.scp _ _ e with h | ⟨h, _⟩; exact .inl h; cases h
  · rename_i e; rcases G.scp _ _ e with h | ⟨h, _⟩; exact .inr (.inl h); cases h
  · rename_i e; rcases G.scp _ _ e with h | ⟨_, h⟩; exact .inr (.inr h); exact .inr (.inl h)
  · cases h
theorem Good.glo (G : Good k c lvl sc X) {x : Str} (h : glB sc x = true) : Gl X x := by
  unfold glB at h
  split at h
  · rename_i e; rcases G.scp _ _ e with h | ⟨h, _⟩; exact h; cases h
  · cases h
theorem Good.nm (G : Good k c lvl sc X) {i : Nat} {x : Str} (h1 : k.N[i]? = some x) (h2 : locB sc x = true) : NmOk X i x := by
  refine ⟨by rw [G.N]; exact h1, ?_, ?_⟩
  · unfold locB at h2
    split at h2
    · rename_i e; rcases G.scp _ _ e with h | ⟨h, _⟩; exact .inl h; cases h
    · rename_i e; rcases G.scp _ _ e with h | ⟨h, _⟩; exact .inr h; cases h
    · cases h2
  · unfold locB at h2
    split at h2
    · rename_i e; rcases G.scp _ _ e with h | ⟨h, _⟩; exact .inr h; cases h
    · rename_i e; exact .inl (G.fnc _ e)
    · cases h2
theorem Good.hN (G : Good k c lvl sc X) : X.N.Nodup := by rw [G.N]; exact G.nd
theorem Good.hu (G : Good k c lvl sc X) : X.A.units + 64 < cLine := G.room.units
theorem Good.blkOk (G : Good k c lvl sc X) {scope : Scope} {own : List (Str × Nat)} (h : blkC k.N sc scope own = true) : BlkOk X.N X.env.scope scope own := by
  have b := blkOk_by h
  refine ⟨b.kind, b.uniq, by rw [G.N]; exact b.ix, fun y hy e => ?_, by rw [G.N]; exact b.own⟩
  rcases b.free y hy e with q | q
  · rcases G.scp _ _ q with h | ⟨h, _⟩
    · exact .inl h
    · cases h
  · rcases G.scp _ _ q with h | ⟨_, h⟩
    · exact .inr h
    · exact .inl h
theorem Good.blk (G : Good k c lvl sc X) {scope : Scope} (s : Shared) (H : Hp) (C : Addr) (cl : List (Str × Addr)) (fp : List Addr) : Good k c lvl scope (X.blk s H scope (compEnvC scope cl C X.env) fp) where
  scp := fun x k h => lookup_relabel (env := X.env) h
  fnc := fun x h => by show (scope.names.lookup x == some .cell) = true; rw [h]; rfl
  N := G.N
  nd := G.nd
  calm := G.calm
  room := G.room
  bl := G.bl
  fn := G.fn
  gl := G.gl
theorem Good.tg (G : Good k c lvl sc X) {t : Tg} {e : Expr} (h : chkTg k sc t e = true) : PG X e (gT X.K t) := by
  have nms : ∀ (is : List Nat) (es : List Expr), chkNms k sc is es = true → NmsOk X is es := by
    intro is
    induction is with
    | nil => intro es h; cases es with | nil => exact .nil | cons _ _ => simp [chkNms] at h
    | cons i is ih =>
      intro es h
      cases es with
      | nil => simp [chkNms] at h
      | cons e es =>
        simp only [chkNms, Bool.and_eq_true] at h
        obtain ⟨h1, h2⟩ := h
        unfold chkNm at h1
        split at h1
        · simp only [Bool.and_eq_true, decide_eq_true_eq] at h1
          exact .cons (G.nm h1.1 h1.2) (ih es h2)
        · cases h1
  cases t with
  | nm i =>
    simp only [chkTg] at h
    unfold chkNm at h
    split at h
    · simp only [Bool.and_eq_true, decide_eq_true_eq] at h
      have n := G.nm h.1 h.2
      exact pg_name G.hN n.ix n.loc n.fn
    · cases h
  | tp is =>
    simp only [chkTg] at h
    split at h
    · exact g_tp G.calm G.hN (nms _ _ h)
    · cases h
theorem okN {x : Str} (h : okName x = true) : (x == ("__debug__" : Str)) = false ∧ (x == ("__classdict__" : Str)) = false := by
  unfold okName at h
  simp only [Bool.and_eq_true, Bool.not_eq_true'] at h
  exact h
def plainT (a : Expr) : Prop := match a with | .UnaryOp .Not _ _ => False | .BoolOp _ _ _ => False | .IfExp _ _ _ _ => False | .Compare _ _ _ _ => False | _ => True
theorem isTrue_of {a : Expr} (env : Env) (h : plainT a) :
    ∀ whole, isTrue a env whole = (do let v ← whole; standAt a.pos; holding [v] (truthy v)) := by
  intro whole
  cases a with
  | UnaryOp op y p => cases op <;> first | rfl | exact h.elim
  | BoolOp _ _ _ => exact h.elim
  | IfExp _ _ _ _ => exact h.elim
  | Compare _ _ _ _ => exact h.elim
  | _ => rfl
theorem plainIx_of {z : Expr} (h : nSlice z = true) : PlainIx z := by
  intro o i
  cases z <;> first | rfl | (simp [nSlice] at h)
theorem nSet_of {z : Expr} (env : Env) (h : nSet z = true) : ∀ x, foldedSetIterable z env x = pure x := by
  intro x
  cases z <;> first | rfl | (simp [nSet] at h)
theorem star1 {y : Expr} (env : Env) (h : noStar [y] = true) : ∀ es, starEach (y :: es) env = (false, eval y env) :: starEach es env := by
  intro es
  cases y <;> first | rfl | (simp [noStar] at h)

variable {B : Hh}
theorem L.cong {K : PySem.W.Frag} {α β : Type} {R : RR α β} {W : WW} {f g : Ev → Hh → Res α} {σ : L2.St} {H : Hp} {Q : β → Hp → Prop} (h : L K B R W f σ H Q) (e : ∀ s h, f s h = g s h) : L K B R W g σ H Q := by
  obtain ⟨ρ, σ', h0, m, s, ok⟩ := h
  exact ⟨ρ, σ', h0, m, s, by rw [← e]; exact ok⟩
theorem and_one {a : Expr} {pos : Pos} {e : Ex} (h : PE X a (LE X c B W0 e)) : PE X (.BoolOp .And [a] pos) (L X.K B (Rw X.K) W0 (evAnd c B (.cons e .nil))) :=
  imp_e (pe_one h) fun σ H Q q => q.cong fun s h => by rw [evAnd]
theorem or_one {a : Expr} {pos : Pos} {e : Ex} (h : PE X a (LE X c B W0 e)) : PE X (.BoolOp .Or [a] pos) (L X.K B (Rw X.K) W0 (evOr c B (.cons e .nil))) :=
  imp_e (pe_one h) fun σ H Q q => q.cong fun s h => by rw [evOr]
theorem and_oneT {a : Expr} {pos : Pos} {e : Ex} (h : PT X a (LT X c B W0 e)) : PW X (.BoolOp .And [a] pos) (L X.K B Req W0 (fun s h => (evAnd c B (.cons e .nil) s h).bind (toB B))) :=
  imp_w (pw_and1 h) fun σ H Q q => q.cong fun s h => by rw [evAnd]
theorem or_oneT {a : Expr} {pos : Pos} {e : Ex} (h : PT X a (LT X c B W0 e)) : PW X (.BoolOp .Or [a] pos) (L X.K B Req W0 (fun s h => (evOr c B (.cons e .nil) s h).bind (toB B))) :=
  imp_w (pw_or1 h) fun σ H Q q => q.cong fun s h => by rw [evOr]
theorem and_more {a b : Expr} {rest : List Expr} {pos : Pos} {e : Ex} {es : Exs} (hne : es ≠ .nil) (h : PE X a (LE X c B W0 e)) (hr : PE X (.BoolOp .And (b :: rest) pos) (L X.K B (Rw X.K) W0 (evAnd c B es))) :
    PE X (.BoolOp .And (a :: b :: rest) pos) (L X.K B (Rw X.K) W0 (evAnd c B (.cons e es))) := by
  refine imp_e (pe_andT h hr) fun σ H Q ⟨ρ, σ', h0, m, s, ok⟩ => ?_
  have eq : evAnd c B (.cons e es) σ' h0 = (ev c B e σ' h0).bind fun v h1 => match tru (B ++ h1) v with
    | none => .bad
    | some b => if b then evAnd c B es σ' h1 else .ok v h1 := by
    cases es <;> first | exact absurd rfl hne | rfl
  rw [eq] at ok
  refine ⟨ρ, σ', h0, m, s, ok.bind.mono fun x' H1 ⟨ρ1, x, h1, e1, m1, r, ok1⟩ => ?_⟩
  cases et : tru (B ++ h1) x with
  | none => rw [et] at ok1; exact False.elim ok1
  | some b =>
    rw [et] at ok1
    refine ⟨b, tru_of m1 r et, ?_⟩
    cases b with
    | true => exact iteT ⟨ρ1, σ', h1, m1, s.ext e1, ok1⟩
    | false => exact iteF (fin_ok ok1 m1 r)
theorem or_more {a b : Expr} {rest : List Expr} {pos : Pos} {e : Ex} {es : Exs} (hne : es ≠ .nil) (h : PE X a (LE X c B W0 e)) (hr : PE X (.BoolOp .Or (b :: rest) pos) (L X.K B (Rw X.K) W0 (evOr c B es))) :
    PE X (.BoolOp .Or (a :: b :: rest) pos) (L X.K B (Rw X.K) W0 (evOr c B (.cons e es))) := by
  refine imp_e (pe_orT h hr) fun σ H Q ⟨ρ, σ', h0, m, s, ok⟩ => ?_
  have eq : evOr c B (.cons e es) σ' h0 = (ev c B e σ' h0).bind fun v h1 => match tru (B ++ h1) v with
    | none => .bad
    | some b => if b then .ok v h1 else evOr c B es σ' h1 := by
    cases es <;> first | exact absurd rfl hne | rfl
  rw [eq] at ok
  refine ⟨ρ, σ', h0, m, s, ok.bind.mono fun x' H1 ⟨ρ1, x, h1, e1, m1, r, ok1⟩ => ?_⟩
  cases et : tru (B ++ h1) x with
  | none => rw [et] at ok1; exact False.elim ok1
  | some b =>
    rw [et] at ok1
    refine ⟨b, tru_of m1 r et, ?_⟩
    cases b with
    | true => exact iteT (fin_ok ok1 m1 r)
    | false => exact iteF ⟨ρ1, σ', h1, m1, s.ext e1, ok1⟩
theorem and_moreT {a b : Expr} {rest : List Expr} {pos : Pos} {e : Ex} {es : Exs} (hne : es ≠ .nil) (h : PT X a (LT X c B W0 e)) (hr : PW X (.BoolOp .And (b :: rest) pos) (L X.K B Req W0 (fun s h => (evAnd c B es s h).bind (toB B)))) :
    PW X (.BoolOp .And (a :: b :: rest) pos) (L X.K B Req W0 (fun s h => (evAnd c B (.cons e es) s h).bind (toB B))) := by
  refine imp_w (pw_and h hr) fun σ H Q ⟨ρ, σ', h0, m, s, ok⟩ => ?_
  have eq : evAnd c B (.cons e es) σ' h0 = (ev c B e σ' h0).bind fun v h1 => match tru (B ++ h1) v with
    | none => .bad
    | some b => if b then evAnd c B es σ' h1 else .ok v h1 := by
    cases es <;> first | exact absurd rfl hne | rfl
  dsimp only at ok
  rw [eq, Res.bind_assoc] at ok
  refine ⟨ρ, σ', h0, m, s, ?_⟩
  show Ok X.K B ρ H Req (W0 σ) ((ev c B e σ' h0).bind (toB B)) _
  cases q : ev c B e σ' h0 with
  | bad => rw [q] at ok; exact False.elim ok
  | exc x h1 => rw [q] at ok; exact ok
  | ok v h1 =>
    rw [q] at ok
    simp only [Res.bind, toB] at ok ⊢
    cases et : tru (B ++ h1) v with
    | none => rw [et] at ok; exact False.elim ok
    | some b =>
      rw [et] at ok
      show Ok X.K B ρ H Req (W0 σ) (Res.ok b h1) _
      intro ρ1 H1 b' e1 m1 r
      obtain rfl : b = b' := r
      cases b with
      | true => exact iteT ⟨ρ1, σ', h1, m1, s.ext e1, Ok.ext e1 ok⟩
      | false =>
        refine iteF ?_
        replace ok : Ok X.K B ρ H Req (W0 σ) (Res.of (tru (B ++ h1) v) h1) Q := ok
        rw [et] at ok
        exact ok ρ1 H1 _ e1 m1 rfl
theorem or_moreT {a b : Expr} {rest : List Expr} {pos : Pos} {e : Ex} {es : Exs} (hne : es ≠ .nil) (h : PT X a (LT X c B W0 e)) (hr : PW X (.BoolOp .Or (b :: rest) pos) (L X.K B Req W0 (fun s h => (evOr c B es s h).bind (toB B)))) :
    PW X (.BoolOp .Or (a :: b :: rest) pos) (L X.K B Req W0 (fun s h => (evOr c B (.cons e es) s h).bind (toB B))) := by
  refine imp_w (pw_or h hr) fun σ H Q ⟨ρ, σ', h0, m, s, ok⟩ => ?_
  have eq : evOr c B (.cons e es) σ' h0 = (ev c B e σ' h0).bind fun v h1 => match tru (B ++ h1) v with
    | none => .bad
    | some b => if b then .ok v h1 else evOr c B es σ' h1 := by
    cases es <;> first | exact absurd rfl hne | rfl
  dsimp only at ok
  rw [eq, Res.bind_assoc] at ok
  refine ⟨ρ, σ', h0, m, s, ?_⟩
  show Ok X.K B ρ H Req (W0 σ) ((ev c B e σ' h0).bind (toB B)) _
  cases q : ev c B e σ' h0 with
  | bad => rw [q] at ok; exact False.elim ok
  | exc x h1 => rw [q] at ok; exact ok
  | ok v h1 =>
    rw [q] at ok
    simp only [Res.bind, toB] at ok ⊢
    cases et : tru (B ++ h1) v with
    | none => rw [et] at ok; exact False.elim ok
    | some b =>
      rw [et] at ok
      show Ok X.K B ρ H Req (W0 σ) (Res.ok b h1) _
      intro ρ1 H1 b' e1 m1 r
      obtain rfl : b = b' := r
      cases b with
      | false => exact iteF ⟨ρ1, σ', h1, m1, s.ext e1, Ok.ext e1 ok⟩
      | true =>
        refine iteT ?_
        simp only [if_true, Res.bind, toB, et] at ok
        exact ok ρ1 H1 _ e1 m1 rfl
end
end GB

end
section
set_option Elab.async false
set_option linter.all false
set_option maxRecDepth 100000
set_option maxHeartbeats 4000000
/-! GbS9: all expressions. -/
namespace GB
open PySem PySem.Spec PyProof.Rows L2
theorem own_snd (f : Nat → Str) : ∀ own : List Nat, (own.map fun i => (f i, i)).map (·.2) = own
  | [] => rfl
  | a :: l => by rw [List.map_cons, List.map_cons, own_snd f l]
section
variable {k : Ck} {c : Cf} {lvl : Nat} {B : Hh}
theorem both {X : Cx} {x : Expr} {e : Ex} (p : PE X x (LE X c B W0 e)) (h : plainT x) :
    PE X x (LE X c B W0 e) ∧ (tst e = true → PT X x (LT X c B W0 e)) := ⟨p, fun _ => s_test p (isTrue_of _ h)⟩
mutual
theorem sE : ∀ (e : Ex) {sc : Scope} {x : Expr} {X : Cx}, chkE k e sc x = true → tin e = true → Good k c lvl sc X → PE X x (LE X c B W0 e) ∧ (tst e = true → PT X x (LT X c B W0 e))
  | .var i, sc, x, X, h, _, G => by
    simp only [chkE] at h
    split at h
    · simp only [Bool.and_eq_true, decide_eq_true_eq] at h
      have n := okN h.2
      exact both (s_var (by rw [G.N]; exact h.1.1) (G.vis h.1.2) n.1 n.2) trivial
    · cases h
  | .int i, sc, x, X, h, _, G => by
    simp only [chkE] at h
    split at h
    · simp only [decide_eq_true_eq] at h
      subst h
      exact ⟨s_int, fun _ => s_test s_int (isTrue_of _ trivial)⟩
    · cases h
  | .bl i, sc, x, X, h, _, G => by
    simp only [chkE] at h
    split at h
    · simp only [decide_eq_true_eq] at h
      subst h
      exact ⟨s_bl, fun _ => s_test s_bl (isTrue_of _ trivial)⟩
    · cases h
  | .non, sc, x, X, h, _, G => by
    simp only [chkE] at h
    split at h
    · exact ⟨s_non, fun _ => s_test s_non (isTrue_of _ trivial)⟩
    · cases h
  | .str i, sc, x, X, h, _, G => by
    simp only [chkE] at h
    split at h
    · simp only [decide_eq_true_eq] at h
      subst h
      exact ⟨s_str, fun _ => s_test s_str (isTrue_of _ trivial)⟩
    · cases h
  | .glo j, sc, x, X, h, _, G => by
    simp only [chkE] at h
    split at h
    · simp only [Bool.and_eq_true, decide_eq_true_eq] at h
      have n := okN h.2
      exact both (s_glo (G.glo h.1.2) n.1 (G.gl j _ h.1.1)) trivial
    · cases h
  | .bin op a b, sc, x, X, h, t, G => by
    simp only [chkE] at h
    simp only [tin, Bool.and_eq_true] at t
    split at h
    · simp only [Bool.and_eq_true, decide_eq_true_eq] at h
      obtain ⟨⟨rfl, h1⟩, h2⟩ := h
      exact both (s_bin (sE a h1 t.1 G).1 (sE b h2 t.2 G).1) trivial
    · cases h
  | .neg a, sc, x, X, h, t, G => by
    simp only [chkE] at h
    simp only [tin] at t
    split at h
    · exact both (s_neg (sE a h t G).1) trivial
    · cases h
  | .not a, sc, x, X, h, t, G => by
    simp only [chkE] at h
    simp only [tin] at t
    split at h
    · have p := sE a h t G
      exact ⟨s_not p.1, fun q => s_notT (p.2 (by simpa [tst] using q))⟩
    · cases h
  | .cmp op a b, sc, x, X, h, t, G => by
    simp only [chkE] at h
    simp only [tin, Bool.and_eq_true] at t
    split at h
    · simp only [Bool.and_eq_true, decide_eq_true_eq] at h
      obtain ⟨⟨rfl, h1⟩, h2⟩ := h
      have p := s_cmp (op := op) (pos := by assumption) G.hu (sE a h1 t.1 G).1 (sE b h2 t.2 G).1
      exact ⟨p.1, fun _ => p.2⟩
    · cases h
  | .chain o p a b d, sc, x, X, h, t, G => by
    simp only [chkE] at h
    simp only [tin, Bool.and_eq_true] at t
    split at h
    · simp only [Bool.and_eq_true, decide_eq_true_eq] at h
      obtain ⟨⟨⟨⟨rfl, rfl⟩, h1⟩, h2⟩, h3⟩ := h
      exact ⟨s_chain G.hu (sE a h1 t.1.1 G).1 (sE b h2 t.1.2 G).1 (sE d h3 t.2 G).1, fun q => by simp [tst] at q⟩
    · cases h
  | .isN a, sc, x, X, h, t, G => by
    simp only [chkE] at h
    simp only [tin] at t
    split at h
    · exact ⟨(s_isN (sE a h t G).1).1, fun _ => (s_isN (sE a h t G).1).2⟩
    · cases h
  | .notN a, sc, x, X, h, t, G => by
    simp only [chkE] at h
    simp only [tin] at t
    split at h
    · exact ⟨(s_notN (sE a h t G).1).1, fun _ => (s_notN (sE a h t G).1).2⟩
    · cases h
  | .and es, sc, x, X, h, t, G => by
    simp only [chkE] at h
    simp only [tin] at t
    split at h
    · rename_i xs pos
      have p := sBA es (pos := pos) h t G
      exact ⟨imp_e p.1 fun σ H Q q => q.cong fun s h => by rw [ev], fun q => imp_t (p.2 (by simpa [tst] using q)).pt fun σ H Q q => q.cong fun s h => by rw [ev]⟩
    · cases h
  | .or es, sc, x, X, h, t, G => by
    simp only [chkE] at h
    simp only [tin] at t
    split at h
    · rename_i xs pos
      have p := sBO es (pos := pos) h t G
      exact ⟨imp_e p.1 fun σ H Q q => q.cong fun s h => by rw [ev], fun q => imp_t (p.2 (by simpa [tst] using q)).pt fun σ H Q q => q.cong fun s h => by rw [ev]⟩
    · cases h
  | .ife d a b, sc, x, X, h, t, G => by
    simp only [chkE] at h
    simp only [tin, Bool.and_eq_true] at t
    split at h
    · simp only [Bool.and_eq_true] at h
      exact ⟨s_ife ((sE d h.1.1 t.1.1.2 G).2 t.1.1.1) (sE a h.1.2 t.1.2 G).1 (sE b h.2 t.2 G).1, fun q => by simp [tst] at q⟩
    · cases h
  | .tup es, sc, x, X, h, t, G => by
    simp only [chkE] at h
    simp only [tin] at t
    split at h
    · exact both (s_tup (sEs es h t G)) trivial
    · cases h
  | .lst es, sc, x, X, h, t, G => by
    simp only [chkE] at h
    simp only [tin] at t
    split at h
    · exact both (s_lst (sEs es h t G)) trivial
    · cases h
  | .call f es, sc, x, X, h, t, G => by
    simp only [chkE] at h
    simp only [tin] at t
    split at h
    · rename_i n np xs pos
      simp only [Bool.and_eq_true] at h
      obtain ⟨⟨⟨⟨h1, h2⟩, h3⟩, h4⟩, h5⟩ := h
      have on := okN h3
      split at h1
      · rename_i m ps e
        simp only [decide_eq_true_eq] at h1
        obtain rfl := h1
        have F := G.fn f _ ps e
        have a := sEs es h4 t G
        have p : PE X (.Call (.Name n np) xs [] pos) (LE X c B W0 (.call f es)) := by
          cases xs with
          | nil =>
            have : es = .nil := by
              cases es with
              | nil => rfl
              | cons _ _ => simp [chkEs] at h4
              | star _ _ => simp [chkEs] at h4
            subst this
            exact s_call0 G.room (G.glo h2) F on.1
          | cons y r => exact s_call G.room (G.glo h2) F on.1 a h5
        exact ⟨p, fun _ => s_test p (isTrue_of _ trivial)⟩
      · cases h1
    · cases h
  | .callk f es ks kes perm, sc, x, X, h, t, G => by
    simp only [chkE] at h
    simp only [tin, Bool.and_eq_true] at t
    split at h
    · rename_i n np xs kwl pos
      simp only [Bool.and_eq_true, decide_eq_true_eq] at h
      obtain ⟨⟨⟨⟨⟨⟨⟨⟨h1, h2⟩, h3⟩, h4⟩, h5⟩, h6⟩, h7⟩, h8⟩, h9⟩ := h
      have on := okN h3
      split at h1
      · rename_i m ps e
        simp only [decide_eq_true_eq] at h1
        obtain rfl := h1
        split at h8
        · rename_i npos el
          simp only [decide_eq_true_eq] at h8
          have F := G.fn f _ ps e
          have p : PE X (.Call (.Name n np) xs kwl pos) (LE X c B W0 (.callk f es ks kes perm)) := s_callk G.room (G.glo h2) F on.1 (sEs es h4 t.1 G) h5 (sKs kes h6 t.2 G) h7 h8 el h9 (fun z => by
            subst z
            cases es with
            | nil => rfl
            | cons _ _ => simp [chkEs] at h4
            | star _ _ => simp [chkEs] at h4)
          exact ⟨p, fun _ => s_test p (isTrue_of _ trivial)⟩
        · cases h8
      · cases h1
    · cases h
  | .bi b es, sc, x, X, h, t, G => by
    simp only [chkE] at h
    simp only [tin] at t
    split at h
    · rename_i n np xs pos
      simp only [Bool.and_eq_true, decide_eq_true_eq] at h
      obtain ⟨⟨⟨⟨rfl, h2⟩, h3⟩, h4⟩, h5⟩ := h
      cases xs with
      | nil => simp at h5
      | cons y r =>
        have hm : X.mg (biName b) = none := G.bl _ (by cases b <;> decide +kernel)
        have p : PE X (.Call (.Name (biName b) np) (y :: r) [] pos) (LE X c B W0 (.bi b es)) := s_bi G.calm (G.glo h2) hm (sEs es h3 t G) (star_of _ h4) (plain_of _ _ _ (noStar_tail h4))
        exact ⟨p, fun _ => s_test p (isTrue_of _ trivial)⟩
    · cases h
  | .isi a ty, sc, x, X, h, t, G => by
    simp only [chkE] at h
    simp only [tin] at t
    split at h
    · rename_i n np y m mp pos
      simp only [Bool.and_eq_true, decide_eq_true_eq] at h
      obtain ⟨⟨⟨⟨⟨rfl, h2⟩, rfl⟩, h4⟩, h5⟩, h6⟩ := h
      have p : PE X (.Call (.Name "isinstance" np) [y, .Name (tyName ty) mp] [] pos) (LE X c B W0 (.isi a ty)) :=
        s_isi (G.glo h2) (G.bl _ (by decide +kernel)) (G.glo h4) (G.bl _ (by cases ty <;> decide +kernel)) (sE a h5 t G).1 (star1 _ h6)
      exact ⟨p, fun _ => s_test p (isTrue_of _ trivial)⟩
    · cases h
  | .isis a ts, sc, x, X, h, t, G => by
    simp only [chkE] at h
    simp only [tin] at t
    split at h
    · rename_i n np y es kt tp pos
      simp only [Bool.and_eq_true, decide_eq_true_eq] at h
      obtain ⟨⟨⟨⟨⟨⟨rfl, h2⟩, h3⟩, h4⟩, h5⟩, h6⟩, h7⟩ := h
      have tys : ∀ (ts : List Ty) (es : List Expr), chkTys sc ts es = true → PA X es (fun _ H Q => Q (ts.map fun t => V.ty (tyName t)) H) := by
        intro ts
        induction ts with
        | nil => intro es h; cases es with | nil => exact imp_a pa_nil fun σ H Q q => q | cons _ _ => simp [chkTys] at h
        | cons t ts ih =>
          intro es h
          cases es with
          | nil => simp [chkTys] at h
          | cons e es =>
            simp only [chkTys, Bool.and_eq_true] at h
            obtain ⟨h1, h2⟩ := h
            split at h1
            · simp only [Bool.and_eq_true, decide_eq_true_eq] at h1
              obtain ⟨rfl, h3⟩ := h1
              exact pa_tys (G.glo h3) (G.bl _ (by cases t <;> decide +kernel)) (ih es h2)
            · cases h1
      have p : PE X (.Call (.Name "isinstance" np) [y, .Tuple es kt tp] [] pos) (LE X c B W0 (.isis a ts)) :=
        s_isis (G.glo h2) (G.bl _ (by decide +kernel)) (tys ts es h3) (by intro z; subst z; simp at h4) (Nat.le_trans h5 (by decide)) (sE a h6 t G).1 (star1 _ h7)
      exact ⟨p, fun _ => s_test p (isTrue_of _ trivial)⟩
    · cases h
  | .ix a i, sc, x, X, h, t, G => by
    simp only [chkE] at h
    simp only [tin, Bool.and_eq_true] at t
    split at h
    · simp only [Bool.and_eq_true] at h
      exact both (s_ix (sE a h.1.2 t.1 G).1 (sE i h.2 t.2 G).1 (plainIx_of h.1.1)) trivial
    · cases h
  | .sl a lo hi, sc, x, X, h, t, G => by
    simp only [chkE] at h
    simp only [tin, Bool.and_eq_true] at t
    split at h
    · simp only [Bool.and_eq_true] at h
      exact both (s_sl (sE a h.1.1 t.1.1 G).1 (sPt lo h.1.2 t.1.2 G) (sPt hi h.2 t.2 G)) trivial
    · cases h
  | .lc own tg it cn e, sc, x, X, h, t, G => by
    simp only [chkE] at h
    simp only [tin, Bool.and_eq_true] at t
    split at h
    · rename_i elt tgx iter ifs as scope pos
      simp only [Bool.and_eq_true, decide_eq_true_eq] at h
      obtain ⟨⟨⟨⟨⟨⟨⟨rfl, h2⟩, h3⟩, h4⟩, h5⟩, h6⟩, h7⟩, h8⟩ := h
      have eo : (own.map fun i => (k.N.getD i "", i)).map (·.2) = own := own_snd (fun i => k.N.getD i "") own
      have hi := sIt it h5 t.1.1 G
      have hg : ∀ (s : Shared) (H : Hp) (C : Addr) (cl : List (Str × Addr)) (fp : List Addr), PG (X.blk s H scope (compEnvC scope cl C X.env) fp) tgx (gT X.K tg) := fun s H C cl fp => (G.blk (scope := scope) s H C cl fp).tg h3
      have ht : ∀ (s : Shared) (H : Hp) (C : Addr) (cl : List (Str × Addr)) (fp : List Addr), PTs (X.blk s H scope (compEnvC scope cl C X.env) fp) ifs (L X.K B Req W0 (tvCn c B cn)) := fun s H C cl fp => sCn cn h6 t.1.2 (G.blk (scope := scope) s H C cl fp)
      have he : ∀ (s : Shared) (H : Hp) (C : Addr) (cl : List (Str × Addr)) (fp : List Addr), PE (X.blk s H scope (compEnvC scope cl C X.env) fp) elt (LE X c B W0 e) := fun s H C cl fp => (sE e h7 t.2 (G.blk (scope := scope) s H C cl fp)).1
      have hs := nSet_of X.env h8
      have p : PE X (.ListComp elt [⟨tgx, iter, ifs, 0⟩] scope pos) (LE X c B W0 (.lc own tg it cn e)) := by
        refine imp_e (pe_lc (own := own.map fun i => (k.N.getD i "", i)) G.calm G.hN hi (G.blkOk h2) hg ht he hs) fun σ H Q q => ?_
        refine s_lc (own := own.map fun i => (k.N.getD i "", i)) G.calm G.hN hi (G.blkOk h2) hg ht he hs (fun i hi => ?_) (by rw [eo]; exact q)
        rw [eo]
        exact of_decide_eq_true (List.all_eq_true.mp h4 i hi)
      exact ⟨p, fun _ => s_test p (isTrue_of _ trivial)⟩
    · cases h
theorem sEs : ∀ (es : Exs) {sc : Scope} {xs : List Expr} {X : Cx}, chkEs k es sc xs = true → tins es = true → Good k c lvl sc X → PA X xs (LA X c B W0 es)
  | .nil, sc, xs, X, h, _, G => by
    simp only [chkEs] at h
    split at h
    · exact s_nil
    · cases h
  | .cons e es, sc, xs, X, h, t, G => by
    simp only [chkEs] at h
    simp only [tins, Bool.and_eq_true] at t
    split at h
    · simp only [Bool.and_eq_true] at h
      exact s_cons (sE e h.1.2 t.1 G).1 (sEs es h.2 t.2 G) (star1 _ h.1.1 _)
    · cases h
  | .star e es, sc, xs, X, h, t, G => by
    simp only [chkEs] at h
    simp only [tins, Bool.and_eq_true] at t
    split at h
    · simp only [Bool.and_eq_true] at h
      exact s_star (sE e h.1 t.1 G).1 (sEs es h.2 t.2 G)
    · cases h
theorem sKs : ∀ (es : Exs) {sc : Scope} {xs : List Keyword} {X : Cx}, chkKs k es sc xs = true → tins es = true → Good k c lvl sc X → PK X xs (LA X c B W0 es)
  | .nil, sc, xs, X, h, _, G => by
    simp only [chkKs] at h
    split at h
    · exact imp_k pk_nil fun σ H Q ⟨ρ, σ', h, m, s, ok⟩ => by rw [evs] at ok; exact ok ρ H _ .refl m .nil
    · cases h
  | .cons e es, sc, xs, X, h, t, G => by
    simp only [chkKs] at h
    simp only [tins, Bool.and_eq_true] at t
    split at h
    · simp only [Bool.and_eq_true] at h
      refine imp_k (pk_cons (sE e h.1 t.1 G).1 (sKs es h.2 t.2 G)) fun σ H Q ⟨ρ, σ', h, m, s, ok⟩ => ?_
      rw [evs] at ok
      obtain ⟨ρ, σ', h, m, s, ok⟩ := L.two (R' := Rw X.K) (R2 := Rws X.K) (mono_w _) ⟨ρ, σ', h, m, s, ok⟩
      exact ⟨ρ, σ', h, m, s, ok.mono fun x' H1 ⟨ρ1, σ1, h1, m1, s1, ok1⟩ => ⟨ρ1, σ1, h1, m1, s1, ok1.mono fun y' H2 ⟨ρ2, x, y, h2, m2, r1, r2, ok2⟩ => ok2 ρ2 H2 _ .refl m2 (.cons r1 r2)⟩⟩
    · cases h
  | .star e es, sc, xs, X, h, t, G => by simp [chkKs] at h
theorem sBA : ∀ (es : Exs) {sc : Scope} {xs : List Expr} {X : Cx} {pos : Pos}, chkB k es sc xs = true → tins es = true → Good k c lvl sc X →
    PE X (.BoolOp .And xs pos) (L X.K B (Rw X.K) W0 (evAnd c B es)) ∧ (tsts es = true → PW X (.BoolOp .And xs pos) (L X.K B Req W0 (fun s h => (evAnd c B es s h).bind (toB B))))
  | .nil, sc, xs, X, pos, h, _, G => by simp [chkB] at h
  | .star _ _, sc, xs, X, pos, h, _, G => by simp [chkB] at h
  | .cons e .nil, sc, xs, X, pos, h, t, G => by
    simp only [tins, Bool.and_eq_true] at t
    match xs, h with
    | [], h => simp [chkB] at h
    | [x], h =>
      simp only [chkB, Bool.and_true] at h
      have p := sE e h t.1 G
      exact ⟨and_one p.1, fun q => and_oneT (p.2 (by simp only [tsts, Bool.and_eq_true] at q; exact q.1))⟩
    | x :: y :: r, h => simp [chkB] at h
  | .cons e (.cons e2 es), sc, xs, X, pos, h, t, G => by
    simp only [tins, Bool.and_eq_true] at t
    match xs, h with
    | [], h => simp [chkB] at h
    | [x], h => simp [chkB] at h
    | x :: y :: r, h =>
      replace h : (chkE k e sc x && chkB k (.cons e2 es) sc (y :: r)) = true := h
      simp only [Bool.and_eq_true] at h
      have p := sE e h.1 t.1 G
      have q := sBA (.cons e2 es) (pos := pos) (sc := sc) (xs := y :: r) h.2 (by simp only [tins, Bool.and_eq_true]; exact t.2) G
      exact ⟨and_more (by simp) p.1 q.1, fun z => by simp only [tsts, Bool.and_eq_true] at z; exact and_moreT (by simp) (p.2 z.1) (q.2 (by simp only [tsts, Bool.and_eq_true]; exact z.2))⟩
  | .cons e (.star e2 es), sc, xs, X, pos, h, t, G => by
    match xs, h with
    | [], h => simp [chkB] at h
    | [x], h => simp [chkB] at h
    | x :: y :: r, h => simp [chkB] at h
theorem sBO : ∀ (es : Exs) {sc : Scope} {xs : List Expr} {X : Cx} {pos : Pos}, chkB k es sc xs = true → tins es = true → Good k c lvl sc X →
    PE X (.BoolOp .Or xs pos) (L X.K B (Rw X.K) W0 (evOr c B es)) ∧ (tsts es = true → PW X (.BoolOp .Or xs pos) (L X.K B Req W0 (fun s h => (evOr c B es s h).bind (toB B))))
  | .nil, sc, xs, X, pos, h, _, G => by simp [chkB] at h
  | .star _ _, sc, xs, X, pos, h, _, G => by simp [chkB] at h
  | .cons e .nil, sc, xs, X, pos, h, t, G => by
    simp only [tins, Bool.and_eq_true] at t
    match xs, h with
    | [], h => simp [chkB] at h
    | [x], h =>
      simp only [chkB, Bool.and_true] at h
      have p := sE e h t.1 G
      exact ⟨or_one p.1, fun q => or_oneT (p.2 (by simp only [tsts, Bool.and_eq_true] at q; exact q.1))⟩
    | x :: y :: r, h => simp [chkB] at h
  | .cons e (.cons e2 es), sc, xs, X, pos, h, t, G => by
    simp only [tins, Bool.and_eq_true] at t
    match xs, h with
    | [], h => simp [chkB] at h
    | [x], h => simp [chkB] at h
    | x :: y :: r, h =>
      replace h : (chkE k e sc x && chkB k (.cons e2 es) sc (y :: r)) = true := h
      simp only [Bool.and_eq_true] at h
      have p := sE e h.1 t.1 G
      have q := sBO (.cons e2 es) (pos := pos) (sc := sc) (xs := y :: r) h.2 (by simp only [tins, Bool.and_eq_true]; exact t.2) G
      exact ⟨or_more (by simp) p.1 q.1, fun z => by simp only [tsts, Bool.and_eq_true] at z; exact or_moreT (by simp) (p.2 z.1) (q.2 (by simp only [tsts, Bool.and_eq_true]; exact z.2))⟩
  | .cons e (.star e2 es), sc, xs, X, pos, h, t, G => by
    match xs, h with
    | [], h => simp [chkB] at h
    | [x], h => simp [chkB] at h
    | x :: y :: r, h => simp [chkB] at h
theorem sPt : ∀ (e : Pt) {sc : Scope} {x : Option Expr} {X : Cx}, chkPt k e sc x = true → tinP e = true → Good k c lvl sc X → PO X x (L X.K B Req W0 (evPt c B e))
  | .no, sc, x, X, h, _, G => by
    simp only [chkPt] at h
    split at h
    · exact s_no
    · cases h
  | .yes e, sc, x, X, h, t, G => by
    simp only [chkPt] at h
    simp only [tinP] at t
    split at h
    · exact s_yes (sE e h t G).1
    · cases h
theorem sCn : ∀ (e : Cn) {sc : Scope} {x : List Expr} {X : Cx}, chkCn k e sc x = true → tinC e = true → Good k c lvl sc X → PTs X x (L X.K B Req W0 (tvCn c B e))
  | .no, sc, x, X, h, _, G => by
    simp only [chkCn] at h
    split at h
    · exact ⟨fun pins s σ H Q I ⟨ρ, σ', h, m, s', ok⟩ => pts_nil.run pins s σ H Q I (by rw [tvCn] at ok; exact ok ρ H _ .refl m rfl)⟩
    · cases h
  | .yes e, sc, x, X, h, t, G => by
    simp only [chkCn] at h
    simp only [tinC, Bool.and_eq_true] at t
    split at h
    · exact pts_one (imp_t ((sE e h t.2 G).2 t.1) fun σ H Q q => q.cong fun s h => by rw [tvCn])
    · cases h
theorem sIt : ∀ (e : It) {sc : Scope} {x tg : Expr} {X : Cx}, chkIt k e sc x tg = true → tinI e = true → Good k c lvl sc X → PI X tg x (LI X c B W0 e)
  | .seq a, sc, x, tg, X, h, t, G => by
    simp only [chkIt] at h
    simp only [tinI] at t
    exact i_seq (sE a h t G).1
  | .range1 a, sc, x, tg, X, h, t, G => by
    simp only [chkIt] at h
    simp only [tinI] at t
    split at h
    · simp only [Bool.and_eq_true, decide_eq_true_eq] at h
      obtain ⟨⟨⟨rfl, h2⟩, h3⟩, h4⟩ := h
      exact i_range1 (G.glo h2) (G.bl _ (by decide +kernel)) (sE a h3 t G).1 (star1 _ h4 [])
    · cases h
  | .range2 a b, sc, x, tg, X, h, t, G => by
    simp only [chkIt] at h
    simp only [tinI, Bool.and_eq_true] at t
    split at h
    · simp only [Bool.and_eq_true, decide_eq_true_eq] at h
      obtain ⟨⟨⟨⟨rfl, h2⟩, h3⟩, h4⟩, h5⟩ := h
      have e1 := star_of X.env h5
      have e2 := star_of X.env (noStar_tail h5)
      exact i_range2 (G.glo h2) (G.bl _ (by decide +kernel)) (sE a h3 t.1 G).1 (sE b h4 t.2 G).1 (by rw [e1, e2]; rfl) (by rw [e2]; rfl)
    · cases h
  | .zip a b, sc, x, tg, X, h, t, G => by
    simp only [chkIt] at h
    simp only [tinI, Bool.and_eq_true] at t
    split at h
    · simp only [Bool.and_eq_true, decide_eq_true_eq] at h
      obtain ⟨⟨⟨⟨rfl, h2⟩, h3⟩, h4⟩, h5⟩ := h
      have e1 := star_of X.env h5
      have e2 := star_of X.env (noStar_tail h5)
      exact i_zip (G.glo h2) (G.bl _ (by decide +kernel)) (sE a h3 t.1 G).1 (sE b h4 t.2 G).1 e1 (by rw [e2]; rfl)
    · cases h
  | .enum a, sc, x, tg, X, h, t, G => by
    simp only [chkIt] at h
    simp only [tinI] at t
    split at h
    · simp only [Bool.and_eq_true, decide_eq_true_eq] at h
      obtain ⟨⟨⟨rfl, h2⟩, h3⟩, h4⟩ := h
      exact i_enum (G.glo h2) (G.bl _ (by decide +kernel)) (sE a h3 t G).1 (star1 _ h4 [])
    · cases h
end
end
end GB

end
section
set_option Elab.async false
set_option linter.all false
set_option maxRecDepth 100000
/-! GbS10: statements. -/
namespace GB
open PySem PySem.Spec PyProof.Rows L2

def nComp : Expr → Bool | .ListComp _ _ _ _ => false | .SetComp _ _ _ _ => false | .DictComp _ _ _ _ _ => false | _ => true
def nCall : Expr → Bool | .Call _ _ _ _ => false | _ => true
theorem sw_tuple (v : Expr) (es : List Expr) (k : Nat) (p : Pos) (l : Nat) (env : Env) : swapsWith v (some (.Tuple es k p)) l env = pure false := by cases v <;> rfl
theorem sw_sub (v a b : Expr) (p : Pos) (l : Nat) (env : Env) : swapsWith v (some (.Subscript a b p)) l env = pure false := by cases v <;> rfl
theorem sw_plain {v : Expr} (h : nComp v = true) (t : Option Expr) (l : Nat) (env : Env) : swapsWith v t l env = pure false := by cases v <;> first | rfl | (simp [nComp] at h)
theorem attr_base {o : Expr} (h : nCall o = true) (nm : Str) (env : Env) : attributeBase o nm env (eval o env) = eval o env := by cases o <;> first | rfl | (simp [nCall] at h)
theorem sws_none {v : Expr} (h : match v with | .Tuple _ _ _ => False | _ => True) (ts : List Expr) (k : Nat) (p : Pos) (env : Env) : swappedStores [.Tuple ts k p] v env = pure none := by
  cases v <;> first | rfl | exact h.elim
/-- the names that are stored from the right; none: as a tuple -/
def stB (x : Expr) : Bool := match x with | .Starred _ _ => true | _ => false
def nmB (sc : Scope) (line : Nat) (x : Expr) : Option Str := match x with
  | .Name id pos => if (sc.names.lookup id == some .local && pos.line == line) = true then some id else none
  | _ => none
def swN (sc : Scope) (ts vs : List Expr) : Option (Option (List Str)) :=
  if (!(ts.length == 2 || ts.length == 3) || vs.length != ts.length) = true then some none else
  if vs.any stB = true then some none else
  if ((ts.filterMap (nmB sc ((ts.head?.map (·.pos.line)).getD 0))).length != ts.length || (ts.filterMap (nmB sc ((ts.head?.map (·.pos.line)).getD 0))).eraseDups.length != (ts.filterMap (nmB sc ((ts.head?.map (·.pos.line)).getD 0))).length) = true then some none else
  if vs.all (foldedForSure 8) = true then some none else
  if vs.all (constantsAlone 8) = true then none else some (some (ts.filterMap (nmB sc ((ts.head?.map (·.pos.line)).getD 0))))
theorem swN_ok {env : Env} (hk : env.scope.kind = .function) {ts vs : List Expr} {k k2 : Nat} {p p2 : Pos} {r : Option (List Str)} (h : swN env.scope ts vs = some r) : swappedStores [.Tuple ts k p] (.Tuple vs k2 p2) env = pure r := by
  have hb : (env.blockKind != .function) = false := by unfold Env.blockKind; rw [hk]; rfl
  have e : swappedStores [.Tuple ts k p] (.Tuple vs k2 p2) env =
    if (!(ts.length == 2 || ts.length == 3) || vs.length != ts.length || env.blockKind != .function) = true then pure none else
    if vs.any stB = true then pure none else
    if ((ts.filterMap (nmB env.scope ((ts.head?.map (·.pos.line)).getD 0))).length != ts.length || (ts.filterMap (nmB env.scope ((ts.head?.map (·.pos.line)).getD 0))).eraseDups.length != (ts.filterMap (nmB env.scope ((ts.head?.map (·.pos.line)).getD 0))).length) = true then pure none else
    if vs.all (foldedForSure 8) = true then pure none else
    if vs.all (constantsAlone 8) = true then (unsupported "assign.tuple-of-constant-expressions:order-of-the-stores" >>= fun (_ : PUnit) => pure (some (ts.filterMap (nmB env.scope ((ts.head?.map (·.pos.line)).getD 0))))) else pure (some (ts.filterMap (nmB env.scope ((ts.head?.map (·.pos.line)).getD 0)))) := by
    rfl
  rw [e, hb, Bool.or_false]
  unfold swN at h
  split at h
  · rename_i c1; cases h; rw [if_pos c1]
  · rename_i c1
    rw [if_neg c1]
    split at h
    · rename_i c2; cases h; rw [if_pos c2]
    · rename_i c2
      rw [if_neg c2]
      split at h
      · rename_i c3; cases h; rw [if_pos c3]
      · rename_i c3
        rw [if_neg c3]
        split at h
        · rename_i c4; cases h; rw [if_pos c4]
        · rename_i c4
          rw [if_neg c4]
          split at h
          · cases h
          · rename_i c5; cases h; rw [if_neg c5]
theorem Res.fl_bind {α β : Type} (r : Res α) (k : α → Hh → Res β) (σ : Ev) (f : β → Hh → Fl) : (r.bind k).fl σ f = r.fl σ fun x h => (k x h).fl σ f := by cases r <;> rfl

section
variable {X : Cx} {c : Cf} {B : Hh} {pos : Pos} {a b d : Expr} {ea eb ed : Ex}
abbrev SS (X : Cx) (c : Cf) (B : Hh) (s : Sm) : TS := LS X.K B W0 (exc1 c B s)
abbrev SSs (X : Cx) (c : Cf) (B : Hh) (s : Sms) : TS := LS X.K B W0 (excs c B s)
theorem t_pass : PS X (.Pass pos) (SS X c B .pass) := imp_s ps_pass fun D σ H ⟨ρ, σ', h, m, s, ok⟩ => by rw [exc1] at ok; exact ok ρ H σ .refl m s
theorem t_brk : PS X (.Break pos) (SS X c B .brk) := imp_s ps_break fun D σ H ⟨ρ, σ', h, m, s, ok⟩ => by rw [exc1] at ok; exact ok ρ H σ .refl m s
theorem t_cnt : PS X (.Continue pos) (SS X c B .cnt) := imp_s ps_continue fun D σ H ⟨ρ, σ', h, m, s, ok⟩ => by rw [exc1] at ok; exact ok ρ H σ .refl m s
theorem t_retN : PS X (.Return none pos) (SS X c B .retN) := imp_s ps_retN fun D σ H ⟨ρ, σ', h, m, s, ok⟩ => by rw [exc1] at ok; exact ok ρ H _ .refl m .non
theorem t_ret (ha : PE X a (LE X c B W0 ea)) : PS X (.Return (some a) pos) (SS X c B (.ret ea)) := imp_s (ps_ret ha) fun D σ H ⟨ρ, σ', h, m, s, ok⟩ => by
  rw [exc1] at ok
  exact ⟨ρ, σ', h, m, s, (OkS.part s ok).mono fun v' H1 ⟨ρ1, v, h1, e1, m1, r, ok1⟩ => ok1 ρ1 H1 v' .refl m1 r⟩
theorem t_ex (ha : PE X a (LE X c B W0 ea)) (hn : nComp a = true) : PS X (.Expr a pos) (SS X c B (.ex ea)) := imp_s (ps_expr ha (sw_plain hn _ _ _)) fun D σ H ⟨ρ, σ', h, m, s, ok⟩ => by
  rw [exc1] at ok
  exact ⟨ρ, σ', h, m, s, (OkS.part (R' := Rw X.K) s ok).mono fun v' H1 ⟨ρ1, v, h1, e1, m1, r, ok1⟩ => ok1 ρ1 H1 σ .refl m1 (s.ext e1)⟩
theorem set_reading {i : Nat} {D : Ends} {σ : L2.St} {H : Hp} (q : SS X c B (.set i ea) D σ H) : tAsg (LE X c B W0 ea) (gName i) D σ H := by
  obtain ⟨ρ, σ', h, m, s, ok⟩ := q
  rw [exc1] at ok
  exact ⟨ρ, σ', h, m, s, (OkS.part (R' := Rw X.K) s ok).mono fun v' H1 ⟨ρ1, v, h1, e1, m1, r, ok1⟩ => ok1 ρ1 H1 _ .refl m1 ((s.ext e1).set i r)⟩
theorem t_set {i : Nat} {x : Str} {p : Pos} (nd : X.N.Nodup) (n : NmOk X i x) (ha : PE X a (LE X c B W0 ea)) (hs : swapsWith a (some (.Name x p)) pos.line X.env = pure false) : PS X (.Assign [.Name x p] a pos) (SS X c B (.set i ea)) :=
  imp_s (ps_set nd n.ix n.loc ha hs n.fn) fun D σ H q => set_reading q
theorem tset_reading {is : List Nat} {D : Ends} {σ : L2.St} {H : Hp} (q : SS X c B (.tset is ea) D σ H) : tAsg (LE X c B W0 ea) (gT X.K (.tp is)) D σ H := by
  obtain ⟨ρ, σ', h, m, s, ok⟩ := q
  rw [exc1] at ok
  refine ⟨ρ, σ', h, m, s, (OkS.part (R' := Rw X.K) s ok).mono fun v' H1 ⟨ρ1, v, h1, e1, m1, r, ok1⟩ => ?_⟩
  cases e : setTg (B ++ h1) (.tp is) v σ' with
  | none => rw [e] at ok1; exact False.elim ok1
  | some σ1 => rw [e] at ok1; exact gT_of m1 r (s.ext e1) e fun σ2 s2 _ => ok1 ρ1 H1 σ2 .refl m1 s2
theorem t_tset {is : List Nat} {ts : List Expr} {k : Nat} {p : Pos} (hc : X.calm = true) (nd : X.N.Nodup) (n : NmsOk X is ts) (ha : PE X a (LE X c B W0 ea)) (hw : swappedStores [.Tuple ts k p] a X.env = pure none) : PS X (.Assign [.Tuple ts k p] a pos) (SS X c B (.tset is ea)) :=
  imp_s (ps_asg ha (g_tp hc nd n) (sw_tuple a ts k p pos.line X.env) hw rfl) fun D σ H q => tset_reading q
/-- a, b, c = x, y, z with plain local names: stored from the right -/
def tPar3 (i j l : Nat) (ta : TA) : TS := fun D σ H => ta σ H fun vs H1 => ∃ v w z, vs = [v, w, z] ∧ D.nx (((σ.set i (some v)).set j (some w)).set l (some z)) H1
theorem ps_par3 {i j l : Nat} {x y z : Str} {ta : TA} {px py pz pt : Pos} {kt k2 pt2} (hc : X.calm = true) (hN : X.N.Nodup) (hi : X.N[i]? = some x) (hj : X.N[j]? = some y) (hl : X.N[l]? = some z) (hij : i ≠ j) (hil : i ≠ l) (hjl : j ≠ l)
    (hx : X.env.scope.names.lookup x = some .local) (hy : X.env.scope.names.lookup y = some .local) (hz : X.env.scope.names.lookup z = some .local) (ha : PA X [a, b, d] ta)
    (hw : swappedStores [.Tuple [.Name x px, .Name y py, .Name z pz] kt pt] (.Tuple [a, b, d] k2 pt2) X.env = pure (some [x, y, z])) :
    PS X (.Assign [.Tuple [.Name x px, .Name y py, .Name z pz] kt pt] (.Tuple [a, b, d] k2 pt2) pos) (tPar3 i j l ta) := by
  refine ⟨fun pins s σ H D I h => ?_⟩
  rw [exec_Assign_arm]
  refine wpAny_bind (wpAny_standAt ?_)
  rw [show swapsWithSole [.Tuple [.Name x px, .Name y py, .Name z pz] kt pt] (.Tuple [a, b, d] k2 pt2) pos.line X.env = pure false from rfl]
  refine wpAny_bind (wpAny_pure ?_)
  rw [if_neg (by decide)]
  refine wpAny_bind (Tuple_ (thn (ha.run _ pins s σ H _ I h) fun us s1 ⟨vs, H1, I1, r1, q1⟩ => ?_))
  obtain ⟨v, w, u, e1, q1⟩ := q1
  subst e1
  obtain ⟨u1, u2, u3, rfl, rv, rw', ru⟩ : ∃ u1 u2 u3, us = [u1, u2, u3] ∧ RelV v u1 ∧ RelV w u2 ∧ RelV u u3 := by
    cases r1 with
    | cons p q =>
      cases q with
      | cons p' q' =>
        cases q' with
        | cons p2 q2 =>
          cases q2
          exact ⟨_, _, _, rfl, p, p', p2⟩
  refine wpAny_newObj_type ?_ (by show 3 ≤ sizeLine; decide)
  have I2 : L2.Inv X pins σ H1 { s1 with heap := s1.heap.push { cls := .type "tuple", data := .seq [u1, u2, u3].toArray } } := I1.kept (t' := s1.toks) fun b o e => Heap.get?_push_of_some _ e
  rw [hw]
  refine wpAny_bind (wpAny_pure ?_)
  show wpAny (model X.prog X.w) X.A (do rule "assign.swapped-stores"; let items ← unpackItems (.ref s1.heap.objs.size) 3 none; assignInOrder [fun v => bindName X.env z v, fun v => bindName X.env y v, fun v => bindName X.env x v] items.reverse; pure Flow.next) _ _ _
  refine wpAny_bind (wpAny_rule (wpAny_bind (unpackItems_tuple (items := #[u1, u2, u3]) (I.ok.hd hc) (IsTup.new s1.heap _) fun h' hx' => ?_)))
  have I3 := I2.kept (h' := h') (t' := s1.toks) fun b o e => hx' b o (Nat.ne_of_lt (Heap.lt_size e)) e
  show wpAny _ _ (assignInOrder [fun v => bindName X.env z v, fun v => bindName X.env y v, fun v => bindName X.env x v] [u3, u2, u1] >>= fun _ => pure Flow.next) _ _ _
  refine wpAny_bind (assignInOrder_cons (wpAny_bindName (store_ok I3 hN hl (.inl hz) ru (fun s2 I4 => ?_) (.inr hz))))
  refine assignInOrder_cons (wpAny_bindName (store_ok I4 hN hj (.inl hy) rw' (fun s3 I5 => ?_) (.inr hy)))
  refine assignInOrder_cons (wpAny_bindName (store_ok I5 hN hi (.inl hx) rv (fun s4 I6 => assignInOrder_nil (wpAny_pure ?_)) (.inr hx)))
  rw [List.set_comm _ _ (Ne.symm hij), List.set_comm (some u) (some v) (Ne.symm hil)] at I6
  rw [List.set_comm (some u) (some w) (Ne.symm hjl)] at I6
  exact ⟨_, H1, I6, q1⟩
theorem par_reading {is : List Nat} {es : Exs} {D : Ends} {σ : L2.St} {H : Hp} (q : SS X c B (.tset is (.tup es)) D σ H) : LA X c B W0 es σ H fun vs H1 => vs.length = is.length ∧ D.nx (setS is vs σ) H1 := by
  obtain ⟨ρ, σ', h, m, s, ok⟩ := q
  rw [exc1, ev, Res.fl_bind] at ok
  refine ⟨ρ, σ', h, m, s, (OkS.part (R' := Rws X.K) s ok).mono fun v' H1 ⟨ρ1, xs, h1, e1, m1, r, ok1⟩ => ?_⟩
  split at ok1
  · simp only [Res.fl] at ok1
    cases e : setTg (B ++ h1) (.tp is) (.tup xs) σ' with
    | none => rw [e] at ok1; exact False.elim ok1
    | some σ1 =>
      rw [e] at ok1
      simp only [setTg, items] at e
      split at e
      · rename_i hl
        cases e
        exact ⟨by rw [← r.length]; exact hl, ok1 ρ1 H1 _ .refl m1 (Rs.setS is r (s.ext e1))⟩
      · cases e
  · exact False.elim ok1
theorem t_par2 {i j : Nat} {x y : Str} {es : Exs} {px py pt : Pos} {kt k2 pt2} (hc : X.calm = true) (hN : X.N.Nodup) (hi : X.N[i]? = some x) (hj : X.N[j]? = some y) (hij : i ≠ j)
    (hx : X.env.scope.names.lookup x = some .local) (hy : X.env.scope.names.lookup y = some .local) (ha : PA X [a, b] (LA X c B W0 es))
    (hw : swappedStores [.Tuple [.Name x px, .Name y py] kt pt] (.Tuple [a, b] k2 pt2) X.env = pure (some [x, y])) : PS X (.Assign [.Tuple [.Name x px, .Name y py] kt pt] (.Tuple [a, b] k2 pt2) pos) (SS X c B (.tset [i, j] (.tup es))) := by
  refine imp_s (ps_par hc hN hi hj hij hx hy ha hw rfl) fun D σ H q => ?_
  obtain ⟨ρ, σ', h, m, s, ok⟩ := par_reading q
  refine ⟨ρ, σ', h, m, s, ok.mono fun vs H1 ⟨h1, h2⟩ => ?_⟩
  match vs, h1, h2 with
  | [v, w], _, h2 => exact ⟨v, w, rfl, h2⟩
theorem t_par3 {i j l : Nat} {x y z : Str} {es : Exs} {px py pz pt : Pos} {kt k2 pt2} (hc : X.calm = true) (hN : X.N.Nodup) (hi : X.N[i]? = some x) (hj : X.N[j]? = some y) (hl : X.N[l]? = some z) (hij : i ≠ j) (hil : i ≠ l) (hjl : j ≠ l)
    (hx : X.env.scope.names.lookup x = some .local) (hy : X.env.scope.names.lookup y = some .local) (hz : X.env.scope.names.lookup z = some .local) (ha : PA X [a, b, d] (LA X c B W0 es))
    (hw : swappedStores [.Tuple [.Name x px, .Name y py, .Name z pz] kt pt] (.Tuple [a, b, d] k2 pt2) X.env = pure (some [x, y, z])) : PS X (.Assign [.Tuple [.Name x px, .Name y py, .Name z pz] kt pt] (.Tuple [a, b, d] k2 pt2) pos) (SS X c B (.tset [i, j, l] (.tup es))) := by
  refine imp_s (ps_par3 hc hN hi hj hl hij hil hjl hx hy hz ha hw) fun D σ H q => ?_
  obtain ⟨ρ, σ', h, m, s, ok⟩ := par_reading q
  refine ⟨ρ, σ', h, m, s, ok.mono fun vs H1 ⟨h1, h2⟩ => ?_⟩
  match vs, h1, h2 with
  | [v, w, u], _, h2 => exact ⟨v, w, u, rfl, h2⟩
theorem t_sub {p : Pos} (ha : PE X a (LE X c B W0 ea)) (hb : PE X b (LE X c B W0 eb)) (hd : PE X d (LE X c B W0 ed)) (hn : nSlice b = true) : PS X (.Assign [.Subscript a b p] d pos) (SS X c B (.sub ea eb ed)) := by
  have hA : ∀ v, assign (.Subscript a b p) X.env v = (do
      let ov ← holding [v] (eval a X.env)
      let iv ← holding [v, ov] (eval b X.env)
      standAt p
      holding [v, ov, iv] (setItem ov iv v)
      release [v, ov, iv] []) := by
    intro v
    cases b <;> first | rfl | (simp [nSlice] at hn)
  refine imp_s (ps_asg hd (pg_sub ha hb set_list hA) (sw_sub d a b p pos.line X.env) rfl rfl) fun D σ H ⟨ρ, σ', h, m, s, ok⟩ => ?_
  rw [exc1] at ok
  refine ⟨ρ, σ', h, m, s, (OkS.part (R' := Rw X.K) s ok).mono fun v' H1 ⟨ρ1, v, h1, e1, m1, rv, ok1⟩ => ?_⟩
  have s1 := s.ext e1
  refine ⟨ρ1, σ', h1, m1, s1, (OkS.part (R' := Rw X.K) s1 ok1).mono fun o' H2 ⟨ρ2, o, h2, e2, m2, ro, ok2⟩ => ?_⟩
  have s2 := s1.ext e2
  refine ⟨ρ2, σ', h2, m2, s2, (OkS.part (R' := Rw X.K) s2 ok2).mono fun i' H3 ⟨ρ3, i, h3, e3, m3, ri, ok3⟩ => ?_⟩
  have s3 := s2.ext e3
  cases o with
  | ref n =>
    cases i with
    | int k =>
      simp only at ok3
      cases ep : put B h3 n (fun xs => (ixN xs.length k).map fun j => xs.set j v) with
      | none => rw [ep] at ok3; exact False.elim ok3
      | some h4 =>
        rw [ep] at ok3
        obtain ⟨xs, ys, f1, f2, f3⟩ := m3.put' ep
        rw [Option.map_eq_some_iff] at f2
        obtain ⟨j, f4, rfl⟩ := f2
        cases ri
        have ro' := ro.ext e3
        cases ro' with
        | @ref _ p hp =>
          obtain ⟨vs, v1, v2⟩ := m3.ob _ _ p f1 hp
          obtain ⟨m4, x4⟩ := m3.put f1 hp (v2.set ((rv.ext e2).ext e3) j)
          exact ⟨p, vs, k, j, rfl, rfl, v1, by rw [← v2.length]; exact f4, ok3 ρ3 _ σ x4 (by rw [f3]; exact m4) (s3.ext x4)⟩
    | _ => exact False.elim ok3
  | _ => exact False.elim ok3
theorem t_app {p p2 : Pos} (ha : PE X a (LE X c B W0 ea)) (hb : PE X b (LE X c B W0 eb)) (hn : nCall a = true) (hs : noStar [b] = true) (hl : (p.endLine == p2.line) = true) : PS X (.Expr (.Call (.Attribute a "append" p) [b] [] p2) pos) (SS X c B (.app ea eb)) := by
  have e1 := star1 X.env hs []
  refine imp_s (ps_expr (pe_bm PySem.F.plainAttrs_list PySem.F.slot_list_append PySem.F.type_list_append mt_append ha (pa_cons hb pa_nil e1) (attr_base hn _ _) (by rw [e1]; rfl) hl e1 rfl) rfl) fun D σ H ⟨ρ, σ', h, m, s, ok⟩ => ?_
  rw [exc1] at ok
  refine ⟨ρ, σ', h, m, s, (OkS.part (R' := Rw X.K) s ok).mono fun x' H1 ⟨ρ1, x, h1, e1, m1, rx, ok1⟩ => ?_⟩
  have s1 := s.ext e1
  cases rx with
  | @ref n p hp =>
    simp only at ok1
    have hlt : n < (B ++ h1).length := by rw [← m1.len]; exact (List.getElem?_eq_some_iff.mp hp).1
    obtain ⟨p', vs, f1, f2, f3⟩ := m1.refItems (xs := ((B ++ h1)[n]).items) (.ref hp) (by show ((B ++ h1)[n]?).map Ob.items = _; rw [List.getElem?_eq_getElem hlt]; rfl)
    cases f1
    refine ⟨.inl ⟨rfl, vs, f2⟩, ρ1, σ', h1, m1, s1, (OkS.part (R' := Rw X.K) s1 ok1).mono fun y' H2 ⟨ρ2, y, h2, e2, m2, ry, ok2⟩ => ?_⟩
    cases ep : put B h2 n (fun xs => if xs.length < sizeLine then some (xs ++ [y]) else none) with
    | none => rw [ep] at ok2; exact False.elim ok2
    | some h4 =>
      rw [ep] at ok2
      obtain ⟨xs, ys, f1, f2, f3⟩ := m2.put' ep
      split at f2
      · rename_i hlt
        cases f2
        have hp2 := e2.pre _ _ hp
        obtain ⟨vs, v1, v2⟩ := m2.ob _ _ p f1 hp2
        obtain ⟨m4, x4⟩ := m2.put f1 hp2 (v2.append (Rws.one ry))
        exact ⟨p, vs, y', rfl, rfl, v1, by rw [← v2.length]; exact hlt, ok2 ρ2 _ σ x4 (by rw [f3]; exact m4) ((s1.ext e2).ext x4)⟩
      · cases f2
  | _ => exact False.elim ok1

/-! ### if, while, for, blocks -/
theorem t_ite {l r : List Stmt} {sa sb : Sms} (hd : PT X d (LT X c B W0 ed)) (ha : PSs X l (SSs X c B sa)) (hb : PSs X r (SSs X c B sb)) : PS X (.If d l r pos) (SS X c B (.ite ed sa sb)) := by
  refine imp_s (ps_if hd ha hb) fun D σ H ⟨ρ, σ', h, m, s, ok⟩ => ?_
  rw [exc1] at ok
  refine ⟨ρ, σ', h, m, s, (OkS.part (R' := Req) s ok).mono fun t H1 ⟨ρ1, t', h1, e1, m1, r, ok1⟩ => ?_⟩
  obtain rfl : t' = t := r
  cases t' with
  | true => exact iteT ⟨ρ1, σ', h1, m1, s.ext e1, ok1⟩
  | false => exact iteF ⟨ρ1, σ', h1, m1, s.ext e1, ok1⟩
theorem ss_nil : PSs X [] (SSs X c B .nil) := imp_ss pss_nil fun D σ H ⟨ρ, σ', h, m, s, ok⟩ => by rw [excs] at ok; exact ok ρ H σ .refl m s
theorem ss_cons {st : Stmt} {rest : List Stmt} {s1 : Sm} {ss : Sms} (h1 : PS X st (SS X c B s1)) (h2 : PSs X rest (SSs X c B ss)) : PSs X (st :: rest) (SSs X c B (.cons s1 ss)) := by
  refine imp_ss (pss_cons h1 h2) fun D σ H ⟨ρ, σ', h, m, s, ok⟩ => ⟨ρ, σ', h, m, s, ?_⟩
  rw [excs] at ok
  cases e : exc1 c B s1 σ' h with
  | nx σ1 h1 =>
    rw [e] at ok
    exact fun ρ1 H1 σ2 e1 m1 s2 => ⟨ρ1, σ1, h1, m1, s2, OkS.ext e1 ok⟩
  | _ => rw [e] at ok; exact ok
theorem t_whl {g : Ev → Nat} {l : List Stmt} {sb : Sms} (hp : PassesOwn (model X.prog X.w) X.A X.env X.xe) (hd : PT X d (LT X c B W0 ed)) (hb : PSs X l (SSs X c B sb)) : PS X (.While d l [] pos) (SS X c B (.whl g ed sb)) := by
  refine imp_s (ps_while hp hd hb) fun D σ H ⟨ρ, σ', h, m, s, ok⟩ => ?_
  rw [exc1] at ok
  refine ⟨fun n σ H => ∃ ρ σ' h, Mt X.K ρ (B ++ h) H ∧ Rs X.K ρ H σ' σ ∧ OkS X.K B ρ H W0 (whlTurns (fun σ h => (ev c B ed σ h).bind (toB B)) (excs c B sb) n σ' h) D, ⟨g σ', ρ, σ', h, m, s, ok⟩, ?_⟩
  rintro n σ H ⟨ρ, σ', h, m, s, ok⟩
  rw [whlTurns] at ok
  refine ⟨ρ, σ', h, m, s, (OkS.part (R' := Req) s ok).mono fun t H1 ⟨ρ1, t', h1, e1, m1, r, ok1⟩ => ?_⟩
  obtain rfl : t' = t := r
  have s1 := s.ext e1
  cases t' with
  | false => exact iteF (ok1 ρ1 H1 σ .refl m1 s1)
  | true =>
    refine iteT ?_
    cases n with
    | zero => exact False.elim ok1
    | succ n =>
      simp only [if_true] at ok1
      refine ⟨_, fun σ2 H2 hN => ⟨n, Nat.lt_succ_self _, hN⟩, ρ1, σ', h1, m1, s1, ?_⟩
      cases e : excs c B sb σ' h1 with
      | nx σ2 h2 => rw [e] at ok1; exact fun ρ2 H2 σ3 e2 m2 s3 => ⟨ρ2, σ2, h2, m2, s3, OkS.ext e2 ok1⟩
      | cnt σ2 h2 => rw [e] at ok1; exact fun ρ2 H2 σ3 e2 m2 s3 => ⟨ρ2, σ2, h2, m2, s3, OkS.ext e2 ok1⟩
      | brk σ2 h2 => rw [e] at ok1; exact ok1
      | ret v h2 => rw [e] at ok1; exact ok1
      | exc x σ2 h2 => rw [e] at ok1; exact ok1
      | bad => rw [e] at ok1; exact ok1
theorem t_for {t : Tg} {it : It} {tgx iter : Expr} {l : List Stmt} {sb : Sms} (hp : PassesOwn (model X.prog X.w) X.A X.env X.xe) (hc : X.calm = true) (hi : PI X tgx iter (LI X c B W0 it)) (hg : PG X tgx (gT X.K t)) (hb : PSs X l (SSs X c B sb)) (hs : ∀ x, foldedSetIterable iter X.env x = pure x) :
    PS X (.For tgx iter l [] pos) (SS X c B (.for_ t it sb)) := by
  refine imp_s (ps_for hp hc hi hg hb hs) fun D σ H ⟨ρ, σ', h, m, s, ok⟩ => ?_
  rw [exc1] at ok
  refine ⟨ρ, σ', h, m, s, (OkS.part (R' := WkJ X.K B) s ok).mono fun J H1 ⟨ρ1, w, h1, e1, m1, wj, ok1⟩ => ?_⟩
  refine ⟨fun i n σ H => ∃ ρ σ' h, Ext X.K ρ1 H1 ρ H ∧ Mt X.K ρ (B ++ h) H ∧ Rs X.K ρ H σ' σ ∧ OkS X.K B ρ H W0 (forTurns B w (fun x σ2 h2 => match setTg (B ++ h2) t x σ2 with
      | none => .bad
      | some σ3 => excs c B sb σ3 h2) n i σ' h) D, ⟨w.most (B ++ h1), ρ1, σ', h1, .refl, m1, s.ext e1, ok1⟩, ?_⟩
  rintro i n σ H ⟨ρ, σ', h, x0, m, s, ok⟩
  obtain ⟨st, go⟩ := wj ρ h H i x0 m
  rw [forTurns] at ok
  cases ea : w.at (B ++ h) i with
  | none => rw [ea] at ok; exact False.elim ok
  | some o =>
    rw [ea] at ok
    cases o with
    | none => exact .inl ⟨st ea, ok ρ H σ .refl m s⟩
    | some x =>
      obtain ⟨g1, g2⟩ := go x ea
      cases n with
      | zero => exact False.elim ok
      | succ n =>
        simp only at ok
        refine .inr ⟨g1, _, fun σ2 H2 hN => ⟨n, Nat.lt_succ_self _, hN⟩, fun x' H3 y3 => ?_⟩
        obtain ⟨x3, m4, r4⟩ := g2 x' H3 y3
        cases es : setTg (B ++ h) t x σ' with
        | none => rw [es] at ok; exact False.elim ok
        | some σ2 =>
          rw [es] at ok
          refine gT_of m4 r4 (s.ext x3) es fun σ3 s3 _ => ⟨ρ, σ2, h, m4, s3, ?_⟩
          simp only at ok
          have x4 := x0.trans x3
          cases e : excs c B sb σ2 h with
          | nx σ4 h4 => rw [e] at ok; exact fun ρ2 H2 σ5 e2 m2 s5 => ⟨ρ2, σ4, h4, x4.trans e2, m2, s5, OkS.ext (x3.trans e2) ok⟩
          | cnt σ4 h4 => rw [e] at ok; exact fun ρ2 H2 σ5 e2 m2 s5 => ⟨ρ2, σ4, h4, x4.trans e2, m2, s5, OkS.ext (x3.trans e2) ok⟩
          | brk σ4 h4 => rw [e] at ok; exact OkS.ext x3 ok
          | ret v h4 => rw [e] at ok; exact OkS.ext x3 ok
          | exc x2 σ4 h4 => rw [e] at ok; exact OkS.ext x3 ok
          | bad => rw [e] at ok; exact ok
theorem t_never {st : Stmt} : PS X st (SS X c B .never) := imp_s ps_never fun D σ H ⟨ρ, σ', h, m, s, ok⟩ => by rw [exc1] at ok; exact ok
end
end GB

end
section
set_option Elab.async false
set_option linter.all false
set_option maxRecDepth 100000
/-! GbS11: the look at statements; defs. -/
namespace GB
open PySem PySem.Spec PyProof.Rows L2

/-- name = comprehension: whether the store stands within it -/
def lcSw (sc : Scope) (x : Str) (p : Pos) (v : Expr) : Bool := match v with
  | .ListComp _ _ s q => (sc.names.lookup x == some .local) && (p.line == q.line) && !(s.names.any fun (n, k) => n == x && (k == .local || k == .cell))
  | _ => false
def isLc : Expr → Bool | .ListComp _ _ _ _ => true | _ => false
def isTupE : Expr → Bool | .Tuple _ _ _ => true | _ => false
def allLoc (sc : Scope) : List Expr → Bool
  | [] => true
  | e :: es => (match e with | .Name x _ => (sc.names.lookup x == some .local) | _ => false) && allLoc sc es
def nodupB : List Nat → Bool
  | [] => true
  | i :: is => !(is.contains i) && nodupB is
mutual
def chkS (k : Ck) (sc : Scope) : Sm → Stmt → Bool
  | .pass, s => match s with | .Pass _ => true | _ => false
  | .brk, s => match s with | .Break _ => true | _ => false
  | .cnt, s => match s with | .Continue _ => true | _ => false
  | .ex e, s => match s with | .Expr x _ => chkE k e sc x && tin e && nComp x | _ => false
  | .ret e, s => match s with | .Return (some x) _ => chkE k e sc x && tin e | _ => false
  | .retN, s => match s with | .Return none _ => true | _ => false
  | .set i e, s => match s with
    | .Assign [.Name n p] x _ => decide (k.N[i]? = some n) && locB sc n && chkE k e sc x && tin e && (nComp x || isLc x)
    | _ => false
  | .tset is e, s => match s with
    | .Assign [.Tuple ts _ _] x _ => chkNms k sc is ts && chkE k e sc x && tin e && (match x, e with
      | .Tuple vs _ _, .tup _ => (match swN sc ts vs with
        | some none => true
        | some (some _) => allLoc sc ts && nodupB is && (ts.length == 2 || ts.length == 3)
        | none => false)
      | .Tuple _ _ _, _ => false
      | _, _ => true)
    | _ => false
  | .sub a i e, s => match s with
    | .Assign [.Subscript y z _] x _ => chkE k a sc y && tin a && chkE k i sc z && tin i && chkE k e sc x && tin e && nSlice z
    | _ => false
  | .app a e, s => match s with
    | .Expr (.Call (.Attribute y n p) [z] [] p2) _ => decide (n = ("append" : Str)) && chkE k a sc y && tin a && chkE k e sc z && tin e && nCall y && noStar [z] && (p.endLine == p2.line)
    | _ => false
  | .ite t a b, s => match s with
    | .If x l r _ => chkE k t sc x && tin t && tst t && chkSs k sc a l && chkSs k sc b r
    | _ => false
  | .whl _ t b, s => match s with
    | .While x l [] _ => chkE k t sc x && tin t && tst t && chkSs k sc b l
    | _ => false
  | .for_ t it b, s => match s with
    | .For tg iter l [] _ => chkTg k sc t tg && chkIt k it sc iter tg && tinI it && nSet iter && chkSs k sc b l
    | _ => false
  | .never, _ => true
def chkSs (k : Ck) (sc : Scope) : Sms → List Stmt → Bool
  | .nil, s => match s with | [] => true | _ => false
  | .cons s ss, l => match l with | x :: r => chkS k sc s x && chkSs k sc ss r | _ => false
end
structure GoodS (k : Ck) (c : Cf) (lvl : Nat) (sc : Scope) (X : Cx) : Prop where
  g : Good k c lvl sc X
  eqs : X.env.scope = sc
  knd : sc.kind = .function
  po : PassesOwn (model X.prog X.w) X.A X.env X.xe
section
variable {k : Ck} {c : Cf} {lvl : Nat} {B : Hh} {sc : Scope} {X : Cx}
theorem GoodS.nms (G : GoodS k c lvl sc X) : ∀ (is : List Nat) (es : List Expr), chkNms k sc is es = true → NmsOk X is es
  | [], [], _ => .nil
  | [], _ :: _, h => by simp [chkNms] at h
  | _ :: _, [], h => by simp [chkNms] at h
  | i :: is, e :: es, h => by
    simp only [chkNms, Bool.and_eq_true] at h
    obtain ⟨h1, h2⟩ := h
    unfold chkNm at h1
    split at h1
    · simp only [Bool.and_eq_true, decide_eq_true_eq] at h1
      exact .cons (G.g.nm h1.1 h1.2) (G.nms is es h2)
    · cases h1
theorem lcSw_ok (G : GoodS k c lvl sc X) {x : Str} {p : Pos} {v : Expr} {l : Nat} (hv : isLc v = true) : swapsWith v (some (.Name x p)) l X.env = pure (lcSw sc x p v) := by
  cases v with
  | ListComp e gs s q =>
    have e : X.env.blockKind = .function := by unfold Env.blockKind; rw [G.eqs, G.knd]; rfl
    show (pure (X.env.blockKind == .function && X.env.kindOf x == some .local && p.line == q.line && !(s.names.any fun (n, k) => n == x && (k == .local || k == .cell))) : Sem Bool) = _
    rw [e]
    unfold lcSw Env.kindOf
    rw [G.eqs]
    rfl
  | _ => simp [isLc] at hv
theorem swN_names {sc : Scope} {ts vs : List Expr} {ns : List Str} (h : swN sc ts vs = some (some ns)) : ∃ line, ns = ts.filterMap (nmB sc line) ∧ ns.length = ts.length ∧ vs.length = ts.length := by
  unfold swN at h
  split at h
  · cases h
  · rename_i c1
    split at h
    · cases h
    · split at h
      · cases h
      · rename_i c3
        split at h
        · cases h
        · split at h
          · cases h
          · cases h
            refine ⟨_, rfl, ?_, ?_⟩
            · simp only [Bool.or_eq_true, bne_iff_ne, ne_eq, not_or, Decidable.not_not] at c3
              exact c3.1
            · simp only [Bool.or_eq_true, bne_iff_ne, ne_eq, not_or, Decidable.not_not] at c1
              exact c1.2
theorem nmB_name {sc : Scope} {line : Nat} {e : Expr} {n : Str} (h : nmB sc line e = some n) : ∃ p, e = .Name n p := by
  unfold nmB at h
  split at h
  · split at h
    · cases h; exact ⟨_, rfl⟩
    · cases h
  · cases h
theorem fm_full {sc : Scope} {line : Nat} : ∀ {ts : List Expr}, (ts.filterMap (nmB sc line)).length = ts.length → ∀ e ∈ ts, ∃ n, nmB sc line e = some n
  | [], _ => fun _ h => nomatch h
  | t :: ts, h => by
    have le : (ts.filterMap (nmB sc line)).length ≤ ts.length := List.length_filterMap_le ..
    rw [List.filterMap_cons] at h
    cases e : nmB sc line t with
    | none => rw [e] at h; simp only [List.length_cons] at h; omega
    | some n =>
      rw [e] at h
      simp only [List.length_cons, Nat.add_right_cancel_iff] at h
      intro x hx
      rcases List.mem_cons.mp hx with rfl | hx
      · exact ⟨n, e⟩
      · exact fm_full h x hx
mutual
theorem sS : ∀ (s : Sm) {x : Stmt}, chkS k sc s x = true → GoodS k c lvl sc X → PS X x (SS X c B s)
  | .pass, x, h, G => by
    simp only [chkS] at h
    split at h
    · exact t_pass
    · cases h
  | .brk, x, h, G => by
    simp only [chkS] at h
    split at h
    · exact t_brk
    · cases h
  | .cnt, x, h, G => by
    simp only [chkS] at h
    split at h
    · exact t_cnt
    · cases h
  | .ex e, x, h, G => by
    simp only [chkS] at h
    split at h
    · simp only [Bool.and_eq_true] at h
      exact t_ex (sE e h.1.1 h.1.2 G.g).1 h.2
    · cases h
  | .ret e, x, h, G => by
    simp only [chkS] at h
    split at h
    · simp only [Bool.and_eq_true] at h
      exact t_ret (sE e h.1 h.2 G.g).1
    · cases h
  | .retN, x, h, G => by
    simp only [chkS] at h
    split at h
    · exact t_retN
    · cases h
  | .set i e, x, h, G => by
    simp only [chkS] at h
    split at h
    · rename_i n p v pos
      simp only [Bool.and_eq_true, decide_eq_true_eq] at h
      obtain ⟨⟨⟨⟨h1, h2⟩, h3⟩, h4⟩, h5⟩ := h
      have nm := G.g.nm h1 h2
      have he := (sE (B := B) e h3 h4 G.g).1
      by_cases hn : nComp v = true
      · exact t_set G.g.hN nm he (sw_plain hn _ _ _)
      · have hv : isLc v = true := by
          rw [Bool.or_eq_true] at h5
          exact h5.resolve_left hn
        have sw := lcSw_ok G (x := n) (p := p) (l := pos.line) hv
        cases hb : lcSw sc n p v with
        | false => rw [hb] at sw; exact t_set G.g.hN nm he sw
        | true =>
          rw [hb] at sw
          cases v with
          | ListComp elt gens scope q =>
            have hloc : X.env.scope.names.lookup n = some .local := by
              rw [G.eqs]
              simp only [lcSw, Bool.and_eq_true] at hb
              exact beq_iff_eq.mp hb.1.1
            cases e with
            | lc own tg it cn el =>
              simp only [chkE] at h3
              simp only [tin, Bool.and_eq_true] at h4
              split at h3
              · rename_i q1 q2 q3 q4 q5 q6 q7 heq
                cases heq
                simp only [Bool.and_eq_true, decide_eq_true_eq] at h3
                obtain ⟨⟨⟨⟨⟨⟨⟨rfl, g2⟩, g3⟩, g4⟩, g5⟩, g6⟩, g7⟩, g8⟩ := h3
                have eo : (own.map fun i => (k.N.getD i "", i)).map (·.2) = own := own_snd (fun i => k.N.getD i "") own
                have hi := sIt (c := c) (lvl := lvl) (B := B) it g5 h4.1.1 G.g
                have hg : ∀ (s : Shared) (H : Hp) (C : Addr) (cl : List (Str × Addr)) (fp : List Addr), PG (X.blk s H scope (compEnvC scope cl C X.env) fp) q2 (gT X.K tg) := fun s H C cl fp => (G.g.blk (scope := scope) s H C cl fp).tg g3
                have ht : ∀ (s : Shared) (H : Hp) (C : Addr) (cl : List (Str × Addr)) (fp : List Addr), PTs (X.blk s H scope (compEnvC scope cl C X.env) fp) q4 (L X.K B Req W0 (tvCn c B cn)) := fun s H C cl fp => sCn cn g6 h4.1.2 (G.g.blk (scope := scope) s H C cl fp)
                have he' : ∀ (s : Shared) (H : Hp) (C : Addr) (cl : List (Str × Addr)) (fp : List Addr), PE (X.blk s H scope (compEnvC scope cl C X.env) fp) elt (LE X c B W0 el) := fun s H C cl fp => (sE el g7 h4.2 (G.g.blk (scope := scope) s H C cl fp)).1
                have hs := nSet_of X.env g8
                refine imp_s (ps_setLc (i := i) (own := own.map fun i => (k.N.getD i "", i)) G.g.calm G.g.hN nm.ix hloc sw hi (G.g.blkOk g2) hg ht he' hs) fun D σ H q => ?_
                have q' := set_reading q
                exact s_lc (own := own.map fun i => (k.N.getD i "", i)) G.g.calm G.g.hN hi (G.g.blkOk g2) hg ht he' hs (fun i hi => by
                  rw [eo]
                  exact of_decide_eq_true (List.all_eq_true.mp g4 i hi)) (by rw [eo]; exact q')
              · cases h3
            | _ => simp [chkE] at h3
          | _ => simp [isLc] at hv
    · cases h
  | .tset is e, x, h, G => by
    simp only [chkS] at h
    split at h
    · rename_i ts kt pt v pos
      simp only [Bool.and_eq_true] at h
      obtain ⟨⟨⟨h1, h2⟩, h3⟩, h4⟩ := h
      have nm := G.nms _ _ h1
      have he := (sE (B := B) e h2 h3 G.g).1
      cases v with
      | Tuple vs kv pv =>
        cases e with
        | tup es =>
          simp only at h4
          cases hw : swN sc ts vs with
          | none => rw [hw] at h4; cases h4
          | some r =>
            rw [hw] at h4
            have sw : ∀ k2 p2 k3 p3, swappedStores [.Tuple ts k2 p2] (.Tuple vs k3 p3) X.env = pure r := fun k2 p2 k3 p3 => swN_ok (by rw [G.eqs]; exact G.knd) (by rw [G.eqs]; exact hw)
            cases r with
            | none => exact t_tset G.g.calm G.g.hN nm he (sw _ _ _ _)
            | some ns =>
              simp only [Bool.and_eq_true] at h4
              obtain ⟨⟨l1, l2⟩, l3⟩ := h4
              obtain ⟨line, e1, e2, e3⟩ := swN_names hw
              have full := fm_full (by rw [← e1]; exact e2)
              simp only [chkE] at h2
              simp only [tin] at h3
              have ha := sEs (c := c) (lvl := lvl) (B := B) es h2 h3 G.g
              match is, ts, vs, nm, l1, l2, l3, e1, e2, e3, full, sw, ha with
              | [i, j], [t1, t2], [v1, v2], nm, l1, l2, l3, e1, e2, e3, full, sw, ha =>
                cases nm with
                | cons n1 nm =>
                  cases nm with
                  | cons n2 _ =>
                    rename_i x px y p2 nn
                    simp only [allLoc, Bool.and_eq_true, Bool.and_true, beq_iff_eq] at l1
                    have en : ns = [x, y] := by
                      obtain ⟨a1, b1⟩ := full (.Name x px) (by simp)
                      obtain ⟨a2, b2⟩ := full (.Name y p2) (by simp)
                      obtain ⟨_, z1⟩ := nmB_name b1
                      obtain ⟨_, z2⟩ := nmB_name b2
                      cases z1; cases z2
                      rw [e1]
                      simp [List.filterMap_cons, b1, b2]
                    rw [en] at sw
                    have hij : i ≠ j := by
                      simp [nodupB] at l2
                      exact l2
                    exact t_par2 G.g.calm G.g.hN n1.ix n2.ix hij (by rw [G.eqs]; exact l1.1) (by rw [G.eqs]; exact l1.2) ha (sw _ _ _ _)
              | [i, j, l], [t1, t2, t3], [v1, v2, v3], nm, l1, l2, l3, e1, e2, e3, full, sw, ha =>
                cases nm with
                | cons n1 nm =>
                  cases nm with
                  | cons n2 nm =>
                    cases nm with
                    | cons n3 _ =>
                      rename_i x px y p2 z p3 nn
                      simp only [allLoc, Bool.and_eq_true, Bool.and_true, beq_iff_eq] at l1
                      have en : ns = [x, y, z] := by
                        obtain ⟨a1, b1⟩ := full (.Name x px) (by simp)
                        obtain ⟨a2, b2⟩ := full (.Name y p2) (by simp)
                        obtain ⟨a3, b3⟩ := full (.Name z p3) (by simp)
                        obtain ⟨_, z1⟩ := nmB_name b1
                        obtain ⟨_, z2⟩ := nmB_name b2
                        obtain ⟨_, z3⟩ := nmB_name b3
                        cases z1; cases z2; cases z3
                        rw [e1]
                        simp [List.filterMap_cons, b1, b2, b3]
                      rw [en] at sw
                      simp [nodupB] at l2
                      exact t_par3 G.g.calm G.g.hN n1.ix n2.ix n3.ix l2.1.1 l2.1.2 l2.2 (by rw [G.eqs]; exact l1.1) (by rw [G.eqs]; exact l1.2.1) (by rw [G.eqs]; exact l1.2.2) ha (sw _ _ _ _)
              | [], ts, _, nm, l1, l2, l3, e1, e2, e3, full, sw, ha => cases nm; simp at l3
              | [_], _, _, nm, l1, l2, l3, e1, e2, e3, full, sw, ha => cases nm with | cons _ n => cases n; simp at l3
              | _ :: _ :: _ :: _ :: _, _, _, nm, l1, l2, l3, e1, e2, e3, full, sw, ha => cases nm with | cons _ n => cases n with | cons _ n => cases n with | cons _ n => cases n with | cons _ n => simp at l3
              | [_, _], [], _, nm, l1, l2, l3, e1, e2, e3, full, sw, ha => cases nm
              | [_, _], [_], _, nm, l1, l2, l3, e1, e2, e3, full, sw, ha => cases nm with | cons _ n => cases n
              | [_, _], _ :: _ :: _ :: _, _, nm, l1, l2, l3, e1, e2, e3, full, sw, ha => cases nm with | cons _ n => cases n with | cons _ n => cases n
              | [_, _], [_, _], [], nm, l1, l2, l3, e1, e2, e3, full, sw, ha => simp at e3
              | [_, _], [_, _], [_], nm, l1, l2, l3, e1, e2, e3, full, sw, ha => simp at e3
              | [_, _], [_, _], _ :: _ :: _ :: _, nm, l1, l2, l3, e1, e2, e3, full, sw, ha => simp at e3
              | [_, _, _], [], _, nm, l1, l2, l3, e1, e2, e3, full, sw, ha => cases nm
              | [_, _, _], [_], _, nm, l1, l2, l3, e1, e2, e3, full, sw, ha => cases nm with | cons _ n => cases n
              | [_, _, _], [_, _], _, nm, l1, l2, l3, e1, e2, e3, full, sw, ha => cases nm with | cons _ n => cases n with | cons _ n => cases n
              | [_, _, _], _ :: _ :: _ :: _ :: _, _, nm, l1, l2, l3, e1, e2, e3, full, sw, ha => cases nm with | cons _ n => cases n with | cons _ n => cases n with | cons _ n => cases n
              | [_, _, _], [_, _, _], [], nm, l1, l2, l3, e1, e2, e3, full, sw, ha => simp at e3
              | [_, _, _], [_, _, _], [_], nm, l1, l2, l3, e1, e2, e3, full, sw, ha => simp at e3
              | [_, _, _], [_, _, _], [_, _], nm, l1, l2, l3, e1, e2, e3, full, sw, ha => simp at e3
              | [_, _, _], [_, _, _], _ :: _ :: _ :: _ :: _, nm, l1, l2, l3, e1, e2, e3, full, sw, ha => simp at e3
        | _ => simp at h4
      | _ => exact t_tset G.g.calm G.g.hN nm he (sws_none trivial _ _ _ _)
    · cases h
  | .sub a i e, x, h, G => by
    simp only [chkS] at h
    split at h
    · simp only [Bool.and_eq_true] at h
      obtain ⟨⟨⟨⟨⟨⟨h1, h2⟩, h3⟩, h4⟩, h5⟩, h6⟩, h7⟩ := h
      exact t_sub (sE a h1 h2 G.g).1 (sE i h3 h4 G.g).1 (sE e h5 h6 G.g).1 h7
    · cases h
  | .app a e, x, h, G => by
    simp only [chkS] at h
    split at h
    · simp only [Bool.and_eq_true, decide_eq_true_eq] at h
      obtain ⟨⟨⟨⟨⟨⟨⟨rfl, h2⟩, h3⟩, h4⟩, h5⟩, h6⟩, h7⟩, h8⟩ := h
      exact t_app (sE a h2 h3 G.g).1 (sE e h4 h5 G.g).1 h6 h7 h8
    · cases h
  | .ite t a b, x, h, G => by
    simp only [chkS] at h
    split at h
    · simp only [Bool.and_eq_true] at h
      obtain ⟨⟨⟨⟨h1, h2⟩, h3⟩, h4⟩, h5⟩ := h
      exact t_ite ((sE t h1 h2 G.g).2 h3) (sSs a h4 G) (sSs b h5 G)
    · cases h
  | .whl g t b, x, h, G => by
    simp only [chkS] at h
    split at h
    · simp only [Bool.and_eq_true] at h
      obtain ⟨⟨⟨h1, h2⟩, h3⟩, h4⟩ := h
      exact t_whl G.po ((sE t h1 h2 G.g).2 h3) (sSs b h4 G)
    · cases h
  | .for_ t it b, x, h, G => by
    simp only [chkS] at h
    split at h
    · simp only [Bool.and_eq_true] at h
      obtain ⟨⟨⟨⟨h1, h2⟩, h3⟩, h4⟩, h5⟩ := h
      exact t_for G.po G.g.calm (sIt it h2 h3 G.g) (G.g.tg h1) (sSs b h5 G) (nSet_of _ h4)
    · cases h
  | .never, x, h, G => t_never
theorem sSs : ∀ (s : Sms) {x : List Stmt}, chkSs k sc s x = true → GoodS k c lvl sc X → PSs X x (SSs X c B s)
  | .nil, x, h, G => by
    simp only [chkSs] at h
    split at h
    · exact ss_nil
    · cases h
  | .cons s ss, x, h, G => by
    simp only [chkSs] at h
    split at h
    · simp only [Bool.and_eq_true] at h
      exact ss_cons (sS s h.1 G) (sSs ss h.2 G)
    · cases h
end
end
end GB

end
section
set_option Elab.async false
set_option linter.all false
set_option maxRecDepth 100000
/-! GbS12: defs keep what the evaluator tells; the law's end. -/
namespace GB
open PySem PySem.Spec PyProof.Rows L2

/-- a def of the text and its form for the evaluator -/
structure DefI where
  nm : Str
  ps : List Str
  N : List Str
  fn : Fn
  st : Stmt
def scopeB (N P : List Str) (sc : Scope) : Bool :=
  (match sc.kind with | .function => true | _ => false) && !sc.isCoroutine && !sc.isGenerator && decide N.Nodup && decide (N.take P.length = P) && (P.all fun x => locB sc x) && (sc.names.all fun y => match y.2 with | .free => false | _ => true)
theorem scopeB_ok {N P : List Str} {sc : Scope} (h : scopeB N P sc = true) : FnScope N P sc ∧ sc.kind = .function := by
  unfold scopeB at h
  simp only [Bool.and_eq_true, Bool.not_eq_true', decide_eq_true_eq, List.all_eq_true] at h
  obtain ⟨⟨⟨⟨⟨⟨h1, h2⟩, h3⟩, h4⟩, h5⟩, h6⟩, h7⟩ := h
  have hk : sc.kind = .function := by
    split at h1
    · assumption
    · cases h1
  refine ⟨⟨hk, h2, h3, h4, h5, fun x hx => ?_, fun y hy z => ?_⟩, hk⟩
  · have := h6 x hx
    unfold locB at this
    split at this
    · exact .inl (by assumption)
    · exact .inr (by assumption)
    · cases this
  · have := h7 y hy
    rw [z] at this
    cases this
/-- the whole look -/
def ckOf (ds : List DefI) (consts : List Str) (kws : List (Nat × Nat × List Str × List Nat)) (d : DefI) : Ck := ⟨d.N, ds.map fun d => (d.nm, d.ps), consts, kws⟩
def chkD (ds : List DefI) (consts : List Str) (kws : List (Nat × Nat × List Str × List Nat)) (d : DefI) : Bool :=
  scopeB d.N d.ps (defScope d.st) && chkSs (ckOf ds consts kws d) (defScope d.st) d.fn.body (defBody d.st) && decide (d.fn.np = d.ps.length) && decide (d.fn.nn = d.N.length)
def chkAll (ds : List DefI) (consts : List Str) (kws : List (Nat × Nat × List Str × List Nat)) : Bool := ds.all (chkD ds consts kws)

mutual
theorem Rw.back {K : PySem.W.Frag} {ρ ρ' : List Addr} {H H' : Hp} (e : ∀ (n : Nat) (a : Addr), ρ[n]? = some a → ρ'[n]? = some a) : ∀ {x : Vl} {v v' : V}, Rw K ρ H x v → Rw K ρ' H' x v' → Rw K ρ H' x v'
  | _, _, _, .non, .non => .non
  | _, _, _, .bl b, .bl _ => .bl b
  | _, _, _, .int i, .int _ => .int i
  | _, _, _, .str x, .str _ => .str x
  | _, _, _, .tup _ r, .tup s' r' => .tup s' (Rws.back e r r')
  | _, _, _, .ref h, .ref h' => by
    have := (e _ _ h).symm.trans h'
    cases this
    exact .ref h
theorem Rws.back {K : PySem.W.Frag} {ρ ρ' : List Addr} {H H' : Hp} (e : ∀ (n : Nat) (a : Addr), ρ[n]? = some a → ρ'[n]? = some a) : ∀ {xs : List Vl} {vs vs' : List V}, Rws K ρ H xs vs → Rws K ρ' H' xs vs' → Rws K ρ H' xs vs'
  | _, _, _, .nil, .nil => .nil
  | _, _, _, .cons r rs, .cons r' rs' => .cons (Rw.back e r r') (Rws.back e rs rs')
end
theorem Mt.back {K : PySem.W.Frag} {ρ ρ' : List Addr} {H H' : Hp} {g h' : Hh} (m : Mt K ρ g H) (x : Ext K ρ H ρ' H') (m' : Mt K ρ' (g ++ h') H') : Mt K ρ g H' := by
  refine m'.less m.len x.pre fun n o a e1 e2 => ?_
  have o1 := m.ob n o a e1 e2
  have o2 := m'.ob n o a (by rw [List.getElem?_append_left (List.getElem?_eq_some_iff.mp e1).1]; exact e1) (x.pre _ _ e2)
  cases o with
  | lst xs =>
    obtain ⟨vs, h1, h2⟩ := o1
    obtain ⟨ws, h3, h4⟩ := o2
    exact ⟨ws, h3, Rws.back x.pre h2 h4⟩
  | fz xs =>
    obtain ⟨vs, h1, h2⟩ := o1
    obtain ⟨ws, h3, h4⟩ := o2
    exact ⟨ws, h3, Rws.back x.pre h2 h4⟩
theorem Ext.back {K : PySem.W.Frag} {ρ ρ' : List Addr} {H H' : Hp} (x : Ext K ρ H ρ' H') : Ext K ρ H ρ H' := ⟨fun _ _ h => h, x.tup⟩
theorem Rs.start {K : PySem.W.Frag} {ρ : List Addr} {H : Hp} {fn : Fn} {xs : List Vl} {vs : List V} {N : List Str} (r : Rws K ρ H xs vs) (hn : fn.nn = N.length) : Rs K ρ H (startE fn xs) (L2.start N vs) := by
  have hl := r.length
  refine ⟨by unfold startE L2.start; simp [hl, hn], fun i x e => ?_⟩
  unfold startE at e
  have hi : i < xs.length := by
    refine Decidable.byContradiction fun hc => ?_
    rw [List.getElem?_append_right (by simpa using hc)] at e
    rw [List.getElem?_replicate] at e
    split at e <;> cases e
  rw [List.getElem?_append_left (by simpa using hi), List.getElem?_map] at e
  rw [Option.map_eq_some_iff] at e
  obtain ⟨y, e1, e2⟩ := e
  cases e2
  obtain ⟨v, h1, h2⟩ := r.get e1
  refine ⟨v, ?_, h2⟩
  unfold L2.start
  rw [List.getElem?_append_left (by rw [List.length_map, ← hl]; exact hi), List.getElem?_map, h1]
  rfl

section
variable {P : Program} {w : World} {K : PySem.W.Frag} {mg : Str → Option Value} {base : Heap} {ds : List DefI} {consts : List Str} {kws : List (Nat × Nat × List Str × List Nat)} {gl : List Vl}
/-- what the top has left of a def -/
structure DefAt (K : PySem.W.Frag) (mg : Str → Option Value) (kws : List (Nat × Nat × List Str × List Nat)) (f : Nat) (d : DefI) : Prop where
  ex : ∃ fa fd, mg d.nm = some (.ref fa) ∧ Fun K d.nm d.nm d.st fa fd ∧ Binds K fd d.ps [] ∧ ∀ np ks perm, (f, np, ks, perm) ∈ kws → KBinds K fd d.ps ks (gK Value np ks.length perm) (gK V np ks.length perm)
structure TopOk (K : PySem.W.Frag) (mg : Str → Option Value) (ds : List DefI) (consts : List Str) (kws : List (Nat × Nat × List Str × List Nat)) (gl : List Vl) : Prop where
  defs : ∀ (f : Nat) d, ds[f]? = some d → DefAt K mg kws f d
  bl : ∀ n ∈ bltNames, mg n = none
  gl : ∀ (j : Nat) n, consts[j]? = some n → ∀ v, gl[j]? = some v → ∃ i t, v = .int i ∧ mg n = some (.int i t)

theorem callF_len {T : List Fn} {lvl f : Nat} {xs : List Vl} {B h : Hh} {fn : Fn} (hf : T[f]? = some fn) (h0 : callF T gl lvl f xs B h ≠ .bad) : xs.length = fn.np := by
  cases lvl with
  | zero => exact absurd rfl h0
  | succ lvl =>
    rw [callF, hf] at h0
    simp only at h0
    split at h0
    · exact absurd rfl h0
    · rename_i hc; exact Decidable.not_not.mp hc

theorem fn_step (top : TopOk K mg ds consts kws gl) (ck : chkAll ds consts kws = true) {lvl f : Nat} {d : DefI} (e : ds[f]? = some d) (ih : ∀ (f : Nat) (d : DefI), ds[f]? = some d → FnAt P w K mg base lvl (callF (ds.map (·.fn)) gl lvl) kws f d.nm d.ps)
    {fa : Addr} {fd : FuncData} (F : Fun K d.nm d.nm d.st fa fd) : FnOk P w K mg base CX0 (lvl + 1) fa fd d.ps (spC K (callF (ds.map (·.fn)) gl (lvl + 1)) f) := by
    have hd : chkD ds consts kws d = true := List.all_eq_true.mp ck d (List.mem_of_getElem? e)
    unfold chkD at hd
    simp only [Bool.and_eq_true, decide_eq_true_eq] at hd
    obtain ⟨⟨⟨c1, c2⟩, c3⟩, c4⟩ := hd
    obtain ⟨S, hk⟩ := scopeB_ok c1
    have hT : (ds.map (·.fn))[f]? = some d.fn := by rw [List.getElem?_map, e]; rfl
    refine F.ok S (fun vs H Q E h => ?_) (fun cdv A outer s H vs Q E hr h => ?_)
    · obtain ⟨B, hh, ρ, xs, m, r, ok⟩ := h
      rw [← r.length, ← c3]
      exact callF_len hT fun z => by rw [z] at ok; exact ok
    · obtain ⟨B, hh, ρ, xs, m, r, ok⟩ := h
      have hlen := callF_len (gl := gl) (lvl := lvl + 1) (B := B) (h := hh) hT (fun z => by rw [z] at ok; exact ok)
      rw [callF, hT] at ok
      simp only [hlen, ne_eq, not_true_eq_false, if_false] at ok
      have G : GoodS (ckOf ds consts kws d) ⟨callF (ds.map (·.fn)) gl lvl, gl⟩ lvl (defScope d.st) (cxOf CX0 P w K mg base d.N d.nm (defScope d.st) fa cdv A outer s H E).nox :=
        ⟨⟨.refl _, fun _ _ => rfl, rfl, S.nd, rfl, hr, top.bl, fun f n ps e => by
          simp only [ckOf, List.getElem?_map, Option.map_eq_some_iff] at e
          obtain ⟨d', e1, e2⟩ := e
          cases e2
          exact ih f d' e1, top.gl⟩, rfl, hk, PassesOwn.never⟩
      have s0 := Rs.start (fn := d.fn) (N := d.N) r c4
      by_cases hp : d.fn.pure = true
      · refine ⟨_, sSs (B := B ++ hh) d.fn.body c2 G, ρ, startE d.fn xs, [], by rw [List.append_nil]; exact m, s0, ?_⟩
        rw [if_pos hp] at ok
        cases er : excs ⟨callF (ds.map (·.fn)) gl lvl, gl⟩ (B ++ hh) d.fn.body (startE d.fn xs) [] with
        | bad => rw [er] at ok; exact False.elim ok
        | brk σ1 h1 => rw [er] at ok; exact False.elim ok
        | cnt σ1 h1 => rw [er] at ok; exact False.elim ok
        | exc x σ1 h1 =>
          rw [er] at ok
          intro ρ1 H1 σ2 x1 m1 s1
          simp only at ok
          split at ok
          · exact ok ρ H1 x1.back (m.back x1 m1)
          · exact False.elim ok
        | nx σ1 h1 =>
          rw [er] at ok
          intro ρ1 H1 σ2 x1 m1 s1
          exact ok ρ H1 .non x1.back (m.back x1 m1) .non
        | ret v h1 =>
          rw [er] at ok
          intro ρ1 H1 v' x1 m1 rv
          simp only [outP] at ok
          have mb := m.back x1 m1
          split at ok
          · rename_i pl
            exact ok ρ H1 v' x1.back mb (rv.plain pl)
          · cases v with
            | ref n =>
              simp only at ok
              split at ok
              · rename_i hn
                cases rv with
                | @ref _ a ha =>
                  have hn' : n < ρ.length := by rw [m.len]; exact hn
                  have e2 : ρ1[n]? = some ρ[n] := x1.pre n _ (List.getElem?_eq_getElem hn')
                  have : ρ[n] = a := Option.some.inj (e2.symm.trans ha)
                  exact ok ρ H1 _ x1.back mb (.ref (by rw [List.getElem?_eq_getElem hn', this]))
              · rename_i hn
                split at ok
                · rename_i ys el
                  split at ok
                  · rename_i pl
                    cases rv with
                    | @ref _ a ha =>
                      have eg : ((B ++ hh) ++ h1)[n]? = some (.lst ys) := by rw [List.getElem?_append_right (Nat.le_of_not_lt hn)]; exact el
                      obtain ⟨ws, w1, w2⟩ := m1.ob n _ a eg ha
                      have w3 : Rws K (ρ ++ [a]) H1 ys ws := w2.plain pl
                      have x2 : Ext K ρ H (ρ ++ [a]) H1 := x1.back.trans (Ext.more [a])
                      have at_ : ∀ (n : Nat) (b : Addr), (ρ ++ [a])[n]? = some b → ρ[n]? = some b ∨ (n = (B ++ hh).length ∧ b = a) := fun n b h => by
                        by_cases hn : n < ρ.length
                        · rw [List.getElem?_append_left hn] at h; exact .inl h
                        · rw [List.getElem?_append_right (by omega)] at h
                          have hl : n - ρ.length < 1 := (List.getElem?_eq_some_iff.mp h).1
                          have : n = ρ.length := by omega
                          subst this
                          simp at h
                          exact .inr ⟨m.len, h.symm⟩
                      have old : ∀ (n : Nat) (b : Addr), ρ[n]? = some b → n < (B ++ hh).length := fun n b h => by rw [← m.len]; exact (List.getElem?_eq_some_iff.mp h).1
                      have gat : ∀ (n : Nat) (o : Ob), ((B ++ hh) ++ [Ob.lst ys])[n]? = some o → n < (B ++ hh).length → (B ++ hh)[n]? = some o := fun n o h hn => by rw [List.getElem?_append_left hn] at h; exact h
                      have up : ∀ (n : Nat) (o : Ob), (B ++ hh)[n]? = some o → ((B ++ hh) ++ h1)[n]? = some o := fun n o h => by rw [List.getElem?_append_left (List.getElem?_eq_some_iff.mp h).1]; exact h
                      have m3 : Mt K (ρ ++ [a]) ((B ++ hh) ++ [.lst ys]) H1 := by
                        refine ⟨by rw [List.length_append, List.length_append, m.len]; rfl, fun i j b us zs e1 e2 e3 e4 => ?_, fun i o b e1 e2 => ?_⟩
                        · rcases at_ i b e1 with f1 | ⟨f1, f1'⟩
                          · rcases at_ j b e2 with f2 | ⟨f2, f2'⟩
                            · exact mb.inj i j b us zs f1 f2 (gat _ _ e3 (old _ _ f1)) (gat _ _ e4 (old _ _ f2))
                            · subst f2'
                              have := m1.inj i n b us ys (x1.pre _ _ f1) ha (up _ _ (gat _ _ e3 (old _ _ f1))) eg
                              have := old _ _ f1
                              omega
                          · rcases at_ j b e2 with f2 | ⟨f2, f2'⟩
                            · subst f1'
                              have := m1.inj j n b zs ys (x1.pre _ _ f2) ha (up _ _ (gat _ _ e4 (old _ _ f2))) eg
                              have := old _ _ f2
                              omega
                            · omega
                        · rcases at_ i b e2 with f | ⟨f, f'⟩
                          · exact (mb.ob i o b (gat _ _ e1 (old _ _ f)) f).ext (Ext.more [a])
                          · subst f f'
                            simp at e1
                            subst e1
                            exact ⟨ws, w1, w3⟩
                      exact ok (ρ ++ [a]) H1 (.ref a) x2 (by rw [← List.append_assoc]; exact m3) (.ref (by rw [← m.len]; simp))
                  · exact False.elim ok
                · exact False.elim ok
            | _ => exact False.elim ok
      · refine ⟨_, sSs (B := B) d.fn.body c2 G, ρ, startE d.fn xs, hh, m, s0, ?_⟩
        rw [if_neg hp] at ok
        cases er : excs ⟨callF (ds.map (·.fn)) gl lvl, gl⟩ B d.fn.body (startE d.fn xs) hh with
        | bad => rw [er] at ok; exact False.elim ok
        | brk σ1 h1 => rw [er] at ok; exact False.elim ok
        | cnt σ1 h1 => rw [er] at ok; exact False.elim ok
        | exc x σ1 h1 => rw [er] at ok; exact fun ρ1 H1 σ2 x1 m1 s1 => ok ρ1 H1 x1 m1
        | nx σ1 h1 => rw [er] at ok; exact fun ρ1 H1 σ2 x1 m1 s1 => ok ρ1 H1 .non x1 m1 .non
        | ret v h1 => rw [er] at ok; exact ok

theorem all_fn (top : TopOk K mg ds consts kws gl) (ck : chkAll ds consts kws = true) : ∀ (lvl f : Nat) (d : DefI), ds[f]? = some d → FnAt P w K mg base lvl (callF (ds.map (·.fn)) gl lvl) kws f d.nm d.ps
  | 0, f, d, e => by
    obtain ⟨fa, fd, h1, h2, h3, h4⟩ := (top.defs f d e).ex
    refine ⟨fa, fd, h1, h2.kp, h3, ⟨fun vs H Q E h => ?_, fun A outer s H args us vs Q E hr e0 bt rv h => ?_⟩, h4⟩
    · obtain ⟨_, _, _, _, _, _, ok⟩ := h; exact False.elim ok
    · obtain ⟨_, _, _, _, _, _, ok⟩ := h; exact False.elim ok
  | lvl + 1, f, d, e => by
    obtain ⟨fa, fd, h1, F, h3, h4⟩ := (top.defs f d e).ex
    exact ⟨fa, fd, h1, F.kp, h3, fn_step top ck e (fun f d e => all_fn top ck lvl f d e) F, h4⟩

theorem gK_rel {np nk : Nat} {perm : List Nat} {vs : List V} {us : List Value} {zs : List V} {ws : List Value} (h1 : Vals vs us) (h2 : Vals zs ws) : Vals (gK V np nk perm vs zs) (gK Value np nk perm us ws) := by
  unfold gK
  rw [h1.length, h2.length]
  split
  · have h := h1.append h2
    induction perm with
    | nil => exact .nil
    | cons i is ih =>
      rw [List.filterMap_cons, List.filterMap_cons]
      cases e : (vs ++ zs)[i]? with
      | none => rw [h.none_of e]; exact ih
      | some x =>
        obtain ⟨u, e2, r⟩ := h.get e
        rw [e2]
        exact .cons r ih
  · exact .nil
/-- the law's own promise at its end -/
theorem law_sp {H : Hp} {a : Addr} {ns : List Int} {C : Nat → List Vl → Hh → Hh → Res Vl} {f : Nat} {h' : Hh} (ho : Only H) (hs : SqL K H a (ns.map V.int)) (e : C f [.ref 0] [] [.fz (ns.map Vl.int)] = .ok (.bl true) h') :
    spC K C f [.ref a] H (fun v _ => v = .bl true) (fun _ _ _ => False) := by
  have hz : FzL K H a (ns.map V.int) := by
    rcases hs with (hs | ⟨o, hs⟩) | hs
    · rcases ho a with q | ⟨o, xs, q⟩
      · rw [q] at hs; cases hs
      · rw [q] at hs; cases hs
    · exact .inl ⟨o, hs⟩
    · exact .inr hs
  have ri : ∀ l : List Int, Rws K [a] H (l.map Vl.int) (l.map V.int) := fun l => by
    induction l with
    | nil => exact .nil
    | cons i l ih => exact .cons (.int i) ih
  refine ⟨[], [.fz (ns.map Vl.int)], [a], [.ref 0], ⟨rfl, fun n m b xs ys e1 e2 e3 e4 => ?_, fun n o b e1 e2 => ?_⟩, .cons (.ref rfl) .nil, ?_⟩
  · match n, e3 with
    | 0, e3 => simp at e3
    | n + 1, e3 => simp at e3
  · match n, e1, e2 with
    | 0, e1, e2 =>
      simp at e1 e2
      subst e1 e2
      exact ⟨_, hz, ri ns⟩
    | n + 1, e1, e2 => simp at e1
  · rw [e]
    intro ρ' H' v' x m r
    cases r
    rfl
end
end GB

end
section
set_option Elab.async false
set_option linter.all false
set_option maxRecDepth 100000
/-! GbL1: running the evaluator over letters, by rules. -/
namespace GB
open PySem PySem.Spec PyProof.Rows L2

theorem Res.bind_cong {α β : Type} {r r' : Res α} {k : α → Hh → Res β} (e : r = r') : r.bind k = r'.bind k := by rw [e]
theorem Res.fl_cong {α : Type} {r r' : Res α} {σ : Ev} {k : α → Hh → Fl} (e : r = r') : r.fl σ k = r'.fl σ k := by rw [e]
theorem Res.bind_ok {α β : Type} (a : α) (h : Hh) (k : α → Hh → Res β) : (Res.ok a h).bind k = k a h := rfl
theorem Res.bind_bad {α β : Type} (k : α → Hh → Res β) : (Res.bad : Res α).bind k = .bad := rfl
theorem Res.bind_exc {α β : Type} (x : Xc) (h : Hh) (k : α → Hh → Res β) : (Res.exc x h : Res α).bind k = .exc x h := rfl
theorem Res.fl_ok {α : Type} (a : α) (h : Hh) (σ : Ev) (k : α → Hh → Fl) : (Res.ok a h).fl σ k = k a h := rfl
theorem Res.fl_exc {α : Type} (x : Xc) (h : Hh) (σ : Ev) (k : α → Hh → Fl) : (Res.exc x h : Res α).fl σ k = .exc x σ h := rfl
theorem Res.fl_bad {α : Type} (σ : Ev) (k : α → Hh → Fl) : (Res.bad : Res α).fl σ k = .bad := rfl
def Fl.seq (r : Fl) (k : Ev → Hh → Fl) : Fl := match r with
  | .nx σ h => k σ h
  | r => r
theorem Fl.seq_cong {r r' : Fl} {k : Ev → Hh → Fl} (e : r = r') : r.seq k = r'.seq k := by rw [e]
theorem Fl.seq_nx (σ : Ev) (h : Hh) (k : Ev → Hh → Fl) : (Fl.nx σ h).seq k = k σ h := rfl
theorem Fl.seq_ret (v : Vl) (h : Hh) (k : Ev → Hh → Fl) : (Fl.ret v h).seq k = .ret v h := rfl
theorem Fl.seq_brk (σ : Ev) (h : Hh) (k : Ev → Hh → Fl) : (Fl.brk σ h).seq k = .brk σ h := rfl
theorem Fl.seq_cnt (σ : Ev) (h : Hh) (k : Ev → Hh → Fl) : (Fl.cnt σ h).seq k = .cnt σ h := rfl
theorem Fl.seq_exc (x : Xc) (σ : Ev) (h : Hh) (k : Ev → Hh → Fl) : (Fl.exc x σ h).seq k = .exc x σ h := rfl
theorem Fl.seq_bad (k : Ev → Hh → Fl) : Fl.bad.seq k = .bad := rfl
/-- one of two, by a truth value -/
def cnd {α : Type} (b : Bool) (x y : α) : α := match b with | true => x | false => y
theorem cnd_cong {α : Type} {b b' : Bool} {x y : α} (e : b = b') : cnd b x y = cnd b' x y := by rw [e]
theorem cnd_true {α : Type} (x y : α) : cnd true x y = x := rfl
theorem cnd_false {α : Type} (x y : α) : cnd false x y = y := rfl
theorem cnd_pos {α : Type} {c : Prop} [Decidable c] {x y : α} (h : c) : cnd (decide c) x y = x := by rw [decide_eq_true h]; rfl
theorem cnd_neg {α : Type} {c : Prop} [Decidable c] {x y : α} (h : ¬ c) : cnd (decide c) x y = y := by rw [decide_eq_false h]; rfl
theorem cnd_npos {α : Type} {c : Prop} [Decidable c] {x y : α} (h : c) : cnd (!decide c) x y = y := by rw [decide_eq_true h]; rfl
theorem cnd_nneg {α : Type} {c : Prop} [Decidable c] {x y : α} (h : ¬ c) : cnd (!decide c) x y = x := by rw [decide_eq_false h]; rfl
theorem dT {i : Decidable True} : @decide True i = true := decide_eq_true trivial
theorem dF {i : Decidable False} : @decide False i = false := decide_eq_false id
theorem ite_cnd {α : Type} (b : Bool) (x y : α) : (if b = true then x else y) = cnd b x y := by cases b <;> rfl
/-- an option that has come -/
def opR {α : Type} (o : Option α) (k : α → Fl) : Fl := match o with | some a => k a | none => .bad
theorem opR_cong {α : Type} {o o' : Option α} {k : α → Fl} (e : o = o') : opR o k = opR o' k := by rw [e]
theorem opR_some {α : Type} (a : α) (k : α → Fl) : opR (some a) k = k a := rfl
def opB' {α β : Type} (o : Option α) (k : α → Res β) : Res β := match o with | some a => k a | none => .bad
theorem opB_cong {α β : Type} {o o' : Option α} {k : α → Res β} (e : o = o') : opB' o k = opB' o' k := by rw [e]
theorem opB_some {α β : Type} (a : α) (k : α → Res β) : opB' (some a) k = k a := rfl
theorem Res.of_some {α : Type} (a : α) (h : Hh) : Res.of (some a) h = .ok a h := rfl
def varR (o : Option (Option Vl)) (h : Hh) : Res Vl := match o with | some (some v) => .ok v h | _ => .bad
theorem varR_some (v : Vl) (h : Hh) : varR (some (some v)) h = .ok v h := rfl
/-- by the kind of a value -/
def intR {β : Type} (v : Vl) (k : Int → Res β) : Res β := match v with | .int i => k i | _ => .bad
theorem intR_int {β : Type} (i : Int) (k : Int → Res β) : intR (.int i) k = k i := rfl
theorem intR_cong {β : Type} {v v' : Vl} {k : Int → Res β} (e : v = v') : intR v k = intR v' k := by rw [e]

section
variable (c : Cf) (B : Hh) (σ : Ev) (h : Hh) (a b d : Ex) (es : Exs)
theorem x_var (i : Nat) : ev c B (.var i) σ h = varR (σ[i]?) h := by rw [ev]; unfold varR; rfl
theorem x_int (i : Int) : ev c B (.int i) σ h = .ok (.int i) h := by rw [ev]
theorem x_bl (i : Bool) : ev c B (.bl i) σ h = .ok (.bl i) h := by rw [ev]
theorem x_non : ev c B .non σ h = .ok .non h := by rw [ev]
theorem x_str (x : Str) : ev c B (.str x) σ h = .ok (.str x) h := by rw [ev]
theorem x_glo (k : Nat) : ev c B (.glo k) σ h = Res.of (c.gl[k]?) h := by rw [ev]
theorem x_bin (op : Bop) : ev c B (.bin op a b) σ h = (ev c B a σ h).bind fun x h1 => (ev c B b σ h1).bind fun y h2 => bop B h2 op x y := by rw [ev]
theorem x_neg : ev c B (.neg a) σ h = (ev c B a σ h).bind fun x h1 => intR x fun i => .ok (.int (-i)) h1 := by rw [ev]; rfl
theorem x_not : ev c B (.not a) σ h = (ev c B a σ h).bind fun x h1 => (toB B x h1).bind fun t h2 => .ok (.bl (!t)) h2 := by rw [ev, Res.bind_assoc]
theorem x_cmp (op : Cop) : ev c B (.cmp op a b) σ h = (ev c B a σ h).bind fun x h1 => (ev c B b σ h1).bind fun y h2 => Res.of ((cop (B ++ h2) op x y).map .bl) h2 := by rw [ev]
theorem x_chain (o p : Cop) : ev c B (.chain o p a b d) σ h = (ev c B a σ h).bind fun x h1 => (ev c B b σ h1).bind fun y h2 => opB' (cop (B ++ h2) o x y) fun t => cnd t ((ev c B d σ h2).bind fun z h3 => Res.of ((cop (B ++ h3) p y z).map .bl) h3) (.ok (.bl false) h2) := by
  rw [ev]; congr; funext x h1; congr; funext y h2; cases cop (B ++ h2) o x y with | none => rfl | some t => cases t <;> rfl
def isNon (v : Vl) : Bool := match v with | .non => true | _ => false
theorem x_isN : ev c B (.isN a) σ h = (ev c B a σ h).bind fun x h1 => .ok (.bl (isNon x)) h1 := by rw [ev]; rfl
theorem x_notN : ev c B (.notN a) σ h = (ev c B a σ h).bind fun x h1 => .ok (.bl (!isNon x)) h1 := by
  rw [ev]; congr; funext x h1; cases x <;> rfl
theorem x_and : ev c B (.and es) σ h = evAnd c B es σ h := by rw [ev]
theorem x_or : ev c B (.or es) σ h = evOr c B es σ h := by rw [ev]
theorem x_and1 : evAnd c B (.cons a .nil) σ h = ev c B a σ h := by rw [evAnd]
theorem x_or1 : evOr c B (.cons a .nil) σ h = ev c B a σ h := by rw [evOr]
theorem x_and2 : evAnd c B (.cons a (.cons b es)) σ h = (ev c B a σ h).bind fun v h1 => opB' (tru (B ++ h1) v) fun t => cnd t (evAnd c B (.cons b es) σ h1) (.ok v h1) := by
  show (ev c B a σ h).bind _ = _
  congr; funext v h1; cases tru (B ++ h1) v with | none => rfl | some t => cases t <;> rfl
theorem x_or2 : evOr c B (.cons a (.cons b es)) σ h = (ev c B a σ h).bind fun v h1 => opB' (tru (B ++ h1) v) fun t => cnd t (.ok v h1) (evOr c B (.cons b es) σ h1) := by
  show (ev c B a σ h).bind _ = _
  congr; funext v h1; cases tru (B ++ h1) v with | none => rfl | some t => cases t <;> rfl
theorem x_ife : ev c B (.ife d a b) σ h = (ev c B d σ h).bind fun v h1 => (toB B v h1).bind fun t h2 => cnd t (ev c B a σ h2) (ev c B b σ h2) := by
  rw [ev, Res.bind_assoc]; congr; funext v h1; congr; funext t h2; cases t <;> rfl
theorem x_tup : ev c B (.tup es) σ h = (evs c B es σ h).bind fun xs h1 => cnd (decide (xs.length ≤ sizeLine)) (.ok (.tup xs) h1) .bad := by
  rw [ev]; congr; funext xs h1; by_cases hc : xs.length ≤ sizeLine <;> simp [hc, cnd]
theorem x_lst : ev c B (.lst es) σ h = (evs c B es σ h).bind fun xs h1 => cnd (decide (xs.length ≤ sizeLine)) (new B h1 xs) .bad := by
  rw [ev]; congr; funext xs h1; by_cases hc : xs.length ≤ sizeLine <;> simp [hc, cnd]
theorem x_call (f : Nat) : ev c B (.call f es) σ h = (evs c B es σ h).bind fun xs h1 => c.C f xs B h1 := by rw [ev]
theorem x_callk (f : Nat) (ks : List Str) (kes : Exs) (perm : List Nat) : ev c B (.callk f es ks kes perm) σ h = (evs c B es σ h).bind fun xs h1 => (evs c B kes σ h1).bind fun ys h2 => c.C f (permL perm (xs ++ ys)) B h2 := by rw [ev]
theorem x_bi (b : Bi) : ev c B (.bi b es) σ h = (evs c B es σ h).bind fun xs h1 => bi B h1 b xs := by rw [ev]
theorem x_isi (t : Ty) : ev c B (.isi a t) σ h = (ev c B a σ h).bind fun x h1 => Res.of ((isTy (B ++ h1) t x).map .bl) h1 := by rw [ev]
theorem x_isis (ts : List Ty) : ev c B (.isis a ts) σ h = (ev c B a σ h).bind fun x h1 => Res.of ((isTys (B ++ h1) x ts).map .bl) h1 := by rw [ev]
theorem x_ix : ev c B (.ix a b) σ h = (ev c B a σ h).bind fun x h1 => (ev c B b σ h1).bind fun y h2 => Res.of (ixV (B ++ h2) x y) h2 := by rw [ev]
theorem x_sl (lo hi : Pt) : ev c B (.sl a lo hi) σ h = (ev c B a σ h).bind fun x h1 => (evPt c B lo σ h1).bind fun l h2 => (evPt c B hi σ h2).bind fun u h3 => slV B h3 x l u := by rw [ev]
theorem x_nil : evs c B .nil σ h = .ok [] h := by rw [evs]
theorem x_cons : evs c B (.cons a es) σ h = (ev c B a σ h).bind fun x h1 => (evs c B es σ h1).bind fun xs h2 => .ok (x :: xs) h2 := by rw [evs]
theorem x_star : evs c B (.star a es) σ h = (ev c B a σ h).bind fun x h1 => opB' (items (B ++ h1) x) fun xs => (evs c B es σ h1).bind fun ys h2 => .ok (xs ++ ys) h2 := by
  rw [evs]; congr; funext x h1; cases items (B ++ h1) x <;> rfl
theorem x_no : evPt c B .no σ h = .ok none h := by rw [evPt]
theorem x_yes : evPt c B (.yes a) σ h = (ev c B a σ h).bind fun x h1 => intR x fun i => .ok (some i) h1 := by rw [evPt]; rfl
/-! statements -/
theorem y_pass : exc1 c B .pass σ h = .nx σ h := by rw [exc1]
theorem y_brk : exc1 c B .brk σ h = .brk σ h := by rw [exc1]
theorem y_cnt : exc1 c B .cnt σ h = .cnt σ h := by rw [exc1]
theorem y_ex : exc1 c B (.ex a) σ h = (ev c B a σ h).fl σ fun _ h1 => .nx σ h1 := by rw [exc1]
theorem y_ret : exc1 c B (.ret a) σ h = (ev c B a σ h).fl σ fun v h1 => .ret v h1 := by rw [exc1]
theorem y_retN : exc1 c B .retN σ h = .ret .non h := by rw [exc1]
theorem y_set (i : Nat) : exc1 c B (.set i a) σ h = (ev c B a σ h).fl σ fun v h1 => .nx (σ.set i (some v)) h1 := by rw [exc1]
theorem y_tset (is : List Nat) : exc1 c B (.tset is a) σ h = (ev c B a σ h).fl σ fun v h1 => opR (setTg (B ++ h1) (.tp is) v σ) fun σ1 => .nx σ1 h1 := by
  rw [exc1]; congr; funext v h1; cases setTg (B ++ h1) (.tp is) v σ <;> rfl
def putR (B h : Hh) (x : Vl) (f : List Vl → Option (List Vl)) (σ : Ev) : Fl := match x with
  | .ref n => opR (put B h n f) fun h2 => .nx σ h2
  | _ => .bad
theorem y_sub : exc1 c B (.sub a b d) σ h = (ev c B d σ h).fl σ fun v h1 => (ev c B a σ h1).fl σ fun x h2 => (ev c B b σ h2).fl σ fun y h3 => match y with
    | .int k => putR B h3 x (fun xs => (ixN xs.length k).map fun j => xs.set j v) σ
    | _ => .bad := by
  rw [exc1]; congr; funext v h1; congr; funext x h2; congr; funext y h3
  cases x <;> cases y <;> first | rfl | skip
  simp only [putR, opR]
  split <;> simp_all
def refR (x : Vl) (k : Nat → Fl) : Fl := match x with | .ref n => k n | _ => .bad
theorem refR_cong {v v' : Vl} {k : Nat → Fl} (e : v = v') : refR v k = refR v' k := by rw [e]
theorem refR_ref (n : Nat) (k : Nat → Fl) : refR (.ref n) k = k n := rfl
theorem y_app : exc1 c B (.app a b) σ h = (ev c B a σ h).fl σ fun x h1 => refR x fun n => (ev c B b σ h1).fl σ fun y h2 => opR (put B h2 n (fun xs => if xs.length < sizeLine then some (xs ++ [y]) else none)) fun h3 => .nx σ h3 := by
  rw [exc1]; congr; funext x h1; cases x <;> first | rfl | skip
  simp only [refR]; congr; funext y h2; cases put B h2 _ (fun xs => if xs.length < sizeLine then some (xs ++ [y]) else none) <;> rfl
theorem y_ite (l r : Sms) : exc1 c B (.ite a l r) σ h = (ev c B a σ h).fl σ fun v h0 => (toB B v h0).fl σ fun t h1 => cnd t (excs c B l σ h1) (excs c B r σ h1) := by
  rw [exc1, Res.fl_bind]; congr; funext v h0; congr; funext t h1; cases t <;> rfl
theorem y_nil : excs c B .nil σ h = .nx σ h := by rw [excs]
theorem y_cons (s : Sm) (ss : Sms) : excs c B (.cons s ss) σ h = (exc1 c B s σ h).seq (excs c B ss) := by
  rw [excs]; cases exc1 c B s σ h <;> rfl
theorem y_for (t : Tg) (it : It) (l : Sms) : exc1 c B (.for_ t it l) σ h = (evIt c B it σ h).fl σ fun w h1 => forTurns B w (fun x σ2 h2 => opR (setTg (B ++ h2) t x σ2) fun σ3 => excs c B l σ3 h2) (w.most (B ++ h1)) 0 σ h1 := by
  rw [exc1]; congr; funext w h1; congr; funext x σ2 h2; cases setTg (B ++ h2) t x σ2 <;> rfl
theorem y_whl (g : Ev → Nat) (l : Sms) : exc1 c B (.whl g a l) σ h = whlTurns (fun σ h => (ev c B a σ h).bind (toB B)) (excs c B l) (g σ) σ h := by rw [exc1]
theorem x_range1 : evIt c B (.range1 a) σ h = (ev c B a σ h).bind fun x h1 => intR x fun j => cnd (decide (-(2 ^ 62) ≤ j ∧ j < 2 ^ 62)) (.ok (.rng 0 j.toNat) h1) .bad := by
  rw [evIt]; congr; funext x h1; cases x <;> first | rfl | skip
  rename_i j; simp only [intR]; by_cases hc : -(2 ^ 62) ≤ j ∧ j < 2 ^ 62
  · rw [if_pos hc, cnd_pos hc]
  · rw [if_neg hc, cnd_neg hc]
theorem x_range2 : evIt c B (.range2 a b) σ h = (ev c B a σ h).bind fun x h1 => (ev c B b σ h1).bind fun y h2 => intR x fun i => intR y fun j => cnd (decide (-(2 ^ 62) ≤ i ∧ i < 2 ^ 62 ∧ -(2 ^ 62) ≤ j ∧ j < 2 ^ 62)) (.ok (.rng i (j - i).toNat) h2) .bad := by
  rw [evIt]; congr; funext x h1; congr; funext y h2; cases x <;> first | rfl | skip
  cases y <;> first | rfl | skip
  rename_i i j; simp only [intR]; by_cases hc : -(2 ^ 62) ≤ i ∧ i < 2 ^ 62 ∧ -(2 ^ 62) ≤ j ∧ j < 2 ^ 62
  · rw [if_pos hc, cnd_pos hc]
  · rw [if_neg hc, cnd_neg hc]
theorem x_seq : evIt c B (.seq a) σ h = (ev c B a σ h).bind fun x h1 => opB' (items (B ++ h1) x) fun _ => .ok (.seq x) h1 := by
  rw [evIt]; congr; funext x h1; cases items (B ++ h1) x <;> rfl
end
/-! values -/
theorem bopI_mul_l {i j : Int} (h : i.natAbs < 2 ^ 64) : bopI .mul i j = some (i * j) := by
  have e : mulOk i j = true := by unfold mulOk; simp [h]
  simp only [bopI]; rw [if_pos e]
theorem bopI_mul_r {i j : Int} (h : j.natAbs < 2 ^ 64) : bopI .mul i j = some (i * j) := by
  have e : mulOk i j = true := by unfold mulOk; simp [h]
  simp only [bopI]; rw [if_pos e]
theorem log2_small {j : Int} {b : Nat} (h1 : 0 < j) (h2 : j.natAbs < 2 ^ b) (hb : 0 < b) : j.natAbs.log2 < b := PySem.Flt.log2_lt_of hb h2
theorem bopI_fdiv {i j : Int} (h1 : 0 < j) (h2 : j < 2 ^ 200) : bopI .fdiv i j = some (i / j) := by
  simp only [bopI]
  rw [if_pos ⟨h1, Nat.lt_trans (log2_small (b := 200) h1 (by omega) (by decide)) (by decide)⟩]
theorem bopI_mod {i j : Int} (h1 : 0 < j) : bopI .mod i j = some (i % j) := by simp only [bopI]; rw [if_pos h1]
theorem bopI_add {i j : Int} : bopI .add i j = some (i + j) := rfl
theorem bopI_sub {i j : Int} : bopI .sub i j = some (i - j) := rfl
theorem bopI_pow {i j : Int} (h1 : 0 ≤ j) (h2 : j ≤ 1000000) (h3 : i.natAbs < 2 ^ 64) : bopI .pow i j = some (i ^ j.toNat) := by simp only [bopI]; rw [if_pos ⟨h1, h2, h3⟩]
theorem bop_int (B h : Hh) (op : Bop) (i j : Int) : bop B h op (.int i) (.int j) = Res.of ((bopI op i j).map .int) h := rfl
theorem cop_int (g : Hh) (op : Cop) (i j : Int) : cop g op (.int i) (.int j) = some (copI op i j) := by cases op <;> rfl
theorem toB_bl (B : Hh) (b : Bool) (h : Hh) : toB B (.bl b) h = .ok b h := rfl
theorem tru_bl (g : Hh) (b : Bool) : tru g (.bl b) = some b := rfl
def impR (r : Fl) : Res Vl := match r with
  | .ret v h' => .ok v h'
  | .nx _ h' => .ok .non h'
  | .exc x _ h' => .exc x h'
  | _ => .bad
def purR (B h : Hh) (r : Fl) : Res Vl := match r with
  | .ret v h' => outP B h v h'
  | .nx _ _ => .ok .non h
  | .exc x _ _ => if Vl.plains x.fs then .exc x h else .bad
  | _ => .bad
theorem callF_step (T : List Fn) (gl : List Vl) (k f : Nat) (xs : List Vl) (B h : Hh) (fn : Fn) (hf : T[f]? = some fn) (hl : xs.length = fn.np) (hp : fn.pure = false) :
    callF T gl (k + 1) f xs B h = impR (excs ⟨callF T gl k, gl⟩ B fn.body (startE fn xs) h) := by
  rw [callF, hf]; simp only [hl, hp, ne_eq, not_true_eq_false, if_false]
  cases excs ⟨callF T gl k, gl⟩ B fn.body (startE fn xs) h <;> rfl
theorem callF_pure (T : List Fn) (gl : List Vl) (k f : Nat) (xs : List Vl) (B h : Hh) (fn : Fn) (hf : T[f]? = some fn) (hl : xs.length = fn.np) (hp : fn.pure = true) :
    callF T gl (k + 1) f xs B h = purR B h (excs ⟨callF T gl k, gl⟩ (B ++ h) fn.body (startE fn xs) []) := by
  rw [callF, hf]; simp only [hl, hp, ne_eq, not_true_eq_false, if_false, if_true]
  cases excs ⟨callF T gl k, gl⟩ (B ++ h) fn.body (startE fn xs) [] <;> rfl
/-- a pure def's value -/
theorem callP {T : List Fn} {gl : List Vl} {k f : Nat} {xs : List Vl} {B h h' : Hh} {v : Vl} (fn : Fn) (hf : T[f]? = some fn) (hl : xs.length = fn.np) (hp : fn.pure = true) (hv : v.plain = true)
    (he : excs ⟨callF T gl k, gl⟩ (B ++ h) fn.body (startE fn xs) [] = .ret v h') : callF T gl (k + 1) f xs B h = .ok v h := by
  rw [callF_pure T gl k f xs B h fn hf hl hp, he]
  simp only [purR, outP, hv, if_true]
/-- a pure def's new list -/
theorem callN {T : List Fn} {gl : List Vl} {k f : Nat} {xs : List Vl} {B h h' : Hh} {n : Nat} {ys : List Vl} (fn : Fn) (hf : T[f]? = some fn) (hl : xs.length = fn.np) (hp : fn.pure = true) (hv : Vl.plains ys = true)
    (he : excs ⟨callF T gl k, gl⟩ (B ++ h) fn.body (startE fn xs) [] = .ret (.ref n) h') (hn : (B ++ h).length ≤ n) (hy : h'[n - (B ++ h).length]? = some (.lst ys)) : callF T gl (k + 1) f xs B h = .ok (.ref (B ++ h).length) (h ++ [.lst ys]) := by
  rw [callF_pure T gl k f xs B h fn hf hl hp, he]
  have e1 : outP B h (.ref n) h' = new B h ys := by
    unfold outP
    rw [if_neg (show ¬ (Vl.ref n).plain = true by simp [Vl.plain])]
    simp only
    rw [if_neg (Nat.not_lt.mpr hn), hy]
    simp only [hv, if_true]
  exact e1
theorem callI {T : List Fn} {gl : List Vl} {k f : Nat} {xs : List Vl} {B h h' : Hh} {v : Vl} (fn : Fn) (hf : T[f]? = some fn) (hl : xs.length = fn.np) (hp : fn.pure = false)
    (he : excs ⟨callF T gl k, gl⟩ B fn.body (startE fn xs) h = .ret v h') : callF T gl (k + 1) f xs B h = .ok v h' := by
  rw [callF_step T gl k f xs B h fn hf hl hp, he]; rfl
def putO (o : Option Ob) (f : List Vl → Option (List Vl)) (h : Hh) (i : Nat) : Option Hh := match o with
  | some (.lst xs) => (f xs).map fun ys => h.set i (.lst ys)
  | _ => none
theorem put_eq (B h : Hh) (n : Nat) (f : List Vl → Option (List Vl)) : put B h n f = cnd (decide (n < B.length)) none (putO (h[n - B.length]?) f h (n - B.length)) := by
  unfold put
  by_cases hc : n < B.length
  · rw [if_pos hc, cnd_pos hc]
  · rw [if_neg hc, cnd_neg hc]; unfold putO
    cases h[n - B.length]? with
    | none => rfl
    | some o => cases o <;> rfl
theorem putO_some (xs : List Vl) (f : List Vl → Option (List Vl)) (h : Hh) (i : Nat) : putO (some (.lst xs)) f h i = (f xs).map fun ys => h.set i (.lst ys) := rfl
theorem putR_ref (B h : Hh) (n : Nat) (f : List Vl → Option (List Vl)) (σ : Ev) : putR B h (.ref n) f σ = opR (put B h n f) fun h2 => .nx σ h2 := rfl
theorem rd_own {B h : Hh} {n : Nat} (hn : B.length ≤ n) : (B ++ h)[n]? = h[n - B.length]? := List.getElem?_append_right hn
theorem items_tup (g : Hh) (xs : List Vl) : items g (.tup xs) = some xs := rfl
theorem items_ref (g : Hh) (n : Nat) : items g (.ref n) = (g[n]?).map Ob.items := rfl
theorem items_lst (xs : List Vl) : Ob.items (.lst xs) = xs := rfl
theorem items_fz (xs : List Vl) : Ob.items (.fz xs) = xs := rfl
theorem ixV_int (g : Hh) (v : Vl) (i : Int) : ixV g v (.int i) = (items g v).bind fun xs => atI xs i := by cases v <;> rfl
theorem bi_len_tup (B h : Hh) (xs : List Vl) : bi B h .len [.tup xs] = .ok (.int xs.length) h := rfl
theorem bi_len_ref (B h : Hh) (n : Nat) : bi B h .len [.ref n] = opB' ((B ++ h)[n]?) fun o => .ok (.int o.items.length) h := by
  show bi1 B h .len (.ref n) = _
  simp only [bi1, items]
  cases (B ++ h)[n]? <;> rfl
theorem bi_abs (B h : Hh) (i : Int) : bi B h .abs [.int i] = .ok (.int (if i < 0 then -i else i)) h := rfl
theorem bi_int (B h : Hh) (i : Int) : bi B h .int [.int i] = .ok (.int i) h := rfl
theorem bi_int_bl (B h : Hh) (b : Bool) : bi B h .int [.bl b] = .ok (.int (if b then 1 else 0)) h := rfl
theorem bi_max2 (B h : Hh) (i j : Int) : bi B h .max2 [.int i, .int j] = .ok (.int (if j > i then j else i)) h := rfl
theorem bi_min2 (B h : Hh) (i j : Int) : bi B h .min2 [.int i, .int j] = .ok (.int (if j < i then j else i)) h := rfl
theorem bi_tuple_tup (B h : Hh) (xs : List Vl) : bi B h .tuple [.tup xs] = .ok (.tup xs) h := rfl
theorem bi_tuple_ref (B h : Hh) (n : Nat) : bi B h .tuple [.ref n] = opB' ((B ++ h)[n]?) fun o => .ok (.tup o.items) h := by
  show bi1 B h .tuple (.ref n) = _
  simp only [bi1, refItems]
  cases (B ++ h)[n]? <;> rfl
theorem bi_list_tup (B h : Hh) (xs : List Vl) : bi B h .list [.tup xs] = new B h xs := rfl
theorem bi_list_ref (B h : Hh) (n : Nat) : bi B h .list [.ref n] = opB' ((B ++ h)[n]?) fun o => new B h o.items := by
  show bi1 B h .list (.ref n) = _
  simp only [bi1, items]
  cases (B ++ h)[n]? <;> rfl
theorem bi_all_ref (B h : Hh) (n : Nat) : bi B h .all [.ref n] = opB' ((B ++ h)[n]?) fun o => opB' (blsOf o.items) fun bs => .ok (.bl (bs.all id)) h := by
  show bi1 B h .all (.ref n) = _
  simp only [bi1, refItems]
  cases (B ++ h)[n]? with
  | none => rfl
  | some o =>
    simp only [Option.map_some, Option.bind_some, opB']
    cases blsOf o.items <;> rfl
theorem b01 (b : Bool) : (if b = true then (1 : Int) else 0).natAbs < 2 ^ 64 := by cases b <;> decide
theorem new_eq (B h : Hh) (xs : List Vl) : new B h xs = .ok (.ref (B ++ h).length) (h ++ [.lst xs]) := rfl
theorem at0 (a : Vl) (l : List Vl) : atI (a :: l) 0 = some a := by unfold atI ixN; simp
theorem at1 (a b : Vl) (l : List Vl) : atI (a :: b :: l) 1 = some b := by
  unfold atI ixN
  rw [if_pos (by decide), if_pos (by simp only [List.length_cons]; omega)]; rfl
theorem at2 (a b c : Vl) (l : List Vl) : atI (a :: b :: c :: l) 2 = some c := by
  unfold atI ixN
  rw [if_pos (by decide), if_pos (by simp only [List.length_cons]; omega)]; rfl
theorem ixN0 (n : Nat) : ixN (n + 1) 0 = some 0 := by unfold ixN; rw [if_pos (by decide), if_pos (by omega)]; rfl
theorem ixN1 (n : Nat) : ixN (n + 2) 1 = some 1 := by unfold ixN; rw [if_pos (by decide), if_pos (by omega)]; rfl
theorem ixN2 (n : Nat) : ixN (n + 3) 2 = some 2 := by unfold ixN; rw [if_pos (by decide), if_pos (by omega)]; rfl
/-- a list of one's own at n -/
structure At (B h : Hh) (n : Nat) (xs : List Vl) : Prop where
  lo : B.length ≤ n
  at_ : h[n - B.length]? = some (.lst xs)
theorem At.get {B h : Hh} {n : Nat} {xs : List Vl} (a : At B h n xs) : (B ++ h)[n]? = some (.lst xs) := by rw [List.getElem?_append_right a.lo]; exact a.at_
theorem At.put {B h : Hh} {n : Nat} {xs : List Vl} (a : At B h n xs) (f : List Vl → Option (List Vl)) : put B h n f = (f xs).map fun ys => h.set (n - B.length) (.lst ys) := by
  unfold GB.put
  rw [if_neg (by have := a.lo; omega), a.at_]
theorem At.set {B h : Hh} {n : Nat} {xs : List Vl} (a : At B h n xs) (ys : List Vl) : At B (h.set (n - B.length) (.lst ys)) n ys :=
  ⟨a.lo, by rw [List.getElem?_set_self (List.getElem?_eq_some_iff.mp a.at_).1]⟩
theorem At.more {B h : Hh} {n : Nat} {xs : List Vl} (a : At B h n xs) (l : Hh) : At B (h ++ l) n xs := ⟨a.lo, by rw [List.getElem?_append_left (List.getElem?_eq_some_iff.mp a.at_).1]; exact a.at_⟩
end GB

end
section
set_option Elab.async false
set_option linter.all false
set_option maxRecDepth 100000
/-! GbR: running the evaluator over letters, goal by goal. -/
namespace GB
open PySem PySem.Spec PyProof.Rows L2
section
variable {C : Nat → List Vl → Hh → Hh → Res Vl} {gl : List Vl} {B : Hh} {σ σ1 : Ev} {h h1 h2 h3 h4 : Hh} {a b d : Ex} {es kes : Exs} {v x y z : Vl} {xs ys : List Vl} {t u : Bool} {i j : Int} {n : Nat} {fl fl1 : Fl} {rv : Res Vl}
theorem r_var {k : Nat} (e : σ[k]? = some (some v)) : ev ⟨C, gl⟩ B (.var k) σ h = .ok v h := by rw [x_var, e]; rfl
theorem r_int : ev ⟨C, gl⟩ B (.int i) σ h = .ok (.int i) h := by rw [ev]
theorem r_bl : ev ⟨C, gl⟩ B (.bl t) σ h = .ok (.bl t) h := by rw [ev]
theorem r_non : ev ⟨C, gl⟩ B .non σ h = .ok .non h := by rw [ev]
theorem r_str {s : Str} : ev ⟨C, gl⟩ B (.str s) σ h = .ok (.str s) h := by rw [ev]
theorem r_glo {k : Nat} (e : gl[k]? = some v) : ev ⟨C, gl⟩ B (.glo k) σ h = .ok v h := by rw [x_glo]; show Res.of (gl[k]?) h = _; rw [e]; rfl
theorem r_bin {op : Bop} (e1 : ev ⟨C, gl⟩ B a σ h = .ok x h1) (e2 : ev ⟨C, gl⟩ B b σ h1 = .ok y h2) (e3 : bop B h2 op x y = .ok v h3) : ev ⟨C, gl⟩ B (.bin op a b) σ h = .ok v h3 := by
  rw [x_bin, e1, Res.bind_ok, e2, Res.bind_ok, e3]
theorem r_neg (e1 : ev ⟨C, gl⟩ B a σ h = .ok (.int i) h1) : ev ⟨C, gl⟩ B (.neg a) σ h = .ok (.int (-i)) h1 := by rw [x_neg, e1]; rfl
theorem r_not (e1 : ev ⟨C, gl⟩ B a σ h = .ok x h1) (e2 : tru (B ++ h1) x = some t) : ev ⟨C, gl⟩ B (.not a) σ h = .ok (.bl (!t)) h1 := by
  rw [x_not, e1, Res.bind_ok]; unfold toB; rw [e2]; rfl
theorem r_cmp {op : Cop} (e1 : ev ⟨C, gl⟩ B a σ h = .ok x h1) (e2 : ev ⟨C, gl⟩ B b σ h1 = .ok y h2) (e3 : cop (B ++ h2) op x y = some t) : ev ⟨C, gl⟩ B (.cmp op a b) σ h = .ok (.bl t) h2 := by
  rw [x_cmp, e1, Res.bind_ok, e2, Res.bind_ok, e3]; rfl
theorem r_chain {o p : Cop} (e1 : ev ⟨C, gl⟩ B a σ h = .ok x h1) (e2 : ev ⟨C, gl⟩ B b σ h1 = .ok y h2) (e3 : cop (B ++ h2) o x y = some t)
    (e4 : cnd t ((ev ⟨C, gl⟩ B d σ h2).bind fun z h3 => Res.of ((cop (B ++ h3) p y z).map .bl) h3) (.ok (.bl false) h2) = .ok v h3) : ev ⟨C, gl⟩ B (.chain o p a b d) σ h = .ok v h3 := by
  rw [x_chain, e1, Res.bind_ok, e2, Res.bind_ok, e3, opB_some, e4]
theorem r_chain2 {p : Cop} (e1 : ev ⟨C, gl⟩ B d σ h2 = .ok z h3) (e2 : cop (B ++ h3) p y z = some t) : (ev ⟨C, gl⟩ B d σ h2).bind (fun z h3 => Res.of ((cop (B ++ h3) p y z).map Vl.bl) h3) = .ok (Vl.bl t) h3 := by
  rw [e1, Res.bind_ok, e2]; rfl
theorem r_isN (e1 : ev ⟨C, gl⟩ B a σ h = .ok x h1) : ev ⟨C, gl⟩ B (.isN a) σ h = .ok (.bl (isNon x)) h1 := by rw [x_isN, e1]; rfl
theorem r_notN (e1 : ev ⟨C, gl⟩ B a σ h = .ok x h1) : ev ⟨C, gl⟩ B (.notN a) σ h = .ok (.bl (!isNon x)) h1 := by rw [x_notN, e1]; rfl
theorem r_and (e : evAnd ⟨C, gl⟩ B es σ h = rv) : ev ⟨C, gl⟩ B (.and es) σ h = rv := by rw [x_and, e]
theorem r_or (e : evOr ⟨C, gl⟩ B es σ h = rv) : ev ⟨C, gl⟩ B (.or es) σ h = rv := by rw [x_or, e]
theorem r_and1 (e : ev ⟨C, gl⟩ B a σ h = rv) : evAnd ⟨C, gl⟩ B (.cons a .nil) σ h = rv := by rw [x_and1, e]
theorem r_or1 (e : ev ⟨C, gl⟩ B a σ h = rv) : evOr ⟨C, gl⟩ B (.cons a .nil) σ h = rv := by rw [x_or1, e]
theorem r_and2 (e1 : ev ⟨C, gl⟩ B a σ h = .ok x h1) (e2 : tru (B ++ h1) x = some t) (e3 : cnd t (evAnd ⟨C, gl⟩ B (.cons b es) σ h1) (.ok x h1) = rv) : evAnd ⟨C, gl⟩ B (.cons a (.cons b es)) σ h = rv := by
  rw [x_and2, e1, Res.bind_ok, e2, opB_some, e3]
theorem r_or2 (e1 : ev ⟨C, gl⟩ B a σ h = .ok x h1) (e2 : tru (B ++ h1) x = some t) (e3 : cnd t (.ok x h1) (evOr ⟨C, gl⟩ B (.cons b es) σ h1) = rv) : evOr ⟨C, gl⟩ B (.cons a (.cons b es)) σ h = rv := by
  rw [x_or2, e1, Res.bind_ok, e2, opB_some, e3]
theorem r_ife (e1 : ev ⟨C, gl⟩ B d σ h = .ok x h1) (e2 : tru (B ++ h1) x = some t) (e3 : cnd t (ev ⟨C, gl⟩ B a σ h1) (ev ⟨C, gl⟩ B b σ h1) = rv) : ev ⟨C, gl⟩ B (.ife d a b) σ h = rv := by
  rw [x_ife, e1, Res.bind_ok]; unfold toB; rw [e2, Res.of_some, Res.bind_ok, e3]
theorem r_tup (e1 : evs ⟨C, gl⟩ B es σ h = .ok xs h1) (e2 : Nat.ble xs.length 1000 = true) : ev ⟨C, gl⟩ B (.tup es) σ h = .ok (.tup xs) h1 := by
  rw [x_tup, e1, Res.bind_ok, cnd_pos (Nat.le_trans (Nat.le_of_ble_eq_true e2) (by decide))]
theorem r_lst (e1 : evs ⟨C, gl⟩ B es σ h = .ok xs h1) (e2 : Nat.ble xs.length 1000 = true) : ev ⟨C, gl⟩ B (.lst es) σ h = .ok (.ref (B ++ h1).length) (h1 ++ [.lst xs]) := by
  rw [x_lst, e1, Res.bind_ok, cnd_pos (Nat.le_trans (Nat.le_of_ble_eq_true e2) (by decide))]; rfl
theorem r_call {f : Nat} (e1 : evs ⟨C, gl⟩ B es σ h = .ok xs h1) (e2 : C f xs B h1 = rv) : ev ⟨C, gl⟩ B (.call f es) σ h = rv := by rw [x_call, e1, Res.bind_ok]; exact e2
theorem r_callk {f : Nat} {ks : List Str} {perm : List Nat} (e1 : evs ⟨C, gl⟩ B es σ h = .ok xs h1) (e2 : evs ⟨C, gl⟩ B kes σ h1 = .ok ys h2) (e3 : C f (permL perm (xs ++ ys)) B h2 = rv) : ev ⟨C, gl⟩ B (.callk f es ks kes perm) σ h = rv := by
  rw [x_callk, e1, Res.bind_ok, e2, Res.bind_ok]; exact e3
theorem r_bi {k : Bi} (e1 : evs ⟨C, gl⟩ B es σ h = .ok xs h1) (e2 : bi B h1 k xs = .ok v h2) : ev ⟨C, gl⟩ B (.bi k es) σ h = .ok v h2 := by rw [x_bi, e1, Res.bind_ok, e2]
theorem r_isi {k : Ty} (e1 : ev ⟨C, gl⟩ B a σ h = .ok x h1) (e2 : isTy (B ++ h1) k x = some t) : ev ⟨C, gl⟩ B (.isi a k) σ h = .ok (.bl t) h1 := by rw [x_isi, e1, Res.bind_ok, e2]; rfl
theorem r_isis {k : List Ty} (e1 : ev ⟨C, gl⟩ B a σ h = .ok x h1) (e2 : isTys (B ++ h1) x k = some t) : ev ⟨C, gl⟩ B (.isis a k) σ h = .ok (.bl t) h1 := by rw [x_isis, e1, Res.bind_ok, e2]; rfl
theorem r_ix (e1 : ev ⟨C, gl⟩ B a σ h = .ok x h1) (e2 : ev ⟨C, gl⟩ B b σ h1 = .ok (.int i) h2) (e3 : items (B ++ h2) x = some xs) (e4 : atI xs i = some v) : ev ⟨C, gl⟩ B (.ix a b) σ h = .ok v h2 := by
  rw [x_ix, e1, Res.bind_ok, e2, Res.bind_ok, ixV_int, e3, Option.bind_some, e4]; rfl
theorem r_sl {lo hi : Pt} {p q : Option Int} (e1 : ev ⟨C, gl⟩ B a σ h = .ok x h1) (e2 : evPt ⟨C, gl⟩ B lo σ h1 = .ok p h2) (e3 : evPt ⟨C, gl⟩ B hi σ h2 = .ok q h3) (e4 : slV B h3 x p q = .ok v h4) : ev ⟨C, gl⟩ B (.sl a lo hi) σ h = .ok v h4 := by
  rw [x_sl, e1, Res.bind_ok, e2, Res.bind_ok, e3, Res.bind_ok, e4]
theorem r_nil : evs ⟨C, gl⟩ B .nil σ h = .ok [] h := by rw [evs]
theorem r_cons (e1 : ev ⟨C, gl⟩ B a σ h = .ok x h1) (e2 : evs ⟨C, gl⟩ B es σ h1 = .ok xs h2) : evs ⟨C, gl⟩ B (.cons a es) σ h = .ok (x :: xs) h2 := by rw [x_cons, e1, Res.bind_ok, e2]; rfl
theorem r_star (e1 : ev ⟨C, gl⟩ B a σ h = .ok x h1) (e2 : items (B ++ h1) x = some xs) (e3 : evs ⟨C, gl⟩ B es σ h1 = .ok ys h2) : evs ⟨C, gl⟩ B (.star a es) σ h = .ok (xs ++ ys) h2 := by
  rw [x_star, e1, Res.bind_ok, e2, opB_some, e3]; rfl
theorem r_no : evPt ⟨C, gl⟩ B .no σ h = .ok none h := by rw [evPt]
theorem r_yes (e1 : ev ⟨C, gl⟩ B a σ h = .ok (.int i) h1) : evPt ⟨C, gl⟩ B (.yes a) σ h = .ok (some i) h1 := by rw [x_yes, e1]; rfl
/-! statements -/
theorem q_pass : exc1 ⟨C, gl⟩ B .pass σ h = .nx σ h := by rw [exc1]
theorem q_brk : exc1 ⟨C, gl⟩ B .brk σ h = .brk σ h := by rw [exc1]
theorem q_cnt : exc1 ⟨C, gl⟩ B .cnt σ h = .cnt σ h := by rw [exc1]
theorem q_ex (e1 : ev ⟨C, gl⟩ B a σ h = .ok x h1) : exc1 ⟨C, gl⟩ B (.ex a) σ h = .nx σ h1 := by rw [y_ex, e1]; rfl
theorem q_ret (e1 : ev ⟨C, gl⟩ B a σ h = .ok x h1) : exc1 ⟨C, gl⟩ B (.ret a) σ h = .ret x h1 := by rw [y_ret, e1]; rfl
theorem q_retN : exc1 ⟨C, gl⟩ B .retN σ h = .ret .non h := by rw [exc1]
theorem q_set {k : Nat} (e1 : ev ⟨C, gl⟩ B a σ h = .ok x h1) : exc1 ⟨C, gl⟩ B (.set k a) σ h = .nx (σ.set k (some x)) h1 := by rw [y_set, e1]; rfl
theorem q_tset {is : List Nat} (e1 : ev ⟨C, gl⟩ B a σ h = .ok x h1) (e2 : setTg (B ++ h1) (.tp is) x σ = some σ1) : exc1 ⟨C, gl⟩ B (.tset is a) σ h = .nx σ1 h1 := by rw [y_tset, e1, Res.fl_ok, e2]; rfl
theorem q_ite {l r : Sms} (e1 : ev ⟨C, gl⟩ B a σ h = .ok x h1) (e2 : tru (B ++ h1) x = some t) (e3 : cnd t (excs ⟨C, gl⟩ B l σ h1) (excs ⟨C, gl⟩ B r σ h1) = fl) : exc1 ⟨C, gl⟩ B (.ite a l r) σ h = fl := by
  rw [y_ite, e1, Res.fl_ok]; unfold toB; rw [e2, Res.of_some, Res.fl_ok, e3]
theorem q_sub (e1 : ev ⟨C, gl⟩ B d σ h = .ok v h1) (e2 : ev ⟨C, gl⟩ B a σ h1 = .ok (.ref n) h2) (e3 : ev ⟨C, gl⟩ B b σ h2 = .ok (.int i) h3) (e4 : put B h3 n (fun xs => (ixN xs.length i).map fun j => xs.set j v) = some h4) : exc1 ⟨C, gl⟩ B (.sub a b d) σ h = .nx σ h4 := by
  rw [y_sub, e1, Res.fl_ok, e2, Res.fl_ok, e3, Res.fl_ok]; show putR B h3 (.ref n) _ σ = _; rw [putR_ref, e4]; rfl
theorem q_app (e1 : ev ⟨C, gl⟩ B a σ h = .ok (.ref n) h1) (e2 : ev ⟨C, gl⟩ B b σ h1 = .ok y h2) (e4 : put B h2 n (fun xs => if xs.length < sizeLine then some (xs ++ [y]) else none) = some h4) : exc1 ⟨C, gl⟩ B (.app a b) σ h = .nx σ h4 := by
  rw [y_app, e1, Res.fl_ok, refR_ref, e2, Res.fl_ok, e4]; rfl
theorem q_nil : excs ⟨C, gl⟩ B .nil σ h = .nx σ h := by rw [excs]
theorem q_cons {s : Sm} {ss : Sms} (e1 : exc1 ⟨C, gl⟩ B s σ h = fl1) (e2 : fl1.seq (excs ⟨C, gl⟩ B ss) = fl) : excs ⟨C, gl⟩ B (.cons s ss) σ h = fl := by rw [y_cons, e1, e2]
theorem q_seq {ss : Sms} (e : excs ⟨C, gl⟩ B ss σ h = fl) : (Fl.nx σ h).seq (excs ⟨C, gl⟩ B ss) = fl := by rw [Fl.seq_nx, e]
theorem q_seqR {ss : Sms} : (Fl.ret v h).seq (excs ⟨C, gl⟩ B ss) = .ret v h := rfl
theorem q_nil2 (e : Fl.nx σ h = fl) : excs ⟨C, gl⟩ B .nil σ h = fl := by rw [q_nil, e]
theorem q_seqR2 {ss : Sms} (e : Fl.ret v h = fl) : (Fl.ret v h).seq (excs ⟨C, gl⟩ B ss) = fl := e
theorem k_pos {α : Type} {c : Prop} [Decidable c] {p q r : α} (h : c) (e : p = r) : cnd (decide c) p q = r := by rw [cnd_pos h, e]
theorem k_neg {α : Type} {c : Prop} [Decidable c] {p q r : α} (h : ¬ c) (e : q = r) : cnd (decide c) p q = r := by rw [cnd_neg h, e]
theorem k_npos {α : Type} {c : Prop} [Decidable c] {p q r : α} (h : c) (e : q = r) : cnd (!decide c) p q = r := by rw [cnd_npos h, e]
theorem k_nneg {α : Type} {c : Prop} [Decidable c] {p q r : α} (h : ¬ c) (e : p = r) : cnd (!decide c) p q = r := by rw [cnd_nneg h, e]
theorem k_true {α : Type} {p q r : α} (e : p = r) : cnd true p q = r := e
theorem k_false {α : Type} {p q r : α} (e : q = r) : cnd false p q = r := e
/-! leaves -/
theorem l_add : bop B h .add (.int i) (.int j) = .ok (.int (i + j)) h := rfl
theorem l_sub : bop B h .sub (.int i) (.int j) = .ok (.int (i - j)) h := rfl
theorem l_mull (h0 : i.natAbs < 2 ^ 64) : bop B h .mul (.int i) (.int j) = .ok (.int (i * j)) h := by rw [bop_int, bopI_mul_l h0]; rfl
theorem l_mulr (h0 : j.natAbs < 2 ^ 64) : bop B h .mul (.int i) (.int j) = .ok (.int (i * j)) h := by rw [bop_int, bopI_mul_r h0]; rfl
theorem l_fdiv (h1 : 0 < j) (h2 : j < 2 ^ 200) : bop B h .fdiv (.int i) (.int j) = .ok (.int (i / j)) h := by rw [bop_int, bopI_fdiv h1 h2]; rfl
theorem l_mod (h1 : 0 < j) : bop B h .mod (.int i) (.int j) = .ok (.int (i % j)) h := by rw [bop_int, bopI_mod h1]; rfl
theorem l_pow (h1 : 0 ≤ j) (h2 : j ≤ 1000000) (h3 : i.natAbs < 2 ^ 64) : bop B h .pow (.int i) (.int j) = .ok (.int (i ^ j.toNat)) h := by rw [bop_int, bopI_pow h1 h2 h3]; rfl
theorem l_cop {g : Hh} {op : Cop} : cop g op (.int i) (.int j) = some (copI op i j) := cop_int g op i j
theorem l_eq {g : Hh} : cop g .eq (.int i) (.int j) = some (decide (i = j)) := rfl
theorem l_ne {g : Hh} : cop g .ne (.int i) (.int j) = some (!decide (i = j)) := rfl
theorem l_lt {g : Hh} : cop g .lt (.int i) (.int j) = some (decide (i < j)) := rfl
theorem l_le {g : Hh} : cop g .le (.int i) (.int j) = some (decide (i ≤ j)) := rfl
theorem l_gt {g : Hh} : cop g .gt (.int i) (.int j) = some (decide (j < i)) := rfl
theorem l_ge {g : Hh} : cop g .ge (.int i) (.int j) = some (decide (j ≤ i)) := rfl
theorem l_truB {g : Hh} : tru g (.bl t) = some t := rfl
theorem l_itT {g : Hh} : items g (.tup xs) = some xs := rfl
theorem l_itR {g : Hh} {o : Ob} (e : g[n]? = some o) : items g (.ref n) = some o.items := by rw [items_ref, e]; rfl
theorem l_rd {o : Ob} (h0 : B.length ≤ n) (e : h[n - B.length]? = some o) : (B ++ h)[n]? = some o := by rw [rd_own h0, e]
theorem l_set {l : Hh} {o : Ob} {k : Nat} (h0 : k < l.length) : (l.set k o)[k]? = some o := List.getElem?_set_self h0
theorem l_put {f : List Vl → Option (List Vl)} (h0 : B.length ≤ n) (e : h[n - B.length]? = some (.lst xs)) (e2 : f xs = some ys) : put B h n f = some (h.set (n - B.length) (.lst ys)) := by
  rw [put_eq, cnd_neg (by omega), e, putO_some, e2]; rfl
theorem l_lenT : bi B h .len [.tup xs] = .ok (.int xs.length) h := rfl
theorem l_lenR {o : Ob} (e : (B ++ h)[n]? = some o) : bi B h .len [.ref n] = .ok (.int o.items.length) h := by rw [bi_len_ref, e]; rfl
theorem l_abs : bi B h .abs [.int i] = .ok (.int (if i < 0 then -i else i)) h := rfl
theorem l_int : bi B h .int [.int i] = .ok (.int i) h := rfl
theorem l_intb : bi B h .int [.bl t] = .ok (.int (if t then 1 else 0)) h := rfl
theorem l_max2 : bi B h .max2 [.int i, .int j] = .ok (.int (if j > i then j else i)) h := rfl
theorem l_min2 : bi B h .min2 [.int i, .int j] = .ok (.int (if j < i then j else i)) h := rfl
theorem l_tupT : bi B h .tuple [.tup xs] = .ok (.tup xs) h := rfl
theorem l_tupR {o : Ob} (e : (B ++ h)[n]? = some o) : bi B h .tuple [.ref n] = .ok (.tup o.items) h := by rw [bi_tuple_ref, e]; rfl
theorem l_allR {o : Ob} {bs : List Bool} (e : (B ++ h)[n]? = some o) (e2 : blsOf o.items = some bs) : bi B h .all [.ref n] = .ok (.bl (bs.all id)) h := by rw [bi_all_ref, e, opB_some, e2]; rfl
end
end GB

end
section
set_option Elab.async false
set_option linter.all false
set_option maxRecDepth 100000
set_option maxHeartbeats 1000000
/-! GbL2: the defs that all laws share: draws, the box, the cells, sameness. -/
namespace GB
open PySem PySem.Spec PyProof.Rows L2
local macro_rules | `(tactic| walk_at "gr") => `(tactic| repeat (first
  | with_reducible exact r_int | with_reducible exact r_bl | with_reducible exact r_non | with_reducible exact r_str | ((with_reducible apply r_var); exact rfl) | ((with_reducible apply r_glo); exact rfl) | with_reducible exact r_nil | with_reducible exact r_no | with_reducible exact q_nil | with_reducible exact q_retN | with_reducible exact q_pass | with_reducible exact q_brk | with_reducible exact q_cnt | with_reducible exact q_seqR
  | with_reducible apply q_nil2 | with_reducible apply q_seqR2 | ((with_reducible show Fl.ret _ _ = _); exact rfl) | ((with_reducible show Res.ok _ _ = _); exact rfl) | ((with_reducible show Fl.nx _ _ = _); exact rfl)
  | with_reducible apply q_seq | with_reducible apply q_cons | with_reducible apply q_set | with_reducible apply q_ret | with_reducible apply q_ite | with_reducible apply q_tset | with_reducible apply q_sub | with_reducible apply q_app | with_reducible apply q_ex
  | with_reducible apply r_cons | with_reducible apply r_star | with_reducible apply r_bin | with_reducible apply r_cmp | with_reducible apply r_ix | with_reducible apply r_bi | with_reducible apply r_call | with_reducible apply r_callk | with_reducible apply r_ife | with_reducible apply r_and | with_reducible apply r_or | with_reducible apply r_and1 | with_reducible apply r_or1 | with_reducible apply r_and2 | with_reducible apply r_or2
  | with_reducible apply r_tup | with_reducible apply r_lst | with_reducible apply r_neg | with_reducible apply r_not | with_reducible apply r_isi | with_reducible apply r_isis | with_reducible apply r_isN | with_reducible apply r_notN | with_reducible apply r_chain | with_reducible apply r_chain2 | with_reducible apply r_sl | with_reducible apply r_yes
  | with_reducible apply k_true | with_reducible apply k_false | ((with_reducible apply k_pos); omega) | ((with_reducible apply k_neg); omega) | ((with_reducible apply k_npos); omega) | ((with_reducible apply k_nneg); omega)
  | with_reducible exact l_add | with_reducible exact l_sub | ((with_reducible apply l_mod); omega) | ((with_reducible apply l_fdiv) <;> omega) | ((with_reducible apply l_mull); omega) | ((with_reducible apply l_mulr); omega) | with_reducible exact l_mulr (b01 _) | ((with_reducible apply l_pow) <;> omega)
  | with_reducible exact l_eq | with_reducible exact l_ne | with_reducible exact l_lt | with_reducible exact l_le | with_reducible exact l_gt | with_reducible exact l_ge | with_reducible exact l_truB | with_reducible exact l_itT | with_reducible exact l_lenT | with_reducible exact l_abs | with_reducible exact l_int | with_reducible exact l_intb | with_reducible exact l_max2 | with_reducible exact l_min2 | with_reducible exact l_tupT
  | with_reducible assumption
  | with_reducible apply l_itR | with_reducible apply l_lenR | with_reducible apply l_tupR | with_reducible apply l_allR | ((with_reducible apply l_put); omega)
  | ((with_reducible apply l_set); first | omega | assumption) | ((with_reducible apply l_rd); omega)
  | ((with_reducible show atI _ _ = some _); first | assumption | exact at0 _ _ | exact at1 _ _ _ | exact at2 _ _ _ _)
  | ((with_reducible show setTg _ _ _ _ = _); exact rfl) | ((with_reducible show isTy _ _ _ = _); exact rfl) | ((with_reducible show isTys _ _ _ = _); exact rfl) | ((with_reducible show Nat.ble _ _ = true); exact rfl) | ((with_reducible show Option.map _ _ = some _); exact rfl) | ((with_reducible show tru _ _ = some _); exact rfl)))
def b_take : Sms := (.cons (.ite (.cmp .gt (.ix (.var 0) (.int 0)) (.int 0)) (.cons (.set 2 (.bin .mod (.bi .int (.cons (.ix (.var 0) (.int 0)) .nil)) (.var 1))) (.cons (.sub (.var 0) (.int 0) (.bin .fdiv (.ix (.var 0) (.int 0)) (.var 1))) (.cons (.ret (.var 2)) .nil))) .nil) (.cons (.sub (.var 0) (.int 2) (.bin .add (.ix (.var 0) (.int 2)) (.int 1))) (.cons (.set 3 (.bin .mod (.bi .int (.cons (.bin .mul (.bin .add (.ix (.var 0) (.int 1)) (.bin .mul (.int 48271) (.ix (.var 0) (.int 2)))) (.bin .add (.int 39373) (.ix (.var 0) (.int 2)))) .nil)) (.int 2147483647))) (.cons (.set 4 (.bin .add (.bin .mod (.bi .int (.cons (.var 3) .nil)) (.int 40009)) (.int 7))) (.cons (.set 5 (.bin .mod (.bi .int (.cons (.bin .mul (.bin .add (.bin .add (.var 3) (.ix (.var 0) (.int 2))) (.bin .fdiv (.ix (.var 0) (.int 1)) (.int 1000003))) (.var 4)) .nil)) (.int 2147483629))) (.cons (.ret (.bin .mod (.bi .int (.cons (.bin .fdiv (.bin .mod (.bi .int (.cons (.bin .add (.bin .mul (.var 5) (.int 48271)) (.var 3)) .nil)) (.int 2147483587)) (.int 64)) .nil)) (.var 1))) .nil))))))
def f_take : Fn := ⟨2, 6, false, b_take⟩
theorem take_pos {C : Nat → List Vl → Hh → Hh → Res Vl} {gl : List Vl} {B h : Hh} {n : Nat} {g m c top : Int} (lo : B.length ≤ n) (hat : h[n - B.length]? = some (.lst [.int g, .int m, .int c])) (hlt : n - B.length < h.length) (h1 : 0 < top) (h2 : top < 2 ^ 200) (hg : 0 < g) :
    excs ⟨C, gl⟩ B b_take [some (.ref n), some (.int top), none, none, none, none] h = .ret (.int (g % top)) (h.set (n - B.length) (.lst [.int (g / top), .int m, .int c])) := by
  unfold b_take
  walk_at "gr"
theorem set_set {α : Type} (l : List α) (i : Nat) (a b : α) : (l.set i a).set i b = l.set i b := by simp
theorem take_neg {C : Nat → List Vl → Hh → Hh → Res Vl} {gl : List Vl} {B h : Hh} {n : Nat} {g m c top : Int} (lo : B.length ≤ n) (hat : h[n - B.length]? = some (.lst [.int g, .int m, .int c])) (hlt : n - B.length < h.length) (h1 : 0 < top) (h2 : top < 2 ^ 200) (hg : ¬ 0 < g) (hc : 0 ≤ c) (hc2 : c < 2 ^ 60) :
    ∃ r, excs ⟨C, gl⟩ B b_take [some (.ref n), some (.int top), none, none, none, none] h = .ret (.int (r % top)) (h.set (n - B.length) (.lst [.int g, .int m, .int (c + 1)])) := by
  unfold b_take
  apply Exists.intro
  walk_at "gr"
/-- a box to draw from, with so many draws to come -/
structure Tin (B h : Hh) (n : Nat) (b : Nat) : Prop where
  lo : B.length ≤ n
  lt : n - B.length < h.length
  ex : ∃ g m c : Int, h[n - B.length]? = some (.lst [.int g, .int m, .int c]) ∧ 0 ≤ g ∧ 0 ≤ c ∧ c + b < 2 ^ 60
/-- the heap is as it was but for the box -/
def Drew (B h h' : Hh) (n : Nat) : Prop := ∃ o, h' = h.set (n - B.length) o
theorem Drew.refl {B h : Hh} {n : Nat} (hn : n - B.length < h.length) : Drew B h h n := ⟨h[n - B.length], by rw [List.set_getElem_self]⟩
theorem Drew.trans {B h h1 h2 : Hh} {n : Nat} (a : Drew B h h1 n) (b : Drew B h1 h2 n) : Drew B h h2 n := by
  obtain ⟨o, rfl⟩ := a; obtain ⟨u, rfl⟩ := b; exact ⟨u, by simp⟩
theorem take_ok {T : List Fn} {gl : List Vl} {k f : Nat} {B h : Hh} {n b : Nat} {top : Int} (hf : T[f]? = some f_take) (t : Tin B h n (b + 1)) (h1 : 0 < top) (h2 : top < 2 ^ 200) :
    ∃ r h', callF T gl (k + 1) f [.ref n, .int top] B h = .ok (.int r) h' ∧ 0 ≤ r ∧ r < top ∧ Tin B h' n b ∧ h'.length = h.length ∧ Drew B h h' n := by
  obtain ⟨lo, lt, g, m, c, e, g0, c0, cb⟩ := t
  by_cases hg : 0 < g
  · refine ⟨g % top, _, callI f_take hf rfl rfl (take_pos lo e lt h1 h2 hg), Int.emod_nonneg _ (by omega), Int.emod_lt_of_pos _ h1, ⟨lo, by simpa using lt, g / top, m, c, by simp [lt], ?_, c0, by omega⟩, by simp, ⟨_, rfl⟩⟩
    exact Int.ediv_nonneg g0 (by omega)
  · obtain ⟨r, q⟩ := take_neg (C := callF T gl k) (gl := gl) lo e lt h1 h2 hg c0 (by omega)
    exact ⟨r % top, _, callI f_take hf rfl rfl q, Int.emod_nonneg _ (by omega), Int.emod_lt_of_pos _ h1, ⟨lo, by simpa using lt, g, m, c + 1, by simp [lt], g0, by omega, by omega⟩, by simp, ⟨_, rfl⟩⟩

def b_box (u : Int) : Sms := (.cons (.set 2 (.ife (.cmp .lt (.var 1) (.bi .len (.cons (.var 0) .nil))) (.ix (.var 0) (.var 1)) (.int 0))) (.cons (.ret (.lst (.cons (.bin .mul (.bi .abs (.cons (.var 2) .nil)) (.bi .int (.cons (.cmp .ge (.bi .abs (.cons (.var 2) .nil)) (.bin .pow (.int 10) (.int 18))) .nil))) (.cons (.bin .add (.bin .add (.bin .mod (.bi .int (.cons (.var 2) .nil)) (.int 2305843009213693951)) (.bin .mul (.int 39373) (.var 1))) (.int u)) (.cons (.int 0) .nil))))) .nil))
def f_box (u : Int) : Fn := ⟨2, 3, true, b_box u⟩
theorem atI_mem {xs : List Vl} {k : Nat} (hk : k < xs.length) : atI xs (k : Int) = some xs[k] := atI_nat (List.getElem?_eq_getElem hk)
theorem box_ok {T : List Fn} {gl : List Vl} {k f : Nat} {B h : Hh} {n i : Nat} {u : Int} {cs : List Int} (hf : T[f]? = some (f_box u)) (e : (B ++ h)[n]? = some (.lst (cs.map Vl.int))) (hi : i < cs.length) :
    ∃ g m : Int, callF T gl (k + 1) f [.ref n, .int (i : Nat)] B h = .ok (.ref (B ++ h).length) (h ++ [.lst [.int g, .int m, .int 0]]) ∧ 0 ≤ g := by
  have e' : (B ++ h ++ [])[n]? = some (.lst (cs.map Vl.int)) := by rw [List.append_nil]; exact e
  have e2 : atI (Ob.lst (cs.map Vl.int)).items (i : Int) = some (.int cs[i]) := by
    show atI (cs.map Vl.int) (i : Int) = _
    rw [atI_mem (by simpa using hi)]; simp
  have hi2 : (i : Int) < ((Ob.lst (cs.map Vl.int)).items.length : Nat) := by
    show (i : Int) < ((cs.map Vl.int).length : Nat)
    simp; omega
  have key : ∃ g m : Int, 0 ≤ g ∧ excs ⟨callF T gl k, gl⟩ (B ++ h) (b_box u) [some (.ref n), some (.int (i : Nat)), none] [] = .ret (.ref (B ++ h ++ []).length) ([] ++ [.lst [.int g, .int m, .int 0]]) := by
    apply Exists.intro
    apply Exists.intro
    refine And.intro ?_ ?_
    rotate_left
    · unfold b_box
      walk_at "gr"
    · refine Int.mul_nonneg ?_ ?_
      · split <;> omega
      · split <;> omega
  obtain ⟨g, m, hg, q⟩ := key
  exact ⟨g, m, callN (f_box u) hf rfl rfl rfl q (by simp) (by simp), hg⟩

/-! ### the cells -/
def b_cells : Sms := (.cons (.set 2 (.or (.cons (.bi .list (.cons (.sl (.var 0) .no (.yes (.var 1))) .nil)) (.cons (.lst (.cons (.int 0) .nil)) .nil)))) (.cons (.for_ (.tp [3, 4]) (.enum (.sl (.var 0) (.yes (.var 1)) (.yes (.int 63)))) (.cons (.set 5 (.bin .mod (.bi .int (.cons (.var 3) .nil)) (.var 1))) (.cons (.sub (.var 2) (.var 5) (.bin .add (.ix (.var 2) (.var 5)) (.bin .mul (.var 4) (.bin .add (.var 3) (.int 2))))) .nil))) (.cons (.ret (.var 2)) .nil)))
def f_cells : Fn := ⟨2, 6, true, b_cells⟩
theorem sl_ref {B h : Hh} {n : Nat} {o : Ob} (e : (B ++ h)[n]? = some o) (lo hi : Option Int) : slV B h (.ref n) lo hi = .ok (.ref (B ++ h).length) (h ++ [.lst (cutL o.items lo hi)]) := by
  show (match refItems (B ++ h) (.ref n) with | some xs => new B h (cutL xs lo hi) | none => .bad) = _
  have : refItems (B ++ h) (.ref n) = some o.items := by simp [refItems, e]
  rw [this]; rfl
theorem get_more {B h l : Hh} {n : Nat} {o : Ob} (e : (B ++ h)[n]? = some o) : (B ++ (h ++ l))[n]? = some o := by
  rw [← List.append_assoc, List.getElem?_append_left (List.getElem?_eq_some_iff.mp e).1]; exact e
theorem get_last {B h : Hh} {o : Ob} : (B ++ (h ++ [o]))[(B ++ h).length]? = some o := by
  rw [← List.append_assoc]; simp
theorem bi_listR {B h : Hh} {n : Nat} {o : Ob} (e : (B ++ h)[n]? = some o) : bi B h .list [.ref n] = .ok (.ref (B ++ h).length) (h ++ [.lst o.items]) := by rw [bi_list_ref, e]; rfl
theorem ixN_in {n : Nat} {i : Int} (h0 : 0 ≤ i) (h1 : i < n) : ixN n i = some i.toNat := by unfold ixN; rw [if_pos h0, if_pos h1]
theorem atI_int {cs : List Int} {i : Int} (h0 : 0 ≤ i) (h1 : i < cs.length) : ∃ z, atI (cs.map Vl.int) i = some (.int z) := by
  unfold atI
  rw [ixN_in h0 (by simpa using h1)]
  have : i.toNat < cs.length := by omega
  exact ⟨cs[i.toNat], by simp [this]⟩
theorem cells_turn {C : Nat → List Vl → Hh → Hh → Res Vl} {gl : List Vl} {B h : Hh} {n c : Nat} {k w z most : Int} {cs : List Int} {s5 : Option Vl} (lo : B.length ≤ c) (hat : h[c - B.length]? = some (.lst (cs.map Vl.int))) (hm : 0 < most) (hk : 0 ≤ k) (hk2 : k < 1000) (hl : most ≤ cs.length) (hz : atI (cs.map Vl.int) (k % most) = some (.int z)) :
    excs ⟨C, gl⟩ B (.cons (.set 5 (.bin .mod (.bi .int (.cons (.var 3) .nil)) (.var 1))) (.cons (.sub (.var 2) (.var 5) (.bin .add (.ix (.var 2) (.var 5)) (.bin .mul (.var 4) (.bin .add (.var 3) (.int 2))))) .nil)) [some (.ref n), some (.int most), some (.ref c), some (.int k), some (.int w), s5] h
      = .nx [some (.ref n), some (.int most), some (.ref c), some (.int k), some (.int w), some (.int (k % most))] (h.set (c - B.length) (.lst ((cs.set (k % most).toNat (z + w * (k + 2))).map Vl.int))) := by
  have hz' : atI (Ob.lst (cs.map Vl.int)).items (k % most) = some (.int z) := hz
  have i0 := Int.emod_nonneg k (show most ≠ 0 by omega)
  have i1 := Int.emod_lt_of_pos k hm
  have hf : ((fun (xs : List Vl) => (ixN xs.length (k % most)).map fun j => xs.set j (.int (z + w * (k + 2)))) (cs.map Vl.int)) = some ((cs.set (k % most).toNat (z + w * (k + 2))).map Vl.int) := by
    simp only
    rw [ixN_in i0 (by simp; omega)]
    simp [List.map_set]
  walk_at "gr"
theorem for_item {B : Hh} {w : Wk} {turn : Vl → Ev → Hh → Fl} {m i : Nat} {σ : Ev} {h : Hh} {x : Vl} {σ1 : Ev} {h1 : Hh} (e1 : w.at (B ++ h) i = some (some x)) (e2 : turn x σ h = .nx σ1 h1) : forTurns B w turn (m + 1) i σ h = forTurns B w turn m (i + 1) σ1 h1 := by
  rw [forTurns, e1]; simp only; rw [e2]
theorem for_stop {B : Hh} {w : Wk} {turn : Vl → Ev → Hh → Fl} {m i : Nat} {σ : Ev} {h : Hh} (e1 : w.at (B ++ h) i = some none) : forTurns B w turn m i σ h = .nx σ h := by
  rw [forTurns, e1]
theorem cells_loop {C : Nat → List Vl → Hh → Hh → Res Vl} {gl : List Vl} {B : Hh} {n c s : Nat} {most : Int} {zs : List Int} (lo : B.length ≤ c) (lo2 : B.length ≤ s) (hcs : c ≠ s) (hm : 0 < most) (hz : zs.length ≤ 1000) :
    ∀ (d i : Nat) (h : Hh) (cs : List Int) (s3 s4 s5 : Option Vl), i + d = zs.length → h[c - B.length]? = some (.lst (cs.map Vl.int)) → h[s - B.length]? = some (.lst (zs.map Vl.int)) → (most ≤ cs.length ∨ zs = []) →
      ∃ (cs' : List Int) (h' : Hh) (t3 t4 t5 : Option Vl), forTurns B (.enum (.ref s)) (fun x σ2 h2 => opR (setTg (B ++ h2) (.tp [3, 4]) x σ2) fun σ3 => excs ⟨C, gl⟩ B (.cons (.set 5 (.bin .mod (.bi .int (.cons (.var 3) .nil)) (.var 1))) (.cons (.sub (.var 2) (.var 5) (.bin .add (.ix (.var 2) (.var 5)) (.bin .mul (.var 4) (.bin .add (.var 3) (.int 2))))) .nil)) σ3 h2) d i [some (.ref n), some (.int most), some (.ref c), s3, s4, s5] h
        = .nx [some (.ref n), some (.int most), some (.ref c), t3, t4, t5] h' ∧ cs'.length = cs.length ∧ h'[c - B.length]? = some (.lst (cs'.map Vl.int)) := by
  intro d
  induction d with
  | zero =>
    intro i h cs s3 s4 s5 hi hc hs ho
    refine ⟨cs, h, s3, s4, s5, for_stop ?_, rfl, hc⟩
    have : (B ++ h)[s]? = some (.lst (zs.map Vl.int)) := by rw [rd_own lo2]; exact hs
    simp only [Wk.at, items, this, Option.map_some, Ob.items]
    rw [List.getElem?_eq_none (by simp; omega)]; rfl
  | succ d ih =>
    intro i h cs s3 s4 s5 hi hc hs ho
    have hlt : i < zs.length := by omega
    have hne : zs ≠ [] := fun z => by subst z; simp at hlt
    have hl : most ≤ cs.length := ho.resolve_right hne
    have hs' : (B ++ h)[s]? = some (.lst (zs.map Vl.int)) := by rw [rd_own lo2]; exact hs
    have i0 := Int.emod_nonneg (i : Int) (show most ≠ 0 by omega)
    have i1 := Int.emod_lt_of_pos (i : Int) hm
    obtain ⟨z, hz'⟩ := atI_int (cs := cs) i0 (by omega)
    have turn := cells_turn (C := C) (gl := gl) (n := n) (w := zs[i]) (s5 := s5) lo hc hm (show (0 : Int) ≤ (i : Int) by omega) (by omega) hl hz'
    have e1 : (Wk.enum (.ref s)).at (B ++ h) i = some (some (.tup [.int (i : Nat), .int zs[i]])) := by
      simp only [Wk.at, items, hs', Option.map_some, Ob.items]
      rw [List.getElem?_map, List.getElem?_eq_getElem hlt]; rfl
    have hci : c - B.length < h.length := (List.getElem?_eq_some_iff.mp hc).1
    obtain ⟨cs', h', t3, t4, t5, q1, q2, q3⟩ := ih (i + 1) _ (cs.set ((i : Int) % most).toNat (z + zs[i] * ((i : Int) + 2))) (some (.int (i : Nat))) (some (.int zs[i])) (some (.int ((i : Int) % most))) (by omega)
      (show (h.set (c - B.length) (.lst ((cs.set ((i : Int) % most).toNat (z + zs[i] * ((i : Int) + 2))).map Vl.int)))[c - B.length]? = _ from List.getElem?_set_self hci)
      (by rw [List.getElem?_set_ne (by omega)]; exact hs) (.inl (by simpa using hl))
    refine ⟨cs', h', t3, t4, t5, ?_, by simpa using q2, q3⟩
    rw [for_item e1 (σ1 := [some (.ref n), some (.int most), some (.ref c), some (.int (i : Nat)), some (.int zs[i]), some (.int ((i : Int) % most))]) (h1 := h.set (c - B.length) (.lst ((cs.set ((i : Int) % most).toNat (z + zs[i] * ((i : Int) + 2))).map Vl.int))) turn]
    exact q1
theorem plains_ints : ∀ cs : List Int, Vl.plains (cs.map Vl.int) = true
  | [] => rfl
  | c :: cs => by simp only [List.map_cons, Vl.plains, Vl.plain, Bool.true_and]; exact plains_ints cs
theorem cut_take (xs : List Vl) (m : Nat) : cutL xs none (some (m : Int)) = xs.take m := by
  unfold cutL
  rw [HT.sIx_none, HT.sIx_nat]
  simp
theorem cut_ints (ns : List Int) (lo hi : Option Int) : ∃ zs : List Int, cutL (ns.map Vl.int) lo hi = zs.map Vl.int ∧ zs.length ≤ ns.length := by
  unfold cutL
  exact ⟨(ns.drop _).take _, by rw [List.map_take, List.map_drop], by simp; omega⟩
theorem cells_ok {T : List Fn} {gl : List Vl} {k f : Nat} {B h : Hh} {n most : Nat} {ns : List Int} (hf : T[f]? = some f_cells) (e : (B ++ h)[n]? = some (.fz (ns.map Vl.int))) (hm : 1 ≤ most) (hm2 : most ≤ 100) (hl : ns.length ≤ 63) :
    ∃ cs : List Int, 1 ≤ cs.length ∧ cs.length ≤ most ∧ callF T gl (k + 1) f [.ref n, .int (most : Nat)] B h = .ok (.ref (B ++ h).length) (h ++ [.lst (cs.map Vl.int)]) := by
  generalize hB : B ++ h = B' at e
  have e0 : (B' ++ [])[n]? = some (.fz (ns.map Vl.int)) := by rw [List.append_nil]; exact e
  -- the first numbers
  have st1 : ∃ (c : Nat) (h1 : Hh) (cs : List Int), exc1 ⟨callF T gl k, gl⟩ B' (.set 2 (.or (.cons (.bi .list (.cons (.sl (.var 0) .no (.yes (.var 1))) .nil)) (.cons (.lst (.cons (.int 0) .nil)) .nil)))) [some (.ref n), some (.int (most : Nat)), none, none, none, none] [] = .nx [some (.ref n), some (.int (most : Nat)), some (.ref c), none, none, none] h1 ∧
      B'.length ≤ c ∧ c < (B' ++ h1).length ∧ h1[c - B'.length]? = some (.lst (cs.map Vl.int)) ∧ 1 ≤ cs.length ∧ cs.length ≤ most ∧ ((most : Int) ≤ cs.length ∨ ns.length ≤ most) := by
    have ev1 : ev ⟨callF T gl k, gl⟩ B' (.bi .list (.cons (.sl (.var 0) .no (.yes (.var 1))) .nil)) [some (.ref n), some (.int (most : Nat)), none, none, none, none] [] = .ok (.ref (B' ++ ([] ++ [Ob.lst ((ns.take most).map Vl.int)])).length) ([] ++ [Ob.lst ((ns.take most).map Vl.int)] ++ [.lst ((ns.take most).map Vl.int)]) := by
      refine r_bi (r_cons (r_sl (r_var rfl) r_no (r_yes (r_var rfl)) (sl_ref e0 _ _)) r_nil) ?_
      have : cutL (Ob.fz (ns.map Vl.int)).items none (some (most : Int)) = (ns.take most).map Vl.int := by
        show cutL (ns.map Vl.int) _ _ = _
        rw [cut_take, List.map_take]
      rw [this]
      exact bi_listR get_last
    by_cases hn : ns = []
    · subst hn
      refine ⟨_, _, [0], q_set (r_or (r_or2 ev1 (t := false) ?_ (k_false (r_or1 (r_lst (r_cons r_int r_nil) rfl))))), ?_, ?_, ?_, by simp, by simpa using hm, .inr (by simp)⟩
      · simp only [tru]; rw [← List.append_assoc, List.getElem?_append_right (by simp)]; simp [Ob.items]
      · simp
      · simp
      · simp
    · refine ⟨_, _, ns.take most, q_set (r_or (r_or2 ev1 (t := true) ?_ (k_true rfl))), ?_, ?_, ?_, ?_, ?_, ?_⟩
      · simp only [tru]; rw [← List.append_assoc, List.getElem?_append_right (by simp)]
        have : (ns.take most).isEmpty = false := by
          cases ns with
          | nil => exact absurd rfl hn
          | cons x r => cases most with
            | zero => omega
            | succ m => rfl
        cases ns with
        | nil => exact absurd rfl hn
        | cons x r => cases most with
          | zero => omega
          | succ m => simp [Ob.items]
      · simp
      · simp
      · simp
      · simp; cases ns with
        | nil => exact absurd rfl hn
        | cons x r => simp; omega
      · simp; omega
      · simp; omega
  obtain ⟨c, h1, cs, q1, lo, hi, at1, l1, l2, l3⟩ := st1
  -- the later ones
  obtain ⟨zs, z1, z2⟩ := cut_ints ns (some (most : Int)) (some 63)
  have zn : (most : Int) ≤ cs.length ∨ zs = [] := by
    rcases l3 with l3 | l3
    · exact .inl l3
    · refine .inr ?_
      have : (cutL (ns.map Vl.int) (some (most : Int)) (some 63)).length = 0 := by
        unfold cutL
        rw [HT.sIx_nat]
        simp
        omega
      rw [z1] at this
      simpa using this
  have e2 : (B' ++ h1)[n]? = some (.fz (ns.map Vl.int)) := by
    rw [List.getElem?_append_left (List.getElem?_eq_some_iff.mp e).1]; exact e
  have lt1 : c - B'.length < h1.length := (List.getElem?_eq_some_iff.mp at1).1
  obtain ⟨cs', h', t3, t4, t5, q2, q3, q4⟩ := cells_loop (C := callF T gl k) (gl := gl) (B := B') (n := n) (c := c) (s := (B' ++ h1).length) (most := (most : Int)) (zs := zs) lo (by simp) (by omega) (by omega) (by omega)
    zs.length 0 (h1 ++ [.lst (zs.map Vl.int)]) cs none none none (by omega) (by rw [List.getElem?_append_left lt1]; exact at1) (by simp) zn
  have st2 : exc1 ⟨callF T gl k, gl⟩ B' (.for_ (.tp [3, 4]) (.enum (.sl (.var 0) (.yes (.var 1)) (.yes (.int 63)))) (.cons (.set 5 (.bin .mod (.bi .int (.cons (.var 3) .nil)) (.var 1))) (.cons (.sub (.var 2) (.var 5) (.bin .add (.ix (.var 2) (.var 5)) (.bin .mul (.var 4) (.bin .add (.var 3) (.int 2))))) .nil))) [some (.ref n), some (.int (most : Nat)), some (.ref c), none, none, none] h1 = .nx [some (.ref n), some (.int (most : Nat)), some (.ref c), t3, t4, t5] h' := by
    rw [y_for]
    have ei : evIt ⟨callF T gl k, gl⟩ B' (.enum (.sl (.var 0) (.yes (.var 1)) (.yes (.int 63)))) [some (.ref n), some (.int (most : Nat)), some (.ref c), none, none, none] h1 = .ok (.enum (.ref (B' ++ h1).length)) (h1 ++ [.lst (zs.map Vl.int)]) := by
      rw [evIt, r_sl (r_var rfl) (r_yes (r_var rfl)) (r_yes r_int) (sl_ref e2 _ _), Res.bind_ok]
      have : cutL (Ob.fz (ns.map Vl.int)).items (some (most : Int)) (some 63) = zs.map Vl.int := z1
      rw [this]
      simp only
      rw [get_last]
    rw [ei, Res.fl_ok]
    have : (Wk.enum (.ref (B' ++ h1).length)).most (B' ++ (h1 ++ [.lst (zs.map Vl.int)])) = zs.length := by
      simp only [Wk.most, items, get_last, Option.map_some, Option.getD_some, Ob.items, List.length_map]
    rw [this]
    exact q2
  refine ⟨cs', by omega, by omega, ?_⟩
  have all : excs ⟨callF T gl k, gl⟩ B' b_cells [some (.ref n), some (.int (most : Nat)), none, none, none, none] [] = .ret (.ref c) h' := q_cons q1 (q_seq (q_cons st2 (q_seq (q_cons (q_ret (r_var rfl)) q_seqR))))
  have r := callN (T := T) (gl := gl) (k := k) (f := f) (xs := [.ref n, .int (most : Nat)]) (B := B) (h := h) (ys := cs'.map Vl.int) f_cells hf rfl rfl (plains_ints cs') (by rw [hB]; exact all) (by rw [hB]; exact lo) (by rw [hB]; exact q4)
  rw [hB] at r
  exact r
end GB

end
section
set_option Elab.async false
set_option linter.all false
set_option maxRecDepth 100000
set_option maxHeartbeats 1000000
/-! GbL3: comprehensions, loops, sameness. -/
namespace GB
open PySem PySem.Spec PyProof.Rows L2
local macro_rules | `(tactic| walk_at "gr") => `(tactic| repeat (first
  | with_reducible exact r_int | with_reducible exact r_bl | with_reducible exact r_non | with_reducible exact r_str | ((with_reducible apply r_var); exact rfl) | ((with_reducible apply r_glo); exact rfl) | with_reducible exact r_nil | with_reducible exact r_no | with_reducible exact q_nil | with_reducible exact q_retN | with_reducible exact q_pass | with_reducible exact q_brk | with_reducible exact q_cnt | with_reducible exact q_seqR
  | with_reducible apply q_nil2 | with_reducible apply q_seqR2 | ((with_reducible show Fl.ret _ _ = _); exact rfl) | ((with_reducible show Res.ok _ _ = _); exact rfl) | ((with_reducible show Fl.nx _ _ = _); exact rfl)
  | with_reducible apply q_seq | with_reducible apply q_cons | with_reducible apply q_set | with_reducible apply q_ret | with_reducible apply q_ite | with_reducible apply q_tset | with_reducible apply q_sub | with_reducible apply q_app | with_reducible apply q_ex
  | with_reducible apply r_cons | with_reducible apply r_star | with_reducible apply r_bin | with_reducible apply r_cmp | with_reducible apply r_ix | with_reducible apply r_bi | with_reducible apply r_call | with_reducible apply r_callk | with_reducible apply r_ife | with_reducible apply r_and | with_reducible apply r_or | with_reducible apply r_and1 | with_reducible apply r_or1 | with_reducible apply r_and2 | with_reducible apply r_or2
  | with_reducible apply r_tup | with_reducible apply r_lst | with_reducible apply r_neg | with_reducible apply r_not | with_reducible apply r_isi | with_reducible apply r_isis | with_reducible apply r_isN | with_reducible apply r_notN | with_reducible apply r_chain | with_reducible apply r_chain2 | with_reducible apply r_sl | with_reducible apply r_yes
  | with_reducible apply k_true | with_reducible apply k_false | ((with_reducible apply k_pos); omega) | ((with_reducible apply k_neg); omega) | ((with_reducible apply k_npos); omega) | ((with_reducible apply k_nneg); omega)
  | with_reducible exact l_add | with_reducible exact l_sub | ((with_reducible apply l_mod); omega) | ((with_reducible apply l_fdiv) <;> omega) | ((with_reducible apply l_mull); omega) | ((with_reducible apply l_mulr); omega) | with_reducible exact l_mulr (b01 _) | ((with_reducible apply l_pow) <;> omega)
  | with_reducible exact l_eq | with_reducible exact l_ne | with_reducible exact l_lt | with_reducible exact l_le | with_reducible exact l_gt | with_reducible exact l_ge | with_reducible exact l_truB | with_reducible exact l_itT | with_reducible exact l_lenT | with_reducible exact l_abs | with_reducible exact l_int | with_reducible exact l_intb | with_reducible exact l_max2 | with_reducible exact l_min2 | with_reducible exact l_tupT
  | with_reducible assumption
  | with_reducible apply l_itR | with_reducible apply l_lenR | with_reducible apply l_tupR | with_reducible apply l_allR | ((with_reducible apply l_put); omega)
  | ((with_reducible apply l_set); first | omega | assumption) | ((with_reducible apply l_rd); omega)
  | ((with_reducible show atI _ _ = some _); first | assumption | exact at0 _ _ | exact at1 _ _ _ | exact at2 _ _ _ _)
  | ((with_reducible show setTg _ _ _ _ = _); exact rfl) | ((with_reducible show isTy _ _ _ = _); exact rfl) | ((with_reducible show isTys _ _ _ = _); exact rfl) | ((with_reducible show Nat.ble _ _ = true); exact rfl) | ((with_reducible show Option.map _ _ = some _); exact rfl) | ((with_reducible show tru _ _ = some _); exact rfl)))
/-- one turn of a comprehension -/
def lcTurn (c : Cf) (B : Hh) (own : List Nat) (t : Tg) (cn : Cn) (e : Ex) (σ : Ev) (x : Vl) (h2 : Hh) : Res (Option Vl) :=
  opB' (setTg (B ++ h2) t x (wipeE σ own)) fun σ2 => (tvCn c B cn σ2 h2).bind fun k h3 => if k then (ev c B e σ2 h3).bind fun y h4 => .ok (some y) h4 else .ok none h3
theorem x_lc (c : Cf) (B : Hh) (σ : Ev) (h : Hh) (own : List Nat) (t : Tg) (it : It) (cn : Cn) (e : Ex) : ev c B (.lc own t it cn e) σ h = (evIt c B it σ h).bind fun w h1 => lcTurns B (B ++ h1).length w (lcTurn c B own t cn e σ) (w.most (B ++ h1)) 0 (h1 ++ [.lst []]) := by
  rw [ev]; congr; funext w h1; congr; funext x h2; unfold lcTurn; cases setTg (B ++ h2) t x (wipeE σ own) <;> rfl
theorem lc_gen {B : Hh} {D : Nat} {w : Wk} {turn : Vl → Hh → Res (Option Vl)} (xs : List Vl) (hD : B.length ≤ D) (hx : xs.length ≤ 1000000) (I : Nat → List Vl → Hh → Prop)
    (hat : ∀ i acc h, I i acc h → acc.length ≤ i ∧ w.at (B ++ h) i = some (xs[i]?))
    (tn : ∀ i x acc h, I i acc h → xs[i]? = some x → (∃ h', turn x h = .ok none h' ∧ I (i + 1) acc h') ∨ (∃ y h', turn x h = .ok (some y) h' ∧ h'[D - B.length]? = some (.lst acc) ∧ I (i + 1) (acc ++ [y]) (h'.set (D - B.length) (.lst (acc ++ [y]))))) :
    ∀ d i acc h, i + d = xs.length → I i acc h → ∃ acc' h', lcTurns B D w turn d i h = .ok (.ref D) h' ∧ I xs.length acc' h' := by
  intro d
  induction d with
  | zero =>
    intro i acc h hi hI
    have := (hat i acc h hI).2
    rw [List.getElem?_eq_none (by omega)] at this
    refine ⟨acc, h, ?_, by rw [← hi]; exact hI⟩
    rw [lcTurns, this]
  | succ d ih =>
    intro i acc h hi hI
    have hlt : i < xs.length := by omega
    obtain ⟨ha, hw⟩ := hat i acc h hI
    rw [List.getElem?_eq_getElem hlt] at hw
    rcases tn i xs[i] acc h hI (List.getElem?_eq_getElem hlt) with ⟨h', e, hI'⟩ | ⟨y, h', e, hp, hI'⟩
    · obtain ⟨acc', h'', q, r⟩ := ih (i + 1) acc h' (by omega) hI'
      refine ⟨acc', h'', ?_, r⟩
      rw [lcTurns, hw]; simp only; rw [e, Res.bind_ok]; exact q
    · obtain ⟨acc', h'', q, r⟩ := ih (i + 1) (acc ++ [y]) _ (by omega) hI'
      refine ⟨acc', h'', ?_, r⟩
      rw [lcTurns, hw]; simp only; rw [e, Res.bind_ok]
      have pe : put B h' D (fun acc => if acc.length < sizeLine then some (acc ++ [y]) else none) = some (h'.set (D - B.length) (.lst (acc ++ [y]))) :=
        l_put hD hp (by rw [if_pos (Nat.lt_of_le_of_lt ha (Nat.lt_of_lt_of_le (Nat.lt_of_lt_of_le hlt hx) (by decide)))])
      simp only
      rw [pe]; exact q
/-- a comprehension that leaves all else alone -/
theorem r_lc {C : Nat → List Vl → Hh → Hh → Res Vl} {gl : List Vl} {B : Hh} {own : List Nat} {t : Tg} {it : It} {cn : Cn} {e : Ex} {σ : Ev} {h h1 : Hh} {w : Wk} (xs : List Vl) (f : Vl → Option Vl) (hx : xs.length ≤ 1000000)
    (ei : evIt ⟨C, gl⟩ B it σ h = .ok w h1) (hm : w.most (B ++ h1) = xs.length) (hw : ∀ i l, w.at (B ++ (h1 ++ l)) i = some (xs[i]?))
    (tn : ∀ x l, x ∈ xs → lcTurn ⟨C, gl⟩ B own t cn e σ x (h1 ++ l) = .ok (f x) (h1 ++ l)) :
    ev ⟨C, gl⟩ B (.lc own t it cn e) σ h = .ok (.ref (B ++ h1).length) (h1 ++ [.lst (xs.filterMap f)]) := by
  rw [x_lc, ei, Res.bind_ok, hm]
  have hidx : ∀ acc : List Vl, (h1 ++ [Ob.lst acc])[(B ++ h1).length - B.length]? = some (.lst acc) := fun acc => by simp
  obtain ⟨acc', h', q, r⟩ := lc_gen (B := B) (D := (B ++ h1).length) (w := w) (turn := lcTurn ⟨C, gl⟩ B own t cn e σ) xs (by simp) hx
    (fun i acc g => i ≤ xs.length ∧ acc = (xs.take i).filterMap f ∧ g = h1 ++ [.lst acc])
    (by
      rintro i acc g ⟨hi, rfl, rfl⟩
      exact ⟨Nat.le_trans (List.length_filterMap_le ..) (by simp; omega), hw i _⟩)
    (by
      rintro i x acc g ⟨hi, rfl, rfl⟩ hxi
      have hlt : i < xs.length := (List.getElem?_eq_some_iff.mp hxi).1
      have hxe : xs[i] = x := (List.getElem?_eq_some_iff.mp hxi).2
      have tk : xs.take (i + 1) = xs.take i ++ [x] := by rw [List.take_succ, hxi]; rfl
      have t1 := tn x [.lst ((xs.take i).filterMap f)] (List.mem_of_getElem? hxi)
      cases hf : f x with
      | none =>
        refine .inl ⟨_, by rw [t1, hf], by omega, ?_, rfl⟩
        rw [tk, List.filterMap_append]; simp [hf]
      | some y =>
        refine .inr ⟨y, _, by rw [t1, hf], hidx _, by omega, ?_, ?_⟩
        · rw [tk, List.filterMap_append]; simp [hf]
        · simp)
    xs.length 0 [] (h1 ++ [.lst []]) (by omega) ⟨by omega, rfl, rfl⟩
  rw [q]
  obtain ⟨-, ra, rb⟩ := r
  rw [List.take_length] at ra
  rw [rb, ra]
theorem lcT_yes {C : Nat → List Vl → Hh → Hh → Res Vl} {gl : List Vl} {B : Hh} {own : List Nat} {t : Tg} {e : Ex} {σ σ2 : Ev} {x y : Vl} {h2 h4 : Hh} (e1 : setTg (B ++ h2) t x (wipeE σ own) = some σ2) (e2 : ev ⟨C, gl⟩ B e σ2 h2 = .ok y h4) : lcTurn ⟨C, gl⟩ B own t .no e σ x h2 = .ok (some y) h4 := by
  unfold lcTurn; rw [e1, opB_some, tvCn, Res.bind_ok, if_pos rfl, e2]; rfl
theorem lcT_cn {C : Nat → List Vl → Hh → Hh → Res Vl} {gl : List Vl} {B : Hh} {own : List Nat} {t : Tg} {e cn : Ex} {σ σ2 : Ev} {x z : Vl} {k : Bool} {h2 h3 : Hh} {r : Res (Option Vl)} (e1 : setTg (B ++ h2) t x (wipeE σ own) = some σ2) (e2 : ev ⟨C, gl⟩ B cn σ2 h2 = .ok z h3) (e3 : tru (B ++ h3) z = some k)
    (e4 : cnd k ((ev ⟨C, gl⟩ B e σ2 h3).bind fun y h4 => .ok (some y) h4) (.ok none h3) = r) : lcTurn ⟨C, gl⟩ B own t (.yes cn) e σ x h2 = r := by
  unfold lcTurn; rw [e1, opB_some, tvCn, e2, Res.bind_ok]; unfold toB; rw [e3, Res.of_some, Res.bind_ok, ← e4]; cases k <;> rfl
/-! ### walks over a list, a tuple, two -/
theorem at_ref {B h1 : Hh} {n : Nat} {o : Ob} (e : (B ++ h1)[n]? = some o) (i : Nat) (l : Hh) : (Wk.seq (.ref n)).at (B ++ (h1 ++ l)) i = some (o.items[i]?) := by
  simp only [Wk.at, items_ref, get_more e]; rfl
theorem most_ref {g : Hh} {n : Nat} {o : Ob} (e : g[n]? = some o) : (Wk.seq (.ref n)).most g = o.items.length := by
  simp only [Wk.most, items_ref, e]; rfl
theorem it_seqR {C : Nat → List Vl → Hh → Hh → Res Vl} {gl : List Vl} {B h h1 : Hh} {σ : Ev} {a : Ex} {n : Nat} {o : Ob} (e1 : ev ⟨C, gl⟩ B a σ h = .ok (.ref n) h1) (e : (B ++ h1)[n]? = some o) : evIt ⟨C, gl⟩ B (.seq a) σ h = .ok (.seq (.ref n)) h1 := by
  rw [x_seq, e1, Res.bind_ok, items_ref, e]; rfl
theorem it_seqT {C : Nat → List Vl → Hh → Hh → Res Vl} {gl : List Vl} {B h h1 : Hh} {σ : Ev} {a : Ex} {xs : List Vl} (e1 : ev ⟨C, gl⟩ B a σ h = .ok (.tup xs) h1) : evIt ⟨C, gl⟩ B (.seq a) σ h = .ok (.seq (.tup xs)) h1 := by
  rw [x_seq, e1, Res.bind_ok]; rfl
theorem r_lcR {C : Nat → List Vl → Hh → Hh → Res Vl} {gl : List Vl} {B : Hh} {own : List Nat} {t : Tg} {a : Ex} {cn : Cn} {e : Ex} {σ : Ev} {h h1 : Hh} {n : Nat} {o : Ob} (f : Vl → Option Vl)
    (e1 : ev ⟨C, gl⟩ B a σ h = .ok (.ref n) h1) (e2 : (B ++ h1)[n]? = some o) (hx : Nat.ble o.items.length 1000000 = true)
    (tn : ∀ x l, x ∈ o.items → lcTurn ⟨C, gl⟩ B own t cn e σ x (h1 ++ l) = .ok (f x) (h1 ++ l)) :
    ev ⟨C, gl⟩ B (.lc own t (.seq a) cn e) σ h = .ok (.ref (B ++ h1).length) (h1 ++ [.lst (o.items.filterMap f)]) :=
  r_lc o.items f (Nat.le_of_ble_eq_true hx) (it_seqR e1 e2) (most_ref e2) (at_ref e2) tn
theorem r_lcT {C : Nat → List Vl → Hh → Hh → Res Vl} {gl : List Vl} {B : Hh} {own : List Nat} {t : Tg} {a : Ex} {cn : Cn} {e : Ex} {σ : Ev} {h h1 : Hh} {xs : List Vl} (f : Vl → Option Vl)
    (e1 : ev ⟨C, gl⟩ B a σ h = .ok (.tup xs) h1) (hx : Nat.ble xs.length 1000000 = true)
    (tn : ∀ x l, x ∈ xs → lcTurn ⟨C, gl⟩ B own t cn e σ x (h1 ++ l) = .ok (f x) (h1 ++ l)) :
    ev ⟨C, gl⟩ B (.lc own t (.seq a) cn e) σ h = .ok (.ref (B ++ h1).length) (h1 ++ [.lst (xs.filterMap f)]) :=
  r_lc xs f (Nat.le_of_ble_eq_true hx) (it_seqT e1) rfl (fun _ _ => rfl) tn
end GB

end
section
set_option Elab.async false
set_option linter.all false
set_option maxRecDepth 100000
set_option maxHeartbeats 1000000
/-! GbL4: sameness. -/
namespace GB
open PySem PySem.Spec PyProof.Rows L2
theorem k_tt {α : Type} {b : Bool} {p q r : α} (h : b = true) (e : p = r) : cnd b p q = r := by rw [h]; exact e
theorem k_ff {α : Type} {b : Bool} {p q r : α} (h : b = false) (e : q = r) : cnd b p q = r := by rw [h]; exact e
local macro_rules | `(tactic| walk_at "gr") => `(tactic| repeat (first
  | with_reducible exact r_int | with_reducible exact r_bl | with_reducible exact r_non | with_reducible exact r_str | ((with_reducible apply r_var); exact rfl) | ((with_reducible apply r_glo); exact rfl) | with_reducible exact r_nil | with_reducible exact r_no | with_reducible exact q_nil | with_reducible exact q_retN | with_reducible exact q_pass | with_reducible exact q_brk | with_reducible exact q_cnt | with_reducible exact q_seqR
  | with_reducible apply q_nil2 | with_reducible apply q_seqR2 | ((with_reducible show Fl.ret _ _ = _); exact rfl) | ((with_reducible show Res.ok _ _ = _); exact rfl) | ((with_reducible show Fl.nx _ _ = _); exact rfl)
  | with_reducible apply q_seq | with_reducible apply q_cons | with_reducible apply q_set | with_reducible apply q_ret | with_reducible apply q_ite | with_reducible apply q_tset | with_reducible apply q_sub | with_reducible apply q_app | with_reducible apply q_ex
  | with_reducible apply r_cons | with_reducible apply r_star | with_reducible apply r_bin | with_reducible apply r_cmp | with_reducible apply r_ix | with_reducible apply r_bi | with_reducible apply r_call | with_reducible apply r_callk | with_reducible apply r_ife | with_reducible apply r_and | with_reducible apply r_or | with_reducible apply r_and1 | with_reducible apply r_or1 | with_reducible apply r_and2 | with_reducible apply r_or2
  | with_reducible apply r_tup | with_reducible apply r_lst | with_reducible apply r_neg | with_reducible apply r_not | with_reducible apply r_isi | with_reducible apply r_isis | with_reducible apply r_isN | with_reducible apply r_notN | with_reducible apply r_chain | with_reducible apply r_chain2 | with_reducible apply r_sl | with_reducible apply r_yes
  | with_reducible apply k_true | with_reducible apply k_false | ((with_reducible apply k_pos); omega) | ((with_reducible apply k_neg); omega) | ((with_reducible apply k_npos); omega) | ((with_reducible apply k_nneg); omega) | ((with_reducible apply k_tt); exact rfl) | ((with_reducible apply k_ff); exact rfl)
  | with_reducible exact l_add | with_reducible exact l_sub | ((with_reducible apply l_mod); omega) | ((with_reducible apply l_fdiv) <;> omega) | ((with_reducible apply l_mull); omega) | ((with_reducible apply l_mulr); omega) | with_reducible exact l_mulr (b01 _) | ((with_reducible apply l_pow) <;> omega)
  | with_reducible exact l_eq | with_reducible exact l_ne | with_reducible exact l_lt | with_reducible exact l_le | with_reducible exact l_gt | with_reducible exact l_ge | with_reducible exact l_truB | with_reducible exact l_itT | with_reducible exact l_lenT | with_reducible exact l_abs | with_reducible exact l_int | with_reducible exact l_intb | with_reducible exact l_max2 | with_reducible exact l_min2 | with_reducible exact l_tupT
  | with_reducible assumption
  | with_reducible apply l_itR | with_reducible apply l_lenR | with_reducible apply l_tupR | with_reducible apply l_allR | ((with_reducible apply l_put); omega)
  | ((with_reducible apply l_set); first | omega | assumption) | ((with_reducible apply l_rd); omega)
  | ((with_reducible show atI _ _ = some _); first | assumption | exact at0 _ _ | exact at1 _ _ _ | exact at2 _ _ _ _)
  | ((with_reducible show setTg _ _ _ _ = _); exact rfl) | ((with_reducible show isTy _ _ _ = _); exact rfl) | ((with_reducible show isTys _ _ _ = _); exact rfl) | ((with_reducible show Nat.ble _ _ = true); exact rfl) | ((with_reducible show Option.map _ _ = some _); exact rfl) | ((with_reducible show tru _ _ = some _); exact rfl)))
def b_same (s : Nat) (q : Sms) : Sms := (.cons (.ite (.isis (.var 1) [.list, .tuple]) (.cons (.ite (.or (.cons (.cmp .ne (.isi (.var 0) .list) (.isi (.var 1) .list)) (.cons (.cmp .ne (.isi (.var 0) .tuple) (.isi (.var 1) .tuple)) .nil))) (.cons (.ret (.bl false)) .nil) .nil) (.cons (.ret (.and (.cons (.cmp .eq (.bi .len (.cons (.var 0) .nil)) (.bi .len (.cons (.var 1) .nil))) (.cons (.bi .all (.cons (.lc [2, 3] (.tp [2, 3]) (.zip (.var 0) (.var 1)) .no (.call s (.cons (.var 2) (.cons (.var 3) .nil)))) .nil)) .nil)))) .nil)) .nil) (.cons (.ite (.isi (.var 1) .dict) q .nil) (.cons (.ite (.or (.cons (.isN (.var 1)) (.cons (.isis (.var 1) [.bool, .str]) .nil))) (.cons (.ret (.and (.cons (.cmp .eq (.var 0) (.var 1)) (.cons (.cmp .eq (.isi (.var 0) .bool) (.isi (.var 1) .bool)) (.cons (.cmp .eq (.isN (.var 0)) (.isN (.var 1))) .nil))))) .nil) .nil) (.cons (.ret (.and (.cons (.isi (.var 0) .int) (.cons (.not (.isi (.var 0) .bool)) (.cons (.cmp .eq (.var 0) (.var 1)) .nil))))) .nil))))
def f_same (s : Nat) (q : Sms) : Fn := ⟨2, 5, true, b_same s q⟩
/-- data that can be told from other data, so deep at most -/
def fit : Nat → Vl → Bool
  | _, .non => true
  | _, .bl _ => true
  | _, .int _ => true
  | _, .str x => PyData.canLay0 (.str x)
  | 0, .tup _ => false
  | n + 1, .tup xs => Nat.ble xs.length 1000000 && xs.all (fit n)
  | _, .ref _ => false
theorem eq_bl (g : Hh) (a : Bool) : cop g .eq (.bl a) (.bl a) = some true := by cases a <;> rfl
theorem ne_bl (g : Hh) (a : Bool) : cop g .ne (.bl a) (.bl a) = some false := by cases a <;> rfl
theorem eq_str (g : Hh) (x : Str) (hx : PyData.canLay0 (.str x) = true) : cop g .eq (.str x) (.str x) = some true := by
  show eqV' g (.str x) (.str x) = _
  unfold eqV'
  simp only [toD, Option.bind_some]
  have : SeqAt.shaped (.str x) = true := by
    unfold SeqAt.shaped; rw [hx]; rfl
  rw [this]
  simp only [Bool.and_self, if_true]
  rw [SeqAt.eqv_refl _ hx]
section
variable {T : List Fn} {gl : List Vl} {s : Nat} {q : Sms}
theorem eq_int_self (g : Hh) (i : Int) : cop g .eq (.int i) (.int i) = some true := by rw [l_eq, decide_eq_true rfl]
theorem same_int {k : Nat} {B h : Hh} {i : Int} (hf : T[s]? = some (f_same s q)) : callF T gl (k + 1) s [.int i, .int i] B h = .ok (.bl true) h := by
  have key : excs ⟨callF T gl k, gl⟩ (B ++ h) (b_same s q) [some (.int i), some (.int i), none, none, none] [] = .ret (.bl (decide (i = i))) [] := by
    unfold b_same
    walk_at "gr"
  rw [decide_eq_true rfl] at key
  exact callP (h' := []) (f_same s q) hf rfl rfl rfl key
theorem same_non {k : Nat} {B h : Hh} (hf : T[s]? = some (f_same s q)) : callF T gl (k + 1) s [.non, .non] B h = .ok (.bl true) h := by
  have key : excs ⟨callF T gl k, gl⟩ (B ++ h) (b_same s q) [some .non, some .non, none, none, none] [] = .ret (.bl true) [] := by
    have e := fun g => (rfl : cop g .eq .non .non = some true)
    have e2 := fun g => eq_bl g false
    have e3 := fun g => eq_bl g true
    unfold b_same
    walk_at "gr"
    all_goals first | exact e _ | exact e2 _ | exact e3 _ | skip
    walk_at "gr"
    all_goals first | exact e _ | exact e2 _ | exact e3 _ | skip
    walk_at "gr"
    all_goals first | exact e _ | exact e2 _ | exact e3 _ | skip
    walk_at "gr"
  exact callP (h' := []) (f_same s q) hf rfl rfl rfl key
theorem same_bl {k : Nat} {B h : Hh} {b : Bool} (hf : T[s]? = some (f_same s q)) : callF T gl (k + 1) s [.bl b, .bl b] B h = .ok (.bl true) h := by
  have key : excs ⟨callF T gl k, gl⟩ (B ++ h) (b_same s q) [some (.bl b), some (.bl b), none, none, none] [] = .ret (.bl true) [] := by
    unfold b_same
    walk_at "gr"
    all_goals first | exact eq_bl _ _ | skip
    walk_at "gr"
    all_goals first | exact eq_bl _ _ | skip
    walk_at "gr"
    all_goals first | exact eq_bl _ _ | skip
    walk_at "gr"
  exact callP (h' := []) (f_same s q) hf rfl rfl rfl key
theorem same_str {k : Nat} {B h : Hh} {x : Str} (hf : T[s]? = some (f_same s q)) (hx : PyData.canLay0 (.str x) = true) : callF T gl (k + 1) s [.str x, .str x] B h = .ok (.bl true) h := by
  have key : excs ⟨callF T gl k, gl⟩ (B ++ h) (b_same s q) [some (.str x), some (.str x), none, none, none] [] = .ret (.bl true) [] := by
    unfold b_same
    walk_at "gr"
    all_goals first | exact eq_str _ _ hx | exact eq_bl _ _ | skip
    walk_at "gr"
    all_goals first | exact eq_bl _ _ | skip
    walk_at "gr"
    all_goals first | exact eq_bl _ _ | skip
    walk_at "gr"
  exact callP (h' := []) (f_same s q) hf rfl rfl rfl key
end
end GB

end
section
set_option Elab.async false
set_option linter.all false
set_option maxRecDepth 100000
set_option maxHeartbeats 1000000
/-! GbL5: sameness of tuples and lists. -/
namespace GB
open PySem PySem.Spec PyProof.Rows L2
theorem bls_true : ∀ n : Nat, blsOf (List.replicate n (Vl.bl true)) = some (List.replicate n true)
  | 0 => rfl
  | n + 1 => by rw [List.replicate_succ, blsOf, bls_true n]; rfl
theorem all_true (n : Nat) : (List.replicate n true).all id = true := by simp
theorem fm_true : ∀ xs : List Vl, ((xs.map fun x => Vl.tup [x, x]).filterMap fun _ => some (Vl.bl true)) = List.replicate xs.length (.bl true)
  | [] => rfl
  | x :: r => by show Vl.bl true :: List.filterMap _ _ = _; rw [fm_true r]; rfl
/-- the test of two rows of items, by a call on each pair -/
theorem same_rows {C : Nat → List Vl → Hh → Hh → Res Vl} {gl : List Vl} {s : Nat} {B : Hh} {a b : Vl} {xs : List Vl} (hx : xs.length ≤ 1000000)
    (ia : ∀ l, items (B ++ l) a = some xs) (ib : ∀ l, items (B ++ l) b = some xs) (he : evIt ⟨C, gl⟩ B (.zip (.var 0) (.var 1)) [some a, some b, none, none, none] [] = .ok (.zip a b) [])
    (hC : ∀ x ∈ xs, ∀ l, C s [x, x] B l = .ok (.bl true) l) :
    ev ⟨C, gl⟩ B (.bi .all (.cons (.lc [2, 3] (.tp [2, 3]) (.zip (.var 0) (.var 1)) .no (.call s (.cons (.var 2) (.cons (.var 3) .nil)))) .nil)) [some a, some b, none, none, none] [] = .ok (.bl true) ([] ++ [.lst (List.replicate xs.length (.bl true))]) := by
  have lc := r_lc (C := C) (gl := gl) (B := B) (own := [2, 3]) (t := .tp [2, 3]) (it := .zip (.var 0) (.var 1)) (cn := .no) (e := .call s (.cons (.var 2) (.cons (.var 3) .nil))) (σ := [some a, some b, none, none, none]) (h := []) (h1 := []) (w := .zip a b) (xs.map fun x => .tup [x, x]) (fun _ => some (.bl true)) (by simpa using hx) he
    (by simp only [Wk.most, ia, Option.getD_some, List.length_map])
    (fun i l => by
      rw [List.nil_append]
      simp only [Wk.at, ia, ib, Option.bind_some, Option.map_some, List.getElem?_map]
      cases xs[i]? <;> rfl)
    (fun x l hm => by
      obtain ⟨y, hy, rfl⟩ := List.mem_map.mp hm
      exact lcT_yes rfl (r_call (r_cons (r_var rfl) (r_cons (r_var rfl) r_nil)) (hC y hy _)))
  have fm : ((xs.map fun x => Vl.tup [x, x]).filterMap fun _ => some (Vl.bl true)) = List.replicate xs.length (.bl true) := by
    exact fm_true xs
  rw [fm] at lc
  refine r_bi (r_cons lc r_nil) ?_
  have := l_allR (B := B) (h := [] ++ [.lst (List.replicate xs.length (.bl true))]) (n := (B ++ []).length) (o := .lst (List.replicate xs.length (.bl true))) (bs := List.replicate xs.length true) (by simp) (bls_true _)
  rw [all_true] at this
  exact this
section
variable {T : List Fn} {gl : List Vl} {s : Nat} {q : Sms}
theorem same_tup {k : Nat} {B h : Hh} {xs : List Vl} (hf : T[s]? = some (f_same s q)) (hx : xs.length ≤ 1000000) (hC : ∀ x ∈ xs, ∀ B l, callF T gl k s [x, x] B l = .ok (.bl true) l) : callF T gl (k + 1) s [.tup xs, .tup xs] B h = .ok (.bl true) h := by
  have rows := same_rows (C := callF T gl k) (gl := gl) (s := s) (B := B ++ h) (a := .tup xs) (b := .tup xs) hx (fun _ => rfl) (fun _ => rfl) (by rw [evIt, r_var rfl, Res.bind_ok, r_var rfl]; rfl) (fun x m l => hC x m _ l)
  refine callP (f_same s q) hf rfl rfl rfl (q_cons (q_ite (t := true) (r_isis (r_var rfl) rfl) rfl (k_true (q_cons (q_ite (t := false) (r_or (r_or2 (t := false) (r_cmp (r_isi (r_var rfl) rfl) (r_isi (r_var rfl) rfl) rfl) rfl (k_false (r_or1 (r_cmp (r_isi (r_var rfl) rfl) (r_isi (r_var rfl) rfl) rfl))))) rfl (k_false q_nil))
    (q_seq (q_cons (q_ret (r_and (r_and2 (t := true) (r_cmp (t := true) (r_bi (r_cons (r_var rfl) r_nil) l_lenT) (r_bi (r_cons (r_var rfl) r_nil) l_lenT) (eq_int_self _ _)) rfl (k_true (r_and1 rows))))) q_seqR))))) q_seqR)
theorem same_lst {k : Nat} {B h : Hh} {m n : Nat} {o p : Ob} (hf : T[s]? = some (f_same s q)) (em : (B ++ h)[m]? = some o) (en : (B ++ h)[n]? = some p) (eo : o.items = p.items) (hx : o.items.length ≤ 1000000) (hC : ∀ x ∈ o.items, ∀ B l, callF T gl k s [x, x] B l = .ok (.bl true) l) : callF T gl (k + 1) s [.ref m, .ref n] B h = .ok (.bl true) h := by
  have em' : ∀ l, (B ++ h ++ l)[m]? = some o := fun l => by rw [List.getElem?_append_left (List.getElem?_eq_some_iff.mp em).1]; exact em
  have en' : ∀ l, (B ++ h ++ l)[n]? = some p := fun l => by rw [List.getElem?_append_left (List.getElem?_eq_some_iff.mp en).1]; exact en
  have rows := same_rows (C := callF T gl k) (gl := gl) (s := s) (B := B ++ h) (a := .ref m) (b := .ref n) hx (fun l => by rw [items_ref, em' l]; rfl) (fun l => by rw [items_ref, en' l, eo]; rfl) (by rw [evIt, r_var rfl, Res.bind_ok, r_var rfl, Res.bind_ok]; simp only; rw [em', en']) (fun x m l => hC x m _ l)
  have tl : ∀ l, isTy (B ++ h ++ l) .list (.ref m) = some true := fun l => by show ((B ++ h ++ l)[m]?).map _ = _; rw [em']; rfl
  have tl2 : ∀ l, isTy (B ++ h ++ l) .list (.ref n) = some true := fun l => by show ((B ++ h ++ l)[n]?).map _ = _; rw [en']; rfl
  have tt : ∀ l, isTy (B ++ h ++ l) .tuple (.ref m) = some false := fun l => by show ((B ++ h ++ l)[m]?).map _ = _; rw [em']; rfl
  have tt2 : ∀ l, isTy (B ++ h ++ l) .tuple (.ref n) = some false := fun l => by show ((B ++ h ++ l)[n]?).map _ = _; rw [en']; rfl
  have ts : ∀ l, isTys (B ++ h ++ l) (.ref n) [.list, .tuple] = some true := fun l => by rw [isTys, tl2]; rfl
  have ln : bi (B ++ h) [] .len [.ref n] = .ok (.int o.items.length) [] := by rw [eo]; exact l_lenR (en' [])
  refine callP (f_same s q) hf rfl rfl rfl (q_cons (q_ite (t := true) (r_isis (r_var rfl) (ts _)) rfl (k_true (q_cons (q_ite (t := false) (r_or (r_or2 (t := false) (r_cmp (r_isi (r_var rfl) (tl _)) (r_isi (r_var rfl) (tl2 _)) rfl) rfl (k_false (r_or1 (r_cmp (r_isi (r_var rfl) (tt _)) (r_isi (r_var rfl) (tt2 _)) rfl))))) rfl (k_false q_nil))
    (q_seq (q_cons (q_ret (r_and (r_and2 (t := true) (r_cmp (t := true) (r_bi (r_cons (r_var rfl) r_nil) (l_lenR (em' []))) (r_bi (r_cons (r_var rfl) r_nil) ln) (eq_int_self _ _)) rfl (k_true (r_and1 rows))))) q_seqR))))) q_seqR)
theorem same_fit (hf : T[s]? = some (f_same s q)) : ∀ (n k : Nat) (v : Vl), fit n v = true → n < k → ∀ B h, callF T gl k s [v, v] B h = .ok (.bl true) h := by
  intro n
  induction n with
  | zero =>
    intro k v hv hk B h
    obtain ⟨k, rfl⟩ : ∃ j, k = j + 1 := ⟨k - 1, by omega⟩
    cases v with
    | non => exact same_non hf
    | bl b => exact same_bl hf
    | int i => exact same_int hf
    | str x => exact same_str hf (by simpa [fit] using hv)
    | tup xs => simp [fit] at hv
    | ref n => simp [fit] at hv
  | succ n ih =>
    intro k v hv hk B h
    obtain ⟨k, rfl⟩ : ∃ j, k = j + 1 := ⟨k - 1, by omega⟩
    cases v with
    | non => exact same_non hf
    | bl b => exact same_bl hf
    | int i => exact same_int hf
    | str x => exact same_str hf (by simpa [fit] using hv)
    | tup xs =>
      simp only [fit, Bool.and_eq_true, List.all_eq_true] at hv
      exact same_tup hf (Nat.le_of_ble_eq_true hv.1) fun x m B l => ih k x (hv.2 x m) (by omega) B l
    | ref n => simp [fit] at hv
/-- two lists of the same data -/
theorem same_lists {n k : Nat} {B h : Hh} {i j : Nat} {o p : Ob} (hf : T[s]? = some (f_same s q)) (em : (B ++ h)[i]? = some o) (en : (B ++ h)[j]? = some p) (eo : o.items = p.items) (hx : o.items.length ≤ 1000000) (hv : ∀ x ∈ o.items, fit n x = true) (hk : n < k) : callF T gl (k + 1) s [.ref i, .ref j] B h = .ok (.bl true) h :=
  same_lst hf em en eo hx fun x m B l => same_fit hf n k x (hv x m) hk B l
end
end GB

end
section
set_option Elab.async false
set_option linter.all false
set_option maxRecDepth 100000
set_option maxHeartbeats 1000000
/-! GbL6: the frame of a law. -/
namespace GB
open PySem PySem.Spec PyProof.Rows L2
def b_law (hr ce ri bo : Nat) (most : Int) : Sms := (.cons (.ite (.not (.call hr .nil)) (.cons (.ret (.bl false)) .nil) .nil) (.cons (.set 1 (.call ce (.cons (.var 0) (.cons (.int most) .nil)))) (.cons (.ret (.bi .all (.cons (.lc [2] (.nm 2) (.range1 (.bi .len (.cons (.var 1) .nil))) .no (.call ri (.cons (.call bo (.cons (.var 1) (.cons (.var 2) .nil))) .nil))) .nil))) .nil)))
def f_law (hr ce ri bo : Nat) (most : Int) : Fn := ⟨1, 3, true, b_law hr ce ri bo most⟩
/-- all but one place is as it was; more may stand behind -/
structure Kept (B h h' : Hh) (n : Nat) : Prop where
  len : h.length ≤ h'.length
  at_ : ∀ i, i < h.length → i ≠ n - B.length → h'[i]? = h[i]?
theorem Kept.refl {B h : Hh} {n : Nat} : Kept B h h n := ⟨Nat.le_refl _, fun _ _ _ => rfl⟩
theorem Kept.trans {B h h1 h2 : Hh} {n : Nat} (a : Kept B h h1 n) (b : Kept B h1 h2 n) : Kept B h h2 n :=
  ⟨Nat.le_trans a.len b.len, fun i hi hn => by rw [b.at_ i (Nat.lt_of_lt_of_le hi a.len) hn, a.at_ i hi hn]⟩
theorem Kept.of_drew {B h h' : Hh} {n : Nat} (d : Drew B h h' n) : Kept B h h' n := by
  obtain ⟨o, rfl⟩ := d
  exact ⟨by simp, fun i hi hn => by rw [List.getElem?_set_ne (by omega)]⟩
theorem Kept.more {B h : Hh} {n : Nat} (l : Hh) : Kept B h (h ++ l) n := ⟨by simp, fun i hi _ => List.getElem?_append_left hi⟩
theorem Tin.more {B h : Hh} {n b : Nat} (t : Tin B h n b) (l : Hh) : Tin B (h ++ l) n b := by
  obtain ⟨lo, lt, g, m, c, e, r⟩ := t
  exact ⟨lo, by simp; omega, g, m, c, by rw [List.getElem?_append_left lt]; exact e, r⟩
theorem Tin.less {B h : Hh} {n b b' : Nat} (t : Tin B h n b) (hb : b' ≤ b) : Tin B h n b' := by
  obtain ⟨lo, lt, g, m, c, e, g0, c0, c1⟩ := t
  exact ⟨lo, lt, g, m, c, e, g0, c0, by omega⟩
theorem law_frame {T : List Fn} {gl : List Vl} {k f hr ce ri bo bud : Nat} {most : Nat} {u : Int} {ns : List Int} (hf : T[f]? = some (f_law hr ce ri bo (most : Int))) (h1 : 1 ≤ most) (h2 : most ≤ 100) (hn : ns.length ≤ 63)
    (hh : ∀ B h : Hh, 0 < (B ++ h).length → callF T gl (k + 1) hr [] B h = .ok (.bl true) h) (hc : T[ce]? = some f_cells) (hb : T[bo]? = some (f_box u)) (hbud : bud < 2 ^ 59)
    (hri : ∀ B h n, Tin B h n bud → ∃ h', callF T gl (k + 1) ri [.ref n] B h = .ok (.bl true) h' ∧ Kept B h h' n) :
    ∃ h, callF T gl (k + 2) f [.ref 0] [] [.fz (ns.map Vl.int)] = .ok (.bl true) h := by
  let B : Hh := [] ++ [.fz (ns.map Vl.int)]
  obtain ⟨cs, c1, c2, hcs⟩ := cells_ok (T := T) (gl := gl) (k := k) (f := ce) (B := B) (h := []) (n := 0) (most := most) (ns := ns) hc rfl h1 h2 hn
  have s1 : exc1 ⟨callF T gl (k + 1), gl⟩ B (.ite (.not (.call hr .nil)) (.cons (.ret (.bl false)) .nil) .nil) [some (.ref 0), none, none] [] = .nx [some (.ref 0), none, none] [] :=
    q_ite (t := false) (r_not (t := true) (r_call r_nil (hh B [] (by simp [B]))) rfl) rfl (k_false q_nil)
  have s2 : exc1 ⟨callF T gl (k + 1), gl⟩ B (.set 1 (.call ce (.cons (.var 0) (.cons (.int (most : Int)) .nil)))) [some (.ref 0), none, none] [] = .nx [some (.ref 0), some (.ref 1), none] [.lst (cs.map Vl.int)] :=
    q_set (r_call (r_cons (r_var rfl) (r_cons r_int r_nil)) hcs)
  have lenE : ev ⟨callF T gl (k + 1), gl⟩ B (.bi .len (.cons (.var 1) .nil)) [some (.ref 0), some (.ref 1), none] [.lst (cs.map Vl.int)] = .ok (.int cs.length) [.lst (cs.map Vl.int)] := by
    have := r_bi (C := callF T gl (k + 1)) (gl := gl) (B := B) (σ := [some (.ref 0), some (.ref 1), none]) (h := [.lst (cs.map Vl.int)]) (r_cons (r_var (k := 1) rfl) r_nil) (l_lenR (n := 1) (o := .lst (cs.map Vl.int)) rfl)
    simpa [Ob.items] using this
  have itE : evIt ⟨callF T gl (k + 1), gl⟩ B (.range1 (.bi .len (.cons (.var 1) .nil))) [some (.ref 0), some (.ref 1), none] [.lst (cs.map Vl.int)] = .ok (.rng 0 cs.length) [.lst (cs.map Vl.int)] := by
    rw [x_range1, lenE, Res.bind_ok, intR_int, cnd_pos (by omega)]
    simp
  have lc : ∃ acc h', ev ⟨callF T gl (k + 1), gl⟩ B (.lc [2] (.nm 2) (.range1 (.bi .len (.cons (.var 1) .nil))) .no (.call ri (.cons (.call bo (.cons (.var 1) (.cons (.var 2) .nil))) .nil))) [some (.ref 0), some (.ref 1), none] [.lst (cs.map Vl.int)] = .ok (.ref 2) h' ∧ h'[1]? = some (.lst acc) ∧ ∃ m, acc = List.replicate m (.bl true) := by
    rw [x_lc, itE, Res.bind_ok]
    obtain ⟨acc', h', q, r1, r2, r3⟩ := lc_gen (B := B) (D := 2) (w := .rng 0 cs.length) (turn := lcTurn ⟨callF T gl (k + 1), gl⟩ B [2] (.nm 2) .no (.call ri (.cons (.call bo (.cons (.var 1) (.cons (.var 2) .nil))) .nil)) [some (.ref 0), some (.ref 1), none])
      ((List.range cs.length).map fun i => .int (i : Nat)) (by simp [B]) (by simp; omega)
      (fun i acc g => acc = List.replicate i (.bl true) ∧ g[0]? = some (.lst (cs.map Vl.int)) ∧ g[1]? = some (.lst acc))
      (by
        rintro i acc g ⟨rfl, g0, g1⟩
        refine ⟨by simp, ?_⟩
        simp only [Wk.at]
        by_cases hi : i < cs.length
        · rw [if_pos hi]; simp [hi]
        · rw [if_neg hi, List.getElem?_eq_none (by simp; omega)])
      (by
        rintro i x acc g ⟨rfl, g0, g1⟩ hx
        have hi : i < cs.length := by have := (List.getElem?_eq_some_iff.mp hx).1; simpa using this
        have hxe : x = .int (i : Nat) := by
          have := (List.getElem?_eq_some_iff.mp hx).2; simpa using this.symm
        subst hxe
        obtain ⟨gr, m, eb, hg⟩ := box_ok (T := T) (gl := gl) (k := k) (f := bo) (B := B) (h := g) (n := 1) (i := i) (u := u) (cs := cs) hb (by rw [rd_own (by simp [B])]; exact g0) hi
        have hl1 : 1 < g.length := (List.getElem?_eq_some_iff.mp g1).1
        obtain ⟨h', er, kp⟩ := hri B (g ++ [.lst [.int gr, .int m, .int 0]]) (B ++ g).length ⟨by simp, by simp, gr, m, 0, by simp, hg, by omega, by omega⟩
        refine .inr ⟨.bl true, h', lcT_yes rfl (r_call (r_cons (r_call (r_cons (r_var rfl) (r_cons (r_var rfl) r_nil)) eb) r_nil) er), ?_, ?_, ?_, ?_⟩
        · show h'[1]? = _
          rw [kp.at_ 1 (by simp; omega) (by simp; omega), List.getElem?_append_left hl1]; exact g1
        · rw [List.replicate_succ']
        · show (h'.set 1 _)[0]? = _
          rw [List.getElem?_set_ne (by omega), kp.at_ 0 (by simp) (by simp; omega), List.getElem?_append_left (by omega)]; exact g0
        · show (h'.set 1 _)[1]? = _
          have := kp.len
          rw [List.getElem?_set_self (by simp at this; omega)])
      cs.length 0 [] [.lst (cs.map Vl.int), .lst []] (by simp) ⟨rfl, rfl, rfl⟩
    exact ⟨acc', h', q, r3, _, r1⟩
  obtain ⟨acc, h', q, qa, m, rfl⟩ := lc
  have fin : ev ⟨callF T gl (k + 1), gl⟩ B (.bi .all (.cons (.lc [2] (.nm 2) (.range1 (.bi .len (.cons (.var 1) .nil))) .no (.call ri (.cons (.call bo (.cons (.var 1) (.cons (.var 2) .nil))) .nil))) .nil)) [some (.ref 0), some (.ref 1), none] [.lst (cs.map Vl.int)] = .ok (.bl true) h' := by
    have := l_allR (B := B) (h := h') (n := 2) (o := .lst (List.replicate m (.bl true))) (bs := List.replicate m true) (by rw [rd_own (by simp [B])]; exact qa) (bls_true _)
    rw [all_true] at this
    exact r_bi (r_cons q r_nil) this
  exact ⟨_, callP (f_law hr ce ri bo (most : Int)) hf rfl rfl rfl (q_cons s1 (q_seq (q_cons s2 (q_seq (q_cons (q_ret fin) q_seqR)))))⟩
end GB

end
section
set_option Elab.async false
set_option linter.all false
set_option maxRecDepth 100000
/-! GbV1: the same Python by values alone: a list is a value; the drawn numbers are a state. -/
namespace GB
open PySem PySem.Spec PyProof.Rows L2

inductive Vv where
  | non | bl (b : Bool) | int (i : Int) | str (x : Str) | tup (xs : List Vv) | lst (xs : List Vv) | tin

/-- the tin of draws -/
structure Ts where
  g : Int
  m : Int
  c : Int

structure Xv where
  cls : Nat
  fs : List Vv

inductive Rv (α : Type) where
  | ok (a : α) (t : Ts) | exc (x : Xv) (t : Ts) | bad

def Rv.bind {α β : Type} (r : Rv α) (k : α → Ts → Rv β) : Rv β :=
  match r with
  | .ok a t => k a t
  | .exc x t => .exc x t
  | .bad => .bad

abbrev Es := List (Option Vv)

inductive Fv where
  | nx (σ : Es) (t : Ts) | ret (v : Vv) (t : Ts) | brk (σ : Es) (t : Ts) | cnt (σ : Es) (t : Ts) | exc (x : Xv) (σ : Es) (t : Ts) | bad

def Rv.fl {α : Type} (r : Rv α) (σ : Es) (k : α → Ts → Fv) : Fv :=
  match r with
  | .ok a t => k a t
  | .exc x t => .exc x σ t
  | .bad => .bad

mutual
def Vv.plain : Vv → Bool
  | .tup xs => Vv.plains xs
  | .lst _ => false
  | .tin => false
  | _ => true
def Vv.plains : List Vv → Bool
  | [] => true
  | x :: xs => Vv.plain x && Vv.plains xs
end
def itemsV : Vv → Option (List Vv)
  | .tup xs => some xs
  | .lst xs => some xs
  | _ => none
def lstV : Vv → Option (List Vv)
  | .lst xs => some xs
  | _ => none
def toDVs (f : Vv → Option PyData) : List Vv → Option (List PyData)
  | [] => some []
  | x :: xs => (f x).bind fun d => (toDVs f xs).map fun ds => d :: ds
def toDV : Nat → Vv → Option PyData
  | 0, _ => none
  | n + 1, v => match v with
    | .non => some .none
    | .bl b => some (.bool b)
    | .int i => some (.int i)
    | .str x => some (.str x)
    | .tup xs => (toDVs (toDV n) xs).map .tuple
    | .lst xs => (toDVs (toDV n) xs).map .list
    | .tin => none
def eqW (v w : Vv) : Option Bool :=
  (toDV 12 v).bind fun d => (toDV 12 w).bind fun e => if SeqAt.shaped d && SeqAt.shaped e then some (PyData.eqv d e) else none
def truV : Vv → Option Bool
  | .non => some false
  | .bl b => some b
  | .int i => some (i != 0)
  | .str x => if x.length ≤ sizeLine then some ((x.length : Int) != 0) else none
  | .tup xs => some (!xs.isEmpty)
  | .lst xs => some (!xs.isEmpty)
  | .tin => none
def Rv.of {α : Type} (o : Option α) (t : Ts) : Rv α := match o with
  | some a => .ok a t
  | none => .bad
def bopV : Bop → Vv → Vv → Option Vv
  | op, .int i, .int j => (bopI op i j).map .int
  | .add, .lst xs, .lst ys => if xs.length + ys.length ≤ sizeLine then some (.lst (xs ++ ys)) else none
  | .mul, .lst xs, .int k => if -(2 ^ 63) ≤ k ∧ k < 2 ^ 63 ∧ xs.length * k.toNat ≤ sizeLine then some (.lst (List.replicate k.toNat xs).flatten) else none
  | .add, .tup xs, .tup ys => if xs.isEmpty then none else if xs.length + ys.length ≤ sizeLine then some (.tup (xs ++ ys)) else none
  | _, _, _ => none
def copV : Cop → Vv → Vv → Option Bool
  | op, .int i, .int j => some (copI op i j)
  | .eq, v, w => eqW v w
  | .ne, v, w => (eqW v w).map (!·)
  | _, _, _ => none
def isTyV : Ty → Vv → Option Bool
  | .int, .int _ => some true
  | .int, .bl _ => some true
  | .bool, .bl _ => some true
  | .str, .str _ => some true
  | .tuple, .tup _ => some true
  | .list, .lst _ => some true
  | _, .tin => none
  | _, _ => some false
def isTysV (v : Vv) : List Ty → Option Bool
  | [] => some false
  | t :: ts => (isTyV t v).bind fun b => if b then some true else isTysV v ts
def intsV : List Vv → Option (List Int)
  | [] => some []
  | .int i :: r => (intsV r).map fun is => i :: is
  | _ :: _ => none
def blsV : List Vv → Option (List Bool)
  | [] => some []
  | .bl b :: r => (blsV r).map fun bs => b :: bs
  | _ :: _ => none
def biV1 : Bi → Vv → Option Vv
  | .len, .str x => if x.length ≤ sizeLine then some (.int x.length) else none
  | .len, v => (itemsV v).map fun xs => .int xs.length
  | .abs, .int i => some (.int (if i < 0 then -i else i))
  | .int, .int i => some (.int i)
  | .int, .bl k => some (.int (if k then 1 else 0))
  | .sum, v => ((itemsV v).bind intsV).map fun ns => .int ns.sum
  | .maxl, v => ((lstV v).bind intsV).bind fun ns => match ns with
    | n :: ns => some (.int (maxI n ns))
    | [] => none
  | .minl, v => ((lstV v).bind intsV).bind fun ns => match ns with
    | n :: ns => some (.int (minI n ns))
    | [] => none
  | .all, v => ((lstV v).bind blsV).map fun bs => .bl (bs.all id)
  | .any, v => ((lstV v).bind blsV).map fun bs => .bl (bs.any id)
  | .tuple, v => (itemsV v).map .tup
  | .list, v => (itemsV v).map .lst
  | _, _ => none
def biV2 : Bi → Vv → Vv → Option Vv
  | .max2, .int i, .int j => some (.int (if j > i then j else i))
  | .min2, .int i, .int j => some (.int (if j < i then j else i))
  | _, _, _ => none
def biV (b : Bi) (xs : List Vv) : Option Vv := match xs with
  | [x] => biV1 b x
  | [x, y] => biV2 b x y
  | _ => none
def ixW : Vv → Vv → Option Vv
  | v, .int i => (itemsV v).bind fun xs => atI xs i
  | _, _ => none
def cutV (xs : List Vv) (lo hi : Option Int) : List Vv := (xs.drop (HT.sIx xs.length 0 lo)).take (HT.sIx xs.length xs.length hi - HT.sIx xs.length 0 lo)
def slW : Vv → Option Int → Option Int → Option Vv
  | .tup xs, lo, hi => some (.tup (cutV xs lo hi))
  | .lst xs, lo, hi => some (.lst (cutV xs lo hi))
  | _, _, _ => none
def setAll : List Nat → List Vv → Es → Option Es
  | [], [], σ => some σ
  | i :: is, x :: xs, σ => setAll is xs (σ.set i (some x))
  | _, _, _ => none
def setTgV : Tg → Vv → Es → Option Es
  | .nm i, v, σ => some (σ.set i (some v))
  | .tp is, v, σ => (itemsV v).bind fun xs => setAll is xs σ
def wipeV (σ : Es) : List Nat → Es
  | [] => σ
  | v :: vs => (wipeV σ vs).set v none
def rngL (lo : Int) : Nat → List Vv
  | 0 => []
  | n + 1 => .int lo :: rngL (lo + 1) n
def zipL : List Vv → List Vv → List Vv
  | x :: xs, y :: ys => .tup [x, y] :: zipL xs ys
  | _, _ => []
def enumL (k : Nat) : List Vv → List Vv
  | [] => []
  | x :: xs => .tup [.int k, x] :: enumL (k + 1) xs
def lcV (turn : Vv → Ts → Rv (Option Vv)) : List Vv → Ts → Rv (List Vv)
  | [], t => .ok [] t
  | x :: xs, t => (turn x t).bind fun o t1 => (lcV turn xs t1).bind fun r t2 => .ok (match o with | none => r | some y => y :: r) t2
def forV (turn : Vv → Es → Ts → Fv) : List Vv → Es → Ts → Fv
  | [], σ, t => .nx σ t
  | x :: xs, σ, t => match turn x σ t with
    | .nx σ1 t1 => forV turn xs σ1 t1
    | .cnt σ1 t1 => forV turn xs σ1 t1
    | .brk σ1 t1 => .nx σ1 t1
    | r => r
def whlV (c : Es → Ts → Rv Bool) (b : Es → Ts → Fv) : Nat → Es → Ts → Fv
  | m, σ, t => (c σ t).fl σ fun k t1 => if k then (match m with
      | 0 => .bad
      | m + 1 => match b σ t1 with
        | .nx σ1 t2 => whlV c b m σ1 t2
        | .cnt σ1 t2 => whlV c b m σ1 t2
        | .brk σ1 t2 => .nx σ1 t2
        | r => r) else .nx σ t1
def gasN : Nat := 1000000000000000000000000000000

structure Cv where
  C : Nat → List Vv → Ts → Rv Vv
  gl : List Vv

def permV (perm : List Nat) (xs : List Vv) : List Vv := perm.filterMap fun i => xs[i]?
def toBV (v : Vv) (t : Ts) : Rv Bool := Rv.of (truV v) t
def intV (v : Vv) (t : Ts) : Rv Int := match v with
  | .int i => .ok i t
  | _ => .bad
def varV (o : Option (Option Vv)) (t : Ts) : Rv Vv := match o with
  | some (some v) => .ok v t
  | _ => .bad
def noneV : Vv → Bool
  | .non => true
  | _ => false
mutual
def vv (c : Cv) : Ex → Es → Ts → Rv Vv
  | .var i, σ, t => varV (σ[i]?) t
  | .int i, _, t => .ok (.int i) t
  | .bl b, _, t => .ok (.bl b) t
  | .non, _, t => .ok .non t
  | .str x, _, t => .ok (.str x) t
  | .glo k, _, t => Rv.of (c.gl[k]?) t
  | .bin op a b, σ, t => (vv c a σ t).bind fun x t1 => (vv c b σ t1).bind fun y t2 => Rv.of (bopV op x y) t2
  | .neg a, σ, t => (vv c a σ t).bind fun x t1 => (intV x t1).bind fun i t2 => .ok (.int (-i)) t2
  | .not a, σ, t => ((vv c a σ t).bind toBV).bind fun b t1 => .ok (.bl (!b)) t1
  | .cmp op a b, σ, t => (vv c a σ t).bind fun x t1 => (vv c b σ t1).bind fun y t2 => (Rv.of (copV op x y) t2).bind fun k t3 => .ok (.bl k) t3
  | .chain o p a b d, σ, t => (vv c a σ t).bind fun x t1 => (vv c b σ t1).bind fun y t2 => (Rv.of (copV o x y) t2).bind fun k t3 =>
      if k then (vv c d σ t3).bind fun z t4 => (Rv.of (copV p y z) t4).bind fun k t5 => .ok (.bl k) t5 else .ok (.bl false) t3
  | .isN a, σ, t => (vv c a σ t).bind fun x t1 => .ok (.bl (noneV x)) t1
  | .notN a, σ, t => (vv c a σ t).bind fun x t1 => .ok (.bl (!noneV x)) t1
  | .and es, σ, t => vvAnd c es σ t
  | .or es, σ, t => vvOr c es σ t
  | .ife d a b, σ, t => ((vv c d σ t).bind toBV).bind fun k t1 => if k then vv c a σ t1 else vv c b σ t1
  | .tup es, σ, t => (vvs c es σ t).bind fun xs t1 => if xs.length ≤ sizeLine then .ok (.tup xs) t1 else .bad
  | .lst es, σ, t => (vvs c es σ t).bind fun xs t1 => if xs.length ≤ sizeLine then .ok (.lst xs) t1 else .bad
  | .call f es, σ, t => (vvs c es σ t).bind fun xs t1 => c.C f xs t1
  | .callk f es _ kes perm, σ, t => (vvs c es σ t).bind fun xs t1 => (vvs c kes σ t1).bind fun ys t2 => c.C f (permV perm (xs ++ ys)) t2
  | .bi b es, σ, t => (vvs c es σ t).bind fun xs t1 => Rv.of (biV b xs) t1
  | .isi a ty, σ, t => (vv c a σ t).bind fun x t1 => (Rv.of (isTyV ty x) t1).bind fun k t2 => .ok (.bl k) t2
  | .isis a ts, σ, t => (vv c a σ t).bind fun x t1 => (Rv.of (isTysV x ts) t1).bind fun k t2 => .ok (.bl k) t2
  | .ix a i, σ, t => (vv c a σ t).bind fun x t1 => (vv c i σ t1).bind fun y t2 => Rv.of (ixW x y) t2
  | .sl a lo hi, σ, t => (vv c a σ t).bind fun x t1 => (vvPt c lo σ t1).bind fun l t2 => (vvPt c hi σ t2).bind fun u t3 => Rv.of (slW x l u) t3
  | .lc own tg it cn e, σ, t => (vvIt c it σ t).bind fun ws t1 => if ws.length ≤ sizeLine then
      (lcV (fun x t2 => (Rv.of (setTgV tg x (wipeV σ own)) t2).bind fun σ2 t3 => (vvCn c cn σ2 t3).bind fun k t4 =>
        if k then (vv c e σ2 t4).bind fun y t5 => .ok (some y) t5 else .ok none t4) ws t1).bind fun r t6 => .ok (.lst r) t6 else .bad
def vvAnd (c : Cv) : Exs → Es → Ts → Rv Vv
  | .nil, _, _ => .bad
  | .star _ _, _, _ => .bad
  | .cons e .nil, σ, t => vv c e σ t
  | .cons e es, σ, t => (vv c e σ t).bind fun v t1 => (toBV v t1).bind fun b t2 => if b then vvAnd c es σ t2 else .ok v t2
def vvOr (c : Cv) : Exs → Es → Ts → Rv Vv
  | .nil, _, _ => .bad
  | .star _ _, _, _ => .bad
  | .cons e .nil, σ, t => vv c e σ t
  | .cons e es, σ, t => (vv c e σ t).bind fun v t1 => (toBV v t1).bind fun b t2 => if b then .ok v t2 else vvOr c es σ t2
def vvs (c : Cv) : Exs → Es → Ts → Rv (List Vv)
  | .nil, _, t => .ok [] t
  | .cons e es, σ, t => (vv c e σ t).bind fun x t1 => (vvs c es σ t1).bind fun xs t2 => .ok (x :: xs) t2
  | .star e es, σ, t => (vv c e σ t).bind fun x t1 => (Rv.of (itemsV x) t1).bind fun xs t2 => (vvs c es σ t2).bind fun ys t3 => .ok (xs ++ ys) t3
def vvPt (c : Cv) : Pt → Es → Ts → Rv (Option Int)
  | .no, _, t => .ok none t
  | .yes e, σ, t => (vv c e σ t).bind fun x t1 => (intV x t1).bind fun i t2 => .ok (some i) t2
def vvCn (c : Cv) : Cn → Es → Ts → Rv Bool
  | .no, _, t => .ok true t
  | .yes e, σ, t => (vv c e σ t).bind toBV
def vvIt (c : Cv) : It → Es → Ts → Rv (List Vv)
  | .seq a, σ, t => (vv c a σ t).bind fun x t1 => Rv.of (itemsV x) t1
  | .range1 a, σ, t => (vv c a σ t).bind fun x t1 => (intV x t1).bind fun j t2 =>
      if -(2 ^ 62) ≤ j ∧ j < 2 ^ 62 then .ok (rngL 0 j.toNat) t2 else .bad
  | .range2 a b, σ, t => (vv c a σ t).bind fun x t1 => (vv c b σ t1).bind fun y t2 => (intV x t2).bind fun i t3 => (intV y t3).bind fun j t4 =>
      if -(2 ^ 62) ≤ i ∧ i < 2 ^ 62 ∧ -(2 ^ 62) ≤ j ∧ j < 2 ^ 62 then .ok (rngL i (j - i).toNat) t4 else .bad
  | .zip a b, σ, t => (vv c a σ t).bind fun x t1 => (vv c b σ t1).bind fun y t2 => match x, y with
    | .tup xs, .tup ys => .ok (zipL xs ys) t2
    | .lst xs, .lst ys => .ok (zipL xs ys) t2
    | _, _ => .bad
  | .enum a, σ, t => (vv c a σ t).bind fun x t1 => match x with
    | .lst xs => .ok (enumL 0 xs) t1
    | _ => .bad
end

/-! which slots an expression reads -/
mutual
def men (M : List Nat) : Ex → Bool
  | .var i => M.contains i
  | .int _ | .bl _ | .non | .str _ | .glo _ => false
  | .bin _ a b => men M a || men M b
  | .neg a | .not a | .isN a | .notN a | .isi a _ | .isis a _ => men M a
  | .cmp _ a b => men M a || men M b
  | .chain _ _ a b d => men M a || men M b || men M d
  | .and es | .or es | .tup es | .lst es | .call _ es | .bi _ es => menS M es
  | .callk _ es _ kes _ => menS M es || menS M kes
  | .ife d a b => men M d || men M a || men M b
  | .ix a i => men M a || men M i
  | .sl a lo hi => men M a || menP M lo || menP M hi
  | .lc _ _ it cn e => menI M it || menC M cn || men M e
def menS (M : List Nat) : Exs → Bool
  | .nil => false
  | .cons e es => men M e || menS M es
  | .star e es => men M e || menS M es
def menP (M : List Nat) : Pt → Bool
  | .no => false
  | .yes e => men M e
def menC (M : List Nat) : Cn → Bool
  | .no => false
  | .yes e => men M e
def menI (M : List Nat) : It → Bool
  | .seq a | .range1 a | .enum a => men M a
  | .range2 a b | .zip a b => men M a || men M b
end
/-- a list that comes of this is a new one -/
def fresh : Ex → Bool
  | .lst _ => true
  | .lc _ _ _ _ _ => true
  | .bi .list _ => true
  | .bin _ _ _ => true
  | .sl _ _ _ => true
  | _ => false
def keepOk (M : List Nat) (e : Ex) (v : Vv) : Bool := M.isEmpty || !men M e || v.plain || (fresh e && (match v with | .lst xs => Vv.plains xs | _ => false))
def setOk (M : List Nat) (i : Nat) (e : Ex) (v : Vv) : Bool :=
  M.isEmpty || (if M.contains i then fresh e && (match v with | .lst xs => !men M e || Vv.plains xs | _ => false) else keepOk M e v)
def rngIt : It → Bool
  | .range1 _ => true
  | .range2 _ _ => true
  | _ => false
def Tg.sl : Tg → List Nat
  | .nm i => [i]
  | .tp is => is
def apart (M is : List Nat) : Bool := M.isEmpty || is.all fun i => !M.contains i
/-- values for several slots, each looked at -/
def vvM (c : Cv) (M : List Nat) : List Nat → Exs → Es → Ts → Rv (List Vv)
  | [], .nil, _, t => .ok [] t
  | i :: is, .cons e es, σ, t => (vv c e σ t).bind fun x t1 => if setOk M i e x then (vvM c M is es σ t1).bind fun xs t2 => .ok (x :: xs) t2 else .bad
  | _, _, _, _ => .bad
def tupX : Ex → Exs
  | .tup es => es
  | _ => .star .non .nil
def slotX : Ex → Option Nat
  | .var i => some i
  | _ => none
def slotL (M : List Nat) (a : Ex) (σ : Es) : Option (Nat × List Vv) := (slotX a).bind fun j => if M.contains j then (match σ[j]? with
  | some (some (.lst xs)) => some (j, xs)
  | _ => none) else none
mutual
def xv (c : Cv) (M : List Nat) : Sm → Es → Ts → Fv
  | .pass, σ, t => .nx σ t
  | .brk, σ, t => .brk σ t
  | .cnt, σ, t => .cnt σ t
  | .ex e, σ, t => (vv c e σ t).fl σ fun _ t1 => .nx σ t1
  | .ret e, σ, t => (vv c e σ t).fl σ fun v t1 => .ret v t1
  | .retN, _, t => .ret .non t
  | .set i e, σ, t => (vv c e σ t).fl σ fun v t1 => if setOk M i e v then .nx (σ.set i (some v)) t1 else .bad
  | .tset is e, σ, t => if apart M is then (vv c e σ t).fl σ fun v t1 => if M.isEmpty || !men M e || v.plain then ((Rv.of (setTgV (.tp is) v σ) t1).fl σ fun σ1 t2 => .nx σ1 t2) else .bad
      else if sizeLine < is.length then .bad else (vvM c M is (tupX e) σ t).fl σ fun vs t1 => (Rv.of (setAll is vs σ) t1).fl σ fun σ1 t2 => .nx σ1 t2
  | .sub a i e, σ, t => (vv c e σ t).fl σ fun v t1 => match slotL M a σ with
    | some (j, xs) => (vv c i σ t1).fl σ fun y t2 => (intV y t2).fl σ fun k t3 => (match ixN xs.length k with
      | some p => if !men M e || v.plain then .nx (σ.set j (some (.lst (xs.set p v)))) t3 else .bad
      | none => .bad)
    | none => .bad
  | .app a e, σ, t => match slotL M a σ with
    | some (j, xs) => (vv c e σ t).fl σ fun v t1 => if xs.length < sizeLine && (!men M e || v.plain) then .nx (σ.set j (some (.lst (xs ++ [v])))) t1 else .bad
    | none => .bad
  | .ite d a b, σ, t => ((vv c d σ t).bind toBV).fl σ fun k t1 => if k then xvs c M a σ t1 else xvs c M b σ t1
  | .whl _ d b, σ, t => whlV (fun σ t => (vv c d σ t).bind toBV) (xvs c M b) gasN σ t
  | .for_ tg it b, σ, t => (vvIt c it σ t).fl σ fun ws t1 => if (M.isEmpty || !menI M it || rngIt it) && apart M tg.sl then
      forV (fun x σ2 t2 => (Rv.of (setTgV tg x σ2) t2).fl σ2 fun σ3 t3 => xvs c M b σ3 t3) ws σ t1 else .bad
  | .never, _, _ => .bad
def xvs (c : Cv) (M : List Nat) : Sms → Es → Ts → Fv
  | .nil, σ, t => .nx σ t
  | .cons s ss, σ, t => match xv c M s σ t with
    | .nx σ1 t1 => xvs c M ss σ1 t1
    | r => r
end
/-- a draw -/
def mixV (m c : Int) (top : Int) : Int :=
  let c1 := c + 1
  let once := ((m + 48271 * c1) * (39373 + c1)) % 2147483647
  let far := once % 40009 + 7
  let twice := ((once + c1 + m / 1000003) * far) % 2147483629
  ((twice * 48271 + once) % 2147483587 / 64) % top
def takeV (xs : List Vv) (t : Ts) : Rv Vv := match xs with
  | [.tin, .int top] => if 0 < top ∧ top < 2 ^ 200 ∧ 0 ≤ t.g ∧ 0 ≤ t.c ∧ t.c < 2 ^ 60 then
      (if 0 < t.g then .ok (.int (t.g % top)) ⟨t.g / top, t.m, t.c⟩ else .ok (.int (mixV t.m t.c top)) ⟨t.g, t.m, t.c + 1⟩) else .bad
  | _ => .bad
structure Fx where
  fn : Fn
  M : List Nat
  ok : Bool
def outOk : Vv → Bool
  | .lst xs => Vv.plains xs
  | v => v.plain
def startV (f : Fn) (xs : List Vv) : Es := xs.map some ++ List.replicate (f.nn - xs.length) none
def callV (T : List Fx) (gl : List Vv) (tk : Nat) : Nat → Bool → Nat → List Vv → Ts → Rv Vv
  | 0, _, _, _, _ => .bad
  | k + 1, dr, f, xs, t => if f = tk then (if dr then takeV xs t else .bad) else match T[f]? with
    | none => .bad
    | some fx => if xs.length = fx.fn.np ∧ fx.ok = true then
        (if fx.fn.pure then (match xvs ⟨callV T gl tk k false, gl⟩ fx.M fx.fn.body (startV fx.fn xs) t with
          | .ret v _ => if outOk v then .ok v t else .bad
          | .nx _ _ => .ok .non t
          | .exc x _ _ => if Vv.plains x.fs then .exc x t else .bad
          | _ => .bad)
        else if dr then (match xvs ⟨callV T gl tk k true, gl⟩ fx.M fx.fn.body (startV fx.fn xs) t with
          | .ret v t1 => .ok v t1
          | .nx _ t1 => .ok .non t1
          | .exc x _ t1 => .exc x t1
          | _ => .bad)
        else .bad) else .bad
end GB

end
section
set_option Elab.async false
set_option linter.all false
set_option maxRecDepth 100000
/-! GbV2: a value of the first evaluator beside one of the second. -/
namespace GB
open PySem PySem.Spec PyProof.Rows L2
mutual
inductive VR (n : Nat) (O : List Nat) (g : Hh) : Vl → Vv → Prop where
  | non : VR n O g .non .non
  | bl (b : Bool) : VR n O g (.bl b) (.bl b)
  | int (i : Int) : VR n O g (.int i) (.int i)
  | str (x : Str) : VR n O g (.str x) (.str x)
  | tup {xs : List Vl} {ys : List Vv} (h : VRs n O g xs ys) : VR n O g (.tup xs) (.tup ys)
  | lst {m : Nat} {xs : List Vl} {ys : List Vv} (h1 : g[m]? = some (.lst xs)) (h2 : m ∉ O) (h3 : m ≠ n) (h : VRs n O g xs ys) : VR n O g (.ref m) (.lst ys)
  | tin : VR n O g (.ref n) .tin
inductive VRs (n : Nat) (O : List Nat) (g : Hh) : List Vl → List Vv → Prop where
  | nil : VRs n O g [] []
  | cons {x : Vl} {y : Vv} {xs : List Vl} {ys : List Vv} (h : VR n O g x y) (hs : VRs n O g xs ys) : VRs n O g (x :: xs) (y :: ys)
end
mutual
theorem VR.map {n : Nat} {O O' : List Nat} {g g' : Hh} (f : ∀ m xs, g[m]? = some (.lst xs) → m ∉ O → m ≠ n → g'[m]? = some (.lst xs) ∧ m ∉ O') {v : Vl} {w : Vv} : VR n O g v w → VR n O' g' v w
  | .non => .non
  | .bl b => .bl b
  | .int i => .int i
  | .str x => .str x
  | .tup h => .tup (h.map f)
  | .lst h1 h2 h3 h => .lst (f _ _ h1 h2 h3).1 (f _ _ h1 h2 h3).2 h3 (h.map f)
  | .tin => .tin
theorem VRs.map {n : Nat} {O O' : List Nat} {g g' : Hh} (f : ∀ m xs, g[m]? = some (.lst xs) → m ∉ O → m ≠ n → g'[m]? = some (.lst xs) ∧ m ∉ O') {v : List Vl} {w : List Vv} : VRs n O g v w → VRs n O' g' v w
  | .nil => .nil
  | .cons h hs => .cons (h.map f) (hs.map f)
end
/-- what stands outside O stays -/
def Kq (O : List Nat) (n : Nat) (g g' : Hh) : Prop := g.length ≤ g'.length ∧ ∀ i, i < g.length → i ∉ O → i ≠ n → g'[i]? = g[i]?
theorem Kq.refl {O : List Nat} {n : Nat} {g : Hh} : Kq O n g g := ⟨Nat.le_refl _, fun _ _ _ _ => rfl⟩
theorem Kq.trans {O : List Nat} {n : Nat} {g g1 g2 : Hh} (a : Kq O n g g1) (b : Kq O n g1 g2) : Kq O n g g2 :=
  ⟨Nat.le_trans a.1 b.1, fun i h1 h2 h3 => by rw [b.2 i (Nat.lt_of_lt_of_le h1 a.1) h2 h3, a.2 i h1 h2 h3]⟩
theorem Kq.sub {O O' : List Nat} {n : Nat} {g g1 : Hh} (a : Kq O n g g1) (s : ∀ m, m ∈ O → m < g.length → m ∈ O') : Kq O' n g g1 :=
  ⟨a.1, fun i h1 h2 h3 => a.2 i h1 (fun h => h2 (s i h h1)) h3⟩
theorem Kq.any {O : List Nat} {n : Nat} {g g1 : Hh} (a : Kq [] n g g1) : Kq O n g g1 := a.sub (by simp)
theorem Kq.more {O : List Nat} {n : Nat} {g l : Hh} : Kq O n g (g ++ l) := ⟨by simp, fun i h _ _ => List.getElem?_append_left h⟩
theorem Kq.moreB {O : List Nat} {n : Nat} {B h l : Hh} : Kq O n (B ++ h) (B ++ (h ++ l)) := by rw [← List.append_assoc]; exact .more
theorem lt_of_get {g : Hh} {m : Nat} {o : Ob} (h : g[m]? = some o) : m < g.length := (List.getElem?_eq_some_iff.mp h).1
theorem VR.keep {n : Nat} {O : List Nat} {g g' : Hh} {v : Vl} {w : Vv} (h : VR n O g v w) (k : Kq O n g g') : VR n O g' v w :=
  h.map fun m xs h1 h2 h3 => ⟨by rw [k.2 m (lt_of_get h1) h2 h3]; exact h1, h2⟩
theorem VRs.keep {n : Nat} {O : List Nat} {g g' : Hh} {v : List Vl} {w : List Vv} (h : VRs n O g v w) (k : Kq O n g g') : VRs n O g' v w :=
  h.map fun m xs h1 h2 h3 => ⟨by rw [k.2 m (lt_of_get h1) h2 h3]; exact h1, h2⟩
theorem VR.less {n : Nat} {O O' : List Nat} {g : Hh} {v : Vl} {w : Vv} (h : VR n O g v w) (s : ∀ m, m ∈ O' → m ∈ O) : VR n O' g v w :=
  h.map fun m xs h1 h2 _ => ⟨h1, fun q => h2 (s m q)⟩
theorem VRs.less {n : Nat} {O O' : List Nat} {g : Hh} {v : List Vl} {w : List Vv} (h : VRs n O g v w) (s : ∀ m, m ∈ O' → m ∈ O) : VRs n O' g v w :=
  h.map fun m xs h1 h2 _ => ⟨h1, fun q => h2 (s m q)⟩
theorem VR.newO {n : Nat} {O : List Nat} {g : Hh} {v : Vl} {w : Vv} {D : Nat} (h : VR n O g v w) (hD : g.length ≤ D) : VR n (D :: O) g v w :=
  h.map fun m xs h1 h2 _ => ⟨h1, by have := lt_of_get h1; simp only [List.mem_cons, not_or]; exact ⟨by omega, h2⟩⟩
theorem VRs.newO {n : Nat} {O : List Nat} {g : Hh} {v : List Vl} {w : List Vv} {D : Nat} (h : VRs n O g v w) (hD : g.length ≤ D) : VRs n (D :: O) g v w :=
  h.map fun m xs h1 h2 _ => ⟨h1, by have := lt_of_get h1; simp only [List.mem_cons, not_or]; exact ⟨by omega, h2⟩⟩
mutual
theorem VR.ofPlain {n : Nat} {O O' : List Nat} {g g' : Hh} {v : Vl} {w : Vv} : VR n O g v w → w.plain = true → VR n O' g' v w ∧ v.plain = true
  | .non, _ => ⟨.non, rfl⟩
  | .bl b, _ => ⟨.bl b, rfl⟩
  | .int i, _ => ⟨.int i, rfl⟩
  | .str x, _ => ⟨.str x, rfl⟩
  | .tup h, p => let q := VRs.ofPlain h p; ⟨.tup q.1, q.2⟩
  | .lst _ _ _ _, p => by cases p
  | .tin, p => by cases p
theorem VRs.ofPlain {n : Nat} {O O' : List Nat} {g g' : Hh} {v : List Vl} {w : List Vv} : VRs n O g v w → Vv.plains w = true → VRs n O' g' v w ∧ Vl.plains v = true
  | .nil, _ => ⟨.nil, rfl⟩
  | .cons h hs, p => by
    simp only [Vv.plains, Bool.and_eq_true] at p
    have a := VR.ofPlain (O' := O') (g' := g') h p.1
    have b := VRs.ofPlain (O' := O') (g' := g') hs p.2
    exact ⟨.cons a.1 b.1, by simp only [Vl.plains, a.2, b.2, Bool.and_self]⟩
end
section
variable {n : Nat} {O : List Nat} {g : Hh} {xs xs' : List Vl} {ys ys' : List Vv} {v : Vl} {w : Vv}
theorem VRs.length : ∀ {xs : List Vl} {ys : List Vv}, VRs n O g xs ys → xs.length = ys.length
  | _, _, .nil => rfl
  | _, _, .cons _ hs => by simp [hs.length]
theorem VRs.get : ∀ {xs : List Vl} {ys : List Vv}, VRs n O g xs ys → ∀ {i : Nat} {y : Vv}, ys[i]? = some y → ∃ x, xs[i]? = some x ∧ VR n O g x y
  | _, _, .nil, i, y, h => by simp at h
  | _, _, .cons h hs, 0, y, e => by simp at e; subst e; exact ⟨_, by simp, h⟩
  | _, _, .cons h hs, i + 1, y, e => by simp at e; obtain ⟨x, q, r⟩ := hs.get e; exact ⟨x, by simpa using q, r⟩
theorem VRs.append : ∀ {xs : List Vl} {ys : List Vv}, VRs n O g xs ys → ∀ {xs' : List Vl} {ys' : List Vv}, VRs n O g xs' ys' → VRs n O g (xs ++ xs') (ys ++ ys')
  | _, _, .nil, _, _, b => b
  | _, _, .cons h hs, _, _, b => .cons h (hs.append b)
theorem VRs.set : ∀ {xs : List Vl} {ys : List Vv}, VRs n O g xs ys → ∀ (i : Nat), VR n O g v w → VRs n O g (xs.set i v) (ys.set i w)
  | _, _, .nil, _, _ => .nil
  | _, _, .cons h hs, 0, r => .cons r hs
  | _, _, .cons h hs, i + 1, r => .cons h (hs.set i r)
theorem VRs.drop : ∀ {xs : List Vl} {ys : List Vv}, VRs n O g xs ys → ∀ (i : Nat), VRs n O g (xs.drop i) (ys.drop i)
  | _, _, .nil, _ => by simpa using VRs.nil
  | _, _, .cons h hs, 0 => .cons h hs
  | _, _, .cons h hs, i + 1 => hs.drop i
theorem VRs.take : ∀ {xs : List Vl} {ys : List Vv}, VRs n O g xs ys → ∀ (i : Nat), VRs n O g (xs.take i) (ys.take i)
  | _, _, .nil, _ => by simpa using VRs.nil
  | _, _, .cons h hs, 0 => .nil
  | _, _, .cons h hs, i + 1 => .cons h (hs.take i)
theorem VRs.rep (h : VRs n O g xs ys) : ∀ k : Nat, VRs n O g (List.replicate k xs).flatten (List.replicate k ys).flatten
  | 0 => .nil
  | k + 1 => by simpa [List.replicate_succ] using h.append (h.rep k)
theorem VRs.isEmpty (h : VRs n O g xs ys) : xs.isEmpty = ys.isEmpty := by cases h <;> rfl
theorem VRs.cut (h : VRs n O g xs ys) (lo hi : Option Int) : VRs n O g (cutL xs lo hi) (cutV ys lo hi) := by
  unfold cutL cutV; rw [h.length]; exact (h.drop _).take _
theorem VRs.atI (h : VRs n O g xs ys) {i : Int} {y : Vv} (e : L2.atI ys i = some y) : ∃ x, L2.atI xs i = some x ∧ VR n O g x y := by
  unfold L2.atI at e ⊢
  rw [h.length]
  cases q : ixN ys.length i with
  | none => rw [q] at e; cases e
  | some j => rw [q] at e; exact h.get e
theorem VRs.perm (h : VRs n O g xs ys) : ∀ p : List Nat, VRs n O g (permL p xs) (permV p ys)
  | [] => .nil
  | i :: p => by
    have ih := h.perm p
    unfold permL permV at ih ⊢
    rw [List.filterMap_cons, List.filterMap_cons]
    cases e : ys[i]? with
    | none =>
      have : xs[i]? = none := by rw [List.getElem?_eq_none_iff] at e ⊢; rw [h.length]; exact e
      rw [this]; exact ih
    | some y => obtain ⟨x, q, r⟩ := h.get e; rw [q]; exact .cons r ih
theorem VR.items (h : VR n O g v w) (e : itemsV w = some ys) : ∃ xs, items g v = some xs ∧ VRs n O g xs ys := by
  cases h with
  | tup h => cases e; exact ⟨_, rfl, h⟩
  | lst h1 h2 h3 h => cases e; exact ⟨_, by rw [GB.items, h1]; rfl, h⟩
  | _ => cases e
theorem VR.list (h : VR n O g v w) (e : lstV w = some ys) : ∃ m xs, v = .ref m ∧ g[m]? = some (.lst xs) ∧ VRs n O g xs ys := by
  cases h with
  | lst h1 h2 h3 h => cases e; exact ⟨_, _, rfl, h1, h⟩
  | _ => cases e
theorem VRs.ints : ∀ {xs : List Vl} {ys : List Vv}, VRs n O g xs ys → ∀ {is : List Int}, intsV ys = some is → intsOf xs = some is
  | _, _, .nil, is, e => by cases e; rfl
  | _, _, .cons h hs, is, e => by
    cases h <;> first | (simp [intsV] at e; done) | skip
    simp only [intsV, Option.map_eq_some_iff] at e
    obtain ⟨js, e, rfl⟩ := e
    simp only [intsOf, hs.ints e, Option.map_some]
theorem VRs.bls : ∀ {xs : List Vl} {ys : List Vv}, VRs n O g xs ys → ∀ {is : List Bool}, blsV ys = some is → blsOf xs = some is
  | _, _, .nil, is, e => by cases e; rfl
  | _, _, .cons h hs, is, e => by
    cases h <;> first | (simp [blsV] at e; done) | skip
    simp only [blsV, Option.map_eq_some_iff] at e
    obtain ⟨js, e, rfl⟩ := e
    simp only [blsOf, hs.bls e, Option.map_some]
theorem VRs.toD {f : Vl → Option PyData} {f' : Vv → Option PyData} (hf : ∀ {v : Vl} {w : Vv} {d : PyData}, VR n O g v w → f' w = some d → f v = some d) : ∀ {xs : List Vl} {ys : List Vv}, VRs n O g xs ys → ∀ {ds : List PyData}, toDVs f' ys = some ds → toDs f xs = some ds
  | _, _, .nil, ds, e => by cases e; rfl
  | _, _, .cons h hs, ds, e => by
    simp only [toDVs, Option.bind_eq_some_iff, Option.map_eq_some_iff] at e
    obtain ⟨d, e1, l, e2, rfl⟩ := e
    simp only [toDs, hf h e1, VRs.toD hf hs e2, Option.bind_some, Option.map_some]
theorem VR.toD : ∀ (k : Nat) {v : Vl} {w : Vv} {d : PyData}, VR n O g v w → toDV k w = some d → GB.toD k g v = some d
  | 0, _, _, _, _, e => by cases e
  | k + 1, _, _, _, h, e => by
    cases h with
    | non => exact e
    | bl b => exact e
    | int i => exact e
    | str x => exact e
    | tup h =>
      simp only [toDV, Option.map_eq_some_iff] at e
      obtain ⟨l, e, rfl⟩ := e
      simp only [GB.toD, VRs.toD (fun h e => VR.toD k h e) h e, Option.map_some]
    | lst h1 h2 h3 h =>
      simp only [toDV, Option.map_eq_some_iff] at e
      obtain ⟨l, e, rfl⟩ := e
      simp only [GB.toD, h1, Option.bind_some, Ob.items, VRs.toD (fun h e => VR.toD k h e) h e, Option.map_some]
    | tin => cases e
theorem VR.eq {v' : Vl} {w' : Vv} {b : Bool} (h : VR n O g v w) (h' : VR n O g v' w') (e : eqW w w' = some b) : eqV' g v v' = some b := by
  unfold eqW at e; unfold eqV'
  simp only [Option.bind_eq_some_iff] at e
  obtain ⟨d, e1, d', e2, e⟩ := e
  rw [h.toD _ e1, h'.toD _ e2]; exact e
theorem VR.cop {v' : Vl} {w' : Vv} {b : Bool} {op : Cop} (h : VR n O g v w) (h' : VR n O g v' w') (e : copV op w w' = some b) : cop g op v v' = some b := by
  have ne : (eqW w w').map (!·) = some b → (eqV' g v v').map (!·) = some b := by
    intro e
    rw [Option.map_eq_some_iff] at e ⊢
    obtain ⟨a, e1, e2⟩ := e
    exact ⟨a, h.eq h' e1, e2⟩
  have eq0 : eqW w w' = some b → eqV' g v v' = some b := fun e => h.eq h' e
  cases h <;> cases h' <;> cases op <;> first
    | exact e
    | exact eq0 e
    | exact ne e
    | cases e
theorem VR.tru {b : Bool} (h : VR n O g v w) (e : truV w = some b) : tru g v = some b := by
  cases h with
  | tup h => rw [← e]; show some _ = some _; rw [h.isEmpty]
  | lst h1 h2 h3 h => rw [← e]; show Option.map _ _ = some _; rw [h1, Option.map_some]; simp only [Ob.items, h.isEmpty]
  | tin => cases e
  | _ => exact e
theorem VR.isTy {b : Bool} {t : Ty} (h : VR n O g v w) (e : isTyV t w = some b) : isTy g t v = some b := by
  cases h with
  | lst h1 h2 h3 h => cases t <;> (simp only [GB.isTy, h1, Option.map_some]; exact e)
  | tin => cases t <;> cases e
  | _ => cases t <;> exact e
theorem VR.isTys {b : Bool} (h : VR n O g v w) : ∀ {ts : List Ty}, isTysV w ts = some b → isTys g v ts = some b
  | [], e => e
  | t :: ts, e => by
    simp only [isTysV, Option.bind_eq_some_iff] at e
    obtain ⟨k, e1, e2⟩ := e
    simp only [GB.isTys, h.isTy e1, Option.bind_some]
    cases k with
    | true => exact e2
    | false => exact h.isTys e2
end
end GB

end
section
set_option Elab.async false
set_option linter.all false
set_option maxRecDepth 100000
/-! GbV3: runs beside runs. -/
namespace GB
open PySem PySem.Spec PyProof.Rows L2
/-- the tin's state -/
def Td (dr : Bool) (n : Nat) (B h : Hh) (t : Ts) : Prop := dr = true → B.length ≤ n ∧ (B ++ h)[n]? = some (.lst [.int t.g, .int t.m, .int t.c])
theorem Td.more {dr : Bool} {n : Nat} {B h : Hh} {t : Ts} (d : Td dr n B h t) (l : Hh) : Td dr n B (h ++ l) t := fun q =>
  ⟨(d q).1, by rw [← List.append_assoc, List.getElem?_append_left (lt_of_get (d q).2)]; exact (d q).2⟩
/-- the places are there -/
def Ob_ (n : Nat) (O : List Nat) (g : Hh) : Prop := n < g.length ∧ ∀ m, m ∈ O → m < g.length
theorem Ob_.keep {n : Nat} {O O' : List Nat} {g g' : Hh} (o : Ob_ n O g) (k : Kq O' n g g') : Ob_ n O g' := ⟨Nat.lt_of_lt_of_le o.1 k.1, fun m h => Nat.lt_of_lt_of_le (o.2 m h) k.1⟩
def Sim {α β : Type} (dr : Bool) (n : Nat) (B : Hh) (O : List Nat) (R : Hh → α → β → Prop) (h : Hh) (r1 : Res α) (r2 : Rv β) : Prop := match r2 with
  | .ok b t => ∃ a h', r1 = .ok a h' ∧ R (B ++ h') a b ∧ Td dr n B h' t ∧ Kq [] n (B ++ h) (B ++ h')
  | .exc x t => ∃ y h', r1 = .exc y h' ∧ y.cls = x.cls ∧ VRs n O (B ++ h') y.fs x.fs ∧ Td dr n B h' t ∧ Kq [] n (B ++ h) (B ++ h')
  | .bad => True
section
variable {dr : Bool} {n : Nat} {B : Hh} {O : List Nat}
theorem Sim.trans {α β : Type} {R : Hh → α → β → Prop} {h h1 : Hh} {r1 : Res α} {r2 : Rv β} (k : Kq [] n (B ++ h) (B ++ h1)) (s : Sim dr n B O R h1 r1 r2) : Sim dr n B O R h r1 r2 := by
  cases r2 with
  | ok b t => obtain ⟨a, h', e, r, d, q⟩ := s; exact ⟨a, h', e, r, d, k.trans q⟩
  | exc x t => obtain ⟨a, h', e, r, r', d, q⟩ := s; exact ⟨a, h', e, r, r', d, k.trans q⟩
  | bad => trivial
theorem Sim.bind {α β α' β' : Type} {R : Hh → α → β → Prop} {R' : Hh → α' → β' → Prop} {h : Hh} {r1 : Res α} {r2 : Rv β} {k1 : α → Hh → Res α'} {k2 : β → Ts → Rv β'} (s : Sim dr n B O R h r1 r2)
    (k : ∀ a b h' t, R (B ++ h') a b → Td dr n B h' t → Kq [] n (B ++ h) (B ++ h') → Sim dr n B O R' h' (k1 a h') (k2 b t)) : Sim dr n B O R' h (r1.bind k1) (r2.bind k2) := by
  cases r2 with
  | ok b t => obtain ⟨a, h', rfl, r, d, q⟩ := s; exact (k a b h' t r d q).trans q
  | exc x t => obtain ⟨a, h', rfl, r⟩ := s; exact ⟨a, h', rfl, r⟩
  | bad => trivial
theorem Sim.ok {α β : Type} {R : Hh → α → β → Prop} {h : Hh} {a : α} {b : β} {t : Ts} (r : R (B ++ h) a b) (d : Td dr n B h t) : Sim dr n B O R h (.ok a h) (.ok b t) := ⟨a, h, rfl, r, d, .refl⟩
theorem Sim.mono {α β : Type} {R R' : Hh → α → β → Prop} {h : Hh} {r1 : Res α} {r2 : Rv β} (s : Sim dr n B O R h r1 r2) (f : ∀ g a b, R g a b → R' g a b) : Sim dr n B O R' h r1 r2 := by
  cases r2 with
  | ok b t => obtain ⟨a, h', e, r, d⟩ := s; exact ⟨a, h', e, f _ _ _ r, d⟩
  | exc x t => exact s
  | bad => trivial
theorem Sim.of {α β : Type} {R : Hh → α → β → Prop} {h : Hh} {o1 : Option α} {o2 : Option β} {t : Ts} (d : Td dr n B h t) (f : ∀ b, o2 = some b → ∃ a, o1 = some a ∧ R (B ++ h) a b) : Sim dr n B O R h (Res.of o1 h) (Rv.of o2 t) := by
  cases o2 with
  | none => trivial
  | some b => obtain ⟨a, rfl, r⟩ := f b rfl; exact .ok r d
/-- equal values -/
abbrev Eqr {α : Type} : Hh → α → α → Prop := fun _ a b => a = b
theorem Sim.toB {h : Hh} {v : Vl} {w : Vv} {t : Ts} (r : VR n O (B ++ h) v w) (d : Td dr n B h t) : Sim dr n B O Eqr h (toB B v h) (toBV w t) := Sim.of d fun b e => ⟨b, r.tru e, rfl⟩
/-- the slots -/
def ER (n : Nat) (O X : List Nat) (g : Hh) (σ : Ev) (τ : Es) : Prop := σ.length = τ.length ∧ ∀ i w, X.contains i = false → τ[i]? = some (some w) → ∃ v, σ[i]? = some (some v) ∧ VR n O g v w
theorem ER.keep {X : List Nat} {g g' : Hh} {σ : Ev} {τ : Es} (r : ER n O X g σ τ) (k : Kq O n g g') : ER n O X g' σ τ := ⟨r.1, fun i w hx e => let ⟨v, e, q⟩ := r.2 i w hx e; ⟨v, e, q.keep k⟩⟩
theorem ER.newO {X : List Nat} {g : Hh} {σ : Ev} {τ : Es} {D : Nat} (r : ER n O X g σ τ) (hD : g.length ≤ D) : ER n (D :: O) X g σ τ := ⟨r.1, fun i w hx e => let ⟨v, e, q⟩ := r.2 i w hx e; ⟨v, e, q.newO hD⟩⟩
theorem ER.set {X : List Nat} {g : Hh} {σ : Ev} {τ : Es} (r : ER n O X g σ τ) (i : Nat) {v : Vl} {w : Vv} (q : VR n O g v w) : ER n O X g (σ.set i (some v)) (τ.set i (some w)) := by
  refine ⟨by simp [r.1], fun j w' hx e => ?_⟩
  by_cases hj : i = j
  · subst hj
    have hl : i < (τ.set i (some w)).length := (List.getElem?_eq_some_iff.mp e).1
    rw [List.length_set] at hl
    rw [List.getElem?_set_self hl] at e
    cases e
    exact ⟨v, List.getElem?_set_self (by rw [r.1]; exact hl), q⟩
  · rw [List.getElem?_set_ne hj] at e ⊢
    exact r.2 j w' hx e
theorem ER.wipe1 {X : List Nat} {g : Hh} {σ : Ev} {τ : Es} (r : ER n O X g σ τ) (i : Nat) : ER n O X g (σ.set i none) (τ.set i none) := by
  refine ⟨by simp [r.1], fun j w' hx e => ?_⟩
  by_cases hj : i = j
  · subst hj
    have hl : i < (τ.set i none).length := (List.getElem?_eq_some_iff.mp e).1
    rw [List.length_set] at hl
    rw [List.getElem?_set_self hl] at e
    cases e
  · rw [List.getElem?_set_ne hj] at e ⊢
    exact r.2 j w' hx e
theorem ER.wipe {X : List Nat} {g : Hh} {σ : Ev} {τ : Es} (r : ER n O X g σ τ) : ∀ l : List Nat, ER n O X g (wipeE σ l) (wipeV τ l)
  | [] => r
  | i :: l => (r.wipe l).wipe1 i
theorem ER.setAll {X : List Nat} {g : Hh} : ∀ (is : List Nat) {xs : List Vl} {ys : List Vv} {σ : Ev} {τ τ' : Es}, ER n O X g σ τ → VRs n O g xs ys → GB.setAll is ys τ = some τ' →
    xs.length = is.length ∧ ER n O X g ((is.zip xs).foldl (fun s p => s.set p.1 (some p.2)) σ) τ'
  | [], _, _, σ, τ, τ', r, .nil, e => by cases e; exact ⟨rfl, r⟩
  | [], _, _, σ, τ, τ', r, .cons _ _, e => by cases e
  | i :: is, _, _, σ, τ, τ', r, .nil, e => by cases e
  | i :: is, _, _, σ, τ, τ', r, .cons h hs, e => by
    have ⟨a, b⟩ := ER.setAll is (r.set i h) hs e
    exact ⟨by simp [a], b⟩
theorem ER.setTg {X : List Nat} {g : Hh} {σ : Ev} {τ τ' : Es} {tg : Tg} {v : Vl} {w : Vv} (r : ER n O X g σ τ) (q : VR n O g v w) (e : setTgV tg w τ = some τ') : ∃ σ', setTg g tg v σ = some σ' ∧ ER n O X g σ' τ' := by
  cases tg with
  | nm i => cases e; exact ⟨_, rfl, r.set i q⟩
  | tp is =>
    simp only [setTgV, Option.bind_eq_some_iff] at e
    obtain ⟨ys, e1, e2⟩ := e
    obtain ⟨xs, i1, i2⟩ := q.items e1
    have ⟨a, b⟩ := ER.setAll is r i2 e2
    exact ⟨_, by simp only [GB.setTg, i1, if_pos a], b⟩
/-- what is walked -/
def WR (n : Nat) (O : List Nat) (g : Hh) (w : Wk) (ws : List Vv) : Prop := ws.length ≤ w.most g ∧ ∀ i, ∃ o, w.at g i = some o ∧ (∀ y, ws[i]? = some y → ∃ x, o = some x ∧ VR n O g x y) ∧ (ws[i]? = none → o = none)
def WRS (n : Nat) (O : List Nat) (g : Hh) (w : Wk) (ws : List Vv) : Prop := ∀ (O' : List Nat) (g' : Hh), (∀ m, m ∈ O' → m < g.length → m ∈ O) → Kq O' n g g' → WR n O' g' w ws
theorem VR.to {O' : List Nat} {g g' : Hh} {v : Vl} {w : Vv} (h : VR n O g v w) (s : ∀ m, m ∈ O' → m < g.length → m ∈ O) (k : Kq O' n g g') : VR n O' g' v w :=
  h.map fun m xs h1 h2 h3 => have hm : m ∉ O' := fun q => h2 (s m q (lt_of_get h1)); ⟨by rw [k.2 m (lt_of_get h1) hm h3]; exact h1, hm⟩
theorem items_or {g : Hh} {v : Vl} {w : Vv} {ys : List Vv} (q : VR n O g v w) (e : itemsV w = some ys) : ∃ xs, items g v = some xs ∧ VRs n O g xs ys := q.items e
theorem WR.seq {g : Hh} {v : Vl} {w : Vv} {ys : List Vv} (q : VR n O g v w) (e : itemsV w = some ys) : WR n O g (.seq v) ys := by
  obtain ⟨xs, i1, i2⟩ := q.items e
  refine ⟨by simp [Wk.most, i1, i2.length], fun i => ⟨xs[i]?, by simp [Wk.at, i1], fun y hy => i2.get hy, fun h => ?_⟩⟩
  rw [List.getElem?_eq_none_iff] at h ⊢; rw [i2.length]; exact h
theorem rngL_len : ∀ (k : Nat) (lo : Int), (rngL lo k).length = k
  | 0, _ => rfl
  | k + 1, lo => by simp [rngL, rngL_len k]
theorem rngL_get : ∀ (k : Nat) (lo : Int) (i : Nat), i < k → (rngL lo k)[i]? = some (.int (lo + i))
  | 0, _, _, h => by omega
  | k + 1, lo, 0, _ => by simp [rngL]
  | k + 1, lo, i + 1, h => by simp only [rngL, List.getElem?_cons_succ]; rw [rngL_get k (lo + 1) i (by omega)]; congr 2; omega
theorem WR.rng {g : Hh} (lo : Int) (k : Nat) : WR n O g (.rng lo k) (rngL lo k) := by
  refine ⟨by simp [Wk.most, rngL_len], fun i => ?_⟩
  by_cases h : i < k
  · refine ⟨some (.int (lo + i)), by simp [Wk.at, h], fun y hy => ?_, fun q => ?_⟩
    · rw [rngL_get k lo i h] at hy; cases hy; exact ⟨_, rfl, .int _⟩
    · rw [rngL_get k lo i h] at q; cases q
  · exact ⟨none, by simp [Wk.at, h], fun y hy => (by have := (List.getElem?_eq_some_iff.mp hy).1; rw [rngL_len] at this; omega), fun _ => rfl⟩
theorem zipL_get : ∀ (xs ys : List Vv) (i : Nat), (zipL xs ys)[i]? = (match xs[i]?, ys[i]? with | some x, some y => some (.tup [x, y]) | _, _ => none)
  | [], ys, i => by simp [zipL]
  | x :: xs, [], i => by cases i <;> simp [zipL]
  | x :: xs, y :: ys, 0 => by simp [zipL]
  | x :: xs, y :: ys, i + 1 => by simp only [zipL, List.getElem?_cons_succ]; exact zipL_get xs ys i
theorem zipL_len : ∀ (xs ys : List Vv), (zipL xs ys).length ≤ xs.length
  | [], ys => by simp [zipL]
  | x :: xs, [] => by simp [zipL]
  | x :: xs, y :: ys => by simp [zipL]; exact zipL_len xs ys
theorem enumL_get : ∀ (xs : List Vv) (k i : Nat), (enumL k xs)[i]? = (xs[i]?).map fun x => .tup [.int ((k + i : Nat) : Int), x]
  | [], k, i => by simp [enumL]
  | x :: xs, k, 0 => by simp [enumL]
  | x :: xs, k, i + 1 => by simp only [enumL, List.getElem?_cons_succ]; rw [enumL_get xs (k + 1) i]; rw [show k + 1 + i = k + (i + 1) by omega]
theorem enumL_len : ∀ (xs : List Vv) (k : Nat), (enumL k xs).length = xs.length
  | [], _ => rfl
  | x :: xs, k => by simp [enumL, enumL_len xs]
theorem none_of {α β : Type} {xs : List α} {ys : List β} {i : Nat} (hl : xs.length = ys.length) (h : ys[i]? = none) : xs[i]? = none := by
  rw [List.getElem?_eq_none_iff] at h ⊢; omega
theorem WR.zip {g : Hh} {v v' : Vl} {w w' : Vv} {ys ys' : List Vv} (q : VR n O g v w) (e : itemsV w = some ys) (q' : VR n O g v' w') (e' : itemsV w' = some ys') : WR n O g (.zip v v') (zipL ys ys') := by
  obtain ⟨xs, i1, i2⟩ := q.items e
  obtain ⟨xs', j1, j2⟩ := q'.items e'
  refine ⟨by have := zipL_len ys ys'; simp [Wk.most, i1, i2.length]; omega, fun i => ?_⟩
  rw [zipL_get]
  simp only [Wk.at, i1, j1, Option.bind_some, Option.map_some]
  cases a : ys[i]? with
  | none => rw [none_of i2.length a]; exact ⟨_, rfl, by simp, by simp⟩
  | some y =>
    obtain ⟨x, x1, x2⟩ := i2.get a
    cases b : ys'[i]? with
    | none => rw [x1, none_of j2.length b]; exact ⟨_, rfl, by simp, by simp⟩
    | some y' =>
      obtain ⟨x', x1', x2'⟩ := j2.get b
      rw [x1, x1']
      exact ⟨_, rfl, fun z hz => by cases hz; exact ⟨_, rfl, .tup (.cons x2 (.cons x2' .nil))⟩, by simp⟩
theorem WR.enum {g : Hh} {v : Vl} {w : Vv} {ys : List Vv} (q : VR n O g v w) (e : itemsV w = some ys) : WR n O g (.enum v) (enumL 0 ys) := by
  obtain ⟨xs, i1, i2⟩ := q.items e
  refine ⟨by simp [Wk.most, i1, i2.length, enumL_len], fun i => ?_⟩
  rw [enumL_get]
  simp only [Wk.at, i1, Option.map_some]
  cases a : ys[i]? with
  | none => rw [none_of i2.length a]; exact ⟨_, rfl, by simp, by simp⟩
  | some y =>
    obtain ⟨x, x1, x2⟩ := i2.get a
    rw [x1]
    exact ⟨_, rfl, fun z hz => by cases hz; exact ⟨_, rfl, .tup (.cons (by simpa using VR.int _) (.cons x2 .nil))⟩, by simp⟩
end
end GB

end
section
set_option Elab.async false
set_option linter.all false
set_option maxRecDepth 100000
/-! GbV4: expressions. -/
namespace GB
open PySem PySem.Spec PyProof.Rows L2
section
variable {dr : Bool} {n : Nat} {B : Hh} {O : List Nat}
/-- a list that comes is new -/
def FR (n : Nat) (O : List Nat) (l0 : Nat) (g : Hh) (v : Vl) (w : Vv) : Prop := VR n O g v w ∧ ∀ ys, w = .lst ys → ∃ D xs, v = .ref D ∧ l0 ≤ D ∧ g[D]? = some (.lst xs) ∧ VRs n (D :: O) g xs ys
theorem sim_new {h : Hh} {xs : List Vl} {ys : List Vv} {t : Ts} {l0 : Nat} (ob : Ob_ n O (B ++ h)) (r : VRs n O (B ++ h) xs ys) (d : Td dr n B h t) (hl : l0 ≤ (B ++ h).length) :
    Sim dr n B O (FR n O l0) h (new B h xs) (.ok (.lst ys) t) := by
  have k : Kq [] n (B ++ h) (B ++ (h ++ [.lst xs])) := .moreB
  have k' : Kq ((B ++ h).length :: O) n (B ++ h) (B ++ (h ++ [.lst xs])) := .moreB
  have at_ : (B ++ (h ++ [.lst xs]))[(B ++ h).length]? = some (.lst xs) := by rw [← List.append_assoc]; simp
  have r1 := (r.newO (Nat.le_refl _)).keep k'
  have r2 := r1.less (O' := O) (fun m hm => List.mem_cons_of_mem _ hm)
  have hO : (B ++ h).length ∉ O := fun hm => Nat.lt_irrefl _ (ob.2 _ hm)
  have hn : (B ++ h).length ≠ n := fun e => by have := ob.1; omega
  exact ⟨.ref (B ++ h).length, h ++ [.lst xs], rfl, ⟨.lst at_ hO hn r2, fun ys' e => by cases e; exact ⟨_, xs, rfl, hl, at_, r1⟩⟩, d.more _, k⟩
theorem FR.of {l0 : Nat} {g : Hh} {v : Vl} {w : Vv} (r : VR n O g v w) (hw : ∀ ys, w ≠ .lst ys) : FR n O l0 g v w := ⟨r, fun ys e => absurd e (hw ys)⟩
theorem lstAt_of {g : Hh} {m : Nat} {xs : List Vl} (h : g[m]? = some (.lst xs)) : lstAt g m = some xs := by unfold lstAt; rw [h]
theorem sim_bop {h : Hh} {op : Bop} {x y : Vl} {x' y' : Vv} {t : Ts} {l0 : Nat} (ob : Ob_ n O (B ++ h)) (r : VR n O (B ++ h) x x') (s : VR n O (B ++ h) y y') (d : Td dr n B h t) (hl : l0 ≤ (B ++ h).length) :
    Sim dr n B O (FR n O l0) h (bop B h op x y) (Rv.of (bopV op x' y') t) := by
  cases r with
  | int i =>
    cases s with
    | int j =>
      show Sim dr n B O (FR n O l0) h (Res.of ((bopI op i j).map .int) h) (Rv.of ((bopI op i j).map .int) t)
      refine Sim.of d fun b e => ?_
      rw [Option.map_eq_some_iff] at e
      obtain ⟨z, e, rfl⟩ := e
      exact ⟨.int z, by rw [e]; rfl, .of (.int z) (by simp)⟩
    | _ => cases op <;> trivial
  | tup hs =>
    cases s with
    | tup hs' =>
      cases op with
      | add =>
        simp only [bop, bopV, hs.isEmpty, hs.length, hs'.length]
        split
        · trivial
        · split
          · exact Sim.ok (.of (.tup (hs.append hs')) (by simp)) d
          · trivial
      | _ => trivial
    | _ => cases op <;> trivial
  | lst h1 h2 h3 hs =>
    cases s with
    | lst g1 g2 g3 hs' =>
      cases op with
      | add =>
        simp only [bop, bopV, lstAt_of h1, lstAt_of g1, hs.length, hs'.length]
        split
        · exact sim_new ob (hs.append hs') d hl
        · trivial
      | _ => trivial
    | int k =>
      cases op with
      | mul =>
        simp only [bop, bopV, lstAt_of h1, hs.length]
        split
        · exact sim_new ob (hs.rep _) d hl
        · trivial
      | _ => trivial
    | _ => cases op <;> trivial
  | _ => cases s <;> cases op <;> trivial
theorem refItems_of {g : Hh} {m : Nat} {xs : List Vl} (h : g[m]? = some (.lst xs)) : refItems g (.ref m) = some xs := by simp [refItems, h, Ob.items]
theorem sim_bi1 {h : Hh} {b : Bi} {x : Vl} {x' : Vv} {t : Ts} {l0 : Nat} (ob : Ob_ n O (B ++ h)) (r : VR n O (B ++ h) x x') (d : Td dr n B h t) (hl : l0 ≤ (B ++ h).length) :
    Sim dr n B O (fun g v w => VR n O g v w ∧ (b = .list → FR n O l0 g v w)) h (bi1 B h b x) (Rv.of (biV1 b x') t) := by
  have no : b ≠ .list → ∀ {v : Vl} {w : Vv} {h'}, VR n O (B ++ h') v w → (fun g v w => VR n O g v w ∧ (b = .list → FR n O l0 g v w)) (B ++ h') v w := fun hb _ _ _ q => ⟨q, fun e => absurd e hb⟩
  cases b with
  | len =>
    cases r with
    | str x =>
      simp only [bi1, biV1]
      split
      · exact Sim.ok (no (by simp) (.int _)) d
      · trivial
    | tup hs => simp only [bi1, biV1, items, itemsV, Option.map_some, hs.length]; exact Sim.ok (no (by simp) (.int _)) d
    | lst h1 h2 h3 hs => simp only [bi1, biV1, items, itemsV, h1, Option.map_some, Ob.items, hs.length]; exact Sim.ok (no (by simp) (.int _)) d
    | _ => trivial
  | abs => cases r with
    | int i => exact Sim.ok (no (by simp) (.int _)) d
    | _ => trivial
  | int => cases r with
    | int i => exact Sim.ok (no (by simp) (.int _)) d
    | bl i => exact Sim.ok (no (by simp) (.int _)) d
    | _ => trivial
  | max2 => cases r <;> trivial
  | min2 => cases r <;> trivial
  | sum =>
    have key : ∀ {v : Vl} {w : Vv}, VR n O (B ++ h) v w → Sim dr n B O (fun g v w => VR n O g v w ∧ (Bi.sum = .list → FR n O l0 g v w)) h (match (items (B ++ h) v).bind intsOf with | some ns => .ok (.int ns.sum) h | none => .bad) (Rv.of (((itemsV w).bind intsV).map fun ns => .int ns.sum) t) := by
      intro v w r
      cases e : (itemsV w).bind intsV with
      | none => trivial
      | some ns =>
        rw [Option.bind_eq_some_iff] at e
        obtain ⟨ys, e1, e2⟩ := e
        obtain ⟨xs, i1, i2⟩ := r.items e1
        rw [i1, Option.bind_some, i2.ints e2]
        exact Sim.ok (no (by simp) (.int _)) d
    have := key r
    cases r <;> exact this
  | maxl =>
    cases r with
    | lst h1 h2 h3 hs =>
      simp only [bi1, biV1, lstV, refItems_of h1, Option.bind_some]
      rename_i ys
      cases e : intsV ys with
      | none => trivial
      | some ns =>
        rw [hs.ints e]
        cases ns with
        | nil => trivial
        | cons a l => exact Sim.ok (no (by simp) (.int _)) d
    | _ => trivial
  | minl =>
    cases r with
    | lst h1 h2 h3 hs =>
      simp only [bi1, biV1, lstV, refItems_of h1, Option.bind_some]
      rename_i ys
      cases e : intsV ys with
      | none => trivial
      | some ns =>
        rw [hs.ints e]
        cases ns with
        | nil => trivial
        | cons a l => exact Sim.ok (no (by simp) (.int _)) d
    | _ => trivial
  | all =>
    cases r with
    | lst h1 h2 h3 hs =>
      simp only [bi1, biV1, lstV, refItems_of h1, Option.bind_some]
      rename_i ys
      cases e : blsV ys with
      | none => trivial
      | some ns => rw [hs.bls e]; exact Sim.ok (no (by simp) (.bl _)) d
    | _ => trivial
  | any =>
    cases r with
    | lst h1 h2 h3 hs =>
      simp only [bi1, biV1, lstV, refItems_of h1, Option.bind_some]
      rename_i ys
      cases e : blsV ys with
      | none => trivial
      | some ns => rw [hs.bls e]; exact Sim.ok (no (by simp) (.bl _)) d
    | _ => trivial
  | tuple =>
    cases r with
    | tup hs => exact Sim.ok (no (by simp) (.tup hs)) d
    | lst h1 h2 h3 hs => simp only [bi1, biV1, itemsV, refItems_of h1, Option.map_some]; exact Sim.ok (no (by simp) (.tup hs)) d
    | _ => trivial
  | list =>
    have md : ∀ {r1 : Res Vl} {r2 : Rv Vv}, Sim dr n B O (FR n O l0) h r1 r2 → Sim dr n B O (fun g v w => VR n O g v w ∧ (Bi.list = .list → FR n O l0 g v w)) h r1 r2 := fun s => s.mono fun _ _ _ q => ⟨q.1, fun _ => q⟩
    cases r with
    | tup hs => exact md (sim_new ob hs d hl)
    | lst h1 h2 h3 hs =>
      rename_i m xs ys
      have e : bi1 B h .list (.ref m) = new B h xs := by simp [bi1, items, h1, Ob.items]
      rw [e]; exact md (sim_new ob hs d hl)
    | _ => trivial
theorem sim_bi {h : Hh} {b : Bi} {xs : List Vl} {ys : List Vv} {t : Ts} {l0 : Nat} (ob : Ob_ n O (B ++ h)) (r : VRs n O (B ++ h) xs ys) (d : Td dr n B h t) (hl : l0 ≤ (B ++ h).length) :
    Sim dr n B O (fun g v w => VR n O g v w ∧ (b = .list → FR n O l0 g v w)) h (bi B h b xs) (Rv.of (biV b ys) t) := by
  cases r with
  | nil => trivial
  | cons a r =>
    cases r with
    | nil => exact sim_bi1 ob a d hl
    | cons a' r =>
      cases r with
      | nil =>
        cases b <;> cases a <;> cases a' <;> first
          | trivial
          | exact Sim.ok ⟨.int _, fun e => by cases e⟩ d
      | cons _ _ => trivial
theorem sim_sl {h : Hh} {x : Vl} {x' : Vv} {lo hi : Option Int} {t : Ts} {l0 : Nat} (ob : Ob_ n O (B ++ h)) (r : VR n O (B ++ h) x x') (d : Td dr n B h t) (hl : l0 ≤ (B ++ h).length) :
    Sim dr n B O (FR n O l0) h (slV B h x lo hi) (Rv.of (slW x' lo hi) t) := by
  cases r with
  | tup hs => exact Sim.ok (.of (.tup (hs.cut lo hi)) (by simp)) d
  | lst h1 h2 h3 hs => simp only [slV, slW, refItems_of h1]; exact sim_new ob (hs.cut lo hi) d hl
  | _ => trivial
def OR (n : Nat) (O : List Nat) (g : Hh) : Option Vl → Option Vv → Prop
  | some a, some b => VR n O g a b
  | none, none => True
  | _, _ => False
theorem set_app {B h : Hh} {D : Nat} (hD : B.length ≤ D) (o : Ob) : B ++ h.set (D - B.length) o = (B ++ h).set D o := by rw [List.set_append_right _ _ hD]
theorem put_at {B h : Hh} {D : Nat} {acc : List Vl} {f : List Vl → Option (List Vl)} {acc' : List Vl} (hD : B.length ≤ D) (e : (B ++ h)[D]? = some (.lst acc)) (hf : f acc = some acc') : put B h D f = some (h.set (D - B.length) (.lst acc')) := by
  unfold put
  rw [if_neg (by omega), ← rd_own hD, e]
  simp [hf]
theorem Kq.set1 {D : Nat} {g : Hh} {o : Ob} : Kq [D] n g (g.set D o) := ⟨by simp, fun i _ h2 _ => List.getElem?_set_ne (fun e => h2 (by simp [e]))⟩
theorem sim_lcTurns {w : Wk} {ws : List Vv} {turn1 : Vl → Hh → Res (Option Vl)} {turn2 : Vv → Ts → Rv (Option Vv)} {D : Nat} {g0 : Hh} (hD : B.length ≤ D) (hDn : D ≠ n)
    (ht : ∀ x y h t, Kq [D] n g0 (B ++ h) → D < (B ++ h).length → VR n (D :: O) (B ++ h) x y → Td dr n B h t → Sim dr n B (D :: O) (OR n (D :: O)) h (turn1 x h) (turn2 y t))
    (hw : ∀ h, Kq [D] n g0 (B ++ h) → WR n (D :: O) (B ++ h) w ws) :
    ∀ (rest : List Vv) (i m : Nat) (h : Hh) (acc : List Vl) (t : Ts), ws.drop i = rest → rest.length ≤ m → acc.length + rest.length ≤ sizeLine → Kq [D] n g0 (B ++ h) → (B ++ h)[D]? = some (.lst acc) → Td dr n B h t →
      match lcV turn2 rest t with
      | .ok r t' => ∃ xs h', lcTurns B D w turn1 m i h = .ok (.ref D) h' ∧ (B ++ h')[D]? = some (.lst (acc ++ xs)) ∧ VRs n (D :: O) (B ++ h') xs r ∧ Td dr n B h' t' ∧ Kq [D] n (B ++ h) (B ++ h')
      | .exc x t' => ∃ y h', lcTurns B D w turn1 m i h = .exc y h' ∧ y.cls = x.cls ∧ VRs n (D :: O) (B ++ h') y.fs x.fs ∧ Td dr n B h' t' ∧ Kq [D] n (B ++ h) (B ++ h')
      | .bad => True := by
  intro rest
  induction rest with
  | nil =>
    intro i m h acc t e1 _ _ k at_ d
    obtain ⟨o, o1, _, o3⟩ := (hw h k).2 i
    have : ws[i]? = none := by
      rw [List.getElem?_eq_none_iff]
      exact List.drop_eq_nil_iff.mp e1
    rw [o3 this] at o1
    refine ⟨[], h, ?_, by simpa using at_, .nil, d, .refl⟩
    unfold lcTurns
    rw [o1]
  | cons y rest ih =>
    intro i m h acc t e1 hm hs k at_ d
    have hy : ws[i]? = some y := by
      have := congrArg (·[0]?) e1
      simpa using this
    obtain ⟨o, o1, o2, _⟩ := (hw h k).2 i
    obtain ⟨x, rfl, rx⟩ := o2 y hy
    obtain ⟨m, rfl⟩ : ∃ j, m = j + 1 := ⟨m - 1, by simp at hm; omega⟩
    have T := ht x y h t k (lt_of_get at_) rx d
    have e2 : ws.drop (i + 1) = rest := by rw [← List.drop_drop, e1]; rfl
    simp only [lcV]
    rw [lcTurns, o1]
    simp only
    cases q : turn2 y t with
    | bad => simp [Rv.bind]
    | exc z t1 =>
      rw [q] at T
      obtain ⟨a, h1, e, c1, c2, c3, c4⟩ := T
      rw [e]
      exact ⟨a, h1, rfl, c1, c2, c3, c4.any⟩
    | ok b t1 =>
      rw [q] at T
      obtain ⟨a, h1, e, c1, c2, c3⟩ := T
      rw [e]
      simp only [Rv.bind, Res.bind]
      have k1 : Kq [D] n g0 (B ++ h1) := k.trans c3.any
      have at1 : (B ++ h1)[D]? = some (.lst acc) := by rw [c3.2 D (lt_of_get at_) (by simp) hDn]; exact at_
      cases b with
      | none =>
        cases a with
        | some _ => cases c1
        | none =>
          have I := ih (i + 1) m h1 acc t1 e2 (by simpa using hm) (by simp at hs; omega) k1 at1 c2
          revert I
          simp only
          cases lcV turn2 rest t1 with
          | bad => simp
          | exc z t2 => rintro ⟨y', h2, i1, i2, i3, i4, i5⟩; exact ⟨y', h2, i1, i2, i3, i4, c3.any.trans i5⟩
          | ok r t2 => rintro ⟨y', h2, i1, i2, i3, i4, i5⟩; exact ⟨y', h2, i1, i2, i3, i4, c3.any.trans i5⟩
      | some b =>
        cases a with
        | none => cases c1
        | some a =>
          have p := put_at (f := fun acc => if acc.length < sizeLine then some (acc ++ [a]) else none) (acc' := acc ++ [a]) hD at1 (by rw [if_pos (by simp at hs; omega)])
          simp only
          rw [p]
          have k2 : Kq [D] n (B ++ h1) (B ++ h1.set (D - B.length) (.lst (acc ++ [a]))) := by rw [set_app hD]; exact .set1
          have at2 : (B ++ h1.set (D - B.length) (.lst (acc ++ [a])))[D]? = some (.lst (acc ++ [a])) := by rw [set_app hD, List.getElem?_set_self (lt_of_get at1)]
          have d2 : Td dr n B (h1.set (D - B.length) (.lst (acc ++ [a]))) t1 := fun q => ⟨(c2 q).1, by rw [set_app hD, List.getElem?_set_ne hDn]; exact (c2 q).2⟩
          have I := ih (i + 1) m _ (acc ++ [a]) t1 e2 (by simpa using hm) (by simp at hs ⊢; omega) (k1.trans k2) at2 d2
          revert I
          simp only
          cases lcV turn2 rest t1 with
          | bad => simp
          | exc z t2 => rintro ⟨y', h2, i1, i2, i3, i4, i5⟩; exact ⟨y', h2, i1, i2, i3, i4, (c3.any.trans k2).trans i5⟩
          | ok r t2 =>
            rintro ⟨xs, h2, i1, i2, i3, i4, i5⟩
            exact ⟨a :: xs, h2, i1, by simpa using i2, .cons ((VR.keep c1 (k2.sub (by simp))).keep (i5.sub (by simp))) i3, i4, (c3.any.trans k2).trans i5⟩
end
/-- calls beside calls -/
def CR (dr : Bool) (n : Nat) (C1 : Nat → List Vl → Hh → Hh → Res Vl) (C2 : Nat → List Vv → Ts → Rv Vv) : Prop :=
  ∀ f xs ys B h t O, Ob_ n O (B ++ h) → VRs n O (B ++ h) xs ys → Td dr n B h t → Sim dr n B O (VR n O) h (C1 f xs B h) (C2 f ys t)
def GR (gl1 : List Vl) (gl2 : List Vv) : Prop := ∀ (k : Nat) (w : Vv), gl2[k]? = some w → ∃ v, gl1[k]? = some v ∧ ∀ n O g, VR n O g v w
structure En (dr : Bool) (n : Nat) (B : Hh) (O X : List Nat) (h : Hh) (σ : Ev) (τ : Es) (t : Ts) : Prop where
  ob : Ob_ n O (B ++ h)
  er : ER n O X (B ++ h) σ τ
  td : Td dr n B h t
theorem En.next {dr : Bool} {n : Nat} {B : Hh} {O X : List Nat} {h h' : Hh} {σ : Ev} {τ : Es} {t t' : Ts} (c : En dr n B O X h σ τ t) (d : Td dr n B h' t') (k : Kq [] n (B ++ h) (B ++ h')) : En dr n B O X h' σ τ t' :=
  ⟨c.ob.keep k, c.er.keep k.any, d⟩
section
variable {dr : Bool} {n : Nat} {C1 : Nat → List Vl → Hh → Hh → Res Vl} {C2 : Nat → List Vv → Ts → Rv Vv} {gl1 : List Vl} {gl2 : List Vv}
theorem or2 {a b : Bool} (h : (a || b) = false) : a = false ∧ b = false := by cases a <;> cases b <;> simp_all
theorem bind_fun {α β : Type} (r : Res α) (k : α → Hh → Res β) : r.bind k = r.bind (fun a h => k a h) := rfl
set_option maxHeartbeats 1000000 in
mutual
theorem ev_sim (cr : CR dr n C1 C2) (gr : GR gl1 gl2) : ∀ (e : Ex) {B : Hh} {O X : List Nat} {h : Hh} {σ : Ev} {τ : Es} {t : Ts}, En dr n B O X h σ τ t → men X e = false →
    Sim dr n B O (fun g v w => VR n O g v w ∧ (fresh e = true → FR n O (B ++ h).length g v w)) h (ev ⟨C1, gl1⟩ B e σ h) (vv ⟨C2, gl2⟩ e τ t)
  | .var i, B, O, X, h, σ, τ, t, c, m => by
    rw [ev, vv]
    cases e : τ[i]? with
    | none => trivial
    | some o =>
      cases o with
      | none => trivial
      | some w =>
        obtain ⟨v, e1, r⟩ := c.er.2 i w m e
        rw [e1]
        exact Sim.ok ⟨r, fun q => by cases q⟩ c.td
  | .int i, B, O, X, h, σ, τ, t, c, m => by rw [ev, vv]; exact Sim.ok ⟨.int _, fun q => by cases q⟩ c.td
  | .bl i, B, O, X, h, σ, τ, t, c, m => by rw [ev, vv]; exact Sim.ok ⟨.bl _, fun q => by cases q⟩ c.td
  | .non, B, O, X, h, σ, τ, t, c, m => by rw [ev, vv]; exact Sim.ok ⟨.non, fun q => by cases q⟩ c.td
  | .str x, B, O, X, h, σ, τ, t, c, m => by rw [ev, vv]; exact Sim.ok ⟨.str _, fun q => by cases q⟩ c.td
  | .glo k, B, O, X, h, σ, τ, t, c, m => by
    rw [ev, vv]
    exact Sim.of c.td fun b e => let ⟨v, e1, r⟩ := gr k b e; ⟨v, e1, r _ _ _, fun q => by cases q⟩
  | .bin op a b, B, O, X, h, σ, τ, t, c, m => by
    rw [ev, vv]
    have m := or2 m
    refine (ev_sim cr gr a c m.1).bind fun x y h1 t1 r1 d1 k1 => ?_
    have c1 := c.next d1 k1
    refine (ev_sim cr gr b c1 m.2).bind fun x' y' h2 t2 r2 d2 k2 => ?_
    have c2 := c1.next d2 k2
    exact (sim_bop c2.ob (r1.1.keep k2.any) r2.1 d2 (k1.trans k2).1).mono fun _ _ _ q => ⟨q.1, fun _ => q⟩
  | .neg a, B, O, X, h, σ, τ, t, c, m => by
    rw [ev, vv]
    refine (ev_sim cr gr a c m).bind fun x y h1 t1 r1 d1 k1 => ?_
    cases r1.1 with
    | int i => exact Sim.ok ⟨.int _, fun q => by cases q⟩ d1
    | _ => trivial
  | .not a, B, O, X, h, σ, τ, t, c, m => by
    rw [ev, vv]
    refine Sim.bind (R := Eqr) ((ev_sim cr gr a c m).bind fun x y h1 t1 r1 d1 k1 => Sim.toB r1.1 d1) fun x y h1 t1 r1 d1 k1 => ?_
    cases r1
    exact Sim.ok ⟨.bl _, fun q => by cases q⟩ d1
  | .cmp op a b, B, O, X, h, σ, τ, t, c, m => by
    rw [ev, vv]
    have m := or2 m
    refine (ev_sim cr gr a c m.1).bind fun x y h1 t1 r1 d1 k1 => ?_
    have c1 := c.next d1 k1
    refine (ev_sim cr gr b c1 m.2).bind fun x' y' h2 t2 r2 d2 k2 => ?_
    cases e : copV op y y' with
    | none => trivial
    | some k =>
      rw [VR.cop (r1.1.keep k2.any) r2.1 e]
      exact Sim.ok ⟨.bl _, fun q => by cases q⟩ d2
  | .chain o p a b d, B, O, X, h, σ, τ, t, c, m => by
    rw [ev, vv]
    have m0 := or2 m
    have m := or2 m0.1
    refine (ev_sim cr gr a c m.1).bind fun x y h1 t1 r1 d1 k1 => ?_
    have c1 := c.next d1 k1
    refine (ev_sim cr gr b c1 m.2).bind fun x' y' h2 t2 r2 d2 k2 => ?_
    have c2 := c1.next d2 k2
    cases e : copV o y y' with
    | none => trivial
    | some k =>
      rw [VR.cop (r1.1.keep k2.any) r2.1 e]
      cases k with
      | false => exact Sim.ok ⟨.bl _, fun q => by cases q⟩ d2
      | true =>
        show Sim dr n B O _ h2 ((ev ⟨C1, gl1⟩ B d σ h2).bind _) ((vv ⟨C2, gl2⟩ d τ t2).bind _)
        refine Sim.bind (ev_sim cr gr d c2 m0.2) fun x'' y'' h3 t3 r3 d3 k3 => ?_
        cases e : copV p y' y'' with
        | none => trivial
        | some k =>
          rw [VR.cop (r2.1.keep k3.any) r3.1 e]
          exact Sim.ok ⟨.bl _, fun q => by cases q⟩ d3
  | .isN a, B, O, X, h, σ, τ, t, c, m => by
    rw [ev, vv]
    refine (ev_sim cr gr a c m).bind fun x y h1 t1 r1 d1 k1 => ?_
    cases r1.1 <;> exact Sim.ok ⟨.bl _, fun q => by cases q⟩ d1
  | .notN a, B, O, X, h, σ, τ, t, c, m => by
    rw [ev, vv]
    refine (ev_sim cr gr a c m).bind fun x y h1 t1 r1 d1 k1 => ?_
    cases r1.1 <;> exact Sim.ok ⟨.bl _, fun q => by cases q⟩ d1
  | .and es, B, O, X, h, σ, τ, t, c, m => by
    rw [ev, vv]
    exact (evAnd_sim cr gr es c m).mono fun _ _ _ q => ⟨q, fun q => by cases q⟩
  | .or es, B, O, X, h, σ, τ, t, c, m => by
    rw [ev, vv]
    exact (evOr_sim cr gr es c m).mono fun _ _ _ q => ⟨q, fun q => by cases q⟩
  | .ife d a b, B, O, X, h, σ, τ, t, c, m => by
    rw [ev, vv]
    have m0 := or2 m
    have m := or2 m0.1
    refine Sim.bind (R := Eqr) ((ev_sim cr gr d c m.1).bind fun x y h1 t1 r1 d1 k1 => Sim.toB r1.1 d1) fun x y h1 t1 r1 d1 k1 => ?_
    cases r1
    cases x with
    | true => exact (ev_sim cr gr a (c.next d1 k1) m.2).mono fun _ _ _ q => ⟨q.1, fun q => by cases q⟩
    | false => exact (ev_sim cr gr b (c.next d1 k1) m0.2).mono fun _ _ _ q => ⟨q.1, fun q => by cases q⟩
  | .tup es, B, O, X, h, σ, τ, t, c, m => by
    rw [ev, vv]
    refine (evs_sim cr gr es c m).bind fun x y h1 t1 r1 d1 k1 => ?_
    rw [r1.length]
    split
    · exact Sim.ok ⟨.tup r1, fun q => by cases q⟩ d1
    · trivial
  | .lst es, B, O, X, h, σ, τ, t, c, m => by
    rw [ev, vv]
    refine (evs_sim cr gr es c m).bind fun x y h1 t1 r1 d1 k1 => ?_
    rw [r1.length]
    split
    · exact (sim_new (c.next d1 k1).ob r1 d1 k1.1).mono fun _ _ _ q => ⟨q.1, fun _ => q⟩
    · trivial
  | .call f es, B, O, X, h, σ, τ, t, c, m => by
    rw [ev, vv]
    refine (evs_sim cr gr es c m).bind fun x y h1 t1 r1 d1 k1 => ?_
    exact (cr f x y B h1 t1 O (c.next d1 k1).ob r1 d1).mono fun _ _ _ q => ⟨q, fun q => by cases q⟩
  | .callk f es ks kes perm, B, O, X, h, σ, τ, t, c, m => by
    rw [ev, vv]
    have m := or2 m
    refine (evs_sim cr gr es c m.1).bind fun x y h1 t1 r1 d1 k1 => ?_
    refine (evs_sim cr gr kes (c.next d1 k1) m.2).bind fun x' y' h2 t2 r2 d2 k2 => ?_
    exact (cr f _ _ B h2 t2 O ((c.next d1 k1).next d2 k2).ob (((r1.keep k2.any).append r2).perm perm) d2).mono fun _ _ _ q => ⟨q, fun q => by cases q⟩
  | .bi b es, B, O, X, h, σ, τ, t, c, m => by
    rw [ev, vv]
    refine (evs_sim cr gr es c m).bind fun x y h1 t1 r1 d1 k1 => ?_
    refine (sim_bi (c.next d1 k1).ob r1 d1 k1.1).mono fun _ _ _ q => ⟨q.1, fun hf => q.2 ?_⟩
    cases b <;> first | rfl | cases hf
  | .isi a ty, B, O, X, h, σ, τ, t, c, m => by
    rw [ev, vv]
    refine (ev_sim cr gr a c m).bind fun x y h1 t1 r1 d1 k1 => ?_
    cases e : isTyV ty y with
    | none => trivial
    | some k => rw [r1.1.isTy e]; exact Sim.ok ⟨.bl _, fun q => by cases q⟩ d1
  | .isis a ts, B, O, X, h, σ, τ, t, c, m => by
    rw [ev, vv]
    refine (ev_sim cr gr a c m).bind fun x y h1 t1 r1 d1 k1 => ?_
    cases e : isTysV y ts with
    | none => trivial
    | some k => rw [r1.1.isTys e]; exact Sim.ok ⟨.bl _, fun q => by cases q⟩ d1
  | .ix a i, B, O, X, h, σ, τ, t, c, m => by
    rw [ev, vv]
    have m := or2 m
    refine (ev_sim cr gr a c m.1).bind fun x y h1 t1 r1 d1 k1 => ?_
    have c1 := c.next d1 k1
    refine (ev_sim cr gr i c1 m.2).bind fun x' y' h2 t2 r2 d2 k2 => ?_
    refine Sim.of d2 fun b e => ?_
    cases r2.1 with
    | int i =>
      simp only [ixW, Option.bind_eq_some_iff] at e
      obtain ⟨ys, e1, e2⟩ := e
      obtain ⟨xs, i1, i2⟩ := (r1.1.keep (k2.any (O := O))).items e1
      obtain ⟨z, z1, z2⟩ := i2.atI e2
      exact ⟨z, by rw [ixV_int, i1]; exact z1, z2, fun q => by cases q⟩
    | _ => simp [ixW] at e
  | .sl a lo hi, B, O, X, h, σ, τ, t, c, m => by
    rw [ev, vv]
    have m0 := or2 m
    have m := or2 m0.1
    refine (ev_sim cr gr a c m.1).bind fun x y h1 t1 r1 d1 k1 => ?_
    have c1 := c.next d1 k1
    refine (evPt_sim cr gr lo c1 m.2).bind fun x' y' h2 t2 r2 d2 k2 => ?_
    have c2 := c1.next d2 k2
    refine (evPt_sim cr gr hi c2 m0.2).bind fun x'' y'' h3 t3 r3 d3 k3 => ?_
    cases r2; cases r3
    exact (sim_sl (c2.next d3 k3).ob ((r1.1.keep k2.any).keep k3.any) d3 ((k1.trans k2).trans k3).1).mono fun _ _ _ q => ⟨q.1, fun _ => q⟩
  | .lc own tg it cn e, B, O, X, h, σ, τ, t, c, m => by
    rw [ev, vv]
    have m0 := or2 m
    have m := or2 m0.1
    refine (evIt_sim cr gr it c m.1).bind fun w ws h1 t1 r1 d1 k1 => ?_
    have c1 := c.next d1 k1
    split
    · rename_i hl
      have kD : Kq [(B ++ h1).length] n (B ++ h1) (B ++ (h1 ++ [.lst []])) := .moreB
      have hDn : (B ++ h1).length ≠ n := fun e => by have := c1.ob.1; omega
      have hDO : (B ++ h1).length ∉ O := fun hm => Nat.lt_irrefl _ (c1.ob.2 _ hm)
      have kk : ∀ {h2 : Hh}, Kq [(B ++ h1).length] n (B ++ h1) (B ++ h2) → Kq ((B ++ h1).length :: O) n (B ++ h1) (B ++ h2) := fun k => k.sub (by simp)
      have W : ∀ {h2 : Hh}, Kq [(B ++ h1).length] n (B ++ h1) (B ++ h2) → WR n ((B ++ h1).length :: O) (B ++ h2) w ws := fun k => r1.2 _ _ (fun m hm hl => by rcases List.mem_cons.mp hm with rfl | hm; (exact absurd hl (Nat.lt_irrefl _)); exact hm) (kk k)
      have := sim_lcTurns (dr := dr) (n := n) (B := B) (O := O) (w := w) (ws := ws) (D := (B ++ h1).length) (g0 := B ++ h1)
        (turn1 := fun x h2 => match setTg (B ++ h2) tg x (wipeE σ own) with
          | none => .bad
          | some σ2 => (tvCn ⟨C1, gl1⟩ B cn σ2 h2).bind fun k h3 => if k then (ev ⟨C1, gl1⟩ B e σ2 h3).bind fun y h4 => .ok (some y) h4 else .ok none h3)
        (turn2 := fun x t2 => (Rv.of (setTgV tg x (wipeV τ own)) t2).bind fun σ2 t3 => (vvCn ⟨C2, gl2⟩ cn σ2 t3).bind fun k t4 =>
          if k then (vv ⟨C2, gl2⟩ e σ2 t4).bind fun y t5 => .ok (some y) t5 else .ok none t4)
        (by simp) hDn ?_ (fun h2 k => W k) ws 0 (w.most (B ++ h1)) (h1 ++ [.lst []]) [] t1 rfl ((W .refl).1) (by simpa using hl) kD (by rw [← List.append_assoc]; simp) (d1.more _)
      · revert this
        generalize lcV _ ws t1 = rr
        cases rr with
        | bad => intro _; trivial
        | exc z t2 =>
          rintro ⟨y', h2, i1, i2, i3, i4, i5⟩
          exact ⟨y', h2, i1, i2, i3.less (fun m hm => List.mem_cons_of_mem _ hm), i4, (kD.trans i5).sub (by simp)⟩
        | ok r t2 =>
          rintro ⟨xs, h2, i1, i2, i3, i4, i5⟩
          have q : VR n O (B ++ h2) (.ref (B ++ h1).length) (.lst r) := .lst (by simpa using i2) hDO hDn (i3.less (fun m hm => List.mem_cons_of_mem _ hm))
          exact ⟨_, h2, i1, ⟨q, fun _ => ⟨q, fun ys' e => by cases e; exact ⟨_, xs, rfl, k1.1, by simpa using i2, i3⟩⟩⟩, i4, (kD.trans i5).sub (by simp)⟩
      · intro x y h2 t2 k2 hlt rx d2
        cases e1 : setTgV tg y (wipeV τ own) with
        | none => trivial
        | some τ2 =>
          have er0 : ER n ((B ++ h1).length :: O) X (B ++ h2) (wipeE σ own) (wipeV τ own) := ((c1.er.newO (Nat.le_refl _)).keep (kk k2)).wipe own
          obtain ⟨σ2, s1, s2⟩ := er0.setTg rx e1
          rw [s1]
          have c2 : En dr n B ((B ++ h1).length :: O) X h2 σ2 τ2 t2 := ⟨⟨Nat.lt_of_lt_of_le c1.ob.1 k2.1, fun m hm => by
            rcases List.mem_cons.mp hm with rfl | hm
            · exact hlt
            · exact Nat.lt_of_lt_of_le (c1.ob.2 m hm) k2.1⟩, s2, d2⟩
          show Sim dr n B _ _ h2 ((tvCn ⟨C1, gl1⟩ B cn σ2 h2).bind _) ((vvCn ⟨C2, gl2⟩ cn τ2 t2).bind _)
          refine Sim.bind (evCn_sim cr gr cn c2 m.2) fun k k' h3 t3 r3 d3 k3 => ?_
          cases r3
          cases k with
          | false => exact Sim.ok trivial d3
          | true =>
            refine Sim.bind (ev_sim cr gr e (c2.next d3 k3) m0.2) fun v v' h4 t4 r4 d4 k4 => ?_
            exact Sim.ok r4.1 d4
    · trivial
theorem evAnd_sim (cr : CR dr n C1 C2) (gr : GR gl1 gl2) : ∀ (es : Exs) {B : Hh} {O X : List Nat} {h : Hh} {σ : Ev} {τ : Es} {t : Ts}, En dr n B O X h σ τ t → menS X es = false →
    Sim dr n B O (VR n O) h (evAnd ⟨C1, gl1⟩ B es σ h) (vvAnd ⟨C2, gl2⟩ es τ t)
  | .nil, B, O, X, h, σ, τ, t, c, m => by rw [vvAnd]; trivial
  | .star _ _, B, O, X, h, σ, τ, t, c, m => by rw [vvAnd]; trivial
  | .cons e .nil, B, O, X, h, σ, τ, t, c, m => by rw [evAnd, vvAnd]; exact (ev_sim cr gr e c (or2 m).1).mono fun _ _ _ q => q.1
  | .cons e (.cons e' es), B, O, X, h, σ, τ, t, c, m => by
    have m := or2 m
    rw [evAnd, vvAnd]
    refine (ev_sim cr gr e c m.1).bind fun x y h1 t1 r1 d1 k1 => ?_
    cases q : truV y with
    | none => simp [toBV, q, Rv.of, Rv.bind, Sim]
    | some b =>
      rw [r1.1.tru q]; simp only [toBV, q, Rv.of, Rv.bind]
      cases b with
      | true => exact evAnd_sim cr gr (.cons e' es) (c.next d1 k1) m.2
      | false => exact Sim.ok r1.1 d1
    · intro h; cases h
    · intro h; cases h
  | .cons e (.star e' es), B, O, X, h, σ, τ, t, c, m => by
    have m := or2 m
    rw [evAnd, vvAnd]
    refine (ev_sim cr gr e c m.1).bind fun x y h1 t1 r1 d1 k1 => ?_
    cases q : truV y with
    | none => simp [toBV, q, Rv.of, Rv.bind, Sim]
    | some b =>
      rw [r1.1.tru q]; simp only [toBV, q, Rv.of, Rv.bind]
      cases b with
      | true => exact evAnd_sim cr gr (.star e' es) (c.next d1 k1) m.2
      | false => exact Sim.ok r1.1 d1
    · intro h; cases h
    · intro h; cases h
theorem evOr_sim (cr : CR dr n C1 C2) (gr : GR gl1 gl2) : ∀ (es : Exs) {B : Hh} {O X : List Nat} {h : Hh} {σ : Ev} {τ : Es} {t : Ts}, En dr n B O X h σ τ t → menS X es = false →
    Sim dr n B O (VR n O) h (evOr ⟨C1, gl1⟩ B es σ h) (vvOr ⟨C2, gl2⟩ es τ t)
  | .nil, B, O, X, h, σ, τ, t, c, m => by rw [vvOr]; trivial
  | .star _ _, B, O, X, h, σ, τ, t, c, m => by rw [vvOr]; trivial
  | .cons e .nil, B, O, X, h, σ, τ, t, c, m => by rw [evOr, vvOr]; exact (ev_sim cr gr e c (or2 m).1).mono fun _ _ _ q => q.1
  | .cons e (.cons e' es), B, O, X, h, σ, τ, t, c, m => by
    have m := or2 m
    rw [evOr, vvOr]
    refine (ev_sim cr gr e c m.1).bind fun x y h1 t1 r1 d1 k1 => ?_
    cases q : truV y with
    | none => simp [toBV, q, Rv.of, Rv.bind, Sim]
    | some b =>
      rw [r1.1.tru q]; simp only [toBV, q, Rv.of, Rv.bind]
      cases b with
      | false => exact evOr_sim cr gr (.cons e' es) (c.next d1 k1) m.2
      | true => exact Sim.ok r1.1 d1
    · intro h; cases h
    · intro h; cases h
  | .cons e (.star e' es), B, O, X, h, σ, τ, t, c, m => by
    have m := or2 m
    rw [evOr, vvOr]
    refine (ev_sim cr gr e c m.1).bind fun x y h1 t1 r1 d1 k1 => ?_
    cases q : truV y with
    | none => simp [toBV, q, Rv.of, Rv.bind, Sim]
    | some b =>
      rw [r1.1.tru q]; simp only [toBV, q, Rv.of, Rv.bind]
      cases b with
      | false => exact evOr_sim cr gr (.star e' es) (c.next d1 k1) m.2
      | true => exact Sim.ok r1.1 d1
    · intro h; cases h
    · intro h; cases h
theorem evs_sim (cr : CR dr n C1 C2) (gr : GR gl1 gl2) : ∀ (es : Exs) {B : Hh} {O X : List Nat} {h : Hh} {σ : Ev} {τ : Es} {t : Ts}, En dr n B O X h σ τ t → menS X es = false →
    Sim dr n B O (VRs n O) h (evs ⟨C1, gl1⟩ B es σ h) (vvs ⟨C2, gl2⟩ es τ t)
  | .nil, B, O, X, h, σ, τ, t, c, m => by rw [evs, vvs]; exact Sim.ok .nil c.td
  | .cons e es, B, O, X, h, σ, τ, t, c, m => by
    have m := or2 m
    rw [evs, vvs]
    refine (ev_sim cr gr e c m.1).bind fun x y h1 t1 r1 d1 k1 => ?_
    refine (evs_sim cr gr es (c.next d1 k1) m.2).bind fun x' y' h2 t2 r2 d2 k2 => ?_
    exact Sim.ok (.cons (r1.1.keep k2.any) r2) d2
  | .star e es, B, O, X, h, σ, τ, t, c, m => by
    have m := or2 m
    rw [evs, vvs]
    refine (ev_sim cr gr e c m.1).bind fun x y h1 t1 r1 d1 k1 => ?_
    cases q : itemsV y with
    | none => simp [Rv.of, Rv.bind, Sim]
    | some ys =>
      obtain ⟨xs, i1, i2⟩ := r1.1.items q
      rw [i1]; simp only [Rv.of, Rv.bind]
      refine Sim.bind (evs_sim cr gr es (c.next d1 k1) m.2) fun x' y' h2 t2 r2 d2 k2 => ?_
      exact Sim.ok ((i2.keep k2.any).append r2) d2
theorem evPt_sim (cr : CR dr n C1 C2) (gr : GR gl1 gl2) : ∀ (p : Pt) {B : Hh} {O X : List Nat} {h : Hh} {σ : Ev} {τ : Es} {t : Ts}, En dr n B O X h σ τ t → menP X p = false →
    Sim dr n B O Eqr h (evPt ⟨C1, gl1⟩ B p σ h) (vvPt ⟨C2, gl2⟩ p τ t)
  | .no, B, O, X, h, σ, τ, t, c, m => by rw [evPt, vvPt]; exact Sim.ok rfl c.td
  | .yes e, B, O, X, h, σ, τ, t, c, m => by
    rw [evPt, vvPt]
    refine (ev_sim cr gr e c m).bind fun x y h1 t1 r1 d1 k1 => ?_
    cases r1.1 with
    | int i => exact Sim.ok rfl d1
    | _ => trivial
theorem evCn_sim (cr : CR dr n C1 C2) (gr : GR gl1 gl2) : ∀ (p : Cn) {B : Hh} {O X : List Nat} {h : Hh} {σ : Ev} {τ : Es} {t : Ts}, En dr n B O X h σ τ t → menC X p = false →
    Sim dr n B O Eqr h (tvCn ⟨C1, gl1⟩ B p σ h) (vvCn ⟨C2, gl2⟩ p τ t)
  | .no, B, O, X, h, σ, τ, t, c, m => by rw [tvCn, vvCn]; exact Sim.ok rfl c.td
  | .yes e, B, O, X, h, σ, τ, t, c, m => by
    rw [tvCn, vvCn]
    exact (ev_sim cr gr e c m).bind fun x y h1 t1 r1 d1 k1 => Sim.toB r1.1 d1
theorem evIt_sim (cr : CR dr n C1 C2) (gr : GR gl1 gl2) : ∀ (p : It) {B : Hh} {O X : List Nat} {h : Hh} {σ : Ev} {τ : Es} {t : Ts}, En dr n B O X h σ τ t → menI X p = false →
    Sim dr n B O (fun g w ws => (rngIt p = true → ∀ n O g, WR n O g w ws) ∧ WRS n O g w ws) h (evIt ⟨C1, gl1⟩ B p σ h) (vvIt ⟨C2, gl2⟩ p τ t) 
  | .seq a, B, O, X, h, σ, τ, t, c, m => by
    rw [evIt, vvIt]
    refine (ev_sim cr gr a c m).bind fun x y h1 t1 r1 d1 k1 => ?_
    cases q : itemsV y with
    | none => trivial
    | some ys =>
      obtain ⟨xs, i1, i2⟩ := r1.1.items q
      rw [i1]
      exact Sim.ok ⟨fun q => (by cases q), fun O' g' s k => .seq (r1.1.to s k) q⟩ d1
  | .range1 a, B, O, X, h, σ, τ, t, c, m => by
    rw [evIt, vvIt]
    refine (ev_sim cr gr a c m).bind fun x y h1 t1 r1 d1 k1 => ?_
    cases r1.1 with
    | int j =>
      simp only [intV, Rv.bind]
      split
      · exact Sim.ok ⟨fun _ _ _ _ => .rng _ _, fun O' g' s k => .rng _ _⟩ d1
      · trivial
    | _ => trivial
  | .range2 a b, B, O, X, h, σ, τ, t, c, m => by
    rw [evIt, vvIt]
    have m := or2 m
    refine (ev_sim cr gr a c m.1).bind fun x y h1 t1 r1 d1 k1 => ?_
    refine (ev_sim cr gr b (c.next d1 k1) m.2).bind fun x' y' h2 t2 r2 d2 k2 => ?_
    cases r1.1 with
    | int i =>
      cases r2.1 with
      | int j =>
        simp only [intV, Rv.bind]
        split
        · exact Sim.ok ⟨fun _ _ _ _ => .rng _ _, fun O' g' s k => .rng _ _⟩ d2
        · trivial
      | _ => trivial
    | _ => cases r2.1 <;> trivial
  | .zip a b, B, O, X, h, σ, τ, t, c, m => by
    rw [evIt, vvIt]
    have m := or2 m
    refine (ev_sim cr gr a c m.1).bind fun x y h1 t1 r1 d1 k1 => ?_
    refine (ev_sim cr gr b (c.next d1 k1) m.2).bind fun x' y' h2 t2 r2 d2 k2 => ?_
    have q1 := r1.1.keep (k2.any (O := O))
    have q2 := r2.1
    cases y with
    | tup ys =>
      cases y' with
      | tup ys' =>
        have W := fun (O' : List Nat) (g' : Hh) s k => WR.zip (VR.to (O' := O') (g' := g') q1 s k) rfl (VR.to q2 s k) rfl
        cases q1 with
        | tup q1 => cases q2 with
          | tup q2 => exact Sim.ok ⟨fun q => (by cases q), W⟩ d2
      | _ => trivial
    | lst ys =>
      cases y' with
      | lst ys' =>
        have W := fun (O' : List Nat) (g' : Hh) s k => WR.zip (VR.to (O' := O') (g' := g') q1 s k) rfl (VR.to q2 s k) rfl
        cases q1 with
        | lst a1 a2 a3 q1 => cases q2 with
          | lst b1 b2 b3 q2 => simp only [a1, b1]; exact Sim.ok ⟨fun q => (by cases q), W⟩ d2
      | _ => trivial
    | _ => trivial
  | .enum a, B, O, X, h, σ, τ, t, c, m => by
    rw [evIt, vvIt]
    refine (ev_sim cr gr a c m).bind fun x y h1 t1 r1 d1 k1 => ?_
    have q1 := r1.1
    cases y with
    | lst ys =>
      have W := fun (O' : List Nat) (g' : Hh) s k => WR.enum (VR.to (O' := O') (g' := g') q1 s k) rfl
      cases q1 with
      | lst a1 a2 a3 q1 => simp only [a1]; exact Sim.ok ⟨fun q => (by cases q), W⟩ d1
    | _ => trivial
end
end
end GB

end
section
set_option Elab.async false
set_option linter.all false
set_option maxRecDepth 100000
/-! GbV5: statements. -/
namespace GB
open PySem PySem.Spec PyProof.Rows L2
mutual
theorem men_nil : ∀ e : Ex, men [] e = false
  | .var i => by simp [men]
  | .int _ => by simp [men]
  | .bl _ => by simp [men]
  | .non => by simp [men]
  | .str _ => by simp [men]
  | .glo _ => by simp [men]
  | .bin _ a b => by simp [men, men_nil a, men_nil b]
  | .neg a => by simp [men, men_nil a]
  | .not a => by simp [men, men_nil a]
  | .isN a => by simp [men, men_nil a]
  | .notN a => by simp [men, men_nil a]
  | .isi a _ => by simp [men, men_nil a]
  | .isis a _ => by simp [men, men_nil a]
  | .cmp _ a b => by simp [men, men_nil a, men_nil b]
  | .chain _ _ a b d => by simp [men, men_nil a, men_nil b, men_nil d]
  | .and es => by simp [men, menS_nil es]
  | .or es => by simp [men, menS_nil es]
  | .tup es => by simp [men, menS_nil es]
  | .lst es => by simp [men, menS_nil es]
  | .call _ es => by simp [men, menS_nil es]
  | .bi _ es => by simp [men, menS_nil es]
  | .callk _ es _ kes _ => by simp [men, menS_nil es, menS_nil kes]
  | .ife d a b => by simp [men, men_nil a, men_nil b, men_nil d]
  | .ix a i => by simp [men, men_nil a, men_nil i]
  | .sl a lo hi => by simp [men, men_nil a, menP_nil lo, menP_nil hi]
  | .lc _ _ it cn e => by simp [men, menI_nil it, menC_nil cn, men_nil e]
theorem menS_nil : ∀ e : Exs, menS [] e = false
  | .nil => by simp [menS]
  | .cons e es => by simp [menS, men_nil e, menS_nil es]
  | .star e es => by simp [menS, men_nil e, menS_nil es]
theorem menP_nil : ∀ e : Pt, menP [] e = false
  | .no => by simp [menP]
  | .yes e => by simp [menP, men_nil e]
theorem menC_nil : ∀ e : Cn, menC [] e = false
  | .no => by simp [menC]
  | .yes e => by simp [menC, men_nil e]
theorem menI_nil : ∀ e : It, menI [] e = false
  | .seq a => by simp [menI, men_nil a]
  | .range1 a => by simp [menI, men_nil a]
  | .enum a => by simp [menI, men_nil a]
  | .range2 a b => by simp [menI, men_nil a, men_nil b]
  | .zip a b => by simp [menI, men_nil a, men_nil b]
end
/-- the slots of a body: those that M names hold lists of their own -/
structure SE (dr : Bool) (n : Nat) (B : Hh) (O0 U M : List Nat) (h : Hh) (σ : Ev) (τ : Es) (t : Ts) : Prop where
  ob : Ob_ n (U ++ O0) (B ++ h)
  fr : ER n (U ++ O0) M (B ++ h) σ τ
  ow : ∀ i w, M.contains i = true → τ[i]? = some (some w) → ∃ m xs ys, w = .lst ys ∧ σ[i]? = some (some (.ref m)) ∧ m ∈ U ∧ (B ++ h)[m]? = some (.lst xs) ∧ VRs n (U ++ O0) (B ++ h) xs ys
  ap : ∀ i j m w w', M.contains i = true → M.contains j = true → i ≠ j → τ[i]? = some (some w) → τ[j]? = some (some w') → σ[i]? = some (some (.ref m)) → σ[j]? ≠ some (some (.ref m))
  un : ∀ m, m ∈ U → B.length ≤ m ∧ m ∉ O0 ∧ m ≠ n
  td : Td dr n B h t
/-- what stands, what is new -/
structure Ks (U U' : List Nat) (n : Nat) (g g' : Hh) : Prop where
  up : ∀ m, m ∈ U → m ∈ U'
  nw : ∀ m, m ∈ U' → m ∈ U ∨ g.length ≤ m
  kq : Kq U n g g'
theorem Ks.refl {U : List Nat} {n : Nat} {g : Hh} : Ks U U n g g := ⟨fun _ h => h, fun _ h => .inl h, .refl⟩
theorem Ks.trans {U U1 U2 : List Nat} {n : Nat} {g g1 g2 : Hh} (a : Ks U U1 n g g1) (b : Ks U1 U2 n g1 g2) : Ks U U2 n g g2 := by
  refine ⟨fun m h => b.up m (a.up m h), fun m h => ?_, Nat.le_trans a.kq.1 b.kq.1, fun i h1 h2 h3 => ?_⟩
  · rcases b.nw m h with h | h
    · exact a.nw m h
    · exact .inr (Nat.le_trans a.kq.1 h)
  · rw [b.kq.2 i (Nat.lt_of_lt_of_le h1 a.kq.1) (fun h => by rcases a.nw i h with h | h; (exact h2 h); omega) h3, a.kq.2 i h1 h2 h3]
theorem Ks.of {U : List Nat} {n : Nat} {g g1 : Hh} (k : Kq [] n g g1) : Ks U U n g g1 := ⟨fun _ h => h, fun _ h => .inl h, k.any⟩
section
variable {dr : Bool} {n : Nat} {B : Hh} {O0 U M : List Nat}
theorem SE.next {h h' : Hh} {σ : Ev} {τ : Es} {t t' : Ts} (c : SE dr n B O0 U M h σ τ t) (d : Td dr n B h' t') (k : Kq [] n (B ++ h) (B ++ h')) : SE dr n B O0 U M h' σ τ t' where
  ob := c.ob.keep k
  fr := c.fr.keep k.any
  ow := fun i w h1 h2 => let ⟨m, xs, ys, a, b, d, e, f⟩ := c.ow i w h1 h2; ⟨m, xs, ys, a, b, d, by rw [k.2 m (lt_of_get e) (by simp) (c.un m d).2.2]; exact e, f.keep k.any⟩
  ap := c.ap
  un := c.un
  td := d
theorem SE.strong {h : Hh} {σ : Ev} {τ : Es} {t : Ts} (c : SE dr n B O0 U M h σ τ t) : En dr n B (U ++ O0) M h σ τ t := ⟨c.ob, c.fr, c.td⟩
theorem SE.weak {h : Hh} {σ : Ev} {τ : Es} {t : Ts} (c : SE dr n B O0 U M h σ τ t) : En dr n B O0 [] h σ τ t where
  ob := ⟨c.ob.1, fun m hm => c.ob.2 m (List.mem_append_right _ hm)⟩
  td := c.td
  er := ⟨c.fr.1, fun i w _ e => by
    cases hm : M.contains i with
    | false => obtain ⟨v, a, b⟩ := c.fr.2 i w hm e; exact ⟨v, a, b.less fun m h => List.mem_append_right _ h⟩
    | true =>
      obtain ⟨m, xs, ys, rfl, b, d, e, f⟩ := c.ow i w hm e
      exact ⟨_, b, .lst e (c.un m d).2.1 (c.un m d).2.2 (f.less fun m h => List.mem_append_right _ h)⟩⟩
theorem Sim.lessO {α β : Type} {R : Hh → α → β → Prop} {O O' : List Nat} {h : Hh} {r1 : Res α} {r2 : Rv β} (s : Sim dr n B O R h r1 r2) (f : ∀ m, m ∈ O' → m ∈ O) : Sim dr n B O' R h r1 r2 := by
  cases r2 with
  | ok b t => exact s
  | exc x t => obtain ⟨a, h', e, r, r', d⟩ := s; exact ⟨a, h', e, r, r'.less f, d⟩
  | bad => trivial
variable {C1 : Nat → List Vl → Hh → Hh → Res Vl} {C2 : Nat → List Vv → Ts → Rv Vv} {gl1 : List Vl} {gl2 : List Vv}
/-- a value, as weak or strong as may be -/
structure Va (n : Nat) (O0 U M : List Nat) (e : Ex) (l0 : Nat) (g : Hh) (v : Vl) (w : Vv) : Prop where
  wk : VR n O0 g v w
  st : keepOk M e w = true → VR n (U ++ O0) g v w
  fr : fresh e = true → ∀ ys, w = .lst ys → (men M e = false ∨ Vv.plains ys = true) → ∃ D xs, v = .ref D ∧ l0 ≤ D ∧ g[D]? = some (.lst xs) ∧ VRs n (D :: (U ++ O0)) g xs ys
theorem ev_val (cr : CR dr n C1 C2) (gr : GR gl1 gl2) (e : Ex) {h : Hh} {σ : Ev} {τ : Es} {t : Ts} (c : SE dr n B O0 U M h σ τ t) :
    Sim dr n B O0 (Va n O0 U M e (B ++ h).length) h (ev ⟨C1, gl1⟩ B e σ h) (vv ⟨C2, gl2⟩ e τ t) := by
  cases hm : men M e with
  | false =>
    refine ((ev_sim cr gr e c.strong hm).lessO fun m h => List.mem_append_right _ h).mono fun g v w q => ?_
    exact ⟨q.1.less fun m h => List.mem_append_right _ h, fun _ => q.1, fun hf ys e _ => (q.2 hf).2 ys e⟩
  | true =>
    have W := ev_sim cr gr e c.weak (men_nil e)
    revert W
    cases vv ⟨C2, gl2⟩ e τ t with
    | bad => exact fun _ => trivial
    | exc x t1 => exact fun W => W
    | ok w t1 =>
      rintro ⟨v, h', e1, q, d, k⟩
      refine ⟨v, h', e1, ⟨q.1, fun hk => ?_, fun hf ys e2 ho => ?_⟩, d, k⟩
      · have hM : M.isEmpty = false := by cases M with | nil => rw [men_nil] at hm; cases hm | cons _ _ => rfl
        simp only [keepOk, hM, hm, Bool.not_true, Bool.false_or, Bool.or_eq_true, Bool.and_eq_true] at hk
        rcases hk with hp | ⟨hf, hp⟩
        · exact (q.1.ofPlain hp).1
        · cases w with
          | lst ys =>
            obtain ⟨D, xs, rfl, hl, ha, hr⟩ := (q.2 hf).2 ys rfl
            exact .lst ha (fun hm => absurd (c.ob.2 D hm) (by omega)) (fun e => by have := c.ob.1; omega) (hr.ofPlain hp).1
          | _ => cases hp
      · obtain ⟨D, xs, rfl, hl, ha, hr⟩ := (q.2 hf).2 ys e2
        rcases ho with ho | ho
        · rw [hm] at ho; cases ho
        · exact ⟨D, xs, rfl, hl, ha, (hr.ofPlain ho).1⟩
/-- statement beside statement -/
def SimS (dr : Bool) (n : Nat) (B : Hh) (O0 M U : List Nat) (h : Hh) (r1 : Fl) (r2 : Fv) : Prop := match r2 with
  | .nx τ t => ∃ σ h' U', r1 = .nx σ h' ∧ SE dr n B O0 U' M h' σ τ t ∧ Ks U U' n (B ++ h) (B ++ h')
  | .brk τ t => ∃ σ h' U', r1 = .brk σ h' ∧ SE dr n B O0 U' M h' σ τ t ∧ Ks U U' n (B ++ h) (B ++ h')
  | .cnt τ t => ∃ σ h' U', r1 = .cnt σ h' ∧ SE dr n B O0 U' M h' σ τ t ∧ Ks U U' n (B ++ h) (B ++ h')
  | .ret w t => ∃ v h', r1 = .ret v h' ∧ VR n O0 (B ++ h') v w ∧ Td dr n B h' t ∧ Kq U n (B ++ h) (B ++ h')
  | .exc x τ t => ∃ y σ h' U', r1 = .exc y σ h' ∧ y.cls = x.cls ∧ VRs n O0 (B ++ h') y.fs x.fs ∧ SE dr n B O0 U' M h' σ τ t ∧ Ks U U' n (B ++ h) (B ++ h')
  | .bad => True
theorem Ks.kqU {U U' : List Nat} {g g' g2 : Hh} (k : Ks U U' n g g') (q : Kq U' n g' g2) : Kq U n g g2 :=
  ⟨Nat.le_trans k.kq.1 q.1, fun i h1 h2 h3 => by
    rw [q.2 i (Nat.lt_of_lt_of_le h1 k.kq.1) (fun h => by rcases k.nw i h with h | h; (exact h2 h); omega) h3, k.kq.2 i h1 h2 h3]⟩
theorem SimS.trans {U' : List Nat} {h h1 : Hh} {r1 : Fl} {r2 : Fv} (k : Ks U U' n (B ++ h) (B ++ h1)) (s : SimS dr n B O0 M U' h1 r1 r2) : SimS dr n B O0 M U h r1 r2 := by
  cases r2 with
  | nx τ t => obtain ⟨σ, h', V, a, b, d⟩ := s; exact ⟨σ, h', V, a, b, k.trans d⟩
  | brk τ t => obtain ⟨σ, h', V, a, b, d⟩ := s; exact ⟨σ, h', V, a, b, k.trans d⟩
  | cnt τ t => obtain ⟨σ, h', V, a, b, d⟩ := s; exact ⟨σ, h', V, a, b, k.trans d⟩
  | ret w t => obtain ⟨v, h', a, b, d, q⟩ := s; exact ⟨v, h', a, b, d, k.kqU q⟩
  | exc x τ t => obtain ⟨y, σ, h', V, a, b, d, e, q⟩ := s; exact ⟨y, σ, h', V, a, b, d, e, k.trans q⟩
  | bad => trivial
theorem Sim.fl {α β : Type} {R : Hh → α → β → Prop} {h : Hh} {r1 : Res α} {r2 : Rv β} {σ : Ev} {τ : Es} {t0 : Ts} {k1 : α → Hh → Fl} {k2 : β → Ts → Fv} (c : SE dr n B O0 U M h σ τ t0) (s : Sim dr n B O0 R h r1 r2)
    (k : ∀ a b h' t, R (B ++ h') a b → SE dr n B O0 U M h' σ τ t → Kq [] n (B ++ h) (B ++ h') → SimS dr n B O0 M U h' (k1 a h') (k2 b t)) : SimS dr n B O0 M U h (r1.fl σ k1) (r2.fl τ k2) := by
  cases r2 with
  | ok b t => obtain ⟨a, h', rfl, r, d, q⟩ := s; exact (k a b h' t r (c.next d q) q).trans (.of q)
  | exc x t => obtain ⟨a, h', rfl, r, r', d, q⟩ := s; exact ⟨a, σ, h', U, rfl, r, r', c.next d q, .of q⟩
  | bad => trivial
theorem get_set {α : Type} {l : List (Option α)} {i j : Nat} {a b : α} (e : (l.set i (some a))[j]? = some (some b)) : (i = j ∧ a = b ∧ j < l.length) ∨ (i ≠ j ∧ l[j]? = some (some b)) := by
  by_cases h : i = j
  · subst h
    have hl : i < (l.set i (some a)).length := (List.getElem?_eq_some_iff.mp e).1
    rw [List.length_set] at hl
    rw [List.getElem?_set_self hl] at e
    cases e
    exact .inl ⟨rfl, rfl, hl⟩
  · rw [List.getElem?_set_ne h] at e; exact .inr ⟨h, e⟩
theorem SE.free {h : Hh} {σ : Ev} {τ : Es} {t : Ts} (c : SE dr n B O0 U M h σ τ t) {i : Nat} (hi : M.contains i = false) {v : Vl} {w : Vv} (q : VR n (U ++ O0) (B ++ h) v w) : SE dr n B O0 U M h (σ.set i (some v)) (τ.set i (some w)) t where
  ob := c.ob
  fr := c.fr.set i q
  ow := fun j w' hj e => by
    have hij : i ≠ j := fun e => by subst e; rw [hi] at hj; cases hj
    rw [List.getElem?_set_ne hij] at e ⊢
    exact c.ow j w' hj e
  ap := fun j k m w' w'' hj hk hn e1 e2 e3 => by
    have hij : i ≠ j := fun e => by subst e; rw [hi] at hj; cases hj
    have hik : i ≠ k := fun e => by subst e; rw [hi] at hk; cases hk
    rw [List.getElem?_set_ne hij] at e1 e3
    rw [List.getElem?_set_ne hik] at e2 ⊢
    exact c.ap j k m w' w'' hj hk hn e1 e2 e3
  un := c.un
  td := c.td
/-- a slot takes a new list -/
theorem SE.own {h : Hh} {σ : Ev} {τ : Es} {t : Ts} (c : SE dr n B O0 U M h σ τ t) {i : Nat} (hi : M.contains i = true) {D : Nat} {xs : List Vl} {ys : List Vv} (hU : D ∈ U) (hat : (B ++ h)[D]? = some (.lst xs)) (hr : VRs n (U ++ O0) (B ++ h) xs ys)
    (hnew : ∀ j w, M.contains j = true → τ[j]? = some (some w) → σ[j]? ≠ some (some (.ref D))) : SE dr n B O0 U M h (σ.set i (some (.ref D))) (τ.set i (some (.lst ys))) t where
  ob := c.ob
  fr := by
    refine ⟨by simp [c.fr.1], fun j w' hx e => ?_⟩
    have hij : i ≠ j := fun e => by subst e; rw [hi] at hx; cases hx
    rw [List.getElem?_set_ne hij] at e ⊢
    exact c.fr.2 j w' hx e
  ow := fun j w' hj e => by
    rcases get_set e with ⟨rfl, rfl, hl⟩ | ⟨hij, e⟩
    · exact ⟨D, xs, ys, rfl, List.getElem?_set_self (by rw [c.fr.1]; exact hl), hU, hat, hr⟩
    · rw [List.getElem?_set_ne hij]; exact c.ow j w' hj e
  ap := fun j k m w' w'' hj hk hn e1 e2 e3 => by
    rcases get_set e1 with ⟨rfl, _, hl⟩ | ⟨hij, e1⟩
    · rw [List.getElem?_set_self (by rw [c.fr.1]; exact hl)] at e3
      cases e3
      rcases get_set e2 with ⟨rfl, _⟩ | ⟨hik, e2⟩
      · exact absurd rfl hn
      · rw [List.getElem?_set_ne hik]; exact hnew k w'' hk e2
    · rw [List.getElem?_set_ne hij] at e3
      rcases get_set e2 with ⟨rfl, _, hl⟩ | ⟨hik, e2⟩
      · rw [List.getElem?_set_self (by rw [c.fr.1]; exact hl)]
        intro e; cases e
        exact hnew j w' hj e1 e3
      · rw [List.getElem?_set_ne hik]; exact c.ap j k m w' w'' hj hk hn e1 e2 e3
  un := c.un
  td := c.td
/-- one more place of its own -/
theorem SE.more {h : Hh} {σ : Ev} {τ : Es} {t : Ts} (c : SE dr n B O0 U M h σ τ t) {D : Nat} {h0 : Hh} (hl : (B ++ h0).length ≤ D) (k : Kq [] n (B ++ h0) (B ++ h)) (c0 : SE dr n B O0 U M h0 σ τ t0) (hD : D < (B ++ h).length) : SE dr n B O0 (D :: U) M h σ τ t := by
  have tt : ∀ {v : Vl} {w : Vv}, VR n (U ++ O0) (B ++ h0) v w → VR n (D :: U ++ O0) (B ++ h) v w := fun q => q.to (fun m hm hlt => by
    rcases List.mem_cons.mp hm with rfl | hm
    · omega
    · exact hm) k.any
  have tts : ∀ {v : List Vl} {w : List Vv}, VRs n (U ++ O0) (B ++ h0) v w → VRs n (D :: U ++ O0) (B ++ h) v w := fun q => q.map fun m xs h1 h2 h3 => ⟨by rw [k.2 m (lt_of_get h1) (by simp) h3]; exact h1, by
    have := lt_of_get h1
    intro hm
    rcases List.mem_cons.mp hm with rfl | hm
    · omega
    · exact h2 hm⟩
  exact {
    ob := ⟨c.ob.1, fun m hm => by
      rcases List.mem_cons.mp hm with rfl | hm
      · exact hD
      · exact c.ob.2 m hm⟩
    fr := ⟨c.fr.1, fun i w hx e => let ⟨v, e, q⟩ := c0.fr.2 i w hx e; ⟨v, e, tt q⟩⟩
    ow := fun i w hm e => by
      obtain ⟨m, xs, ys, a, b, d, e, f⟩ := c0.ow i w hm e
      exact ⟨m, xs, ys, a, b, List.mem_cons_of_mem _ d, by rw [k.2 m (lt_of_get e) (by simp) (c0.un m d).2.2]; exact e, tts f⟩
    ap := c.ap
    un := fun m hm => by
      rcases List.mem_cons.mp hm with rfl | hm
      · refine ⟨by simp at hl; omega, fun h => ?_, fun e => ?_⟩
        · have := c0.ob.2 m (List.mem_append_right _ h); omega
        · have := c0.ob.1; omega
      · exact c.un m hm
    td := c.td }
end
end GB

end
section
set_option Elab.async false
set_option linter.all false
set_option maxRecDepth 100000
/-! GbV6: bodies. -/
namespace GB
open PySem PySem.Spec PyProof.Rows L2
mutual
def gk : Sm → Sm
  | .whl _ c b => .whl gas c (gks b)
  | .ite c a b => .ite c (gks a) (gks b)
  | .for_ t it b => .for_ t it (gks b)
  | s => s
def gks : Sms → Sms
  | .nil => .nil
  | .cons s ss => .cons (gk s) (gks ss)
end
section
variable {dr : Bool} {n : Nat} {B : Hh} {O0 U M : List Nat} {C1 : Nat → List Vl → Hh → Hh → Res Vl} {C2 : Nat → List Vv → Ts → Rv Vv} {gl1 : List Vl} {gl2 : List Vv}
theorem SE.setAll {h : Hh} {t : Ts} : ∀ (is : List Nat) {xs : List Vl} {ys : List Vv} {σ : Ev} {τ τ' : Es}, SE dr n B O0 U M h σ τ t → (∀ i, i ∈ is → M.contains i = false) → VRs n (U ++ O0) (B ++ h) xs ys → GB.setAll is ys τ = some τ' →
    xs.length = is.length ∧ SE dr n B O0 U M h ((is.zip xs).foldl (fun s p => s.set p.1 (some p.2)) σ) τ' t
  | [], _, _, σ, τ, τ', r, _, .nil, e => by cases e; exact ⟨rfl, r⟩
  | [], _, _, σ, τ, τ', r, _, .cons _ _, e => by cases e
  | i :: is, _, _, σ, τ, τ', r, _, .nil, e => by cases e
  | i :: is, _, _, σ, τ, τ', r, a, .cons h hs, e => by
    have ⟨x, y⟩ := SE.setAll is (r.free (a i (by simp)) h) (fun j hj => a j (by simp [hj])) hs e
    exact ⟨by simp [x], y⟩
theorem apart_of {is : List Nat} (h : apart M is = true) : ∀ i, i ∈ is → M.contains i = false := by
  intro i hi
  simp only [apart, Bool.or_eq_true, List.all_eq_true, Bool.not_eq_true'] at h
  rcases h with h | h
  · cases M with
    | nil => rfl
    | cons _ _ => cases h
  · exact h i hi
theorem SE.setTg {h : Hh} {t : Ts} {σ : Ev} {τ τ' : Es} {tg : Tg} {v : Vl} {w : Vv} (c : SE dr n B O0 U M h σ τ t) (ha : apart M tg.sl = true) (q : VR n (U ++ O0) (B ++ h) v w) (e : setTgV tg w τ = some τ') :
    ∃ σ', setTg (B ++ h) tg v σ = some σ' ∧ SE dr n B O0 U M h σ' τ' t := by
  have ha := apart_of ha
  cases tg with
  | nm i => cases e; exact ⟨_, rfl, c.free (ha i (by simp [Tg.sl])) q⟩
  | tp is =>
    simp only [setTgV, Option.bind_eq_some_iff] at e
    obtain ⟨ys, e1, e2⟩ := e
    obtain ⟨xs, i1, i2⟩ := q.items e1
    have ⟨a, b⟩ := SE.setAll is c ha i2 e2
    exact ⟨_, by simp only [GB.setTg, i1, if_pos a], b⟩
/-- a slot by its look -/
theorem SE.setOk {h h0 : Hh} {t t0 : Ts} {σ : Ev} {τ : Es} {i : Nat} {e : Ex} {v : Vl} {w : Vv} (c0 : SE dr n B O0 U M h0 σ τ t0) (c : SE dr n B O0 U M h σ τ t) (k : Kq [] n (B ++ h0) (B ++ h)) (q : Va n O0 U M e (B ++ h0).length (B ++ h) v w) (ok : GB.setOk M i e w = true) :
    ∃ U', Ks U U' n (B ++ h0) (B ++ h) ∧ SE dr n B O0 U' M h σ τ t ∧ ((M.contains i = false ∧ VR n (U' ++ O0) (B ++ h) v w) ∨
      (M.contains i = true ∧ ∃ D xs ys, v = .ref D ∧ w = .lst ys ∧ D ∈ U' ∧ (B ++ h0).length ≤ D ∧ (B ++ h)[D]? = some (.lst xs) ∧ VRs n (U' ++ O0) (B ++ h) xs ys)) := by
  cases hi : M.contains i with
  | false =>
    refine ⟨U, .of k, c, .inl ⟨rfl, q.st ?_⟩⟩
    simp only [GB.setOk, hi, Bool.or_eq_true] at ok
    rcases ok with ok | ok
    · simp [keepOk, ok]
    · simpa using ok
  | true =>
    have hM : M.isEmpty = false := by cases M with | nil => cases hi | cons _ _ => rfl
    simp only [GB.setOk, hi, hM, Bool.false_or, if_true, Bool.and_eq_true] at ok
    obtain ⟨hf, ok⟩ := ok
    cases w with
    | lst ys =>
      simp only [Bool.or_eq_true, Bool.not_eq_true'] at ok
      obtain ⟨D, xs, rfl, hl, ha, hr⟩ := q.fr hf ys rfl ok
      refine ⟨D :: U, ⟨fun m hm => List.mem_cons_of_mem _ hm, fun m hm => ?_, k.any⟩, SE.more c hl k c0 (lt_of_get ha), .inr ⟨rfl, D, xs, ys, rfl, rfl, by simp, hl, ha, hr⟩⟩
      rcases List.mem_cons.mp hm with rfl | hm
      · exact .inr hl
      · exact .inl hm
    | _ => cases ok
/-- several slots -/
inductive AL (n : Nat) (O0 U : List Nat) (g : Hh) (M : List Nat) : Nat → List Nat → List Vl → List Vv → Prop where
  | nil (l : Nat) : AL n O0 U g M l [] [] []
  | free {l i : Nat} {is : List Nat} {v : Vl} {vs : List Vl} {w : Vv} {ws : List Vv} (h : M.contains i = false) (r : VR n (U ++ O0) g v w) (a : AL n O0 U g M l is vs ws) : AL n O0 U g M l (i :: is) (v :: vs) (w :: ws)
  | own {l i D : Nat} {is : List Nat} {vs : List Vl} {xs : List Vl} {ys : List Vv} {ws : List Vv} (h : M.contains i = true) (hl : l ≤ D) (hU : D ∈ U) (ha : g[D]? = some (.lst xs)) (hr : VRs n (U ++ O0) g xs ys) (a : AL n O0 U g M (D + 1) is vs ws) : AL n O0 U g M l (i :: is) (.ref D :: vs) (.lst ys :: ws)
theorem AL.lower {g : Hh} {l l' : Nat} {is : List Nat} {vs : List Vl} {ws : List Vv} (a : AL n O0 U g M l is vs ws) (h : l' ≤ l) : AL n O0 U g M l' is vs ws := by
  induction a generalizing l' with
  | nil l => exact .nil _
  | free hi r _ ih => exact .free hi r (ih h)
  | own hi hl hU ha hr a ih => exact .own hi (Nat.le_trans h hl) hU ha hr a
theorem AL.set {h : Hh} {t : Ts} {l : Nat} {is : List Nat} {vs : List Vl} {ws : List Vv} (a : AL n O0 U (B ++ h) M l is vs ws) : ∀ {σ : Ev} {τ τ' : Es}, SE dr n B O0 U M h σ τ t →
    (∀ j w m, M.contains j = true → τ[j]? = some (some w) → σ[j]? = some (some (.ref m)) → m < l) → GB.setAll is ws τ = some τ' → vs.length = is.length ∧ SE dr n B O0 U M h ((is.zip vs).foldl (fun s p => s.set p.1 (some p.2)) σ) τ' t := by
  induction a with
  | nil l => intro σ τ τ' c _ e; cases e; exact ⟨rfl, c⟩
  | free hi r _ ih =>
    intro σ τ τ' c b e
    rename_i i _ _ _ _ _ _
    have ⟨x, y⟩ := ih (c.free hi r) (fun j w m hj e1 e2 => by
      have hij : i ≠ j := fun e => by subst e; rw [hi] at hj; cases hj
      rw [List.getElem?_set_ne hij] at e1 e2
      exact b j w m hj e1 e2) e
    exact ⟨by simp [x], y⟩
  | own hi hl hU ha hr a ih =>
    intro σ τ τ' c b e
    rename_i i D _ _ _ _ _
    have ⟨x, y⟩ := ih (c.own hi hU ha hr (fun j w hj e1 e2 => by have := b j w _ hj e1 e2; omega)) (fun j w m hj e1 e2 => by
      rcases get_set e1 with ⟨rfl, _, hl⟩ | ⟨hij, e1⟩
      · rw [List.getElem?_set_self (by rw [c.fr.1]; exact hl)] at e2
        cases e2; omega
      · rw [List.getElem?_set_ne hij] at e2
        have := b j w m hj e1 e2; omega) e
    exact ⟨by simp [x], y⟩
theorem VR.grow {U' : List Nat} {g g' : Hh} {v : Vl} {w : Vv} (q : VR n (U ++ O0) g v w) (k : Ks U U' n g g') : VR n (U' ++ O0) g' v w :=
  q.to (fun m hm hl => by
    rcases List.mem_append.mp hm with hm | hm
    · rcases k.nw m hm with hm | hm
      · exact List.mem_append_left _ hm
      · omega
    · exact List.mem_append_right _ hm) (k.kq.sub fun m hm _ => List.mem_append_left _ (k.up m hm))
theorem VRs.grow {U' : List Nat} {g g' : Hh} : ∀ {vs : List Vl} {ws : List Vv}, VRs n (U ++ O0) g vs ws → Ks U U' n g g' → VRs n (U' ++ O0) g' vs ws
  | _, _, .nil, _ => .nil
  | _, _, .cons h hs, k => .cons (h.grow k) (hs.grow k)
theorem vvM_sim (cr : CR dr n C1 C2) (gr : GR gl1 gl2) : ∀ (is : List Nat) (es : Exs) {U : List Nat} {h : Hh} {σ : Ev} {τ : Es} {t : Ts}, SE dr n B O0 U M h σ τ t →
    match vvM ⟨C2, gl2⟩ M is es τ t with
    | .ok ws t' => ∃ vs h' U', evs ⟨C1, gl1⟩ B es σ h = .ok vs h' ∧ SE dr n B O0 U' M h' σ τ t' ∧ Ks U U' n (B ++ h) (B ++ h') ∧ Kq [] n (B ++ h) (B ++ h') ∧ AL n O0 U' (B ++ h') M (B ++ h).length is vs ws
    | .exc x t' => ∃ y h' U', evs ⟨C1, gl1⟩ B es σ h = .exc y h' ∧ y.cls = x.cls ∧ VRs n O0 (B ++ h') y.fs x.fs ∧ SE dr n B O0 U' M h' σ τ t' ∧ Ks U U' n (B ++ h) (B ++ h')
    | .bad => True
  | [], .nil, U, h, σ, τ, t, c => by rw [vvM, evs]; exact ⟨[], h, U, rfl, c, .refl, .refl, .nil _⟩
  | [], .cons _ _, U, h, σ, τ, t, c => by simp [vvM]
  | [], .star _ _, U, h, σ, τ, t, c => by simp [vvM]
  | _ :: _, .nil, U, h, σ, τ, t, c => by simp [vvM]
  | _ :: _, .star _ _, U, h, σ, τ, t, c => by simp [vvM]
  | i :: is, .cons e es, U, h, σ, τ, t, c => by
    rw [vvM, evs]
    have E := ev_val cr gr e c
    revert E
    cases q : vv ⟨C2, gl2⟩ e τ t with
    | bad => intro _; trivial
    | exc x t1 =>
      rintro ⟨y, h1, e1, a, b, d, k⟩
      rw [e1]
      exact ⟨y, h1, U, rfl, a, b, c.next d k, .of k⟩
    | ok w t1 =>
      rintro ⟨v, h1, e1, a, d, k⟩
      show (match (if setOk M i e w then (vvM ⟨C2, gl2⟩ M is es τ t1).bind fun xs t2 => Rv.ok (w :: xs) t2 else .bad) with | .ok ws t' => _ | .exc x t' => _ | .bad => True)
      by_cases hok : setOk M i e w = true
      · rw [if_pos hok]
        obtain ⟨U1, k1, c1, al⟩ := SE.setOk c (c.next d k) k a hok
        have I := vvM_sim cr gr is es c1
        revert I
        cases q : vvM ⟨C2, gl2⟩ M is es τ t1 with
        | bad => intro _; trivial
        | exc x t2 =>
          rintro ⟨y, h2, U2, e2, a, b, c2, k2⟩
          rw [e1, Res.bind_ok, e2]
          exact ⟨y, h2, U2, rfl, a, b, c2, k1.trans k2⟩
        | ok ws t2 =>
          rintro ⟨vs, h2, U2, e2, c2, k2, k2', A⟩
          rw [e1, Res.bind_ok, e2]
          refine ⟨v :: vs, h2, U2, rfl, c2, k1.trans k2, k.trans k2', ?_⟩
          rcases al with ⟨hi, r⟩ | ⟨hi, D, xs, ys, rfl, rfl, hU, hl, ha, hr⟩
          · exact .free hi (r.grow k2) (A.lower k.1)
          · exact .own hi hl (k2.up _ hU) (by rw [k2'.2 D (lt_of_get ha) (by simp) (c1.un D hU).2.2]; exact ha) (hr.grow k2) (A.lower (lt_of_get ha)) (xs := xs)
      · rw [if_neg hok]; trivial
end
end GB

end
section
set_option Elab.async false
set_option linter.all false
set_option maxRecDepth 100000
/-! GbV7: bodies and calls. -/
namespace GB
open PySem PySem.Spec PyProof.Rows L2
section
variable {dr : Bool} {n : Nat} {B : Hh} {O0 M : List Nat} {C1 : Nat → List Vl → Hh → Hh → Res Vl} {C2 : Nat → List Vv → Ts → Rv Vv} {gl1 : List Vl} {gl2 : List Vv}
theorem for_sim {w : Wk} {ws : List Vv} {turn1 : Vl → Ev → Hh → Fl} {turn2 : Vv → Es → Ts → Fv} {g0 : Hh} {U0 : List Nat}
    (ht : ∀ (U : List Nat) (x : Vl) (y : Vv) (h : Hh) (σ : Ev) (τ : Es) (t : Ts), SE dr n B O0 U M h σ τ t → VR n (U ++ O0) (B ++ h) x y → SimS dr n B O0 M U h (turn1 x σ h) (turn2 y τ t))
    (hw : ∀ (U : List Nat) (h : Hh), Ks U0 U n g0 (B ++ h) → WR n (U ++ O0) (B ++ h) w ws) :
    ∀ (rest : List Vv) (i m : Nat) (U : List Nat) (h : Hh) (σ : Ev) (τ : Es) (t : Ts), ws.drop i = rest → rest.length ≤ m → Ks U0 U n g0 (B ++ h) → SE dr n B O0 U M h σ τ t →
      SimS dr n B O0 M U h (forTurns B w turn1 m i σ h) (forV turn2 rest τ t) := by
  intro rest
  induction rest with
  | nil =>
    intro i m U h σ τ t e1 _ k c
    obtain ⟨o, o1, _, o3⟩ := (hw U h k).2 i
    have : ws[i]? = none := by rw [List.getElem?_eq_none_iff]; exact List.drop_eq_nil_iff.mp e1
    rw [o3 this] at o1
    rw [forV]
    unfold forTurns
    rw [o1]
    exact ⟨σ, h, U, rfl, c, .refl⟩
  | cons y rest ih =>
    intro i m U h σ τ t e1 hm k c
    have hy : ws[i]? = some y := by
      have := congrArg (·[0]?) e1
      simpa using this
    obtain ⟨o, o1, o2, _⟩ := (hw U h k).2 i
    obtain ⟨x, rfl, rx⟩ := o2 y hy
    obtain ⟨m, rfl⟩ : ∃ j, m = j + 1 := ⟨m - 1, by simp at hm; omega⟩
    have T := ht U x y h σ τ t c rx
    have e2 : ws.drop (i + 1) = rest := by rw [← List.drop_drop, e1]; rfl
    rw [forV, forTurns, o1]
    simp only
    revert T
    cases turn2 y τ t with
    | bad => intro _; trivial
    | nx τ1 t1 => rintro ⟨σ1, h1, U1, e, c1, k1⟩; rw [e]; exact (ih (i + 1) m U1 h1 σ1 τ1 t1 e2 (by simpa using hm) (k.trans k1) c1).trans k1
    | cnt τ1 t1 => rintro ⟨σ1, h1, U1, e, c1, k1⟩; rw [e]; exact (ih (i + 1) m U1 h1 σ1 τ1 t1 e2 (by simpa using hm) (k.trans k1) c1).trans k1
    | brk τ1 t1 => rintro ⟨σ1, h1, U1, e, c1, k1⟩; rw [e]; exact ⟨σ1, h1, U1, rfl, c1, k1⟩
    | ret v t1 => rintro ⟨v1, h1, e, q⟩; rw [e]; exact ⟨v1, h1, rfl, q⟩
    | exc x τ1 t1 => rintro ⟨y1, σ1, h1, U1, e, q⟩; rw [e]; exact ⟨y1, σ1, h1, U1, rfl, q⟩
theorem whl_sim {c1 : Ev → Hh → Res Bool} {b1 : Ev → Hh → Fl} {c2 : Es → Ts → Rv Bool} {b2 : Es → Ts → Fv}
    (hc : ∀ (U : List Nat) (h : Hh) (σ : Ev) (τ : Es) (t : Ts), SE dr n B O0 U M h σ τ t → Sim dr n B O0 Eqr h (c1 σ h) (c2 τ t))
    (hb : ∀ (U : List Nat) (h : Hh) (σ : Ev) (τ : Es) (t : Ts), SE dr n B O0 U M h σ τ t → SimS dr n B O0 M U h (b1 σ h) (b2 τ t)) :
    ∀ (m : Nat) (U : List Nat) (h : Hh) (σ : Ev) (τ : Es) (t : Ts), SE dr n B O0 U M h σ τ t → SimS dr n B O0 M U h (whlTurns c1 b1 m σ h) (whlV c2 b2 m τ t) := by
  intro m
  induction m with
  | zero =>
    intro U h σ τ t c
    rw [whlTurns, whlV]
    refine Sim.fl c (hc U h σ τ t c) fun a b h1 t1 r c1 k1 => ?_
    cases r
    cases a with
    | true => trivial
    | false => exact ⟨σ, h1, U, rfl, c1, .refl⟩
  | succ m ih =>
    intro U h σ τ t c
    rw [whlTurns, whlV]
    refine Sim.fl c (hc U h σ τ t c) fun a b h1 t1 r c1 k1 => ?_
    cases r
    cases a with
    | false => exact ⟨σ, h1, U, rfl, c1, .refl⟩
    | true =>
      simp only [if_true]
      have T := hb U h1 σ τ t1 c1
      revert T
      cases b2 τ t1 with
      | bad => intro _; trivial
      | nx τ1 t1 => rintro ⟨σ1, h1, U1, e, c1, k1⟩; rw [e]; exact (ih U1 h1 σ1 τ1 t1 c1).trans k1
      | cnt τ1 t1 => rintro ⟨σ1, h1, U1, e, c1, k1⟩; rw [e]; exact (ih U1 h1 σ1 τ1 t1 c1).trans k1
      | brk τ1 t1 => rintro ⟨σ1, h1, U1, e, c1, k1⟩; rw [e]; exact ⟨σ1, h1, U1, rfl, c1, k1⟩
      | ret v t1 => rintro ⟨v1, h1, e, q⟩; rw [e]; exact ⟨v1, h1, rfl, q⟩
      | exc x τ1 t1 => rintro ⟨y1, σ1, h1, U1, e, q⟩; rw [e]; exact ⟨y1, σ1, h1, U1, rfl, q⟩
theorem slotL_of {a : Ex} {τ : Es} {j : Nat} {ys : List Vv} (e : slotL M a τ = some (j, ys)) : a = .var j ∧ M.contains j = true ∧ τ[j]? = some (some (.lst ys)) := by
  cases a with
  | var i =>
    simp only [slotL, slotX, Option.bind_some] at e
    split at e
    · rename_i hm
      split at e
      · rename_i xs q
        cases e
        exact ⟨rfl, hm, q⟩
      · cases e
    · cases e
  | _ => cases e
/-- a list of one's own is changed -/
theorem SE.put {U : List Nat} {h : Hh} {σ : Ev} {τ : Es} {t : Ts} (c : SE dr n B O0 U M h σ τ t) {j m : Nat} (hj : M.contains j = true) {w : Vv} (ej : τ[j]? = some (some w)) (es : σ[j]? = some (some (.ref m))) (hm : m ∈ U) (hlt : m < (B ++ h).length) {xs : List Vl} {ys : List Vv} (r : VRs n (U ++ O0) (B ++ h) xs ys) :
    SE dr n B O0 U M (h.set (m - B.length) (.lst xs)) σ (τ.set j (some (.lst ys))) t ∧ Ks U U n (B ++ h) (B ++ h.set (m - B.length) (.lst xs)) := by
  obtain ⟨hB, hO, hn⟩ := c.un m hm
  have kq : Kq U n (B ++ h) (B ++ h.set (m - B.length) (.lst xs)) := by
    rw [set_app hB]; exact Kq.sub .set1 (by simp [hm])
  have kq2 : Kq (U ++ O0) n (B ++ h) (B ++ h.set (m - B.length) (.lst xs)) := kq.sub (fun m h _ => List.mem_append_left _ h)
  refine ⟨{ ob := c.ob.keep kq, fr := ?_, ow := ?_, ap := ?_, un := c.un, td := ?_ }, fun _ h => h, fun _ h => .inl h, kq⟩
  · refine ⟨by simp [c.fr.1], fun i w' hx e => ?_⟩
    have hij : j ≠ i := fun e => by subst e; rw [hj] at hx; cases hx
    rw [List.getElem?_set_ne hij] at e
    obtain ⟨v, e1, q⟩ := c.fr.2 i w' hx e
    exact ⟨v, e1, q.keep kq2⟩
  · intro i w' hi e
    rcases get_set e with ⟨rfl, rfl, hl⟩ | ⟨hij, e⟩
    · exact ⟨m, xs, ys, rfl, es, hm, by rw [set_app hB, List.getElem?_set_self hlt], r.keep kq2⟩
    · obtain ⟨m', xs', ys', a, b, d, e', f⟩ := c.ow i w' hi e
      have hne : m ≠ m' := fun q => by subst q; exact c.ap j i m w w' hj hi hij ej e es b
      exact ⟨m', xs', ys', a, b, d, by rw [set_app hB, List.getElem?_set_ne hne]; exact e', f.keep kq2⟩
  · intro i k m' w' w'' hi hk hik e1 e2 e3
    have g1 : ∃ w, τ[i]? = some (some w) := by
      rcases get_set e1 with ⟨rfl, _, _⟩ | ⟨_, e⟩
      · exact ⟨_, ej⟩
      · exact ⟨_, e⟩
    have g2 : ∃ w, τ[k]? = some (some w) := by
      rcases get_set e2 with ⟨rfl, _, _⟩ | ⟨_, e⟩
      · exact ⟨_, ej⟩
      · exact ⟨_, e⟩
    obtain ⟨_, g1⟩ := g1
    obtain ⟨_, g2⟩ := g2
    exact c.ap i k m' _ _ hi hk hik g1 g2 e3
  · intro q
    refine ⟨(c.td q).1, ?_⟩
    rw [set_app hB, List.getElem?_set_ne hn]; exact (c.td q).2
theorem keep_of {e : Ex} {w : Vv} (h : (!men M e || w.plain) = true) : keepOk M e w = true := by
  simp only [Bool.or_eq_true] at h
  simp only [keepOk, Bool.or_eq_true]
  rcases h with h | h
  · exact .inl (.inl (.inr h))
  · exact .inl (.inr h)
theorem cond_sim (cr : CR dr n C1 C2) (gr : GR gl1 gl2) (d : Ex) {U : List Nat} {h : Hh} {σ : Ev} {τ : Es} {t : Ts} (c : SE dr n B O0 U M h σ τ t) :
    Sim dr n B O0 Eqr h ((ev ⟨C1, gl1⟩ B d σ h).bind (toB B)) ((vv ⟨C2, gl2⟩ d τ t).bind toBV) :=
  (ev_val cr gr d c).bind fun x y h1 t1 r1 d1 k1 => Sim.toB r1.wk d1
set_option maxHeartbeats 1000000 in
mutual
theorem xv_sim (cr : CR dr n C1 C2) (gr : GR gl1 gl2) : ∀ (s : Sm) {U : List Nat} {h : Hh} {σ : Ev} {τ : Es} {t : Ts}, gk s = s → SE dr n B O0 U M h σ τ t →
    SimS dr n B O0 M U h (exc1 ⟨C1, gl1⟩ B s σ h) (xv ⟨C2, gl2⟩ M s τ t)
  | .pass, U, h, σ, τ, t, g, c => by rw [exc1, xv]; exact ⟨σ, h, U, rfl, c, .refl⟩
  | .brk, U, h, σ, τ, t, g, c => by rw [exc1, xv]; exact ⟨σ, h, U, rfl, c, .refl⟩
  | .cnt, U, h, σ, τ, t, g, c => by rw [exc1, xv]; exact ⟨σ, h, U, rfl, c, .refl⟩
  | .ex e, U, h, σ, τ, t, g, c => by
    rw [exc1, xv]
    exact Sim.fl c (ev_val cr gr e c) fun a b h1 t1 r c1 k1 => ⟨σ, h1, U, rfl, c1, .refl⟩
  | .ret e, U, h, σ, τ, t, g, c => by
    rw [exc1, xv]
    exact Sim.fl c (ev_val cr gr e c) fun a b h1 t1 r c1 k1 => ⟨a, h1, rfl, r.wk, c1.td, .refl⟩
  | .retN, U, h, σ, τ, t, g, c => by rw [exc1, xv]; exact ⟨.non, h, rfl, .non, c.td, .refl⟩
  | .set i e, U, h, σ, τ, t, g, c => by
    rw [exc1, xv]
    have E := ev_val cr gr e c
    revert E
    cases vv ⟨C2, gl2⟩ e τ t with
    | bad => intro _; trivial
    | exc x t1 => rintro ⟨y, h1, e1, a, b, d, k⟩; rw [e1]; exact ⟨y, σ, h1, U, rfl, a, b, c.next d k, .of k⟩
    | ok w t1 =>
      rintro ⟨v, h1, e1, a, d, k⟩
      rw [e1]
      simp only [Res.fl, Rv.fl]
      by_cases hok : setOk M i e w = true
      · rw [if_pos hok]
        obtain ⟨U1, k1, c1, al⟩ := SE.setOk c (c.next d k) k a hok
        rcases al with ⟨hi, r⟩ | ⟨hi, D, xs, ys, rfl, rfl, hU, hl, ha, hr⟩
        · exact ⟨_, h1, U1, rfl, c1.free hi r, k1⟩
        · refine ⟨_, h1, U1, rfl, c1.own hi hU ha hr (fun j w' hj e1 e2 => ?_), k1⟩
          obtain ⟨m, xs', ys', _, b, d', e', _⟩ := c.ow j w' hj e1
          rw [b] at e2
          cases e2
          have := lt_of_get e'
          omega
      · rw [if_neg hok]; trivial
  | .tset is e, U, h, σ, τ, t, g, c => by
    rw [exc1, xv]
    by_cases ha : apart M is = true
    · rw [if_pos ha]
      refine Sim.fl c (ev_val cr gr e c) fun a b h1 t1 r c1 k1 => ?_
      by_cases hk : (M.isEmpty || !men M e || b.plain) = true
      · rw [if_pos hk]
        have q : VR n (U ++ O0) (B ++ h1) a b := r.st (by
          simp only [Bool.or_eq_true] at hk
          simp only [keepOk, Bool.or_eq_true]
          exact .inl hk)
        cases e1 : setTgV (.tp is) b τ with
        | none => trivial
        | some τ' =>
          obtain ⟨σ', s1, s2⟩ := c1.setTg (tg := .tp is) ha q e1
          rw [s1]
          exact ⟨σ', h1, U, rfl, s2, .refl⟩
      · rw [if_neg hk]; trivial
    · rw [if_neg ha]
      by_cases hs : sizeLine < is.length
      · rw [if_pos hs]; trivial
      · rw [if_neg hs]
        cases e with
        | tup es =>
          simp only [tupX]
          have V := vvM_sim cr gr is es c
          revert V
          cases vvM ⟨C2, gl2⟩ M is es τ t with
          | bad => intro _; trivial
          | exc x t1 => rintro ⟨y, h1, U1, e1, a, b, c1, k1⟩; rw [ev, e1]; exact ⟨y, σ, h1, U1, rfl, a, b, c1, k1⟩
          | ok ws t1 =>
            rintro ⟨vs, h1, U1, e1, c1, k1, k1', A⟩
            rw [ev, e1]
            simp only [Res.bind, Rv.fl]
            cases e2 : setAll is ws τ with
            | none => trivial
            | some τ' =>
              have ⟨x, y⟩ := A.set c1 (fun j w m hj e1 e2 => by
                obtain ⟨m', xs', ys', _, b, d', e', _⟩ := c.ow j w hj e1
                rw [b] at e2
                cases e2
                exact lt_of_get e') e2
              rw [if_pos (by omega)]
              simp only [Res.fl, setTg, items, if_pos x]
              exact ⟨_, h1, U1, rfl, y, k1⟩
        | _ => cases is <;> trivial
  | .sub a i e, U, h, σ, τ, t, g, c => by
    rw [exc1, xv]
    refine Sim.fl c (ev_val cr gr e c) fun v w h1 t1 r c1 k1 => ?_
    cases hs : slotL M a τ with
    | none => trivial
    | some p =>
      obtain ⟨j, ys⟩ := p
      obtain ⟨rfl, hj, ej⟩ := slotL_of hs
      obtain ⟨m, xs, ys', e0, b, d', e', f⟩ := c1.ow j _ hj ej
      cases e0
      rw [x_var, b]
      simp only [varR, Res.fl_ok]
      refine Sim.fl c1 (ev_val cr gr i c1) fun v' w' h2 t2 r2 c2 k2 => ?_
      cases r2.wk with
      | int k =>
        simp only [intV, Rv.fl]
        cases hx : ixN ys.length k with
        | none => trivial
        | some p =>
          by_cases hk : (!men M e || w.plain) = true
          · have at2 : (B ++ h2)[m]? = some (.lst xs) := by rw [k2.2 m (lt_of_get e') (by simp) (c1.un m d').2.2]; exact e'
            have q : VR n (U ++ O0) (B ++ h2) v w := (r.st (keep_of hk)).keep k2.any
            have P := put_at (f := fun xs => (ixN xs.length k).map fun j => xs.set j v) (acc' := xs.set p v) (c1.un m d').1 at2 (by simp only [f.length, hx, Option.map_some])
            rw [P]
            simp only [hk, if_true]
            have ⟨x, y⟩ := c2.put hj ej b d' (lt_of_get at2) ((f.keep k2.any).set p q)
            exact ⟨_, _, U, rfl, x, y⟩
          · simp only [hk]; trivial
      | _ => trivial
  | .app a e, U, h, σ, τ, t, g, c => by
    rw [exc1, xv]
    cases hs : slotL M a τ with
    | none => trivial
    | some p =>
      obtain ⟨j, ys⟩ := p
      obtain ⟨rfl, hj, ej⟩ := slotL_of hs
      obtain ⟨m, xs, ys', e0, b, d', e', f⟩ := c.ow j _ hj ej
      cases e0
      rw [x_var, b]
      simp only [varR, Res.fl_ok]
      refine Sim.fl c (ev_val cr gr e c) fun v w h2 t2 r2 c2 k2 => ?_
      by_cases hk : (ys.length < sizeLine && (!men M e || w.plain)) = true
      · simp only [hk, if_true]
        rw [Bool.and_eq_true, decide_eq_true_eq] at hk
        have at2 : (B ++ h2)[m]? = some (.lst xs) := by rw [k2.2 m (lt_of_get e') (by simp) (c.un m d').2.2]; exact e'
        have q : VR n (U ++ O0) (B ++ h2) v w := r2.st (keep_of hk.2)
        have P := put_at (f := fun xs => if xs.length < sizeLine then some (xs ++ [v]) else none) (acc' := xs ++ [v]) (c.un m d').1 at2 (by simp only [f.length, hk.1, if_true])
        rw [P]
        have ⟨x, y⟩ := c2.put hj ej b d' (lt_of_get at2) ((f.keep k2.any).append (.cons q .nil))
        exact ⟨_, _, U, rfl, x, y⟩
      · simp only [hk]; trivial
  | .ite d a b, U, h, σ, τ, t, g, c => by
    rw [exc1, xv]
    rw [gk] at g
    injection g with _ g1 g2
    refine Sim.fl c (cond_sim cr gr d c) fun x y h1 t1 r c1 k1 => ?_
    cases r
    cases x with
    | true => exact xvs_sim cr gr a g1 c1
    | false => exact xvs_sim cr gr b g2 c1
  | .whl gg d b, U, h, σ, τ, t, g, c => by
    rw [exc1, xv]
    rw [gk] at g
    injection g with g1 _ g2
    subst g1
    exact whl_sim (fun U h σ τ t c => cond_sim cr gr d c) (fun U h σ τ t c => xvs_sim cr gr b g2 c) _ U h σ τ t c
  | .for_ tg it b, U, h, σ, τ, t, g, c => by
    rw [exc1, xv]
    rw [gk] at g
    injection g with _ _ g2
    have I : Sim dr n B O0 (fun g w ws => (M.isEmpty || !menI M it || rngIt it) = true → ∀ (U' : List Nat) (g' : Hh), Ks U U' n g g' → WR n (U' ++ O0) g' w ws) h (evIt ⟨C1, gl1⟩ B it σ h) (vvIt ⟨C2, gl2⟩ it τ t) := by
      cases hm : menI M it with
      | false =>
        refine ((evIt_sim cr gr it c.strong hm).lessO fun m h => List.mem_append_right _ h).mono fun g w ws q _ U' g' k => ?_
        exact q.2 _ _ (fun m hm hl => by
          rcases List.mem_append.mp hm with hm | hm
          · rcases k.nw m hm with hm | hm
            · exact List.mem_append_left _ hm
            · omega
          · exact List.mem_append_right _ hm) (k.kq.sub fun m hm _ => List.mem_append_left _ (k.up m hm))
      | true =>
        refine (evIt_sim cr gr it c.weak (menI_nil it)).mono fun g w ws q hk U' g' k => ?_
        have hM : M.isEmpty = false := by cases M with | nil => rw [menI_nil] at hm; cases hm | cons _ _ => rfl
        simp only [hM, Bool.not_true, Bool.false_or] at hk
        exact q.1 hk _ _ _
    refine Sim.fl c I fun w ws h1 t1 r c1 k1 => ?_
    by_cases hk : ((M.isEmpty || !menI M it || rngIt it) && apart M tg.sl) = true
    · rw [if_pos hk]
      rw [Bool.and_eq_true] at hk
      have W := r hk.1
      refine for_sim (U0 := U) (g0 := B ++ h1) (fun U2 x y h2 σ2 τ2 t2 c2 rx => ?_) (fun U2 h2 k2 => W U2 _ k2) ws 0 _ U h1 σ τ t1 rfl (W U _ .refl).1 .refl c1
      cases e1 : setTgV tg y τ2 with
      | none => trivial
      | some τ3 =>
        obtain ⟨σ3, s1, s2⟩ := c2.setTg hk.2 rx e1
        rw [s1]
        exact xvs_sim cr gr b g2 s2
    · rw [if_neg hk]; trivial
  | .never, U, h, σ, τ, t, g, c => by rw [xv]; trivial
theorem xvs_sim (cr : CR dr n C1 C2) (gr : GR gl1 gl2) : ∀ (s : Sms) {U : List Nat} {h : Hh} {σ : Ev} {τ : Es} {t : Ts}, gks s = s → SE dr n B O0 U M h σ τ t →
    SimS dr n B O0 M U h (excs ⟨C1, gl1⟩ B s σ h) (xvs ⟨C2, gl2⟩ M s τ t)
  | .nil, U, h, σ, τ, t, g, c => by rw [excs, xvs]; exact ⟨σ, h, U, rfl, c, .refl⟩
  | .cons s ss, U, h, σ, τ, t, g, c => by
    rw [excs, xvs]
    rw [gks] at g
    injection g with g1 g2
    have T := xv_sim cr gr s g1 c
    revert T
    cases xv ⟨C2, gl2⟩ M s τ t with
    | bad => intro _; trivial
    | nx τ1 t1 => rintro ⟨σ1, h1, U1, e, c1, k1⟩; rw [e]; exact (xvs_sim cr gr ss g2 c1).trans k1
    | cnt τ1 t1 => rintro ⟨σ1, h1, U1, e, q⟩; rw [e]; exact ⟨σ1, h1, U1, rfl, q⟩
    | brk τ1 t1 => rintro ⟨σ1, h1, U1, e, q⟩; rw [e]; exact ⟨σ1, h1, U1, rfl, q⟩
    | ret v t1 => rintro ⟨v1, h1, e, q⟩; rw [e]; exact ⟨v1, h1, rfl, q⟩
    | exc x τ1 t1 => rintro ⟨y1, σ1, h1, U1, e, q⟩; rw [e]; exact ⟨y1, σ1, h1, U1, rfl, q⟩
end
end
end GB

end
section
set_option Elab.async false
set_option linter.all false
set_option maxRecDepth 100000
/-! GbV8: calls. -/
namespace GB
open PySem PySem.Spec PyProof.Rows L2
local macro_rules | `(tactic| walk_at "gr") => `(tactic| repeat (first
  | with_reducible exact r_int | with_reducible exact r_bl | with_reducible exact r_non | with_reducible exact r_str | ((with_reducible apply r_var); exact rfl) | ((with_reducible apply r_glo); exact rfl) | with_reducible exact r_nil | with_reducible exact r_no | with_reducible exact q_nil | with_reducible exact q_retN | with_reducible exact q_pass | with_reducible exact q_brk | with_reducible exact q_cnt | with_reducible exact q_seqR
  | with_reducible apply q_nil2 | with_reducible apply q_seqR2 | ((with_reducible show Fl.ret _ _ = _); exact rfl) | ((with_reducible show Res.ok _ _ = _); exact rfl) | ((with_reducible show Fl.nx _ _ = _); exact rfl)
  | with_reducible apply q_seq | with_reducible apply q_cons | with_reducible apply q_set | with_reducible apply q_ret | with_reducible apply q_ite | with_reducible apply q_tset | with_reducible apply q_sub | with_reducible apply q_app | with_reducible apply q_ex
  | with_reducible apply r_cons | with_reducible apply r_star | with_reducible apply r_bin | with_reducible apply r_cmp | with_reducible apply r_ix | with_reducible apply r_bi | with_reducible apply r_call | with_reducible apply r_callk | with_reducible apply r_ife | with_reducible apply r_and | with_reducible apply r_or | with_reducible apply r_and1 | with_reducible apply r_or1 | with_reducible apply r_and2 | with_reducible apply r_or2
  | with_reducible apply r_tup | with_reducible apply r_lst | with_reducible apply r_neg | with_reducible apply r_not | with_reducible apply r_isi | with_reducible apply r_isis | with_reducible apply r_isN | with_reducible apply r_notN | with_reducible apply r_chain | with_reducible apply r_chain2 | with_reducible apply r_sl | with_reducible apply r_yes
  | with_reducible apply k_true | with_reducible apply k_false | ((with_reducible apply k_pos); omega) | ((with_reducible apply k_neg); omega) | ((with_reducible apply k_npos); omega) | ((with_reducible apply k_nneg); omega) | ((with_reducible apply k_tt); exact rfl) | ((with_reducible apply k_ff); exact rfl)
  | with_reducible exact l_add | with_reducible exact l_sub | ((with_reducible apply l_mod); omega) | ((with_reducible apply l_fdiv) <;> omega) | ((with_reducible apply l_mull); omega) | ((with_reducible apply l_mulr); omega) | with_reducible exact l_mulr (b01 _) | ((with_reducible apply l_pow) <;> omega)
  | with_reducible exact l_eq | with_reducible exact l_ne | with_reducible exact l_lt | with_reducible exact l_le | with_reducible exact l_gt | with_reducible exact l_ge | with_reducible exact l_truB | with_reducible exact l_itT | with_reducible exact l_lenT | with_reducible exact l_abs | with_reducible exact l_int | with_reducible exact l_intb | with_reducible exact l_max2 | with_reducible exact l_min2 | with_reducible exact l_tupT
  | with_reducible assumption
  | with_reducible apply l_itR | with_reducible apply l_lenR | with_reducible apply l_tupR | with_reducible apply l_allR | ((with_reducible apply l_put); omega)
  | ((with_reducible apply l_set); first | omega | assumption) | ((with_reducible apply l_rd); omega)
  | ((with_reducible show atI _ _ = some _); first | assumption | exact at0 _ _ | exact at1 _ _ _ | exact at2 _ _ _ _)
  | ((with_reducible show setTg _ _ _ _ = _); exact rfl) | ((with_reducible show isTy _ _ _ = _); exact rfl) | ((with_reducible show isTys _ _ _ = _); exact rfl) | ((with_reducible show Nat.ble _ _ = true); exact rfl) | ((with_reducible show Option.map _ _ = some _); exact rfl) | ((with_reducible show tru _ _ = some _); exact rfl)))

set_option maxHeartbeats 1000000 in
theorem take_neg' {C : Nat → List Vl → Hh → Hh → Res Vl} {gl : List Vl} {B h : Hh} {n : Nat} {g m c top : Int} (lo : B.length ≤ n) (hat : h[n - B.length]? = some (.lst [.int g, .int m, .int c])) (hlt : n - B.length < h.length) (h1 : 0 < top) (h2 : top < 2 ^ 200) (hg : ¬ 0 < g) (hc : 0 ≤ c) (hc2 : c < 2 ^ 60) :
    excs ⟨C, gl⟩ B b_take [some (.ref n), some (.int top), none, none, none, none] h = .ret (.int (mixV m c top)) (h.set (n - B.length) (.lst [.int g, .int m, .int (c + 1)])) := by
  unfold b_take
  walk_at "gr"
/-- one table beside the other -/
structure TR (T1 : List Fn) (T2 : List Fx) (tk : Nat) : Prop where
  eq : T2.map (·.fn) = T1
  ok : T2.all (fun fx => !fx.ok || fx.M.all (fun i => decide (fx.fn.np ≤ i))) = true
  gk : T2.map (fun fx => gks fx.fn.body) = T2.map (fun fx => fx.fn.body)
  tk : T1[tk]? = some f_take
theorem start_get {fn : Fn} {ys : List Vv} {i : Nat} {w : Vv} (e : (startV fn ys)[i]? = some (some w)) : ys[i]? = some w := by
  unfold startV at e
  by_cases h : i < ys.length
  · rw [List.getElem?_append_left (by simpa using h), List.getElem?_map] at e
    cases q : ys[i]? with
    | none => rw [q] at e; cases e
    | some v => rw [q] at e; cases e; rfl
  · rw [List.getElem?_append_right (by simpa using h), List.getElem?_replicate] at e
    split at e <;> cases e
theorem start_of {fn : Fn} {xs : List Vl} {i : Nat} {v : Vl} (e : xs[i]? = some v) : (startE fn xs)[i]? = some (some v) := by
  unfold startE
  have h : i < xs.length := (List.getElem?_eq_some_iff.mp e).1
  rw [List.getElem?_append_left (by simpa using h), List.getElem?_map, e]; rfl
theorem SE.start {dr : Bool} {n : Nat} {B : Hh} {O : List Nat} {M : List Nat} {h : Hh} {t : Ts} {fn : Fn} {xs : List Vl} {ys : List Vv} (ob : Ob_ n O (B ++ h)) (r : VRs n O (B ++ h) xs ys) (hM : ∀ i, M.contains i = true → ys.length ≤ i) (d : Td dr n B h t) :
    SE dr n B O [] M h (startE fn xs) (startV fn ys) t where
  ob := ob
  fr := ⟨by simp [startE, startV, r.length], fun i w _ e => by
    obtain ⟨v, e1, q⟩ := r.get (start_get e)
    exact ⟨v, start_of e1, q⟩⟩
  ow := fun i w hm e => by
    have := (List.getElem?_eq_some_iff.mp (start_get e)).1
    have := hM i hm
    omega
  ap := fun i j m w w' hi _ _ e _ _ => by
    have := (List.getElem?_eq_some_iff.mp (start_get e)).1
    have := hM i hi
    omega
  un := by simp
  td := d
theorem take_sim {T1 : List Fn} {gl1 : List Vl} {k tk n : Nat} {xs : List Vl} {ys : List Vv} {B h : Hh} {t : Ts} {O : List Nat} (hf : T1[tk]? = some f_take) (ob : Ob_ n O (B ++ h)) (r : VRs n O (B ++ h) xs ys) (d : Td true n B h t) :
    Sim true n B O (VR n O) h (callF T1 gl1 (k + 1) tk xs B h) (takeV ys t) := by
  unfold takeV
  split
  · rename_i top
    split
    · rename_i hc
      obtain ⟨h1, h2, g0, c0, c1⟩ := hc
      cases r with
      | cons r1 r =>
        cases r with
        | cons r2 r =>
          cases r
          cases r1
          cases r2
          obtain ⟨lo, at_⟩ := d rfl
          have lt := lt_of_get at_
          rw [rd_own lo] at at_
          have lt' : n - B.length < h.length := (List.getElem?_eq_some_iff.mp at_).1
          have kq : ∀ o, Kq [] n (B ++ h) (B ++ h.set (n - B.length) o) := fun o => by
            rw [set_app lo]; exact ⟨by simp, fun i _ _ hn => List.getElem?_set_ne (fun e => hn e.symm)⟩
          have td : ∀ g m c, Td true n B (h.set (n - B.length) (.lst [.int g, .int m, .int c])) ⟨g, m, c⟩ := fun g m c _ => ⟨lo, by rw [set_app lo, List.getElem?_set_self lt]⟩
          split
          · rename_i hg
            exact ⟨_, _, callI f_take hf rfl rfl (take_pos lo at_ lt' h1 h2 hg), .int _, td _ _ _, kq _⟩
          · rename_i hg
            exact ⟨_, _, callI f_take hf rfl rfl (take_neg' lo at_ lt' h1 h2 hg c0 (by omega)), .int _, td _ _ _, kq _⟩
    · trivial
  · trivial
theorem call_sim {T1 : List Fn} {T2 : List Fx} {tk : Nat} {gl1 : List Vl} {gl2 : List Vv} (tr : TR T1 T2 tk) (gr : GR gl1 gl2) (n : Nat) : ∀ (k : Nat) (dr : Bool), CR dr n (callF T1 gl1 k) (callV T2 gl2 tk k dr) := by
  intro k
  induction k with
  | zero => intro dr f xs ys B h t O _ _ _; simp [callV, Sim]
  | succ k ih =>
    intro dr f xs ys B h t O ob r d
    rw [callV]
    by_cases hf : f = tk
    · rw [if_pos hf]
      subst hf
      cases dr with
      | false => trivial
      | true => exact take_sim tr.tk ob r d
    · rw [if_neg hf]
      cases e2 : T2[f]? with
      | none => trivial
      | some fx =>
        have e1 : T1[f]? = some fx.fn := by rw [← tr.eq, List.getElem?_map, e2]; rfl
        simp only
        by_cases hok : ys.length = fx.fn.np ∧ fx.ok = true
        · rw [if_pos hok]
          have hM : ∀ i, fx.M.contains i = true → ys.length ≤ i := by
            intro i hi
            have := List.all_eq_true.mp tr.ok fx (List.mem_of_getElem? e2)
            rw [hok.2, Bool.not_true, Bool.false_or, List.all_eq_true] at this
            have := of_decide_eq_true (this i (by simpa using hi))
            omega
          have hg : gks fx.fn.body = fx.fn.body := by
            have := congrArg (·[f]?) tr.gk
            simp only [List.getElem?_map, e2, Option.map_some] at this
            injection this
          rw [callF, e1]
          simp only
          rw [if_neg (by rw [r.length]; exact fun q => q hok.1)]
          cases hp : fx.fn.pure with
          | true =>
            simp only [if_true]
            have S := xvs_sim (dr := false) (n := n) (B := B ++ h) (O0 := O) (M := fx.M) (gl1 := gl1) (gl2 := gl2) (ih false) gr fx.fn.body (U := []) (h := []) (σ := startE fx.fn xs) (τ := startV fx.fn ys) (t := t) hg
              (SE.start (by simpa using ob) (by simpa using r) hM (fun q => by cases q))
            revert S
            cases xvs ⟨callV T2 gl2 tk k false, gl2⟩ fx.M fx.fn.body (startV fx.fn ys) t with
            | bad => intro _; trivial
            | brk _ _ => intro _; trivial
            | cnt _ _ => intro _; trivial
            | nx τ1 t1 => rintro ⟨σ1, h1, U1, e, _⟩; rw [e]; exact Sim.ok .non d
            | exc x τ1 t1 =>
              rintro ⟨y1, σ1, h1, U1, e, q1, q2, _⟩
              rw [e]
              simp only
              by_cases hx : Vv.plains x.fs = true
              · rw [if_pos hx]
                have := VRs.ofPlain (O' := O) (g' := B ++ h) q2 hx
                rw [if_pos this.2]
                exact ⟨y1, h, rfl, q1, this.1, d, .refl⟩
              · rw [if_neg hx]; trivial
            | ret w t1 =>
              rintro ⟨v1, h1, e, q, _, kq⟩
              rw [e]
              simp only
              by_cases ho : outOk w = true
              · rw [if_pos ho]
                unfold outP
                cases w with
                | lst ys' =>
                  cases q with
                  | lst a1 a2 a3 a4 =>
                    rename_i m xs'
                    have P := VRs.ofPlain (O' := O) (g' := B ++ h) a4 ho
                    rw [if_neg (by simp [Vl.plain])]
                    simp only
                    by_cases hm : m < (B ++ h).length
                    · rw [if_pos hm]
                      rw [List.getElem?_append_left hm] at a1
                      exact Sim.ok (.lst a1 a2 a3 P.1) d
                    · rw [if_neg hm]
                      rw [List.getElem?_append_right (by omega)] at a1
                      rw [a1]
                      simp only [P.2, if_true]
                      exact (sim_new ob P.1 d (Nat.le_refl _)).mono fun _ _ _ q => q.1
                | tin => cases ho
                | _ =>
                  have P := VR.ofPlain (O' := O) (g' := B ++ h) q ho
                  rw [if_pos P.2]
                  exact Sim.ok P.1 d
              · rw [if_neg ho]; trivial
          | false =>
            simp only [if_false, Bool.false_eq_true]
            cases dr with
            | false => trivial
            | true =>
              simp only [if_true]
              have S := xvs_sim (dr := true) (n := n) (B := B) (O0 := O) (M := fx.M) (gl1 := gl1) (gl2 := gl2) (ih true) gr fx.fn.body (U := []) (h := h) (σ := startE fx.fn xs) (τ := startV fx.fn ys) (t := t) hg
                (SE.start ob r hM d)
              revert S
              cases xvs ⟨callV T2 gl2 tk k true, gl2⟩ fx.M fx.fn.body (startV fx.fn ys) t with
              | bad => intro _; trivial
              | brk _ _ => intro _; trivial
              | cnt _ _ => intro _; trivial
              | nx τ1 t1 => rintro ⟨σ1, h1, U1, e, c1, k1⟩; rw [e]; exact ⟨_, h1, rfl, .non, c1.td, k1.kq⟩
              | exc x τ1 t1 => rintro ⟨y1, σ1, h1, U1, e, q1, q2, c1, k1⟩; rw [e]; exact ⟨y1, h1, rfl, q1, q2, c1.td, k1.kq⟩
              | ret w t1 => rintro ⟨v1, h1, e, q, d1, k1⟩; rw [e]; exact ⟨v1, h1, rfl, q, d1, k1⟩
        · rw [if_neg hok]; trivial
end GB

end
section
set_option Elab.async false
set_option linter.all false
set_option maxRecDepth 100000
/-! GbV9: a law by values. -/
namespace GB
open PySem PySem.Spec PyProof.Rows L2
theorem pure_heap {T : List Fn} {gl : List Vl} {k f : Nat} {fn : Fn} {xs : List Vl} {B h h' : Hh} {v : Vl} (hf : T[f]? = some fn) (hp : fn.pure = true) (e : callF T gl (k + 1) f xs B h = .ok v h') (hv : v.plain = true) : h' = h := by
  rw [callF, hf] at e
  simp only [hp, if_true] at e
  split at e
  · cases e
  · split at e
    · rename_i w h1 _
      unfold outP at e
      split at e
      · cases e; rfl
      · split at e
        · split at e
          · cases e; rfl
          · split at e
            · split at e
              · cases e; cases hv
              · cases e
            · cases e
        · cases e
    · cases e; rfl
    · split at e <;> cases e
    · cases e
theorem law_by {T : List Fn} {T2 : List Fx} {gl : List Vl} {gl2 : List Vv} {tk k f hr ce ri bo bud : Nat} {most : Nat} {u : Int} (tr : TR T T2 tk) (gr : GR gl gl2) (hf : T[f]? = some (f_law hr ce ri bo (most : Int))) (h1 : 1 ≤ most) (h2 : most ≤ 100)
    (hc : T[ce]? = some f_cells) (hb : T[bo]? = some (f_box u)) (hbud : bud < 2 ^ 59)
    (hp : ∃ fn, T[hr]? = some fn ∧ fn.pure = true) (hh : ∀ t : Ts, callV T2 gl2 tk (k + 1) false hr [] t = .ok (.bl true) t)
    (hri : ∀ t : Ts, 0 ≤ t.g → 0 ≤ t.c → t.c + bud < 2 ^ 60 → ∃ t', callV T2 gl2 tk (k + 1) true ri [.tin] t = .ok (.bl true) t') (ns : List Int) (hn : ns.length ≤ 63) :
    ∃ h, callF T gl (k + 2) f [.ref 0] [] [.fz (ns.map Vl.int)] = .ok (.bl true) h := by
  refine law_frame (bud := bud) (u := u) hf h1 h2 hn ?_ hc hb hbud ?_
  · intro B h hl
    have S := call_sim tr gr 0 (k + 1) false hr [] [] B h ⟨0, 0, 0⟩ [] ⟨hl, by simp⟩ .nil (fun q => by cases q)
    rw [hh] at S
    obtain ⟨v, h', e, r, _⟩ := S
    cases r
    obtain ⟨fn, p1, p2⟩ := hp
    rw [e, pure_heap p1 p2 e rfl]
  · intro B h n tin
    obtain ⟨lo, lt, g, m, c, e, g0, c0, c1⟩ := tin
    have hg : (B ++ h)[n]? = some (.lst [.int g, .int m, .int c]) := by rw [rd_own lo]; exact e
    have S := call_sim tr gr n (k + 1) true ri [.ref n] [.tin] B h ⟨g, m, c⟩ [] ⟨lt_of_get hg, by simp⟩ (.cons .tin .nil) (fun _ => ⟨lo, hg⟩)
    obtain ⟨t', e'⟩ := hri ⟨g, m, c⟩ g0 c0 (by show c + _ < _; omega)
    rw [e'] at S
    obtain ⟨v, h', e2, r, _, kq⟩ := S
    cases r
    refine ⟨h', e2, ?_, ?_⟩
    · have := kq.1; simp at this; omega
    · intro i hi hn
      have := kq.2 (B.length + i) (by simp; omega) (by simp) (by omega)
      rw [List.getElem?_append_right (by omega), List.getElem?_append_right (by omega)] at this
      simpa using this
end GB

end
section
set_option Elab.async false
set_option linter.all false
set_option maxRecDepth 100000
/-! GbW1: rules for what a run by values comes to. -/
namespace GB
namespace W
open PySem PySem.Spec PyProof.Rows L2
@[irreducible] def callW (T : List Fx) (gl : List Vv) (tk k : Nat) (dr : Bool) (f : Nat) (xs : List Vv) (t : Ts) : Rv Vv := callV T gl tk k dr f xs t
theorem callW_eq : callW = callV := by funext T gl tk k dr f xs t; unfold callW; rfl
def WE {α : Type} (r : Rv α) (Q : α → Ts → Prop) : Prop := ∃ a t, r = .ok a t ∧ Q a t
def WO {α : Type} (o : Option α) (Q : α → Prop) : Prop := ∃ a, o = some a ∧ Q a
def WS (r : Fv) (P : Fv → Prop) : Prop := P r
def IFB (b : Bool) (P R : Prop) : Prop := match b with | true => P | false => R
def Nxt (c : Cv) (M : List Nat) (ss : Sms) (P : Fv → Prop) : Fv → Prop := fun r => match r with
  | .nx σ t => WS (xvs c M ss σ t) P
  | r => P r
theorem i_t {P R : Prop} (h : P) : IFB true P R := h
theorem i_f {P R : Prop} (h : R) : IFB false P R := h
theorem i_d {c : Prop} [Decidable c] {P R : Prop} (h1 : c → P) (h2 : ¬ c → R) : IFB (decide c) P R := by
  by_cases h : c
  · rw [decide_eq_true h]; exact h1 h
  · rw [decide_eq_false h]; exact h2 h
theorem i_n {b : Bool} {P R : Prop} (h : IFB b R P) : IFB (!b) P R := by cases b <;> exact h
theorem i_tt {b : Bool} {P R : Prop} (e : b = true) (h : P) : IFB b P R := by rw [e]; exact h
theorem i_ff {b : Bool} {P R : Prop} (e : b = false) (h : R) : IFB b P R := by rw [e]; exact h
theorem i_b {b : Bool} {P R : Prop} (h1 : b = true → P) (h2 : b = false → R) : IFB b P R := by cases b; exact h2 rfl; exact h1 rfl
theorem WE.bind {α β : Type} {r : Rv α} {k : α → Ts → Rv β} {Q : β → Ts → Prop} (h : WE r fun a t => WE (k a t) Q) : WE (r.bind k) Q := by
  obtain ⟨a, t, rfl, b, t', e, q⟩ := h; exact ⟨b, t', e, q⟩
theorem WE.ok {α : Type} {a : α} {t : Ts} {Q : α → Ts → Prop} (h : Q a t) : WE (.ok a t) Q := ⟨a, t, rfl, h⟩
theorem WE.of {α : Type} {o : Option α} {t : Ts} {Q : α → Ts → Prop} (h : WO o fun a => Q a t) : WE (Rv.of o t) Q := by
  obtain ⟨a, rfl, q⟩ := h; exact .ok q
theorem WE.call {α : Type} {r : Rv α} {a : α} {t : Ts} {Q : α → Ts → Prop} (e : r = .ok a t) (h : Q a t) : WE r Q := ⟨a, t, e, h⟩
theorem WE.ext {α : Type} {r : Rv α} {Q R : α → Ts → Prop} (h : WE r R) (f : ∀ a t, R a t → Q a t) : WE r Q := by obtain ⟨a, t, e, q⟩ := h; exact ⟨a, t, e, f _ _ q⟩
theorem WO.rf {α : Type} {o : Option α} {a : α} {Q : α → Prop} (e : o = some a) (h : Q a) : WO o Q := ⟨a, e, h⟩
section
variable {c : Cv} {M : List Nat} {σ : Es} {t : Ts} {a b d e : Ex} {es kes : Exs} {Q : Vv → Ts → Prop} {i j : Int}
theorem e_var {k : Nat} {v : Vv} (e : σ[k]? = some (some v)) (h : Q v t) : WE (vv c (.var k) σ t) Q := by rw [vv, e]; exact .ok h
theorem e_int (h : Q (.int i) t) : WE (vv c (.int i) σ t) Q := by rw [vv]; exact .ok h
theorem e_bl {k : Bool} (h : Q (.bl k) t) : WE (vv c (.bl k) σ t) Q := by rw [vv]; exact .ok h
theorem e_non (h : Q .non t) : WE (vv c .non σ t) Q := by rw [vv]; exact .ok h
theorem e_str {x : Str} (h : Q (.str x) t) : WE (vv c (.str x) σ t) Q := by rw [vv]; exact .ok h
theorem e_glo {C : Nat → List Vv → Ts → Rv Vv} {gl : List Vv} {k : Nat} {v : Vv} (e : gl[k]? = some v) (h : Q v t) : WE (vv ⟨C, gl⟩ (.glo k) σ t) Q := by rw [vv]; exact .of ⟨v, e, h⟩
theorem e_bin {op : Bop} (h : WE (vv c a σ t) fun x t1 => WE (vv c b σ t1) fun y t2 => WO (bopV op x y) fun v => Q v t2) : WE (vv c (.bin op a b) σ t) Q := by
  rw [vv]; exact .bind (h.ext fun x t1 h => .bind (h.ext fun y t2 h => .of h))
theorem e_neg (h : WE (vv c a σ t) fun x t1 => WE (intV x t1) fun i t2 => Q (.int (-i)) t2) : WE (vv c (.neg a) σ t) Q := by
  rw [vv]; exact .bind (h.ext fun x t1 h => .bind (h.ext fun y t2 h => .ok h))
theorem e_intV {Q : Int → Ts → Prop} (h : Q i t) : WE (intV (.int i) t) Q := .ok h
theorem e_not (h : WE (vv c a σ t) fun x t1 => WO (truV x) fun k => Q (.bl (!k)) t1) : WE (vv c (.not a) σ t) Q := by
  rw [vv]; exact .bind (.bind (h.ext fun x t1 h => .of (by obtain ⟨k, e, q⟩ := h; exact ⟨k, e, .ok q⟩)))
theorem e_cmp {op : Cop} (h : WE (vv c a σ t) fun x t1 => WE (vv c b σ t1) fun y t2 => WO (copV op x y) fun k => Q (.bl k) t2) : WE (vv c (.cmp op a b) σ t) Q := by
  rw [vv]; exact .bind (h.ext fun x t1 h => .bind (h.ext fun y t2 h => .bind (.of (by obtain ⟨k, e, q⟩ := h; exact ⟨k, e, .ok q⟩))))
theorem e_chain {o p : Cop} (h : WE (vv c a σ t) fun x t1 => WE (vv c b σ t1) fun y t2 => WO (copV o x y) fun k => IFB k (WE (vv c d σ t2) fun z t3 => WO (copV p y z) fun k => Q (.bl k) t3) (Q (.bl false) t2)) : WE (vv c (.chain o p a b d) σ t) Q := by
  rw [vv]
  refine .bind (h.ext fun x t1 h => .bind (h.ext fun y t2 h => .bind (.of ?_)))
  obtain ⟨k, e, q⟩ := h
  refine ⟨k, e, ?_⟩
  cases k with
  | false => exact .ok q
  | true => exact .bind (WE.ext q fun z t3 h => .bind (.of (by obtain ⟨k, e, q⟩ := h; exact ⟨k, e, .ok q⟩)))
theorem e_isN (h : WE (vv c a σ t) fun x t1 => Q (.bl (noneV x)) t1) : WE (vv c (.isN a) σ t) Q := by rw [vv]; exact .bind (h.ext fun x t1 h => .ok h)
theorem e_notN (h : WE (vv c a σ t) fun x t1 => Q (.bl (!noneV x)) t1) : WE (vv c (.notN a) σ t) Q := by rw [vv]; exact .bind (h.ext fun x t1 h => .ok h)
theorem e_and (h : WE (vvAnd c es σ t) Q) : WE (vv c (.and es) σ t) Q := by rw [vv]; exact h
theorem e_or (h : WE (vvOr c es σ t) Q) : WE (vv c (.or es) σ t) Q := by rw [vv]; exact h
theorem e_and1 (h : WE (vv c a σ t) Q) : WE (vvAnd c (.cons a .nil) σ t) Q := by rw [vvAnd]; exact h
theorem e_or1 (h : WE (vv c a σ t) Q) : WE (vvOr c (.cons a .nil) σ t) Q := by rw [vvOr]; exact h
theorem e_and2 (h : WE (vv c a σ t) fun x t1 => WO (truV x) fun k => IFB k (WE (vvAnd c (.cons b es) σ t1) Q) (Q x t1)) : WE (vvAnd c (.cons a (.cons b es)) σ t) Q := by
  rw [vvAnd]
  · refine .bind (h.ext fun x t1 h => .bind (.of ?_))
    obtain ⟨k, e, q⟩ := h
    refine ⟨k, e, ?_⟩
    cases k with
    | true => exact q
    | false => exact .ok q
  · intro h; cases h
theorem e_or2 (h : WE (vv c a σ t) fun x t1 => WO (truV x) fun k => IFB k (Q x t1) (WE (vvOr c (.cons b es) σ t1) Q)) : WE (vvOr c (.cons a (.cons b es)) σ t) Q := by
  rw [vvOr]
  · refine .bind (h.ext fun x t1 h => .bind (.of ?_))
    obtain ⟨k, e, q⟩ := h
    refine ⟨k, e, ?_⟩
    cases k with
    | true => exact .ok q
    | false => exact q
  · intro h; cases h
theorem e_ife (h : WE (vv c d σ t) fun x t1 => WO (truV x) fun k => IFB k (WE (vv c a σ t1) Q) (WE (vv c b σ t1) Q)) : WE (vv c (.ife d a b) σ t) Q := by
  rw [vv]
  refine .bind (.bind (h.ext fun x t1 h => .of ?_))
  obtain ⟨k, e, q⟩ := h
  refine ⟨k, e, ?_⟩
  cases k <;> exact q
theorem es_nil {Q : List Vv → Ts → Prop} (h : Q [] t) : WE (vvs c .nil σ t) Q := by rw [vvs]; exact .ok h
theorem es_cons {Q : List Vv → Ts → Prop} (h : WE (vv c a σ t) fun x t1 => WE (vvs c es σ t1) fun xs t2 => Q (x :: xs) t2) : WE (vvs c (.cons a es) σ t) Q := by
  rw [vvs]; exact .bind (h.ext fun x t1 h => .bind (h.ext fun y t2 h => .ok h))
theorem es_star {Q : List Vv → Ts → Prop} (h : WE (vv c a σ t) fun x t1 => WO (itemsV x) fun xs => WE (vvs c es σ t1) fun ys t2 => Q (xs ++ ys) t2) : WE (vvs c (.star a es) σ t) Q := by
  rw [vvs]; exact .bind (h.ext fun x t1 h => .bind (.of (by obtain ⟨k, e, q⟩ := h; exact ⟨k, e, .bind (q.ext fun y t2 h => .ok h)⟩)))
theorem line_ok {n : Nat} (h : Nat.ble n 1000000 = true) : n ≤ sizeLine := Nat.le_trans (Nat.le_of_ble_eq_true h) (by decide)
theorem e_tup (h : WE (vvs c es σ t) fun xs t1 => Nat.ble xs.length 1000000 = true ∧ Q (.tup xs) t1) : WE (vv c (.tup es) σ t) Q := by
  rw [vv]; exact .bind (h.ext fun x t1 h => by rw [if_pos (line_ok h.1)]; exact .ok h.2)
theorem e_lst (h : WE (vvs c es σ t) fun xs t1 => Nat.ble xs.length 1000000 = true ∧ Q (.lst xs) t1) : WE (vv c (.lst es) σ t) Q := by
  rw [vv]; exact .bind (h.ext fun x t1 h => by rw [if_pos (line_ok h.1)]; exact .ok h.2)
theorem e_call {C : Nat → List Vv → Ts → Rv Vv} {gl : List Vv} {f : Nat} (h : WE (vvs ⟨C, gl⟩ es σ t) fun xs t1 => WE (C f xs t1) Q) : WE (vv ⟨C, gl⟩ (.call f es) σ t) Q := by
  rw [vv]; exact .bind h
theorem e_callk {C : Nat → List Vv → Ts → Rv Vv} {gl : List Vv} {f : Nat} {ks : List Str} {perm : List Nat} (h : WE (vvs ⟨C, gl⟩ es σ t) fun xs t1 => WE (vvs ⟨C, gl⟩ kes σ t1) fun ys t2 => WE (C f (permV perm (xs ++ ys)) t2) Q) : WE (vv ⟨C, gl⟩ (.callk f es ks kes perm) σ t) Q := by
  rw [vv]; exact .bind (h.ext fun x t1 h => .bind h)
theorem e_bi {k : Bi} (h : WE (vvs c es σ t) fun xs t1 => WO (biV k xs) fun v => Q v t1) : WE (vv c (.bi k es) σ t) Q := by
  rw [vv]; exact .bind (h.ext fun x t1 h => .of h)
theorem e_isi {ty : Ty} (h : WE (vv c a σ t) fun x t1 => WO (isTyV ty x) fun k => Q (.bl k) t1) : WE (vv c (.isi a ty) σ t) Q := by
  rw [vv]; exact .bind (h.ext fun x t1 h => .bind (.of (by obtain ⟨k, e, q⟩ := h; exact ⟨k, e, .ok q⟩)))
theorem e_isis {ty : List Ty} (h : WE (vv c a σ t) fun x t1 => WO (isTysV x ty) fun k => Q (.bl k) t1) : WE (vv c (.isis a ty) σ t) Q := by
  rw [vv]; exact .bind (h.ext fun x t1 h => .bind (.of (by obtain ⟨k, e, q⟩ := h; exact ⟨k, e, .ok q⟩)))
theorem e_ix (h : WE (vv c a σ t) fun x t1 => WE (vv c b σ t1) fun y t2 => WO (ixW x y) fun v => Q v t2) : WE (vv c (.ix a b) σ t) Q := by
  rw [vv]; exact .bind (h.ext fun x t1 h => .bind (h.ext fun y t2 h => .of h))
theorem e_sl {lo hi : Pt} (h : WE (vv c a σ t) fun x t1 => WE (vvPt c lo σ t1) fun l t2 => WE (vvPt c hi σ t2) fun u t3 => WO (slW x l u) fun v => Q v t3) : WE (vv c (.sl a lo hi) σ t) Q := by
  rw [vv]; exact .bind (h.ext fun x t1 h => .bind (h.ext fun y t2 h => .bind (h.ext fun z t3 h => .of h)))
theorem p_no {Q : Option Int → Ts → Prop} (h : Q none t) : WE (vvPt c .no σ t) Q := by rw [vvPt]; exact .ok h
theorem p_yes {Q : Option Int → Ts → Prop} (h : WE (vv c a σ t) fun x t1 => WE (intV x t1) fun i t2 => Q (some i) t2) : WE (vvPt c (.yes a) σ t) Q := by
  rw [vvPt]; exact .bind (h.ext fun x t1 h => .bind (h.ext fun y t2 h => .ok h))
/-! what is walked -/
theorem t_seq {Q : List Vv → Ts → Prop} (h : WE (vv c a σ t) fun x t1 => WO (itemsV x) fun xs => Q xs t1) : WE (vvIt c (.seq a) σ t) Q := by
  rw [vvIt]; exact .bind (h.ext fun x t1 h => .of h)
theorem t_r1 {Q : List Vv → Ts → Prop} (h : WE (vv c a σ t) fun x t1 => WE (intV x t1) fun j t2 => (-(2 ^ 62) ≤ j ∧ j < 2 ^ 62) ∧ Q (rngL 0 j.toNat) t2) : WE (vvIt c (.range1 a) σ t) Q := by
  rw [vvIt]; exact .bind (h.ext fun x t1 h => .bind (h.ext fun y t2 h => by rw [if_pos h.1]; exact .ok h.2))
theorem t_r2 {Q : List Vv → Ts → Prop} (h : WE (vv c a σ t) fun x t1 => WE (vv c b σ t1) fun y t2 => WE (intV x t2) fun i t3 => WE (intV y t3) fun j t4 => (-(2 ^ 62) ≤ i ∧ i < 2 ^ 62 ∧ -(2 ^ 62) ≤ j ∧ j < 2 ^ 62) ∧ Q (rngL i (j - i).toNat) t4) : WE (vvIt c (.range2 a b) σ t) Q := by
  rw [vvIt]; exact .bind (h.ext fun x t1 h => .bind (h.ext fun y t2 h => .bind (h.ext fun _ _ h => .bind (h.ext fun _ _ h => by rw [if_pos h.1]; exact .ok h.2))))
def zipO : Vv → Vv → Option (List Vv)
  | .tup xs, .tup ys => some (zipL xs ys)
  | .lst xs, .lst ys => some (zipL xs ys)
  | _, _ => none
def enumO : Vv → Option (List Vv)
  | .lst xs => some (enumL 0 xs)
  | _ => none
theorem t_zip {Q : List Vv → Ts → Prop} (h : WE (vv c a σ t) fun x t1 => WE (vv c b σ t1) fun y t2 => WO (zipO x y) fun ws => Q ws t2) : WE (vvIt c (.zip a b) σ t) Q := by
  rw [vvIt]; exact .bind (h.ext fun x t1 h => .bind (h.ext fun y t2 h => by
    obtain ⟨ws, e, h⟩ := h
    cases x <;> cases y <;> first | (cases e; exact .ok h) | (cases e; done)))
theorem t_enum {Q : List Vv → Ts → Prop} (h : WE (vv c a σ t) fun x t1 => WO (enumO x) fun ws => Q ws t1) : WE (vvIt c (.enum a) σ t) Q := by
  rw [vvIt]; exact .bind (h.ext fun x t1 h => by
    obtain ⟨ws, e, h⟩ := h
    cases x <;> first | (cases e; exact .ok h) | (cases e; done))
theorem c_no {Q : Bool → Ts → Prop} (h : Q true t) : WE (vvCn c .no σ t) Q := by rw [vvCn]; exact .ok h
theorem c_yes {Q : Bool → Ts → Prop} (h : WE (vv c a σ t) fun x t1 => WO (truV x) fun k => Q k t1) : WE (vvCn c (.yes a) σ t) Q := by
  rw [vvCn]; exact .bind (h.ext fun x t1 h => .of h)
/-! comprehensions -/
def lcT (c : Cv) (own : List Nat) (tg : Tg) (cn : Cn) (e : Ex) (σ : Es) (x : Vv) (t2 : Ts) : Rv (Option Vv) :=
  (Rv.of (setTgV tg x (wipeV σ own)) t2).bind fun σ2 t3 => (vvCn c cn σ2 t3).bind fun k t4 => if k then (vv c e σ2 t4).bind fun y t5 => .ok (some y) t5 else .ok none t4
theorem lcT_of {own : List Nat} {tg : Tg} {cn : Cn} {x : Vv} {Q : Option Vv → Ts → Prop} (h : WO (setTgV tg x (wipeV σ own)) fun σ2 => WE (vvCn c cn σ2 t) fun k t4 => IFB k (WE (vv c e σ2 t4) fun y t5 => Q (some y) t5) (Q none t4)) : WE (lcT c own tg cn e σ x t) Q := by
  refine .bind (.of ?_)
  obtain ⟨σ2, e, h⟩ := h
  refine ⟨σ2, e, .bind (h.ext fun k t4 h => ?_)⟩
  cases k with
  | true => exact .bind (WE.ext h fun _ _ h => .ok h)
  | false => exact .ok h
/-- each turn by itself: f -/
theorem lcV_map {turn : Vv → Ts → Rv (Option Vv)} (f : Vv → Option Vv) : ∀ (ws : List Vv) (t : Ts), (∀ x, x ∈ ws → turn x t = .ok (f x) t) → lcV turn ws t = .ok (ws.filterMap f) t
  | [], t, _ => rfl
  | x :: ws, t, h => by
    rw [lcV, h x (by simp)]
    simp only [Rv.bind]
    rw [lcV_map f ws t (fun y hy => h y (by simp [hy]))]
    rw [List.filterMap_cons]
    cases f x <;> rfl
theorem e_lc {own : List Nat} {tg : Tg} {it : It} {cn : Cn} (h : WE (vvIt c it σ t) fun ws t1 => ws.length ≤ sizeLine ∧ WE (lcV (lcT c own tg cn e σ) ws t1) fun r t2 => Q (.lst r) t2) : WE (vv c (.lc own tg it cn e) σ t) Q := by
  rw [vv]; exact .bind (h.ext fun ws t1 h => by rw [if_pos h.1]; exact .bind (WE.ext h.2 fun r t2 h => .ok h))
/-- a comprehension that maps -/
theorem lc_map {own : List Nat} {tg : Tg} {cn : Cn} {ws : List Vv} {Q : List Vv → Ts → Prop} (f : Vv → Option Vv) (h : ∀ x, x ∈ ws → WE (lcT c own tg cn e σ x t) fun o t' => o = f x ∧ t' = t) (q : Q (ws.filterMap f) t) : WE (lcV (lcT c own tg cn e σ) ws t) Q := by
  refine .call (lcV_map f ws t fun x hx => ?_) q
  obtain ⟨a, t', e, rfl, rfl⟩ := h x hx
  exact e
/-- a comprehension that draws: by an invariant over what is made so far -/
theorem lc_inv {own : List Nat} {tg : Tg} {cn : Cn} {Q : List Vv → Ts → Prop} (I : Nat → List Vv → Ts → Prop) : ∀ (ws : List Vv) (k : Nat) (acc : List Vv) (t : Ts), I k acc t →
    (∀ i x acc t, I (k + i) acc t → ws[i]? = some x → WE (lcT c own tg cn e σ x t) fun o t' => I (k + i + 1) (acc ++ o.toList) t') → (∀ r t, I (k + ws.length) (acc ++ r) t → Q r t) → WE (lcV (lcT c own tg cn e σ) ws t) Q
  | [], k, acc, t, h, _, q => .ok (q [] t (by simpa using h))
  | x :: ws, k, acc, t, h, s, q => by
    rw [lcV]
    obtain ⟨o, t1, e1, h1⟩ := s 0 x acc t h rfl
    rw [e1]
    have := lc_inv (own := own) (tg := tg) (cn := cn) (Q := fun r t => Q (o.toList ++ r) t) I ws (k + 1) (acc ++ o.toList) t1 h1 (fun i x acc t hi hx => by
      have := s (i + 1) x acc t (by rwa [show k + (i + 1) = k + 1 + i by omega]) (by simpa using hx)
      rwa [show k + (i + 1) + 1 = k + 1 + i + 1 by omega] at this) (fun r t hr => q _ t (by
        rw [show k + (x :: ws).length = k + 1 + ws.length by simp; omega]
        simpa using hr))
    show WE ((lcV (lcT c own tg cn e σ) ws t1).bind _) Q
    exact .bind (WE.ext this fun r t2 h => by cases o <;> exact .ok h)
def conO (o : Option Vv) (r : List Vv) : List Vv := match o with | none => r | some y => y :: r
theorem l_nil {turn : Vv → Ts → Rv (Option Vv)} {Q : List Vv → Ts → Prop} (h : Q [] t) : WE (lcV turn [] t) Q := .ok h
theorem l_cons {turn : Vv → Ts → Rv (Option Vv)} {x : Vv} {xs : List Vv} {Q : List Vv → Ts → Prop} (h : WE (turn x t) fun o t1 => WE (lcV turn xs t1) fun r t2 => Q (conO o r) t2) : WE (lcV turn (x :: xs) t) Q := by
  rw [lcV]; exact .bind (h.ext fun o t1 h => .bind (h.ext fun r t2 h => .ok (by cases o <;> exact h)))
/-! statements -/
variable {P : Fv → Prop} {ss : Sms}
theorem n_nx {σ : Es} {t : Ts} (h : WS (xvs c M ss σ t) P) : Nxt c M ss P (.nx σ t) := h
theorem n_ret {v : Vv} (h : P (.ret v t)) : Nxt c M ss P (.ret v t) := h
theorem n_brk (h : P (.brk σ t)) : Nxt c M ss P (.brk σ t) := h
theorem n_cnt (h : P (.cnt σ t)) : Nxt c M ss P (.cnt σ t) := h
theorem w_cons {s : Sm} (h : WS (xv c M s σ t) (Nxt c M ss P)) : WS (xvs c M (.cons s ss) σ t) P := by
  unfold WS at h ⊢
  rw [xvs]
  revert h
  cases xv c M s σ t <;> exact fun h => h
theorem w_nil (h : P (.nx σ t)) : WS (xvs c M .nil σ t) P := by unfold WS; rw [xvs]; exact h
theorem WS.fl {α : Type} {r : Rv α} {k : α → Ts → Fv} (h : WE r fun a t => WS (k a t) P) : WS (r.fl σ k) P := by obtain ⟨a, t, rfl, h⟩ := h; exact h
theorem w_pass (h : P (.nx σ t)) : WS (xv c M .pass σ t) P := by unfold WS; rw [xv]; exact h
theorem w_brk (h : P (.brk σ t)) : WS (xv c M .brk σ t) P := by unfold WS; rw [xv]; exact h
theorem w_cnt (h : P (.cnt σ t)) : WS (xv c M .cnt σ t) P := by unfold WS; rw [xv]; exact h
theorem w_ex (h : WE (vv c a σ t) fun _ t1 => P (.nx σ t1)) : WS (xv c M (.ex a) σ t) P := by rw [xv]; exact .fl (h.ext fun _ _ h => h)
theorem w_ret (h : WE (vv c a σ t) fun v t1 => P (.ret v t1)) : WS (xv c M (.ret a) σ t) P := by rw [xv]; exact .fl (h.ext fun _ _ h => h)
theorem w_retN (h : P (.ret .non t)) : WS (xv c M .retN σ t) P := by rw [xv]; exact h
theorem w_set {i : Nat} (h : WE (vv c a σ t) fun v t1 => P (.nx (σ.set i (some v)) t1)) : WS (xv c [] (.set i a) σ t) P := by
  rw [xv]; exact .fl (h.ext fun v t1 h => by rw [if_pos (show setOk [] i a v = true from rfl)]; exact h)
theorem w_setM {i : Nat} (h : WE (vv c a σ t) fun v t1 => setOk M i a v = true ∧ P (.nx (σ.set i (some v)) t1)) : WS (xv c M (.set i a) σ t) P := by
  rw [xv]; exact .fl (h.ext fun v t1 h => by rw [if_pos h.1]; exact h.2)
theorem w_tset {is : List Nat} (h : WE (vv c a σ t) fun v t1 => WO (setTgV (.tp is) v σ) fun σ1 => P (.nx σ1 t1)) : WS (xv c [] (.tset is a) σ t) P := by
  rw [xv, if_pos (show apart [] is = true from rfl)]; exact .fl (h.ext fun v t1 h => by rw [if_pos (show ([].isEmpty || !men [] a || v.plain) = true from rfl)]; obtain ⟨σ1, e, h⟩ := h; rw [e]; exact h)
theorem w_tsetM {is : List Nat} (ha : apart M is = true) (h : WE (vv c a σ t) fun v t1 => (M.isEmpty || !men M a || v.plain) = true ∧ WO (setTgV (.tp is) v σ) fun σ1 => P (.nx σ1 t1)) : WS (xv c M (.tset is a) σ t) P := by
  rw [xv, if_pos ha]; exact .fl (h.ext fun v t1 h => by rw [if_pos h.1]; obtain ⟨_, σ1, e, h⟩ := h; rw [e]; exact h)
theorem m_nil {Q : List Vv → Ts → Prop} (h : Q [] t) : WE (vvM c M [] .nil σ t) Q := by rw [vvM]; exact .ok h
theorem m_cons {i : Nat} {is : List Nat} {Q : List Vv → Ts → Prop} (h : WE (vv c a σ t) fun x t1 => setOk M i a x = true ∧ WE (vvM c M is es σ t1) fun xs t2 => Q (x :: xs) t2) : WE (vvM c M (i :: is) (.cons a es) σ t) Q := by
  rw [vvM]; exact .bind (h.ext fun x t1 h => by rw [if_pos h.1]; exact .bind (h.2.ext fun y t2 h => .ok h))
theorem w_tsetO {is : List Nat} (ha : apart M is = false) (hl : Nat.ble is.length 1000000 = true) (h : WE (vvM c M is es σ t) fun vs t1 => WO (setAll is vs σ) fun σ1 => P (.nx σ1 t1)) : WS (xv c M (.tset is (.tup es)) σ t) P := by
  rw [xv, if_neg (by rw [ha]; exact Bool.false_ne_true), if_neg (by have := line_ok hl; omega)]
  exact .fl (h.ext fun v t1 h => by obtain ⟨σ1, e, h⟩ := h; rw [e]; exact h)
theorem w_app {j : Nat} {xs : List Vv} (e1 : slotL M a σ = some (j, xs)) (hx : xs.length < sizeLine) (h : WE (vv c b σ t) fun v t1 => (!men M b || v.plain) = true ∧ P (.nx (σ.set j (some (.lst (xs ++ [v])))) t1)) : WS (xv c M (.app a b) σ t) P := by
  rw [xv, e1]; exact .fl (h.ext fun v t1 h => by rw [if_pos (by rw [h.1, Bool.and_true]; exact decide_eq_true hx)]; exact h.2)
theorem w_sub {j : Nat} {xs : List Vv} (e1 : slotL M a σ = some (j, xs)) (h : WE (vv c e σ t) fun v t1 => WE (vv c b σ t1) fun y t2 => WE (intV y t2) fun k t3 => WO (ixN xs.length k) fun p => (!men M e || v.plain) = true ∧ P (.nx (σ.set j (some (.lst (xs.set p v)))) t3)) : WS (xv c M (.sub a b e) σ t) P := by
  rw [xv]
  refine .fl (h.ext fun v t1 h => ?_)
  rw [e1]
  exact .fl (h.ext fun y t2 h => .fl (h.ext fun k t3 h => by obtain ⟨p, e, h1, h⟩ := h; rw [e]; simp only [h1, if_true]; exact h))
theorem w_ite {l r : Sms} (h : WE (vv c a σ t) fun x t1 => WO (truV x) fun k => IFB k (WS (xvs c M l σ t1) P) (WS (xvs c M r σ t1) P)) : WS (xv c M (.ite a l r) σ t) P := by
  rw [xv]
  refine .fl (.bind (h.ext fun x t1 h => .of ?_))
  obtain ⟨k, e, h⟩ := h
  refine ⟨k, e, ?_⟩
  cases k <;> exact h
def turnV (c : Cv) (M : List Nat) (tg : Tg) (b : Sms) (x : Vv) (σ2 : Es) (t2 : Ts) : Fv := (Rv.of (setTgV tg x σ2) t2).fl σ2 fun σ3 t3 => xvs c M b σ3 t3
theorem w_for {tg : Tg} {it : It} {l : Sms} (ha : apart M tg.sl = true) (hm : (M.isEmpty || !menI M it || rngIt it) = true) (h : WE (vvIt c it σ t) fun ws t1 => WS (forV (turnV c M tg l) ws σ t1) P) : WS (xv c M (.for_ tg it l) σ t) P := by
  rw [xv]; exact .fl (h.ext fun ws t1 h => by rw [if_pos (by rw [ha, hm]; rfl)]; exact h)
theorem w_turn {tg : Tg} {l : Sms} {x : Vv} (h : WO (setTgV tg x σ) fun σ2 => WS (xvs c M l σ2 t) P) : WS (turnV c M tg l x σ t) P := by
  obtain ⟨σ2, e, h⟩ := h; unfold turnV; rw [e]; exact h
/-- what a turn leaves -/
def Trn (I : Es → Ts → Prop) (P : Fv → Prop) : Fv → Prop := fun r => match r with
  | .nx σ t => I σ t
  | .cnt σ t => I σ t
  | .brk σ t => P (.nx σ t)
  | r => P r
theorem tr_nx {I : Es → Ts → Prop} (h : I σ t) : Trn I P (.nx σ t) := h
theorem tr_cnt {I : Es → Ts → Prop} (h : I σ t) : Trn I P (.cnt σ t) := h
theorem tr_brk {I : Es → Ts → Prop} (h : P (.nx σ t)) : Trn I P (.brk σ t) := h
theorem tr_ret {I : Es → Ts → Prop} {v : Vv} (h : P (.ret v t)) : Trn I P (.ret v t) := h
theorem for_inv {turn : Vv → Es → Ts → Fv} (I : Nat → Es → Ts → Prop) : ∀ (ws : List Vv) (k : Nat) (σ : Es) (t : Ts), I k σ t →
    (∀ i x σ t, ws[i]? = some x → I (k + i) σ t → WS (turn x σ t) (Trn (I (k + i + 1)) P)) → (∀ σ t, I (k + ws.length) σ t → P (.nx σ t)) → WS (forV turn ws σ t) P
  | [], k, σ, t, h, _, q => q σ t (by simpa using h)
  | x :: ws, k, σ, t, h, s, q => by
    have S := s 0 x σ t rfl h
    have rc : ∀ σ1 t1, I (k + 1) σ1 t1 → WS (forV turn ws σ1 t1) P := fun σ1 t1 h1 => for_inv I ws (k + 1) σ1 t1 h1 (fun i x σ t hx hi => by
      have := s (i + 1) x σ t (by simpa using hx) (by rwa [show k + (i + 1) = k + 1 + i by omega])
      rwa [show k + (i + 1) + 1 = k + 1 + i + 1 by omega] at this) (fun σ t h => q σ t (by rwa [show k + (x :: ws).length = k + 1 + ws.length by simp; omega]))
    unfold WS at S ⊢
    rw [forV]
    revert S
    cases turn x σ t with
    | nx σ1 t1 => exact fun S => rc σ1 t1 S
    | cnt σ1 t1 => exact fun S => rc σ1 t1 S
    | _ => exact fun S => S
theorem w_whl {g : Ev → Nat} {l : Sms} (h : WS (whlV (fun σ t => (vv c a σ t).bind toBV) (xvs c M l) gasN σ t) P) : WS (xv c M (.whl g a l) σ t) P := by rw [xv]; exact h
/-- a while: so many turns at most are left -/
theorem whl_inv {l : Sms} (I : Nat → Es → Ts → Prop) (s : ∀ d σ t, I d σ t → WE (vv c a σ t) fun x t1 => WO (truV x) fun k => IFB k (0 < d ∧ WS (xvs c M l σ t1) (Trn (I (d - 1)) P)) (P (.nx σ t1))) :
    ∀ (m d : Nat) (σ : Es) (t : Ts), d ≤ m → I d σ t → WS (whlV (fun σ t => (vv c a σ t).bind toBV) (xvs c M l) m σ t) P := by
  intro m
  induction m with
  | zero =>
    intro d σ t hd h
    have S := s d σ t h
    unfold WS
    rw [whlV]
    refine WS.fl (P := P) (.bind (S.ext fun x t1 h => .of ?_))
    obtain ⟨k, e, h⟩ := h
    refine ⟨k, e, ?_⟩
    cases k with
    | true => have := h.1; omega
    | false => exact h
  | succ m ih =>
    intro d σ t hd h
    have S := s d σ t h
    unfold WS
    rw [whlV]
    refine WS.fl (P := P) (.bind (S.ext fun x t1 h => .of ?_))
    obtain ⟨k, e, h⟩ := h
    refine ⟨k, e, ?_⟩
    cases k with
    | false => exact h
    | true =>
      have h2 := h.2
      unfold WS at h2 ⊢
      simp only [if_true]
      revert h2
      cases xvs c M l σ t1 with
      | nx σ1 t1 => exact fun S => ih (d - 1) σ1 t1 (by omega) S
      | cnt σ1 t1 => exact fun S => ih (d - 1) σ1 t1 (by omega) S
      | _ => exact fun S => S
theorem w_while {g : Ev → Nat} {l : Sms} (I : Nat → Es → Ts → Prop) (d : Nat) (hd : d < 2 ^ 90) (h0 : I d σ t) (s : ∀ d σ t, I d σ t → WE (vv c a σ t) fun x t1 => WO (truV x) fun k => IFB k (0 < d ∧ WS (xvs c M l σ t1) (Trn (I (d - 1)) P)) (P (.nx σ t1))) : WS (xv c M (.whl g a l) σ t) P :=
  w_whl (whl_inv I s gasN d σ t (Nat.le_trans (Nat.le_of_lt hd) (by decide)) h0)
theorem ret_rf {v : Vv} : ∃ t2, Fv.ret v t = Fv.ret v t2 := ⟨t, rfl⟩
theorem ret_b {b b' : Bool} (h : b = b') : ∃ t2, Fv.ret (.bl b) t = Fv.ret (.bl b') t2 := ⟨t, by rw [h]⟩
theorem ret_i {b b' : Int} (h : b = b') : ∃ t2, Fv.ret (.int b) t = Fv.ret (.int b') t2 := ⟨t, by rw [h]⟩
theorem ret_v {b b' : Vv} (h : b = b') : ∃ t2, Fv.ret b t = Fv.ret b' t2 := ⟨t, by rw [h]⟩
theorem dec_f {p : Prop} [Decidable p] (h : ¬ p) : false = decide p := (decide_eq_false h).symm
theorem dec_t {p : Prop} [Decidable p] (h : p) : true = decide p := (decide_eq_true h).symm
theorem dec_d {p q : Prop} [Decidable p] [Decidable q] (h : p ↔ q) : decide p = decide q := decide_eq_decide.mpr h
/-! calls -/
variable {T : List Fx} {gl : List Vv} {tk k f : Nat} {dr : Bool} {xs : List Vv} {v : Vv}
theorem cv_pure (fx : Fx) (hf : T[f]? = some fx) (ht : Nat.beq f tk = false) (hl : (Nat.beq xs.length fx.fn.np && fx.ok && fx.fn.pure) = true) (ho : outOk v = true)
    (h : WS (xvs ⟨callW T gl tk k false, gl⟩ fx.M fx.fn.body (startV fx.fn xs) t) fun r => ∃ t', r = .ret v t') : callW T gl tk (k + 1) dr f xs t = .ok v t := by
  simp only [Bool.and_eq_true] at hl
  obtain ⟨t', e⟩ := h
  rw [callW_eq] at e ⊢
  rw [callV, if_neg (Nat.ne_of_beq_eq_false ht), hf]
  simp only
  rw [if_pos ⟨Nat.eq_of_beq_eq_true hl.1.1, hl.1.2⟩, if_pos hl.2, e]
  simp only [ho, if_true]
theorem cv_imp {Q : Vv → Ts → Prop} (fx : Fx) (hf : T[f]? = some fx) (ht : Nat.beq f tk = false) (hl : (Nat.beq xs.length fx.fn.np && fx.ok && !fx.fn.pure) = true)
    (h : WS (xvs ⟨callW T gl tk k true, gl⟩ fx.M fx.fn.body (startV fx.fn xs) t) fun r => ∃ v t', r = .ret v t' ∧ Q v t') : WE (callW T gl tk (k + 1) true f xs t) Q := by
  simp only [Bool.and_eq_true, Bool.not_eq_true'] at hl
  obtain ⟨v, t', e, q⟩ := h
  rw [callW_eq] at e ⊢
  rw [callV, if_neg (Nat.ne_of_beq_eq_false ht), hf]
  simp only
  rw [if_pos ⟨Nat.eq_of_beq_eq_true hl.1.1, hl.1.2⟩, if_neg (by rw [hl.2]; exact Bool.false_ne_true), if_pos trivial, e]
  exact .ok q
/-- a tin with room for so many draws -/
def Rm (b : Nat) (t : Ts) : Prop := 0 ≤ t.g ∧ 0 ≤ t.c ∧ t.c + b < 2 ^ 60
theorem Rm.less {b b' : Nat} {t : Ts} (h : Rm b t) (hb : b' ≤ b) : Rm b' t := ⟨h.1, h.2.1, by have := h.2.2; omega⟩
theorem cv_take {top : Int} {b : Nat} {Q : Vv → Ts → Prop} (r : Rm (b + 1) t) (h1 : 0 < top) (h2 : top < 2 ^ 200) (h : ∀ x t', 0 ≤ x → x < top → Rm b t' → Q (.int x) t') : WE (callW T gl tk (k + 1) true tk [.tin, .int top] t) Q := by
  rw [callW_eq, callV, if_pos rfl, if_pos rfl]
  obtain ⟨g0, c0, c1⟩ := r
  simp only [takeV]
  rw [if_pos ⟨h1, h2, g0, c0, by omega⟩]
  split
  · refine .ok (h _ _ (Int.emod_nonneg _ (by omega)) (Int.emod_lt_of_pos _ h1) ⟨Int.ediv_nonneg g0 (by omega), c0, ?_⟩)
    show t.c + b < _; omega
  · refine .ok (h _ _ (Int.emod_nonneg _ (by omega)) (Int.emod_lt_of_pos _ h1) ⟨g0, ?_, ?_⟩)
    · show 0 ≤ t.c + 1; omega
    · show t.c + 1 + b < _; omega
end
/-! small steps -/
section
variable {Q : Vv → Prop} {i j : Int}
theorem o_add (h : Q (.int (i + j))) : WO (bopV .add (.int i) (.int j)) Q := ⟨_, rfl, h⟩
theorem o_sub (h : Q (.int (i - j))) : WO (bopV .sub (.int i) (.int j)) Q := ⟨_, rfl, h⟩
theorem mulOk_l (h : i.natAbs < 2 ^ 64) : mulOk i j = true := by unfold mulOk; rw [decide_eq_true h]; rfl
theorem mulOk_r (h : j.natAbs < 2 ^ 64) : mulOk i j = true := by unfold mulOk; rw [decide_eq_true h, Bool.or_true]; rfl
theorem o_mul (hm : mulOk i j = true) (h : Q (.int (i * j))) : WO (bopV .mul (.int i) (.int j)) Q := ⟨_, by show (if mulOk i j = true then _ else _ : Option Int).map _ = _; rw [if_pos hm]; rfl, h⟩
theorem log_ok {j : Int} (h : j.natAbs < 2 ^ 9000) : j.natAbs.log2 < 9000 := by
  rcases Nat.eq_zero_or_pos j.natAbs with h0 | h0
  · rw [h0]; decide
  · exact (Nat.log2_lt (by omega)).mpr h
theorem o_fdiv (h1 : 0 < j) (h2 : j.natAbs < 2 ^ 9000) (h : Q (.int (i / j))) : WO (bopV .fdiv (.int i) (.int j)) Q := ⟨_, by show (if _ then _ else _ : Option Int).map _ = _; rw [if_pos ⟨h1, log_ok h2⟩]; rfl, h⟩
theorem o_fdiv' (h1 : 0 < j) (h2 : j < 2 ^ 200) (h : Q (.int (i / j))) : WO (bopV .fdiv (.int i) (.int j)) Q := o_fdiv h1 (Nat.lt_of_lt_of_le (show j.natAbs < 2 ^ 200 by omega) (Nat.pow_le_pow_right (by decide) (by decide))) h
theorem o_mod (h1 : 0 < j) (h : Q (.int (i % j))) : WO (bopV .mod (.int i) (.int j)) Q := ⟨_, by show (if _ then _ else _ : Option Int).map _ = _; rw [if_pos h1]; rfl, h⟩
theorem o_pow (h1 : 0 ≤ j ∧ j ≤ 1000000 ∧ i.natAbs < 2 ^ 64) (h : Q (.int (i ^ j.toNat))) : WO (bopV .pow (.int i) (.int j)) Q := ⟨_, by show (if _ then _ else _ : Option Int).map _ = _; rw [if_pos h1]; rfl, h⟩
theorem o_cat {xs ys : List Vv} (hl : xs.length + ys.length ≤ sizeLine) (h : Q (.lst (xs ++ ys))) : WO (bopV .add (.lst xs) (.lst ys)) Q := ⟨_, by simp only [bopV, if_pos hl], h⟩
theorem o_catC {xs ys : List Vv} (hl : Nat.ble (xs.length + ys.length) 1000000 = true) (h : Q (.lst (xs ++ ys))) : WO (bopV .add (.lst xs) (.lst ys)) Q := o_cat (line_ok hl) h
theorem o_tcat {xs ys : List Vv} (h0 : xs.isEmpty = false) (hl : xs.length + ys.length ≤ sizeLine) (h : Q (.tup (xs ++ ys))) : WO (bopV .add (.tup xs) (.tup ys)) Q := ⟨_, by simp only [bopV, h0, if_pos hl]; rfl, h⟩
theorem o_rep {xs : List Vv} {k : Int} (h0 : 0 ≤ k) (hl : xs.length * k.toNat ≤ sizeLine) (hk : k < 2 ^ 63) (h : Q (.lst (List.replicate k.toNat xs).flatten)) : WO (bopV .mul (.lst xs) (.int k)) Q := ⟨_, by simp only [bopV]; rw [if_pos ⟨by omega, hk, hl⟩], h⟩
variable {R : Bool → Prop}
theorem o_eq (h : R (decide (i = j))) : WO (copV .eq (.int i) (.int j)) R := ⟨_, rfl, h⟩
theorem o_ne (h : R (!decide (i = j))) : WO (copV .ne (.int i) (.int j)) R := ⟨_, rfl, h⟩
theorem o_lt (h : R (decide (i < j))) : WO (copV .lt (.int i) (.int j)) R := ⟨_, rfl, h⟩
theorem o_le (h : R (decide (i ≤ j))) : WO (copV .le (.int i) (.int j)) R := ⟨_, rfl, h⟩
theorem o_gt (h : R (decide (j < i))) : WO (copV .gt (.int i) (.int j)) R := ⟨_, rfl, h⟩
theorem o_ge (h : R (decide (j ≤ i))) : WO (copV .ge (.int i) (.int j)) R := ⟨_, rfl, h⟩
theorem o_tb {b : Bool} (h : R b) : WO (truV (.bl b)) R := ⟨_, rfl, h⟩
theorem o_ti {i : Int} (h : R (i != 0)) : WO (truV (.int i)) R := ⟨_, rfl, h⟩
theorem o_lenL {xs : List Vv} (h : Q (.int xs.length)) : WO (biV .len [.lst xs]) Q := ⟨_, rfl, h⟩
theorem o_lenT {xs : List Vv} (h : Q (.int xs.length)) : WO (biV .len [.tup xs]) Q := ⟨_, rfl, h⟩
theorem o_abs (h : Q (.int (if i < 0 then -i else i))) : WO (biV .abs [.int i]) Q := ⟨_, rfl, h⟩
theorem o_int (h : Q (.int i)) : WO (biV .int [.int i]) Q := ⟨_, rfl, h⟩
theorem o_intb {b : Bool} (h : Q (.int (if b then 1 else 0))) : WO (biV .int [.bl b]) Q := ⟨_, rfl, h⟩
theorem o_max (h : Q (.int (if j > i then j else i))) : WO (biV .max2 [.int i, .int j]) Q := ⟨_, rfl, h⟩
theorem o_min (h : Q (.int (if j < i then j else i))) : WO (biV .min2 [.int i, .int j]) Q := ⟨_, rfl, h⟩
theorem o_tupL {xs : List Vv} (h : Q (.tup xs)) : WO (biV .tuple [.lst xs]) Q := ⟨_, rfl, h⟩
theorem o_tupT {xs : List Vv} (h : Q (.tup xs)) : WO (biV .tuple [.tup xs]) Q := ⟨_, rfl, h⟩
theorem o_lstL {xs : List Vv} (h : Q (.lst xs)) : WO (biV .list [.lst xs]) Q := ⟨_, rfl, h⟩
theorem o_lstT {xs : List Vv} (h : Q (.lst xs)) : WO (biV .list [.tup xs]) Q := ⟨_, rfl, h⟩
theorem o_all {xs : List Vv} {bs : List Bool} (e : blsV xs = some bs) (h : Q (.bl (bs.all id))) : WO (biV .all [.lst xs]) Q := ⟨_, by show ((lstV (.lst xs)).bind blsV).map _ = _; rw [lstV, Option.bind_some, e]; rfl, h⟩
theorem o_zipL {xs ys : List Vv} {R : List Vv → Prop} (h : R (zipL xs ys)) : WO (zipO (.lst xs) (.lst ys)) R := ⟨_, rfl, h⟩
theorem o_zipT {xs ys : List Vv} {R : List Vv → Prop} (h : R (zipL xs ys)) : WO (zipO (.tup xs) (.tup ys)) R := ⟨_, rfl, h⟩
theorem o_enum {xs : List Vv} {R : List Vv → Prop} (h : R (enumL 0 xs)) : WO (enumO (.lst xs)) R := ⟨_, rfl, h⟩
theorem o_itL {xs : List Vv} {R : List Vv → Prop} (h : R xs) : WO (itemsV (.lst xs)) R := ⟨_, rfl, h⟩
theorem o_itT {xs : List Vv} {R : List Vv → Prop} (h : R xs) : WO (itemsV (.tup xs)) R := ⟨_, rfl, h⟩
end
end W
end GB

end
section
set_option Elab.async false
set_option linter.all false
set_option maxRecDepth 100000
/-! GbW2: more rules; data that is like itself. -/
namespace GB
namespace W
open PySem PySem.Spec PyProof.Rows L2
/-- data, so deep at most -/
def fitB : Nat → Vv → Bool
  | _, .non => true
  | _, .bl _ => true
  | _, .int _ => true
  | _, .str x => SeqAt.shaped (.str x)
  | d + 1, .tup xs => Nat.ble xs.length 1000000 && xs.all (fitB d)
  | d + 1, .lst xs => Nat.ble xs.length 1000000 && xs.all (fitB d)
  | _, _ => false
theorem fitB_t {d : Nat} {xs : List Vv} (h1 : xs.length ≤ 1000000) (h2 : ∀ x, x ∈ xs → fitB d x = true) : fitB (d + 1) (.tup xs) = true := by
  simp only [fitB, Bool.and_eq_true, List.all_eq_true]; exact ⟨Nat.ble_eq_true_of_le h1, h2⟩
theorem fitB_l {d : Nat} {xs : List Vv} (h1 : xs.length ≤ 1000000) (h2 : ∀ x, x ∈ xs → fitB d x = true) : fitB (d + 1) (.lst xs) = true := by
  simp only [fitB, Bool.and_eq_true, List.all_eq_true]; exact ⟨Nat.ble_eq_true_of_le h1, h2⟩
theorem eq_str {x : Str} (h : SeqAt.shaped (.str x) = true) : copV .eq (.str x) (.str x) = some true := by
  show eqW _ _ = _
  unfold eqW
  simp only [toDV, Option.bind_some, h, Bool.and_self, if_true]
  simp [PyData.eqv]
theorem zip_self : ∀ {xs : List Vv} {x : Vv}, x ∈ zipL xs xs → ∃ y, y ∈ xs ∧ x = .tup [y, y]
  | [], x, h => by simp [zipL] at h
  | y :: ys, x, h => by
    simp only [zipL, List.mem_cons] at h
    rcases h with rfl | h
    · exact ⟨y, by simp, rfl⟩
    · obtain ⟨z, h1, h2⟩ := zip_self h; exact ⟨z, by simp [h1], h2⟩
theorem bls_all : ∀ (ws : List Vv), ∃ bs, blsV (ws.filterMap fun _ => some (.bl true)) = some bs ∧ bs.all id = true
  | [] => ⟨[], rfl, rfl⟩
  | w :: ws => by
    obtain ⟨bs, e, h⟩ := bls_all ws
    exact ⟨true :: bs, by rw [List.filterMap_cons]; simp only [blsV, e, Option.map_some], by simp [h]⟩
section
variable {T : List Fx} {gl : List Vv} {tk k : Nat} {t : Ts}
theorem cv_tk {top : Int} {Q : Vv → Ts → Prop} (g0 : 0 ≤ t.g) (c0 : 0 ≤ t.c) (c1 : t.c < 2 ^ 60) (h1 : 0 < top) (h2 : top < 2 ^ 200)
    (h : ∀ (x : Int) (t' : Ts), 0 ≤ x → x < top → 0 ≤ t'.g → 0 ≤ t'.c → t'.c ≤ t.c + 1 → Q (.int x) t') : WE (callW T gl tk (k + 1) true tk [.tin, .int top] t) Q := by
  rw [callW_eq, callV, if_pos rfl, if_pos rfl]
  simp only [takeV]
  rw [if_pos ⟨h1, h2, g0, c0, c1⟩]
  split
  · refine .ok (h _ _ (Int.emod_nonneg _ (by omega)) (Int.emod_lt_of_pos _ h1) (Int.ediv_nonneg g0 (by omega)) c0 ?_)
    show t.c ≤ t.c + 1; omega
  · refine .ok (h _ _ (Int.emod_nonneg _ (by omega)) (Int.emod_lt_of_pos _ h1) g0 ?_ ?_)
    · show 0 ≤ t.c + 1; omega
    · show t.c + 1 ≤ t.c + 1; omega
end
theorem law_w {T : List Fn} {T2 : List Fx} {gl : List Vl} {gl2 : List Vv} {tk k f hr ce ri bo bud : Nat} {most : Nat} {u : Int} (tr : TR T T2 tk) (gr : GR gl gl2) (hf : T[f]? = some (f_law hr ce ri bo (most : Int))) (h1 : 1 ≤ most) (h2 : most ≤ 100)
    (hc : T[ce]? = some f_cells) (hb : T[bo]? = some (f_box u)) (hbud : bud < 2 ^ 59) (hp : ∃ fn, T[hr]? = some fn ∧ fn.pure = true)
    (hh : ∀ t : Ts, callW T2 gl2 tk (k + 1) false hr [] t = .ok (.bl true) t)
    (hri : ∀ t : Ts, 0 ≤ t.g → 0 ≤ t.c → t.c + bud < 2 ^ 60 → ∃ t', callW T2 gl2 tk (k + 1) true ri [.tin] t = .ok (.bl true) t') (ns : List Int) (hn : ns.length ≤ 63) :
    ∃ h, callF T gl (k + 2) f [.ref 0] [] [.fz (ns.map Vl.int)] = .ok (.bl true) h := by
  rw [callW_eq] at hh hri
  exact law_by tr gr hf h1 h2 hc hb hbud hp hh hri ns hn
end W
end GB

end
section
set_option Elab.async false
set_option linter.all false
set_option maxRecDepth 100000
/-! GbW3: comprehensions over ranges and lists; all of them True. -/
namespace GB
namespace W
open PySem PySem.Spec PyProof.Rows L2
def irg (lo : Int) : Nat → List Int
  | 0 => []
  | n + 1 => lo :: irg (lo + 1) n
theorem rngL_eq : ∀ (n : Nat) (lo : Int), rngL lo n = (irg lo n).map .int
  | 0, _ => rfl
  | n + 1, lo => by simp only [rngL, irg, List.map_cons, rngL_eq n]
theorem irg_len : ∀ (n : Nat) (lo : Int), (irg lo n).length = n
  | 0, _ => rfl
  | n + 1, lo => by simp only [irg, List.length_cons, irg_len n]
theorem irg_mem : ∀ {n : Nat} {lo x : Int}, x ∈ irg lo n ↔ lo ≤ x ∧ x < lo + n
  | 0, lo, x => ⟨fun h => by simp [irg] at h, fun h => by omega⟩
  | n + 1, lo, x => by simp only [irg, List.mem_cons, irg_mem (n := n)]; omega
theorem irg_get : ∀ {n : Nat} {lo : Int} {i : Nat}, i < n → (irg lo n)[i]? = some (lo + i)
  | 0, lo, i, h => by omega
  | n + 1, lo, 0, h => by simp [irg]
  | n + 1, lo, i + 1, h => by simp only [irg, List.getElem?_cons_succ]; rw [irg_get (by omega)]; congr 1; omega
section
variable {c : Cv} {σ : Es} {t : Ts} {e : Ex} {own : List Nat} {tg : Tg} {cn : Cn} {Q : List Vv → Ts → Prop}
theorem filterMap_some {α : Type} (l : List α) (g f : α → Vv) (F : Vv → Option Vv) (h : ∀ x, x ∈ l → F (g x) = some (f x)) : (l.map g).filterMap F = l.map f := by
  induction l with
  | nil => rfl
  | cons a l ih => rw [List.map_cons, List.filterMap_cons, h a (by simp), ih (fun x hx => h x (by simp [hx]))]; rfl
theorem lcV_gmap {α : Type} {turn : Vv → Ts → Rv (Option Vv)} (l : List α) (g : α → Vv) (f : α → Vv) (h : ∀ x, x ∈ l → turn (g x) t = .ok (some (f x)) t) : lcV turn (l.map g) t = .ok (l.map f) t := by
  induction l with
  | nil => rfl
  | cons a l ih => rw [List.map_cons, lcV, h a (by simp)]; simp only [Rv.bind]; rw [ih (fun x hx => h x (by simp [hx]))]; rfl
theorem lc_gmap {α : Type} {l : List α} {g : α → Vv} (f : α → Vv) (h : ∀ x, x ∈ l → WE (lcT c own tg cn e σ (g x) t) fun o t' => o = some (f x) ∧ t' = t) (q : Q (l.map f) t) : WE (lcV (lcT c own tg cn e σ) (l.map g) t) Q := by
  refine .call (lcV_gmap l g f fun x hx => ?_) q
  obtain ⟨a, t', e, rfl, rfl⟩ := h x hx
  exact e
theorem lc_rng {lo : Int} {n : Nat} (f : Int → Vv) (h : ∀ x, lo ≤ x → x < lo + n → WE (lcT c own tg cn e σ (.int x) t) fun o t' => o = some (f x) ∧ t' = t) (q : Q ((irg lo n).map f) t) : WE (lcV (lcT c own tg cn e σ) (rngL lo n) t) Q := by
  rw [rngL_eq]
  exact lc_gmap f (fun x hx => h x (irg_mem.mp hx).1 (irg_mem.mp hx).2) q
theorem lc_vmap {l : List Vv} (f : Vv → Vv) (h : ∀ x, x ∈ l → WE (lcT c own tg cn e σ x t) fun o t' => o = some (f x) ∧ t' = t) (q : Q (l.map f) t) : WE (lcV (lcT c own tg cn e σ) l t) Q := by
  have := lc_gmap (c := c) (own := own) (tg := tg) (cn := cn) (e := e) (σ := σ) (t := t) (Q := Q) (l := l) (g := id) f h q
  rwa [List.map_id] at this
theorem enum_mem : ∀ {l : List Vv} {k : Nat} {x : Vv}, x ∈ enumL k l → ∃ (j : Nat) (y : Vv), y ∈ l ∧ x = .tup [.int j, y]
  | [], k, x, h => by simp [enumL] at h
  | y :: l, k, x, h => by
    simp only [enumL, List.mem_cons] at h
    rcases h with rfl | h
    · exact ⟨k, y, by simp, rfl⟩
    · obtain ⟨j, z, h1, h2⟩ := enum_mem h; exact ⟨j, z, by simp [h1], h2⟩
/-- a filter -/
theorem lcV_gfil {α : Type} {turn : Vv → Ts → Rv (Option Vv)} (l : List α) (g : α → Vv) (p : α → Bool) (f : α → Vv) (h : ∀ x, x ∈ l → turn (g x) t = .ok (if p x then some (f x) else none) t) : lcV turn (l.map g) t = .ok ((l.filter p).map f) t := by
  induction l with
  | nil => rfl
  | cons a l ih =>
    rw [List.map_cons, lcV, h a (by simp)]; simp only [Rv.bind]; rw [ih (fun x hx => h x (by simp [hx])), List.filter_cons]
    cases p a <;> rfl
theorem lc_gfil {α : Type} {l : List α} {g : α → Vv} (p : α → Bool) (f : α → Vv) (h : ∀ x, x ∈ l → WE (lcT c own tg cn e σ (g x) t) fun o t' => o = (if p x then some (f x) else none) ∧ t' = t) (q : Q ((l.filter p).map f) t) : WE (lcV (lcT c own tg cn e σ) (l.map g) t) Q := by
  refine .call (lcV_gfil l g p f fun x hx => ?_) q
  obtain ⟨a, t', e, rfl, rfl⟩ := h x hx
  exact e
/-- all True, with draws -/
theorem lc_true (I : Nat → Ts → Prop) (ws : List Vv) (h0 : I 0 t) (s : ∀ i x t, ws[i]? = some x → I i t → WE (lcT c own tg cn e σ x t) fun o t' => o = some (.bl true) ∧ I (i + 1) t') (q : ∀ t, I ws.length t → Q (List.replicate ws.length (.bl true)) t) : WE (lcV (lcT c own tg cn e σ) ws t) Q := by
  refine lc_inv (fun i acc t => acc = List.replicate i (.bl true) ∧ I i t) ws 0 [] t ⟨rfl, h0⟩ ?_ ?_
  · rintro i x acc t ⟨rfl, hi⟩ hx
    rw [Nat.zero_add] at hi ⊢
    refine (s i x t hx hi).ext ?_
    rintro o t' ⟨rfl, h⟩
    exact ⟨by simp [List.replicate_succ'], h⟩
  · rintro r t ⟨h1, h2⟩
    simp only [List.nil_append, Nat.zero_add] at h1 h2
    subst h1
    exact q t h2
end
theorem bls_rep : ∀ n : Nat, blsV (List.replicate n (.bl true)) = some (List.replicate n true)
  | 0 => rfl
  | n + 1 => by simp [List.replicate_succ, blsV, bls_rep n]
theorem o_allT {n : Nat} {Q : Vv → Prop} (h : Q (.bl true)) : WO (biV .all [.lst (List.replicate n (.bl true))]) Q := by
  refine o_all (bls_rep n) ?_
  rw [show (List.replicate n true).all id = true by simp]
  exact h
theorem plains_map {α : Type} (l : List α) (f : α → Vv) (h : ∀ x, x ∈ l → (f x).plain = true) : Vv.plains (l.map f) = true := by
  induction l with
  | nil => rfl
  | cons a l ih => simp only [List.map_cons, Vv.plains, h a (by simp), ih (fun x hx => h x (by simp [hx])), Bool.and_self]
theorem fit_map {α : Type} {d : Nat} (l : List α) (f : α → Vv) (hl : l.length ≤ 1000000) (h : ∀ x, x ∈ l → fitB d (f x) = true) : fitB (d + 1) (.lst (l.map f)) = true :=
  fitB_l (by simpa using hl) (fun x hx => by obtain ⟨y, h1, rfl⟩ := List.mem_map.mp hx; exact h y h1)
theorem fit_mapT {α : Type} {d : Nat} (l : List α) (f : α → Vv) (hl : l.length ≤ 1000000) (h : ∀ x, x ∈ l → fitB d (f x) = true) : fitB (d + 1) (.tup (l.map f)) = true :=
  fitB_t (by simpa using hl) (fun x hx => by obtain ⟨y, h1, rfl⟩ := List.mem_map.mp hx; exact h y h1)
/-- the least multiple not below -/
theorem up_le {x y : Int} (hy : 0 < y) : x ≤ -((-x) / y) * y ∧ -((-x) / y) * y < x + y := by
  have h1 := Int.emod_nonneg (-x) (show y ≠ 0 by omega)
  have h2 := Int.emod_lt_of_pos (-x) hy
  have h3 := Int.mul_ediv_add_emod (-x) y
  have : -((-x) / y) * y = -(y * ((-x) / y)) := by rw [Int.neg_mul, Int.mul_comm]
  omega
end W
end GB

end
set_option Elab.async false
set_option linter.all false
set_option maxRecDepth 1000000
set_option maxHeartbeats 2000000
namespace Lw
open PySem PySem.Spec PyProof.Rows L2 GB GB.W
def topS (i : Nat) : Stmt := PySem.Challenge.pw_growback_k64_forms_and_blocks.main.body.getD i (.Pass ⟨0, 0, 0, 0⟩)
def b_is_number : Sms := (.cons (.ret (.and (.cons (.isi (.var 0) .int) (.cons (.not (.isi (.var 0) .bool)) .nil)))) .nil)
def f_is_number : Fn := ⟨1, 1, true, b_is_number⟩
def d_is_number : DefI := ⟨"is_number", ["thing"], ["thing"], f_is_number, topS 1⟩
def b_up : Sms := (.cons (.ret (.neg (.bin .fdiv (.neg (.var 0)) (.var 1)))) .nil)
def f_up : Fn := ⟨2, 2, true, b_up⟩
def d_up : DefI := ⟨"up", ["top", "bottom"], ["top", "bottom"], f_up, topS 2⟩
def b_is_form : Sms := (.cons (.ite (.or (.cons (.not (.isi (.var 0) .tuple)) (.cons (.cmp .ne (.bi .len (.cons (.var 0) .nil)) (.int 2)) (.cons (.not (.bi .all (.cons (.lc [1] (.nm 1) (.seq (.var 0)) .no (.call 0 (.cons (.var 1) .nil))) .nil))) .nil)))) (.cons (.ret (.bl false)) .nil) .nil) (.cons (.ret (.and (.cons (.cmp .ge (.ix (.var 0) (.int 0)) (.int 0)) (.cons (.cmp .ge (.ix (.var 0) (.int 1)) (.int 1)) .nil)))) .nil))
def f_is_form : Fn := ⟨1, 2, true, b_is_form⟩
def d_is_form : DefI := ⟨"is_form", ["thing"], ["thing", "part"], f_is_form, topS 4⟩
def b_block_size : Sms := (.cons (.tset [2, 3] (.var 0)) (.cons (.ret (.bin .mul (.call 1 (.cons (.bin .add (.var 1) (.var 2)) (.cons (.var 3) .nil))) (.var 3))) .nil))
def f_block_size : Fn := ⟨2, 4, true, b_block_size⟩
def d_block_size : DefI := ⟨"block_size", ["form", "size"], ["form", "size", "head", "grain"], f_block_size, topS 5⟩
def b_spare_cells : Sms := (.cons (.ret (.bin .sub (.call 3 (.cons (.var 0) (.cons (.var 1) .nil))) (.var 1))) .nil)
def f_spare_cells : Fn := ⟨2, 2, true, b_spare_cells⟩
def d_spare_cells : DefI := ⟨"spare_cells", ["form", "size"], ["form", "size"], f_spare_cells, topS 6⟩
def b__law_box : Sms := (.cons (.set 2 (.ife (.cmp .lt (.var 1) (.bi .len (.cons (.var 0) .nil))) (.ix (.var 0) (.var 1)) (.int 0))) (.cons (.ret (.lst (.cons (.bin .mul (.bi .abs (.cons (.var 2) .nil)) (.bi .int (.cons (.cmp .ge (.bi .abs (.cons (.var 2) .nil)) (.bin .pow (.int 10) (.int 18))) .nil))) (.cons (.bin .add (.bin .add (.bin .mod (.bi .int (.cons (.var 2) .nil)) (.int 2305843009213693951)) (.bin .mul (.int 39373) (.var 1))) (.int 2303)) (.cons (.int 0) .nil))))) .nil))
def f__law_box : Fn := ⟨2, 3, true, b__law_box⟩
def d__law_box : DefI := ⟨"_law_box", ["_law_script", "_law_k"], ["_law_script", "_law_k", "_law_great_so"], f__law_box, topS 8⟩
def b__law_take : Sms := (.cons (.ite (.cmp .gt (.ix (.var 0) (.int 0)) (.int 0)) (.cons (.set 2 (.bin .mod (.bi .int (.cons (.ix (.var 0) (.int 0)) .nil)) (.var 1))) (.cons (.sub (.var 0) (.int 0) (.bin .fdiv (.ix (.var 0) (.int 0)) (.var 1))) (.cons (.ret (.var 2)) .nil))) .nil) (.cons (.sub (.var 0) (.int 2) (.bin .add (.ix (.var 0) (.int 2)) (.int 1))) (.cons (.set 3 (.bin .mod (.bi .int (.cons (.bin .mul (.bin .add (.ix (.var 0) (.int 1)) (.bin .mul (.int 48271) (.ix (.var 0) (.int 2)))) (.bin .add (.int 39373) (.ix (.var 0) (.int 2)))) .nil)) (.int 2147483647))) (.cons (.set 4 (.bin .add (.bin .mod (.bi .int (.cons (.var 3) .nil)) (.int 40009)) (.int 7))) (.cons (.set 5 (.bin .mod (.bi .int (.cons (.bin .mul (.bin .add (.bin .add (.var 3) (.ix (.var 0) (.int 2))) (.bin .fdiv (.ix (.var 0) (.int 1)) (.int 1000003))) (.var 4)) .nil)) (.int 2147483629))) (.cons (.ret (.bin .mod (.bi .int (.cons (.bin .fdiv (.bin .mod (.bi .int (.cons (.bin .add (.bin .mul (.var 5) (.int 48271)) (.var 3)) .nil)) (.int 2147483587)) (.int 64)) .nil)) (.var 1))) .nil))))))
def f__law_take : Fn := ⟨2, 6, false, b__law_take⟩
def d__law_take : DefI := ⟨"_law_take", ["_law_tin", "_law_top_so"], ["_law_tin", "_law_top_so", "_law_digit_so", "_law_once", "_law_far", "_law_twice"], f__law_take, topS 9⟩
def b__law_cells : Sms := (.cons (.set 2 (.or (.cons (.bi .list (.cons (.sl (.var 0) .no (.yes (.var 1))) .nil)) (.cons (.lst (.cons (.int 0) .nil)) .nil)))) (.cons (.for_ (.tp [3, 4]) (.enum (.sl (.var 0) (.yes (.var 1)) (.yes (.int 63)))) (.cons (.set 5 (.bin .mod (.bi .int (.cons (.var 3) .nil)) (.var 1))) (.cons (.sub (.var 2) (.var 5) (.bin .add (.ix (.var 2) (.var 5)) (.bin .mul (.var 4) (.bin .add (.var 3) (.int 2))))) .nil))) (.cons (.ret (.var 2)) .nil)))
def f__law_cells : Fn := ⟨2, 6, true, b__law_cells⟩
def d__law_cells : DefI := ⟨"_law_cells", ["_law_script", "_law_most"], ["_law_script", "_law_most", "_law_cells_here", "_law_k", "_law_great_so", "_law_at_so"], f__law_cells, topS 10⟩
def b__law_same : Sms := (.cons (.ite (.isis (.var 1) [.list, .tuple]) (.cons (.ite (.or (.cons (.cmp .ne (.isi (.var 0) .list) (.isi (.var 1) .list)) (.cons (.cmp .ne (.isi (.var 0) .tuple) (.isi (.var 1) .tuple)) .nil))) (.cons (.ret (.bl false)) .nil) .nil) (.cons (.ret (.and (.cons (.cmp .eq (.bi .len (.cons (.var 0) .nil)) (.bi .len (.cons (.var 1) .nil))) (.cons (.bi .all (.cons (.lc [2, 3] (.tp [2, 3]) (.zip (.var 0) (.var 1)) .no (.call 8 (.cons (.var 2) (.cons (.var 3) .nil)))) .nil)) .nil)))) .nil)) .nil) (.cons (.ite (.isi (.var 1) .dict) (.cons .never (.cons (.ret (.bi .all (.cons (.lc [4] (.nm 4) (.seq (.var 1)) .no (.call 8 (.cons (.ix (.var 0) (.var 4)) (.cons (.ix (.var 1) (.var 4)) .nil)))) .nil))) .nil)) .nil) (.cons (.ite (.or (.cons (.isN (.var 1)) (.cons (.isis (.var 1) [.bool, .str]) .nil))) (.cons (.ret (.and (.cons (.cmp .eq (.var 0) (.var 1)) (.cons (.cmp .eq (.isi (.var 0) .bool) (.isi (.var 1) .bool)) (.cons (.cmp .eq (.isN (.var 0)) (.isN (.var 1))) .nil))))) .nil) .nil) (.cons (.ret (.and (.cons (.isi (.var 0) .int) (.cons (.not (.isi (.var 0) .bool)) (.cons (.cmp .eq (.var 0) (.var 1)) .nil))))) .nil))))
def f__law_same : Fn := ⟨2, 5, true, b__law_same⟩
def d__law_same : DefI := ⟨"_law_same", ["_law_got", "_law_due"], ["_law_got", "_law_due", "_law_mine", "_law_its", "_law_lot_so"], f__law_same, topS 11⟩
def b__law_up : Sms := (.cons (.set 2 (.int 0)) (.cons (.whl GB.gas (.cmp .lt (.var 2) (.bin .add (.var 1) (.ix (.var 0) (.int 0)))) (.cons (.set 2 (.bin .add (.var 2) (.ix (.var 0) (.int 1)))) .nil)) (.cons (.ret (.var 2)) .nil)))
def f__law_up : Fn := ⟨2, 3, true, b__law_up⟩
def d__law_up : DefI := ⟨"_law_up", ["_law_shape_so", "_law_much"], ["_law_shape_so", "_law_much", "_law_found"], f__law_up, topS 12⟩
def b__law_by_hand_right : Sms := (.cons (.set 0 (.lst (.cons (.tup (.cons (.int 0) (.cons (.int 1) .nil))) (.cons (.tup (.cons (.int 8) (.cons (.int 16) .nil))) (.cons (.tup (.cons (.int 0) (.cons (.bin .pow (.int 10) (.int 41)) .nil))) (.cons (.tup (.cons (.bin .pow (.int 10) (.int 41)) (.cons (.int 1) .nil))) (.cons (.tup (.cons (.int 3) (.cons (.int 2) .nil))) .nil))))))) (.cons (.set 1 (.lst (.cons (.tup (.cons (.int 0) (.cons (.int 0) .nil))) (.cons (.tup (.cons (.neg (.int 1)) (.cons (.int 1) .nil))) (.cons (.tup (.cons (.int 1) (.cons (.neg (.int 1)) .nil))) (.cons (.tup (.cons (.int 0) .nil)) (.cons (.tup (.cons (.int 0) (.cons (.int 1) (.cons (.int 1) .nil)))) (.cons (.lst (.cons (.int 0) (.cons (.int 1) .nil))) (.cons (.tup (.cons (.bl true) (.cons (.int 1) .nil))) (.cons (.tup (.cons (.int 0) (.cons (.bl true) .nil))) (.cons (.tup (.cons (.int 0) (.cons .non .nil))) .nil))))))))))) (.cons (.set 1 (.bin .add (.var 1) (.lst (.cons (.tup (.cons (.str "0") (.cons (.int 1) .nil))) (.cons .non (.cons (.int 3) (.cons (.str "ab") (.cons (.tup .nil) (.cons (.tup (.cons (.tup (.cons (.int 0) (.cons (.int 1) .nil))) .nil)) (.cons (.tup (.cons (.int 0) (.cons (.tup (.cons (.int 1) .nil)) .nil))) .nil)))))))))) (.cons (.set 2 (.lst (.cons (.lc [5] (.nm 5) (.seq (.var 0)) .no (.call 2 (.cons (.var 5) .nil))) (.cons (.lc [5] (.nm 5) (.seq (.var 1)) .no (.call 2 (.cons (.var 5) .nil))) .nil)))) (.cons (.set 2 (.bin .add (.var 2) (.lst (.cons (.lc [6] (.nm 6) (.seq (.tup (.cons (.int 1) (.cons (.int 8) (.cons (.int 9) (.cons (.int 24) (.cons (.int 25) .nil))))))) .no (.call 3 (.cons (.tup (.cons (.int 8) (.cons (.int 16) .nil))) (.cons (.var 6) .nil)))) .nil)))) (.cons (.set 2 (.bin .add (.var 2) (.lst (.cons (.lc [6] (.nm 6) (.seq (.tup (.cons (.int 1) (.cons (.int 7) .nil)))) .no (.call 3 (.cons (.tup (.cons (.int 0) (.cons (.int 1) .nil))) (.cons (.var 6) .nil)))) .nil)))) (.cons (.set 2 (.bin .add (.var 2) (.lst (.cons (.lc [6] (.nm 6) (.seq (.tup (.cons (.int 1) (.cons (.int 8) (.cons (.int 9) (.cons (.int 24) (.cons (.int 25) .nil))))))) .no (.call 4 (.cons (.tup (.cons (.int 8) (.cons (.int 16) .nil))) (.cons (.var 6) .nil)))) .nil)))) (.cons (.set 3 (.lst (.cons (.bin .mul (.lst (.cons (.bl true) .nil)) (.int 5)) (.cons (.bin .mul (.lst (.cons (.bl false) .nil)) (.bi .len (.cons (.var 1) .nil))) (.cons (.lst (.cons (.int 16) (.cons (.int 16) (.cons (.int 32) (.cons (.int 32) (.cons (.int 48) .nil)))))) (.cons (.lst (.cons (.int 1) (.cons (.int 7) .nil))) (.cons (.lst (.cons (.int 15) (.cons (.int 8) (.cons (.int 23) (.cons (.int 8) (.cons (.int 23) .nil)))))) .nil))))))) (.cons (.set 4 (.bin .pow (.int 10) (.int 40))) (.cons (.set 2 (.bin .add (.var 2) (.lst (.cons (.call 3 (.cons (.tup (.cons (.var 4) (.cons (.var 4) .nil))) (.cons (.var 4) .nil))) (.cons (.call 3 (.cons (.tup (.cons (.var 4) (.cons (.var 4) .nil))) (.cons (.bin .sub (.var 4) (.int 1)) .nil))) .nil))))) (.cons (.set 2 (.bin .add (.var 2) (.lst (.cons (.call 3 (.cons (.tup (.cons (.int 1) (.cons (.var 4) .nil))) (.cons (.var 4) .nil))) (.cons (.call 4 (.cons (.tup (.cons (.int 1) (.cons (.var 4) .nil))) (.cons (.var 4) .nil))) (.cons (.call 3 (.cons (.tup (.cons (.int 0) (.cons (.var 4) .nil))) (.cons (.int 1) .nil))) .nil)))))) (.cons (.set 2 (.bin .add (.var 2) (.lst (.cons (.call 4 (.cons (.tup (.cons (.int 0) (.cons (.int 7) .nil))) (.cons (.var 4) .nil))) .nil)))) (.cons (.set 3 (.bin .add (.var 3) (.lst (.cons (.bin .mul (.int 2) (.var 4)) (.cons (.bin .mul (.int 2) (.var 4)) (.cons (.bin .mul (.int 2) (.var 4)) (.cons (.var 4) (.cons (.var 4) (.cons (.int 3) .nil))))))))) (.cons (.set 2 (.bin .add (.var 2) (.lst (.cons (.callk 3 .nil ["size", "form"] (.cons (.int 9) (.cons (.lst (.cons (.int 8) (.cons (.int 16) .nil))) .nil)) [1, 0]) (.cons (.callk 4 .nil ["size", "form"] (.cons (.int 9) (.cons (.lst (.cons (.int 8) (.cons (.int 16) .nil))) .nil)) [1, 0]) .nil))))) (.cons (.set 2 (.bin .add (.var 2) (.lst (.cons (.callk 2 .nil ["thing"] (.cons (.tup (.cons (.int 8) (.cons (.int 16) .nil))) .nil) [0]) .nil)))) (.cons (.ret (.call 8 (.cons (.var 2) (.cons (.bin .add (.var 3) (.lst (.cons (.int 32) (.cons (.int 23) (.cons (.bl true) .nil))))) .nil)))) .nil))))))))))))))))
def f__law_by_hand_right : Fn := ⟨0, 7, true, b__law_by_hand_right⟩
def d__law_by_hand_right : DefI := ⟨"_law_by_hand_right", [], ["_law_fine", "_law_odd", "_law_got", "_law_due", "_law_far", "_law_own", "_law_much"], f__law_by_hand_right, topS 13⟩
def b__law_case_right : Sms := (.cons (.set 1 (.tup (.cons (.call 6 (.cons (.var 0) (.cons (.int 30) .nil))) (.cons (.bin .add (.int 1) (.call 6 (.cons (.var 0) (.cons (.int 20) .nil)))) .nil)))) (.cons (.set 2 (.lc [4] (.nm 4) (.range2 (.int 1) (.int 41)) .no (.call 9 (.cons (.var 1) (.cons (.var 4) .nil))))) (.cons (.set 3 (.lst (.cons (.lc [4] (.nm 4) (.range2 (.int 1) (.int 41)) .no (.call 3 (.cons (.var 1) (.cons (.var 4) .nil)))) .nil))) (.cons (.set 3 (.bin .add (.var 3) (.lst (.cons (.lc [4] (.nm 4) (.range2 (.int 1) (.int 41)) .no (.call 4 (.cons (.bi .list (.cons (.var 1) .nil)) (.cons (.var 4) .nil)))) (.cons (.call 2 (.cons (.var 1) .nil)) .nil))))) (.cons (.set 3 (.bin .add (.var 3) (.lst (.cons (.call 2 (.cons (.bi .list (.cons (.var 1) .nil)) .nil)) .nil)))) (.cons (.ret (.call 8 (.cons (.var 3) (.cons (.lst (.cons (.var 2) (.cons (.lc [5, 6] (.tp [5, 6]) (.enum (.var 2)) .no (.bin .sub (.bin .sub (.var 6) (.var 5)) (.int 1))) (.cons (.bl true) (.cons (.bl false) .nil))))) .nil)))) .nil))))))
def f__law_case_right : Fn := ⟨1, 7, false, b__law_case_right⟩
def d__law_case_right : DefI := ⟨"_law_case_right", ["_law_tin"], ["_law_tin", "_law_shape_so", "_law_due", "_law_got", "_law_much", "_law_k", "_law_own"], f__law_case_right, topS 14⟩
def b__law_right : Sms := (.cons (.ret (.bi .all (.cons (.lc [1] (.nm 1) (.range1 (.int 10)) .no (.call 11 (.cons (.var 0) .nil))) .nil))) .nil)
def f__law_right : Fn := ⟨1, 2, false, b__law_right⟩
def d__law_right : DefI := ⟨"_law_right", ["_law_tin"], ["_law_tin", "_law_turn"], f__law_right, topS 15⟩
def b_law : Sms := (.cons (.ite (.not (.call 10 .nil)) (.cons (.ret (.bl false)) .nil) .nil) (.cons (.set 1 (.call 7 (.cons (.var 0) (.cons (.int 3) .nil)))) (.cons (.ret (.bi .all (.cons (.lc [2] (.nm 2) (.range1 (.bi .len (.cons (.var 1) .nil))) .no (.call 12 (.cons (.call 5 (.cons (.var 1) (.cons (.var 2) .nil))) .nil))) .nil))) .nil)))
def f_law : Fn := ⟨1, 3, true, b_law⟩
def d_law : DefI := ⟨"law", ["_law_script"], ["_law_script", "_law_lots_so", "_law_k"], f_law, topS 16⟩
def ds : List DefI := [d_is_number, d_up, d_is_form, d_block_size, d_spare_cells, d__law_box, d__law_take, d__law_cells, d__law_same, d__law_up, d__law_by_hand_right, d__law_case_right, d__law_right, d_law]
def T : List Fn := [f_is_number, f_up, f_is_form, f_block_size, f_spare_cells, f__law_box, f__law_take, f__law_cells, f__law_same, f__law_up, f__law_by_hand_right, f__law_case_right, f__law_right, f_law]
theorem T_eq : ds.map (·.fn) = T := rfl
def consts : List Str := []
def gl : List Vl := []
def kws : List (Nat × Nat × List Str × List Nat) := [(2, 0, ["thing"], [0]), (3, 0, ["size", "form"], [1, 0]), (4, 0, ["size", "form"], [1, 0])]
theorem chk : chkAll ds consts kws = true := by decide +kernel
def LV0 : Nat := 40
abbrev i_is_number : Nat := 0
def x_is_number : Fx := ⟨f_is_number, [], true⟩
abbrev i_up : Nat := 1
def x_up : Fx := ⟨f_up, [], true⟩
abbrev i_is_form : Nat := 2
def x_is_form : Fx := ⟨f_is_form, [], true⟩
abbrev i_block_size : Nat := 3
def x_block_size : Fx := ⟨f_block_size, [], true⟩
abbrev i_spare_cells : Nat := 4
def x_spare_cells : Fx := ⟨f_spare_cells, [], true⟩
abbrev i__law_box : Nat := 5
def x__law_box : Fx := ⟨f__law_box, [], true⟩
abbrev i__law_take : Nat := 6
def x__law_take : Fx := ⟨f__law_take, [0], false⟩
abbrev i__law_cells : Nat := 7
def x__law_cells : Fx := ⟨f__law_cells, [2], true⟩
abbrev i__law_same : Nat := 8
def x__law_same : Fx := ⟨f__law_same, [], true⟩
abbrev i__law_up : Nat := 9
def x__law_up : Fx := ⟨f__law_up, [], true⟩
abbrev i__law_by_hand_right : Nat := 10
def x__law_by_hand_right : Fx := ⟨f__law_by_hand_right, [], true⟩
abbrev i__law_case_right : Nat := 11
def x__law_case_right : Fx := ⟨f__law_case_right, [], true⟩
abbrev i__law_right : Nat := 12
def x__law_right : Fx := ⟨f__law_right, [], true⟩
abbrev i_law : Nat := 13
def x_law : Fx := ⟨f_law, [], true⟩
def T2 : List Fx := [x_is_number, x_up, x_is_form, x_block_size, x_spare_cells, x__law_box, x__law_take, x__law_cells, x__law_same, x__law_up, x__law_by_hand_right, x__law_case_right, x__law_right, x_law]
def gl2 : List Vv := []
abbrev CV := callW T2 gl2 i__law_take
theorem c_is_number {k : Nat} {dr : Bool} {t : Ts} {v0 : Vv} {v : Vv} (ho : outOk v = true) (h : WS (xvs ⟨CV k false, gl2⟩ [] (.cons (.ret (.and (.cons (.isi (.var 0) .int) (.cons (.not (.isi (.var 0) .bool)) .nil)))) .nil) [some v0] t) fun r => ∃ t2, r = .ret v t2) : CV (k + 1) dr i_is_number [v0] t = .ok v t := cv_pure x_is_number rfl rfl rfl ho h
theorem c_up {k : Nat} {dr : Bool} {t : Ts} {v0 v1 : Vv} {v : Vv} (ho : outOk v = true) (h : WS (xvs ⟨CV k false, gl2⟩ [] (.cons (.ret (.neg (.bin .fdiv (.neg (.var 0)) (.var 1)))) .nil) [some v0, some v1] t) fun r => ∃ t2, r = .ret v t2) : CV (k + 1) dr i_up [v0, v1] t = .ok v t := cv_pure x_up rfl rfl rfl ho h
theorem c_is_form {k : Nat} {dr : Bool} {t : Ts} {v0 : Vv} {v : Vv} (ho : outOk v = true) (h : WS (xvs ⟨CV k false, gl2⟩ [] (.cons (.ite (.or (.cons (.not (.isi (.var 0) .tuple)) (.cons (.cmp .ne (.bi .len (.cons (.var 0) .nil)) (.int 2)) (.cons (.not (.bi .all (.cons (.lc [1] (.nm 1) (.seq (.var 0)) .no (.call 0 (.cons (.var 1) .nil))) .nil))) .nil)))) (.cons (.ret (.bl false)) .nil) .nil) (.cons (.ret (.and (.cons (.cmp .ge (.ix (.var 0) (.int 0)) (.int 0)) (.cons (.cmp .ge (.ix (.var 0) (.int 1)) (.int 1)) .nil)))) .nil)) [some v0, none] t) fun r => ∃ t2, r = .ret v t2) : CV (k + 1) dr i_is_form [v0] t = .ok v t := cv_pure x_is_form rfl rfl rfl ho h
theorem c_block_size {k : Nat} {dr : Bool} {t : Ts} {v0 v1 : Vv} {v : Vv} (ho : outOk v = true) (h : WS (xvs ⟨CV k false, gl2⟩ [] (.cons (.tset [2, 3] (.var 0)) (.cons (.ret (.bin .mul (.call 1 (.cons (.bin .add (.var 1) (.var 2)) (.cons (.var 3) .nil))) (.var 3))) .nil)) [some v0, some v1, none, none] t) fun r => ∃ t2, r = .ret v t2) : CV (k + 1) dr i_block_size [v0, v1] t = .ok v t := cv_pure x_block_size rfl rfl rfl ho h
theorem c_spare_cells {k : Nat} {dr : Bool} {t : Ts} {v0 v1 : Vv} {v : Vv} (ho : outOk v = true) (h : WS (xvs ⟨CV k false, gl2⟩ [] (.cons (.ret (.bin .sub (.call 3 (.cons (.var 0) (.cons (.var 1) .nil))) (.var 1))) .nil) [some v0, some v1] t) fun r => ∃ t2, r = .ret v t2) : CV (k + 1) dr i_spare_cells [v0, v1] t = .ok v t := cv_pure x_spare_cells rfl rfl rfl ho h
theorem c__law_same {k : Nat} {dr : Bool} {t : Ts} {v0 v1 : Vv} {v : Vv} (ho : outOk v = true) (h : WS (xvs ⟨CV k false, gl2⟩ [] (.cons (.ite (.isis (.var 1) [.list, .tuple]) (.cons (.ite (.or (.cons (.cmp .ne (.isi (.var 0) .list) (.isi (.var 1) .list)) (.cons (.cmp .ne (.isi (.var 0) .tuple) (.isi (.var 1) .tuple)) .nil))) (.cons (.ret (.bl false)) .nil) .nil) (.cons (.ret (.and (.cons (.cmp .eq (.bi .len (.cons (.var 0) .nil)) (.bi .len (.cons (.var 1) .nil))) (.cons (.bi .all (.cons (.lc [2, 3] (.tp [2, 3]) (.zip (.var 0) (.var 1)) .no (.call 8 (.cons (.var 2) (.cons (.var 3) .nil)))) .nil)) .nil)))) .nil)) .nil) (.cons (.ite (.isi (.var 1) .dict) (.cons .never (.cons (.ret (.bi .all (.cons (.lc [4] (.nm 4) (.seq (.var 1)) .no (.call 8 (.cons (.ix (.var 0) (.var 4)) (.cons (.ix (.var 1) (.var 4)) .nil)))) .nil))) .nil)) .nil) (.cons (.ite (.or (.cons (.isN (.var 1)) (.cons (.isis (.var 1) [.bool, .str]) .nil))) (.cons (.ret (.and (.cons (.cmp .eq (.var 0) (.var 1)) (.cons (.cmp .eq (.isi (.var 0) .bool) (.isi (.var 1) .bool)) (.cons (.cmp .eq (.isN (.var 0)) (.isN (.var 1))) .nil))))) .nil) .nil) (.cons (.ret (.and (.cons (.isi (.var 0) .int) (.cons (.not (.isi (.var 0) .bool)) (.cons (.cmp .eq (.var 0) (.var 1)) .nil))))) .nil)))) [some v0, some v1, none, none, none] t) fun r => ∃ t2, r = .ret v t2) : CV (k + 1) dr i__law_same [v0, v1] t = .ok v t := cv_pure x__law_same rfl rfl rfl ho h
theorem c__law_up {k : Nat} {dr : Bool} {t : Ts} {v0 v1 : Vv} {v : Vv} (ho : outOk v = true) (h : WS (xvs ⟨CV k false, gl2⟩ [] (.cons (.set 2 (.int 0)) (.cons (.whl GB.gas (.cmp .lt (.var 2) (.bin .add (.var 1) (.ix (.var 0) (.int 0)))) (.cons (.set 2 (.bin .add (.var 2) (.ix (.var 0) (.int 1)))) .nil)) (.cons (.ret (.var 2)) .nil))) [some v0, some v1, none] t) fun r => ∃ t2, r = .ret v t2) : CV (k + 1) dr i__law_up [v0, v1] t = .ok v t := cv_pure x__law_up rfl rfl rfl ho h
theorem c__law_by_hand_right {k : Nat} {dr : Bool} {t : Ts} {v : Vv} (ho : outOk v = true) (h : WS (xvs ⟨CV k false, gl2⟩ [] (.cons (.set 0 (.lst (.cons (.tup (.cons (.int 0) (.cons (.int 1) .nil))) (.cons (.tup (.cons (.int 8) (.cons (.int 16) .nil))) (.cons (.tup (.cons (.int 0) (.cons (.bin .pow (.int 10) (.int 41)) .nil))) (.cons (.tup (.cons (.bin .pow (.int 10) (.int 41)) (.cons (.int 1) .nil))) (.cons (.tup (.cons (.int 3) (.cons (.int 2) .nil))) .nil))))))) (.cons (.set 1 (.lst (.cons (.tup (.cons (.int 0) (.cons (.int 0) .nil))) (.cons (.tup (.cons (.neg (.int 1)) (.cons (.int 1) .nil))) (.cons (.tup (.cons (.int 1) (.cons (.neg (.int 1)) .nil))) (.cons (.tup (.cons (.int 0) .nil)) (.cons (.tup (.cons (.int 0) (.cons (.int 1) (.cons (.int 1) .nil)))) (.cons (.lst (.cons (.int 0) (.cons (.int 1) .nil))) (.cons (.tup (.cons (.bl true) (.cons (.int 1) .nil))) (.cons (.tup (.cons (.int 0) (.cons (.bl true) .nil))) (.cons (.tup (.cons (.int 0) (.cons .non .nil))) .nil))))))))))) (.cons (.set 1 (.bin .add (.var 1) (.lst (.cons (.tup (.cons (.str "0") (.cons (.int 1) .nil))) (.cons .non (.cons (.int 3) (.cons (.str "ab") (.cons (.tup .nil) (.cons (.tup (.cons (.tup (.cons (.int 0) (.cons (.int 1) .nil))) .nil)) (.cons (.tup (.cons (.int 0) (.cons (.tup (.cons (.int 1) .nil)) .nil))) .nil)))))))))) (.cons (.set 2 (.lst (.cons (.lc [5] (.nm 5) (.seq (.var 0)) .no (.call 2 (.cons (.var 5) .nil))) (.cons (.lc [5] (.nm 5) (.seq (.var 1)) .no (.call 2 (.cons (.var 5) .nil))) .nil)))) (.cons (.set 2 (.bin .add (.var 2) (.lst (.cons (.lc [6] (.nm 6) (.seq (.tup (.cons (.int 1) (.cons (.int 8) (.cons (.int 9) (.cons (.int 24) (.cons (.int 25) .nil))))))) .no (.call 3 (.cons (.tup (.cons (.int 8) (.cons (.int 16) .nil))) (.cons (.var 6) .nil)))) .nil)))) (.cons (.set 2 (.bin .add (.var 2) (.lst (.cons (.lc [6] (.nm 6) (.seq (.tup (.cons (.int 1) (.cons (.int 7) .nil)))) .no (.call 3 (.cons (.tup (.cons (.int 0) (.cons (.int 1) .nil))) (.cons (.var 6) .nil)))) .nil)))) (.cons (.set 2 (.bin .add (.var 2) (.lst (.cons (.lc [6] (.nm 6) (.seq (.tup (.cons (.int 1) (.cons (.int 8) (.cons (.int 9) (.cons (.int 24) (.cons (.int 25) .nil))))))) .no (.call 4 (.cons (.tup (.cons (.int 8) (.cons (.int 16) .nil))) (.cons (.var 6) .nil)))) .nil)))) (.cons (.set 3 (.lst (.cons (.bin .mul (.lst (.cons (.bl true) .nil)) (.int 5)) (.cons (.bin .mul (.lst (.cons (.bl false) .nil)) (.bi .len (.cons (.var 1) .nil))) (.cons (.lst (.cons (.int 16) (.cons (.int 16) (.cons (.int 32) (.cons (.int 32) (.cons (.int 48) .nil)))))) (.cons (.lst (.cons (.int 1) (.cons (.int 7) .nil))) (.cons (.lst (.cons (.int 15) (.cons (.int 8) (.cons (.int 23) (.cons (.int 8) (.cons (.int 23) .nil)))))) .nil))))))) (.cons (.set 4 (.bin .pow (.int 10) (.int 40))) (.cons (.set 2 (.bin .add (.var 2) (.lst (.cons (.call 3 (.cons (.tup (.cons (.var 4) (.cons (.var 4) .nil))) (.cons (.var 4) .nil))) (.cons (.call 3 (.cons (.tup (.cons (.var 4) (.cons (.var 4) .nil))) (.cons (.bin .sub (.var 4) (.int 1)) .nil))) .nil))))) (.cons (.set 2 (.bin .add (.var 2) (.lst (.cons (.call 3 (.cons (.tup (.cons (.int 1) (.cons (.var 4) .nil))) (.cons (.var 4) .nil))) (.cons (.call 4 (.cons (.tup (.cons (.int 1) (.cons (.var 4) .nil))) (.cons (.var 4) .nil))) (.cons (.call 3 (.cons (.tup (.cons (.int 0) (.cons (.var 4) .nil))) (.cons (.int 1) .nil))) .nil)))))) (.cons (.set 2 (.bin .add (.var 2) (.lst (.cons (.call 4 (.cons (.tup (.cons (.int 0) (.cons (.int 7) .nil))) (.cons (.var 4) .nil))) .nil)))) (.cons (.set 3 (.bin .add (.var 3) (.lst (.cons (.bin .mul (.int 2) (.var 4)) (.cons (.bin .mul (.int 2) (.var 4)) (.cons (.bin .mul (.int 2) (.var 4)) (.cons (.var 4) (.cons (.var 4) (.cons (.int 3) .nil))))))))) (.cons (.set 2 (.bin .add (.var 2) (.lst (.cons (.callk 3 .nil ["size", "form"] (.cons (.int 9) (.cons (.lst (.cons (.int 8) (.cons (.int 16) .nil))) .nil)) [1, 0]) (.cons (.callk 4 .nil ["size", "form"] (.cons (.int 9) (.cons (.lst (.cons (.int 8) (.cons (.int 16) .nil))) .nil)) [1, 0]) .nil))))) (.cons (.set 2 (.bin .add (.var 2) (.lst (.cons (.callk 2 .nil ["thing"] (.cons (.tup (.cons (.int 8) (.cons (.int 16) .nil))) .nil) [0]) .nil)))) (.cons (.ret (.call 8 (.cons (.var 2) (.cons (.bin .add (.var 3) (.lst (.cons (.int 32) (.cons (.int 23) (.cons (.bl true) .nil))))) .nil)))) .nil)))))))))))))))) [none, none, none, none, none, none, none] t) fun r => ∃ t2, r = .ret v t2) : CV (k + 1) dr i__law_by_hand_right [] t = .ok v t := cv_pure x__law_by_hand_right rfl rfl rfl ho h
theorem c__law_case_right {k : Nat} {t : Ts} {v0 : Vv} {Q : Vv → Ts → Prop} (h : WS (xvs ⟨CV k true, gl2⟩ [] (.cons (.set 1 (.tup (.cons (.call 6 (.cons (.var 0) (.cons (.int 30) .nil))) (.cons (.bin .add (.int 1) (.call 6 (.cons (.var 0) (.cons (.int 20) .nil)))) .nil)))) (.cons (.set 2 (.lc [4] (.nm 4) (.range2 (.int 1) (.int 41)) .no (.call 9 (.cons (.var 1) (.cons (.var 4) .nil))))) (.cons (.set 3 (.lst (.cons (.lc [4] (.nm 4) (.range2 (.int 1) (.int 41)) .no (.call 3 (.cons (.var 1) (.cons (.var 4) .nil)))) .nil))) (.cons (.set 3 (.bin .add (.var 3) (.lst (.cons (.lc [4] (.nm 4) (.range2 (.int 1) (.int 41)) .no (.call 4 (.cons (.bi .list (.cons (.var 1) .nil)) (.cons (.var 4) .nil)))) (.cons (.call 2 (.cons (.var 1) .nil)) .nil))))) (.cons (.set 3 (.bin .add (.var 3) (.lst (.cons (.call 2 (.cons (.bi .list (.cons (.var 1) .nil)) .nil)) .nil)))) (.cons (.ret (.call 8 (.cons (.var 3) (.cons (.lst (.cons (.var 2) (.cons (.lc [5, 6] (.tp [5, 6]) (.enum (.var 2)) .no (.bin .sub (.bin .sub (.var 6) (.var 5)) (.int 1))) (.cons (.bl true) (.cons (.bl false) .nil))))) .nil)))) .nil)))))) [some v0, none, none, none, none, none, none] t) fun r => ∃ v t2, r = .ret v t2 ∧ Q v t2) : WE (CV (k + 1) true i__law_case_right [v0] t) Q := cv_imp x__law_case_right rfl rfl rfl h
theorem c__law_right {k : Nat} {t : Ts} {v0 : Vv} {Q : Vv → Ts → Prop} (h : WS (xvs ⟨CV k true, gl2⟩ [] (.cons (.ret (.bi .all (.cons (.lc [1] (.nm 1) (.range1 (.int 10)) .no (.call 11 (.cons (.var 0) .nil))) .nil))) .nil) [some v0, none] t) fun r => ∃ v t2, r = .ret v t2 ∧ Q v t2) : WE (CV (k + 1) true i__law_right [v0] t) Q := cv_imp x__law_right rfl rfl rfl h
theorem tr : TR T T2 i__law_take := ⟨by kernel_rfl, by decide +kernel, by kernel_rfl, rfl⟩
theorem gr : GR gl gl2 := fun k w h => by
  simp [gl2] at h
section
theorem hand_ok (t : Ts) : CV (39 + 1) false i__law_by_hand_right [] t = .ok (.bl true) t := by kernel_rfl
def isNum : Vv → Bool
  | .int _ => true
  | _ => false
theorem num_ok {k : Nat} {dr : Bool} {t : Ts} {v : Vv} (hv : v.plain = true) : CV (k + 1) dr i_is_number [v] t = .ok (.bl (isNum v)) t := by
  cases v <;> first | (cases hv; done) | kernel_rfl
local macro_rules | `(tactic| walk_at "v1") => `(tactic| repeat' (first
  | ((with_reducible show WE (vv _ _ _ _) _); first
    | ((with_reducible apply e_var); exact rfl) | with_reducible apply e_int | with_reducible apply e_bin | with_reducible apply e_cmp | with_reducible apply e_call | with_reducible apply e_ix | with_reducible apply e_bi | with_reducible apply e_tup | with_reducible apply e_lst
    | with_reducible apply e_bl | with_reducible apply e_non | with_reducible apply e_str | ((with_reducible apply e_glo); exact rfl) | with_reducible apply e_neg | with_reducible apply e_not | with_reducible apply e_chain | with_reducible apply e_isN | with_reducible apply e_notN
    | with_reducible apply e_and | with_reducible apply e_or | with_reducible apply e_ife | with_reducible apply e_callk | with_reducible apply e_isi | with_reducible apply e_isis | with_reducible apply e_sl | with_reducible apply e_lc)
  | ((with_reducible show WE (vvs _ _ _ _) _); first | with_reducible apply es_cons | with_reducible apply es_nil | with_reducible apply es_star)
  | ((with_reducible show WS (xvs _ _ _ _ _) _); first | with_reducible apply w_cons | with_reducible apply w_nil)
  | ((with_reducible show WS (xv _ _ _ _ _) _); first | with_reducible apply w_set | with_reducible apply w_ret | with_reducible apply w_ite | with_reducible apply w_tset | with_reducible apply w_retN | with_reducible apply w_pass | with_reducible apply w_brk | with_reducible apply w_cnt | with_reducible apply w_ex)
  | with_reducible apply n_nx | with_reducible apply n_ret
  | ((with_reducible show WE (callW _ _ _ _ _ _ _ _) _); first | ((with_reducible refine cv_tk (by omega) (by omega) (by omega) (by omega) (by omega) ?_); intro x t' h0 h1 hg hc hd) | (with_reducible refine WE.call (num_ok rfl) ?_))
  | ((with_reducible show WO (bopV _ _ _) _); first | with_reducible apply o_add | with_reducible apply o_sub | ((with_reducible apply o_mul); first | exact mulOk_l (by omega) | exact mulOk_r (by omega)) | ((with_reducible apply o_fdiv') <;> first | omega | skip) | ((with_reducible apply o_mod); omega) | ((with_reducible apply o_catC); exact rfl) | ((with_reducible show WO (bopV .pow (.int _) (.int _)) _); apply o_pow (by omega); simp only [Int.reduceToNat, Int.reducePow]) | ((with_reducible show WO (bopV .mul (.lst _) _) _); apply WO.rf; exact rfl))
  | ((with_reducible show WO (copV _ _ _) _); first | with_reducible apply o_eq | with_reducible apply o_ne | with_reducible apply o_lt | with_reducible apply o_le | with_reducible apply o_gt | with_reducible apply o_ge | (apply WO.rf; exact rfl))
  | ((with_reducible show WO (truV _) _); first | with_reducible apply o_tb | (apply WO.rf; exact rfl))
  | ((with_reducible show WO (biV _ _) _); first | with_reducible apply o_lenL | with_reducible apply o_lenT | with_reducible apply o_abs | with_reducible apply o_int | with_reducible apply o_intb | with_reducible apply o_max | with_reducible apply o_min | with_reducible apply o_tupL | with_reducible apply o_tupT | with_reducible apply o_lstL | with_reducible apply o_lstT | with_reducible apply o_allT | ((with_reducible apply o_all); exact rfl))
  | ((with_reducible show WO _ _); first
    | with_reducible apply o_itL | with_reducible apply o_itT | with_reducible apply o_zipL | with_reducible apply o_zipT | with_reducible apply o_enum
    | ((with_reducible show WO (isTyV _ _) _); apply WO.rf; exact rfl) | ((with_reducible show WO (isTysV _ _) _); apply WO.rf; exact rfl) | ((with_reducible show WO (setTgV _ _ _) _); apply WO.rf; exact rfl) | ((with_reducible show WO (setAll _ _ _) _); apply WO.rf; exact rfl) | ((with_reducible show WO (ixW _ _) _); apply WO.rf; exact rfl) | ((with_reducible show WO (slW _ _ _) _); apply WO.rf; exact rfl))
  | ((with_reducible show IFB _ _ _); first | with_reducible apply i_t | with_reducible apply i_f | with_reducible apply i_n | ((with_reducible apply i_d) <;> intro hc <;> (try simp only [List.length_cons, List.length_nil] at hc) <;> try (exfalso; first | omega | exact hc trivial)) | ((with_reducible apply i_tt); exact rfl) | ((with_reducible apply i_ff); exact rfl))
  | ((with_reducible show Nat.ble _ _ = true ∧ _); refine And.intro rfl ?_) | ((with_reducible show setOk _ _ _ _ = true ∧ _); refine And.intro rfl ?_)
  | ((with_reducible show (_ ≤ _ ∧ _ < _) ∧ _); refine And.intro (by omega) ?_) | ((with_reducible show (_ ≤ _ ∧ _ < _ ∧ _ ≤ _ ∧ _ < _) ∧ _); refine And.intro (by omega) ?_) | ((with_reducible show List.length _ ≤ sizeLine ∧ _); refine And.intro (line_ok rfl) ?_)
  | with_reducible apply e_and2 | with_reducible apply e_or2 | with_reducible apply e_and1 | with_reducible apply e_or1 | with_reducible apply e_intV | with_reducible apply p_no | with_reducible apply p_yes
  | with_reducible apply lcT_of | with_reducible apply l_nil | with_reducible apply l_cons | with_reducible apply c_no | with_reducible apply c_yes
  | with_reducible apply t_seq | with_reducible apply t_r1 | with_reducible apply t_r2 | with_reducible apply t_zip | with_reducible apply t_enum
  | with_reducible apply tr_nx | with_reducible apply tr_ret | with_reducible apply tr_cnt | with_reducible apply tr_brk | with_reducible apply n_brk | with_reducible apply n_cnt
  | ((with_reducible show some _ = _ ∧ _ = _); exact And.intro rfl rfl)
  | with_reducible apply ret_rf))
theorem up_ok {k : Nat} {dr : Bool} {t : Ts} {x y : Int} (h1 : 0 < y) (h2 : y < 2 ^ 200) : CV (k + 1) dr i_up [.int x, .int y] t = .ok (.int (-((-x) / y))) t := by
  refine c_up rfl ?_
  walk_at "v1"
theorem form_ok {k : Nat} {dr : Bool} {t : Ts} {a b : Int} (ha : 0 ≤ a) (hb : 1 ≤ b) : CV (k + 2) dr i_is_form [.tup [.int a, .int b]] t = .ok (.bl true) t := by
  refine c_is_form rfl ?_
  walk_at "v1"
  all_goals exact ret_b (decide_eq_true (by omega))
theorem form_no {k : Nat} {dr : Bool} {t : Ts} {xs : List Vv} : CV (k + 2) dr i_is_form [.lst xs] t = .ok (.bl false) t := by
  refine c_is_form rfl ?_
  walk_at "v1"
def Bs (a b m : Int) : Int := -((-(m + a)) / b) * b
local macro_rules | `(tactic| walk_at "v2") => `(tactic| repeat' (first
  | ((with_reducible show WE (vv _ _ _ _) _); first
    | ((with_reducible apply e_var); exact rfl) | with_reducible apply e_int | with_reducible apply e_bin | with_reducible apply e_cmp | with_reducible apply e_call | with_reducible apply e_ix | with_reducible apply e_bi | with_reducible apply e_tup | with_reducible apply e_lst
    | with_reducible apply e_bl | with_reducible apply e_non | with_reducible apply e_str | ((with_reducible apply e_glo); exact rfl) | with_reducible apply e_neg | with_reducible apply e_not | with_reducible apply e_chain | with_reducible apply e_isN | with_reducible apply e_notN
    | with_reducible apply e_and | with_reducible apply e_or | with_reducible apply e_ife | with_reducible apply e_callk | with_reducible apply e_isi | with_reducible apply e_isis | with_reducible apply e_sl | with_reducible apply e_lc)
  | ((with_reducible show WE (vvs _ _ _ _) _); first | with_reducible apply es_cons | with_reducible apply es_nil | with_reducible apply es_star)
  | ((with_reducible show WS (xvs _ _ _ _ _) _); first | with_reducible apply w_cons | with_reducible apply w_nil)
  | ((with_reducible show WS (xv _ _ _ _ _) _); first | with_reducible apply w_set | with_reducible apply w_ret | with_reducible apply w_ite | with_reducible apply w_tset | with_reducible apply w_retN | with_reducible apply w_pass | with_reducible apply w_brk | with_reducible apply w_cnt | with_reducible apply w_ex)
  | with_reducible apply n_nx | with_reducible apply n_ret
  | ((with_reducible show WE (callW _ _ _ _ _ _ _ _) _); first | ((with_reducible refine cv_tk (by omega) (by omega) (by omega) (by omega) (by omega) ?_); intro x t' h0 h1 hg hc hd) | (with_reducible refine WE.call (up_ok (by omega) (by omega)) ?_))
  | ((with_reducible show WO (bopV _ _ _) _); first | with_reducible apply o_add | with_reducible apply o_sub | ((with_reducible apply o_mul); first | exact mulOk_l (by omega) | exact mulOk_r (by omega)) | ((with_reducible apply o_fdiv') <;> first | omega | skip) | ((with_reducible apply o_mod); omega) | ((with_reducible apply o_catC); exact rfl) | ((with_reducible show WO (bopV .pow (.int _) (.int _)) _); apply o_pow (by omega); simp only [Int.reduceToNat, Int.reducePow]) | ((with_reducible show WO (bopV .mul (.lst _) _) _); apply WO.rf; exact rfl))
  | ((with_reducible show WO (copV _ _ _) _); first | with_reducible apply o_eq | with_reducible apply o_ne | with_reducible apply o_lt | with_reducible apply o_le | with_reducible apply o_gt | with_reducible apply o_ge | (apply WO.rf; exact rfl))
  | ((with_reducible show WO (truV _) _); first | with_reducible apply o_tb | (apply WO.rf; exact rfl))
  | ((with_reducible show WO (biV _ _) _); first | with_reducible apply o_lenL | with_reducible apply o_lenT | with_reducible apply o_abs | with_reducible apply o_int | with_reducible apply o_intb | with_reducible apply o_max | with_reducible apply o_min | with_reducible apply o_tupL | with_reducible apply o_tupT | with_reducible apply o_lstL | with_reducible apply o_lstT | with_reducible apply o_allT | ((with_reducible apply o_all); exact rfl))
  | ((with_reducible show WO _ _); first
    | with_reducible apply o_itL | with_reducible apply o_itT | with_reducible apply o_zipL | with_reducible apply o_zipT | with_reducible apply o_enum
    | ((with_reducible show WO (isTyV _ _) _); apply WO.rf; exact rfl) | ((with_reducible show WO (isTysV _ _) _); apply WO.rf; exact rfl) | ((with_reducible show WO (setTgV _ _ _) _); apply WO.rf; exact rfl) | ((with_reducible show WO (setAll _ _ _) _); apply WO.rf; exact rfl) | ((with_reducible show WO (ixW _ _) _); apply WO.rf; exact rfl) | ((with_reducible show WO (slW _ _ _) _); apply WO.rf; exact rfl))
  | ((with_reducible show IFB _ _ _); first | with_reducible apply i_t | with_reducible apply i_f | with_reducible apply i_n | ((with_reducible apply i_d) <;> intro hc <;> (try simp only [List.length_cons, List.length_nil] at hc) <;> try (exfalso; first | omega | exact hc trivial)) | ((with_reducible apply i_tt); exact rfl) | ((with_reducible apply i_ff); exact rfl))
  | ((with_reducible show Nat.ble _ _ = true ∧ _); refine And.intro rfl ?_) | ((with_reducible show setOk _ _ _ _ = true ∧ _); refine And.intro rfl ?_)
  | ((with_reducible show (_ ≤ _ ∧ _ < _) ∧ _); refine And.intro (by omega) ?_) | ((with_reducible show (_ ≤ _ ∧ _ < _ ∧ _ ≤ _ ∧ _ < _) ∧ _); refine And.intro (by omega) ?_) | ((with_reducible show List.length _ ≤ sizeLine ∧ _); refine And.intro (line_ok rfl) ?_)
  | with_reducible apply e_and2 | with_reducible apply e_or2 | with_reducible apply e_and1 | with_reducible apply e_or1 | with_reducible apply e_intV | with_reducible apply p_no | with_reducible apply p_yes
  | with_reducible apply lcT_of | with_reducible apply l_nil | with_reducible apply l_cons | with_reducible apply c_no | with_reducible apply c_yes
  | with_reducible apply t_seq | with_reducible apply t_r1 | with_reducible apply t_r2 | with_reducible apply t_zip | with_reducible apply t_enum
  | with_reducible apply tr_nx | with_reducible apply tr_ret | with_reducible apply tr_cnt | with_reducible apply tr_brk | with_reducible apply n_brk | with_reducible apply n_cnt
  | ((with_reducible show some _ = _ ∧ _ = _); exact And.intro rfl rfl)
  | with_reducible apply ret_rf))
theorem block_ok {k : Nat} {dr : Bool} {t : Ts} {a b m : Int} (hb : 1 ≤ b) (hb2 : b < 2 ^ 60) : CV (k + 2) dr i_block_size [.tup [.int a, .int b], .int m] t = .ok (.int (Bs a b m)) t := by
  refine c_block_size rfl ?_
  walk_at "v2"
  exact ⟨_, rfl⟩
theorem blockL_ok {k : Nat} {dr : Bool} {t : Ts} {a b m : Int} (hb : 1 ≤ b) (hb2 : b < 2 ^ 60) : CV (k + 2) dr i_block_size [.lst [.int a, .int b], .int m] t = .ok (.int (Bs a b m)) t := by
  refine c_block_size rfl ?_
  walk_at "v2"
  exact ⟨_, rfl⟩
local macro_rules | `(tactic| walk_at "v3") => `(tactic| repeat' (first
  | ((with_reducible show WE (vv _ _ _ _) _); first
    | ((with_reducible apply e_var); exact rfl) | with_reducible apply e_int | with_reducible apply e_bin | with_reducible apply e_cmp | with_reducible apply e_call | with_reducible apply e_ix | with_reducible apply e_bi | with_reducible apply e_tup | with_reducible apply e_lst
    | with_reducible apply e_bl | with_reducible apply e_non | with_reducible apply e_str | ((with_reducible apply e_glo); exact rfl) | with_reducible apply e_neg | with_reducible apply e_not | with_reducible apply e_chain | with_reducible apply e_isN | with_reducible apply e_notN
    | with_reducible apply e_and | with_reducible apply e_or | with_reducible apply e_ife | with_reducible apply e_callk | with_reducible apply e_isi | with_reducible apply e_isis | with_reducible apply e_sl | with_reducible apply e_lc)
  | ((with_reducible show WE (vvs _ _ _ _) _); first | with_reducible apply es_cons | with_reducible apply es_nil | with_reducible apply es_star)
  | ((with_reducible show WS (xvs _ _ _ _ _) _); first | with_reducible apply w_cons | with_reducible apply w_nil)
  | ((with_reducible show WS (xv _ _ _ _ _) _); first | with_reducible apply w_set | with_reducible apply w_ret | with_reducible apply w_ite | with_reducible apply w_tset | with_reducible apply w_retN | with_reducible apply w_pass | with_reducible apply w_brk | with_reducible apply w_cnt | with_reducible apply w_ex)
  | with_reducible apply n_nx | with_reducible apply n_ret
  | ((with_reducible show WE (callW _ _ _ _ _ _ _ _) _); first | ((with_reducible refine cv_tk (by omega) (by omega) (by omega) (by omega) (by omega) ?_); intro x t' h0 h1 hg hc hd) | (with_reducible refine WE.call (block_ok (by omega) (by omega)) ?_) | (with_reducible refine WE.call (blockL_ok (by omega) (by omega)) ?_))
  | ((with_reducible show WO (bopV _ _ _) _); first | with_reducible apply o_add | with_reducible apply o_sub | ((with_reducible apply o_mul); first | exact mulOk_l (by omega) | exact mulOk_r (by omega)) | ((with_reducible apply o_fdiv') <;> first | omega | skip) | ((with_reducible apply o_mod); omega) | ((with_reducible apply o_catC); exact rfl) | ((with_reducible show WO (bopV .pow (.int _) (.int _)) _); apply o_pow (by omega); simp only [Int.reduceToNat, Int.reducePow]) | ((with_reducible show WO (bopV .mul (.lst _) _) _); apply WO.rf; exact rfl))
  | ((with_reducible show WO (copV _ _ _) _); first | with_reducible apply o_eq | with_reducible apply o_ne | with_reducible apply o_lt | with_reducible apply o_le | with_reducible apply o_gt | with_reducible apply o_ge | (apply WO.rf; exact rfl))
  | ((with_reducible show WO (truV _) _); first | with_reducible apply o_tb | (apply WO.rf; exact rfl))
  | ((with_reducible show WO (biV _ _) _); first | with_reducible apply o_lenL | with_reducible apply o_lenT | with_reducible apply o_abs | with_reducible apply o_int | with_reducible apply o_intb | with_reducible apply o_max | with_reducible apply o_min | with_reducible apply o_tupL | with_reducible apply o_tupT | with_reducible apply o_lstL | with_reducible apply o_lstT | with_reducible apply o_allT | ((with_reducible apply o_all); exact rfl))
  | ((with_reducible show WO _ _); first
    | with_reducible apply o_itL | with_reducible apply o_itT | with_reducible apply o_zipL | with_reducible apply o_zipT | with_reducible apply o_enum
    | ((with_reducible show WO (isTyV _ _) _); apply WO.rf; exact rfl) | ((with_reducible show WO (isTysV _ _) _); apply WO.rf; exact rfl) | ((with_reducible show WO (setTgV _ _ _) _); apply WO.rf; exact rfl) | ((with_reducible show WO (setAll _ _ _) _); apply WO.rf; exact rfl) | ((with_reducible show WO (ixW _ _) _); apply WO.rf; exact rfl) | ((with_reducible show WO (slW _ _ _) _); apply WO.rf; exact rfl))
  | ((with_reducible show IFB _ _ _); first | with_reducible apply i_t | with_reducible apply i_f | with_reducible apply i_n | ((with_reducible apply i_d) <;> intro hc <;> (try simp only [List.length_cons, List.length_nil] at hc) <;> try (exfalso; first | omega | exact hc trivial)) | ((with_reducible apply i_tt); exact rfl) | ((with_reducible apply i_ff); exact rfl))
  | ((with_reducible show Nat.ble _ _ = true ∧ _); refine And.intro rfl ?_) | ((with_reducible show setOk _ _ _ _ = true ∧ _); refine And.intro rfl ?_)
  | ((with_reducible show (_ ≤ _ ∧ _ < _) ∧ _); refine And.intro (by omega) ?_) | ((with_reducible show (_ ≤ _ ∧ _ < _ ∧ _ ≤ _ ∧ _ < _) ∧ _); refine And.intro (by omega) ?_) | ((with_reducible show List.length _ ≤ sizeLine ∧ _); refine And.intro (line_ok rfl) ?_)
  | with_reducible apply e_and2 | with_reducible apply e_or2 | with_reducible apply e_and1 | with_reducible apply e_or1 | with_reducible apply e_intV | with_reducible apply p_no | with_reducible apply p_yes
  | with_reducible apply lcT_of | with_reducible apply l_nil | with_reducible apply l_cons | with_reducible apply c_no | with_reducible apply c_yes
  | with_reducible apply t_seq | with_reducible apply t_r1 | with_reducible apply t_r2 | with_reducible apply t_zip | with_reducible apply t_enum
  | with_reducible apply tr_nx | with_reducible apply tr_ret | with_reducible apply tr_cnt | with_reducible apply tr_brk | with_reducible apply n_brk | with_reducible apply n_cnt
  | ((with_reducible show some _ = _ ∧ _ = _); exact And.intro rfl rfl)
  | with_reducible apply ret_rf))
theorem spare_ok {k : Nat} {dr : Bool} {t : Ts} {a b m : Int} (hb : 1 ≤ b) (hb2 : b < 2 ^ 60) : CV (k + 3) dr i_spare_cells [.lst [.int a, .int b], .int m] t = .ok (.int (Bs a b m - m)) t := by
  refine c_spare_cells rfl ?_
  walk_at "v3"
theorem Bs_far {a b m : Int} (hb : 1 ≤ b) : m + a ≤ Bs a b m ∧ Bs a b m < m + a + b := up_le (by omega)
theorem Bs_dvd (a b m : Int) : Bs a b m % b = 0 := by unfold Bs; exact Int.mul_emod_left _ _
theorem lup_ok {k : Nat} {dr : Bool} {t : Ts} {a b m : Int} (ha : 0 ≤ a) (ha2 : a < 2 ^ 60) (hb : 1 ≤ b) (hb2 : b < 2 ^ 60) (hm : 1 ≤ m) (hm2 : m < 2 ^ 60) : CV (k + 1) dr i__law_up [.tup [.int a, .int b], .int m] t = .ok (.int (Bs a b m)) t := by
  refine c__law_up rfl ?_
  walk_at "v3"
  have f := Bs_far (a := a) (b := b) (m := m) hb
  unfold Bs at f ⊢
  generalize -((-(m + a)) / b) = U at f ⊢
  have hU : 0 ≤ U := by
    rcases Int.lt_or_le U 0 with h | h
    · have := Int.mul_le_mul_of_nonneg_right (show U ≤ -1 by omega) (show 0 ≤ b by omega)
      omega
    · exact h
  have hU2 := Int.mul_le_mul_of_nonneg_left hb hU
  refine w_while (fun d σ t' => t' = t ∧ ∃ x y : Int, σ = [some (.tup [.int a, .int b]), some (.int m), some (.int x)] ∧ x = y * b ∧ y + d = U) U.toNat (by omega) ⟨rfl, 0, 0, rfl, by omega, by omega⟩ ?_
  rintro d σ t' ⟨rfl, x, y, rfl, rfl, yd⟩
  have h3 : d = 0 → y * b = U * b := fun h => by rw [show y = U by omega]
  have h4 : 0 < d → y * b + b ≤ U * b := fun h => by
    have := Int.mul_le_mul_of_nonneg_right (show y + 1 ≤ U by omega) (show 0 ≤ b by omega)
    rw [Int.add_mul] at this; omega
  walk_at "v3"
  · refine ⟨by omega, ?_⟩
    walk_at "v3"
    exact ⟨rfl, _, y + 1, rfl, by rw [Int.add_mul]; omega, by omega⟩
  · exact ret_i (h3 (by omega))
theorem lists_eq {f g : Int → Int} : ∀ (n : Nat) (k : Nat), (∀ x, g x = f x - x) →
    (enumL k ((irg (k + 1) n).map fun x => .int (f x))).map (fun v => match v with | .tup [.int j, .int o] => Vv.int (o - j - 1) | _ => .non) = (irg (k + 1) n).map fun x => .int (g x)
  | 0, _, _ => rfl
  | n + 1, k, h => by
    have ih := lists_eq (f := f) (g := g) n (k + 1) h
    simp only [irg, List.map_cons, enumL]
    rw [h]
    simp only [List.cons.injEq, Vv.int.injEq]
    refine ⟨by omega, ?_⟩
    have e : ((k + 1 : Nat) : Int) + 1 = (k : Int) + 1 + 1 := by omega
    rw [e] at ih
    exact ih
local macro_rules | `(tactic| walk_at "same") => `(tactic| repeat' (first
  | ((with_reducible show WE (vv _ _ _ _) _); first
    | ((with_reducible apply e_var); exact rfl) | with_reducible apply e_int | with_reducible apply e_bin | with_reducible apply e_cmp | with_reducible apply e_call | with_reducible apply e_ix | with_reducible apply e_bi | with_reducible apply e_tup | with_reducible apply e_lst
    | with_reducible apply e_bl | with_reducible apply e_non | with_reducible apply e_str | ((with_reducible apply e_glo); exact rfl) | with_reducible apply e_neg | with_reducible apply e_not | with_reducible apply e_chain | with_reducible apply e_isN | with_reducible apply e_notN
    | with_reducible apply e_and | with_reducible apply e_or | with_reducible apply e_ife | with_reducible apply e_callk | with_reducible apply e_isi | with_reducible apply e_isis | with_reducible apply e_sl | with_reducible apply e_lc)
  | ((with_reducible show WE (vvs _ _ _ _) _); first | with_reducible apply es_cons | with_reducible apply es_nil | with_reducible apply es_star)
  | ((with_reducible show WS (xvs _ _ _ _ _) _); first | with_reducible apply w_cons | with_reducible apply w_nil)
  | ((with_reducible show WS (xv _ _ _ _ _) _); first | with_reducible apply w_set | with_reducible apply w_ret | with_reducible apply w_ite | with_reducible apply w_tset | with_reducible apply w_retN | with_reducible apply w_pass | with_reducible apply w_brk | with_reducible apply w_cnt | with_reducible apply w_ex)
  | with_reducible apply n_nx | with_reducible apply n_ret
  | ((with_reducible show WE (callW _ _ _ _ _ _ _ _) _); first | ((with_reducible refine cv_tk (by omega) (by omega) (by omega) (by omega) (by omega) ?_); intro x t' h0 h1 hg hc hd) )
  | ((with_reducible show WO (bopV _ _ _) _); first | with_reducible apply o_add | with_reducible apply o_sub | ((with_reducible apply o_mul); first | exact mulOk_l (by omega) | exact mulOk_r (by omega)) | ((with_reducible apply o_fdiv') <;> first | omega | skip) | ((with_reducible apply o_mod); omega) | ((with_reducible apply o_catC); exact rfl) | ((with_reducible show WO (bopV .pow (.int _) (.int _)) _); apply o_pow (by omega); simp only [Int.reduceToNat, Int.reducePow]) | ((with_reducible show WO (bopV .mul (.lst _) _) _); apply WO.rf; exact rfl))
  | ((with_reducible show WO (copV _ _ _) _); first | with_reducible apply o_eq | with_reducible apply o_ne | with_reducible apply o_lt | with_reducible apply o_le | with_reducible apply o_gt | with_reducible apply o_ge | (apply WO.rf; exact rfl))
  | ((with_reducible show WO (truV _) _); first | with_reducible apply o_tb | (apply WO.rf; exact rfl))
  | ((with_reducible show WO (biV _ _) _); first | with_reducible apply o_lenL | with_reducible apply o_lenT | with_reducible apply o_abs | with_reducible apply o_int | with_reducible apply o_intb | with_reducible apply o_max | with_reducible apply o_min | with_reducible apply o_tupL | with_reducible apply o_tupT | with_reducible apply o_lstL | with_reducible apply o_lstT | with_reducible apply o_allT | ((with_reducible apply o_all); exact rfl))
  | ((with_reducible show WO _ _); first
    | with_reducible apply o_itL | with_reducible apply o_itT | with_reducible apply o_zipL | with_reducible apply o_zipT | with_reducible apply o_enum
    | ((with_reducible show WO (isTyV _ _) _); apply WO.rf; exact rfl) | ((with_reducible show WO (isTysV _ _) _); apply WO.rf; exact rfl) | ((with_reducible show WO (setTgV _ _ _) _); apply WO.rf; exact rfl) | ((with_reducible show WO (setAll _ _ _) _); apply WO.rf; exact rfl) | ((with_reducible show WO (ixW _ _) _); apply WO.rf; exact rfl) | ((with_reducible show WO (slW _ _ _) _); apply WO.rf; exact rfl))
  | ((with_reducible show IFB _ _ _); first | with_reducible apply i_t | with_reducible apply i_f | with_reducible apply i_n | ((with_reducible apply i_d) <;> intro hc <;> (try simp only [List.length_cons, List.length_nil] at hc) <;> try (exfalso; first | omega | exact hc trivial)) | ((with_reducible apply i_tt); exact rfl) | ((with_reducible apply i_ff); exact rfl))
  | ((with_reducible show Nat.ble _ _ = true ∧ _); refine And.intro rfl ?_) | ((with_reducible show setOk _ _ _ _ = true ∧ _); refine And.intro rfl ?_)
  | ((with_reducible show (_ ≤ _ ∧ _ < _) ∧ _); refine And.intro (by omega) ?_) | ((with_reducible show (_ ≤ _ ∧ _ < _ ∧ _ ≤ _ ∧ _ < _) ∧ _); refine And.intro (by omega) ?_) | ((with_reducible show List.length _ ≤ sizeLine ∧ _); refine And.intro (line_ok rfl) ?_)
  | with_reducible apply e_and2 | with_reducible apply e_or2 | with_reducible apply e_and1 | with_reducible apply e_or1 | with_reducible apply e_intV | with_reducible apply p_no | with_reducible apply p_yes
  | with_reducible apply lcT_of | with_reducible apply l_nil | with_reducible apply l_cons | with_reducible apply c_no | with_reducible apply c_yes
  | with_reducible apply t_seq | with_reducible apply t_r1 | with_reducible apply t_r2 | with_reducible apply t_zip | with_reducible apply t_enum
  | with_reducible apply tr_nx | with_reducible apply tr_ret | with_reducible apply tr_cnt | with_reducible apply tr_brk | with_reducible apply n_brk | with_reducible apply n_cnt
  | ((with_reducible show some _ = _ ∧ _ = _); exact And.intro rfl rfl)
  | with_reducible apply ret_rf))
theorem same_ok : ∀ (d : Nat) {k : Nat} {dr : Bool} {t : Ts} {v : Vv}, fitB d v = true → CV (k + d + 1) dr i__law_same [v, v] t = .ok (.bl true) t := by
  intro d
  induction d with
  | zero =>
    intro k dr t v h
    cases v with
    | tup _ => cases h
    | lst _ => cases h
    | tin => cases h
    | bl b => cases b <;> (refine c__law_same rfl ?_; walk_at "same"; all_goals first | exact ⟨_, rfl⟩ | exact ret_b (decide_eq_true rfl))
    | str x =>
      refine c__law_same rfl ?_; walk_at "same"
      refine WO.rf (eq_str h) ?_
      walk_at "same"
      all_goals exact ⟨_, rfl⟩
    | _ => refine c__law_same rfl ?_; walk_at "same"; all_goals first | exact ⟨_, rfl⟩ | exact ret_b (decide_eq_true rfl)
  | succ d ih =>
    intro k dr t v h
    cases v with
    | tin => cases h
    | bl b => cases b <;> (refine c__law_same rfl ?_; walk_at "same"; all_goals first | exact ⟨_, rfl⟩ | exact ret_b (decide_eq_true rfl))
    | str x =>
      refine c__law_same rfl ?_; walk_at "same"
      refine WO.rf (eq_str h) ?_
      walk_at "same"
      all_goals exact ⟨_, rfl⟩
    | tup xs =>
      simp only [fitB, Bool.and_eq_true, List.all_eq_true] at h
      have hl : (zipL xs xs).length ≤ sizeLine := Nat.le_trans (zipL_len _ _) (line_ok h.1)
      refine c__law_same rfl ?_; walk_at "same"
      refine ⟨hl, lc_map (fun _ => some (.bl true)) (fun x hx => ?_) ?_⟩
      · obtain ⟨y, hy, rfl⟩ := zip_self hx
        walk_at "same"
        exact .call (ih (k := k) (h.2 y hy)) ⟨rfl, rfl⟩
      · walk_at "same"
        obtain ⟨bs, e1, e2⟩ := bls_all (zipL xs xs)
        refine o_all e1 ?_
        rw [e2]; walk_at "same"
    | lst xs =>
      simp only [fitB, Bool.and_eq_true, List.all_eq_true] at h
      have hl : (zipL xs xs).length ≤ sizeLine := Nat.le_trans (zipL_len _ _) (line_ok h.1)
      refine c__law_same rfl ?_; walk_at "same"
      refine ⟨hl, lc_map (fun _ => some (.bl true)) (fun x hx => ?_) ?_⟩
      · obtain ⟨y, hy, rfl⟩ := zip_self hx
        walk_at "same"
        exact .call (ih (k := k) (h.2 y hy)) ⟨rfl, rfl⟩
      · walk_at "same"
        obtain ⟨bs, e1, e2⟩ := bls_all (zipL xs xs)
        refine o_all e1 ?_
        rw [e2]; walk_at "same"
    | _ => refine c__law_same rfl ?_; walk_at "same"; all_goals first | exact ⟨_, rfl⟩ | exact ret_b (decide_eq_true rfl)
local macro_rules | `(tactic| walk_at "v4") => `(tactic| repeat' (first
  | ((with_reducible show WE (vv _ _ _ _) _); first
    | ((with_reducible apply e_var); exact rfl) | with_reducible apply e_int | with_reducible apply e_bin | with_reducible apply e_cmp | with_reducible apply e_call | with_reducible apply e_ix | with_reducible apply e_bi | with_reducible apply e_tup | with_reducible apply e_lst
    | with_reducible apply e_bl | with_reducible apply e_non | with_reducible apply e_str | ((with_reducible apply e_glo); exact rfl) | with_reducible apply e_neg | with_reducible apply e_not | with_reducible apply e_chain | with_reducible apply e_isN | with_reducible apply e_notN
    | with_reducible apply e_and | with_reducible apply e_or | with_reducible apply e_ife | with_reducible apply e_callk | with_reducible apply e_isi | with_reducible apply e_isis | with_reducible apply e_sl | with_reducible apply e_lc)
  | ((with_reducible show WE (vvs _ _ _ _) _); first | with_reducible apply es_cons | with_reducible apply es_nil | with_reducible apply es_star)
  | ((with_reducible show WS (xvs _ _ _ _ _) _); first | with_reducible apply w_cons | with_reducible apply w_nil)
  | ((with_reducible show WS (xv _ _ _ _ _) _); first | with_reducible apply w_set | with_reducible apply w_ret | with_reducible apply w_ite | with_reducible apply w_tset | with_reducible apply w_retN | with_reducible apply w_pass | with_reducible apply w_brk | with_reducible apply w_cnt | with_reducible apply w_ex)
  | with_reducible apply n_nx | with_reducible apply n_ret
  | ((with_reducible show WE (callW _ _ _ _ _ _ _ _) _); first | ((with_reducible refine cv_tk (by omega) (by omega) (by omega) (by omega) (by omega) ?_); intro x t' h0 h1 hg hc hd) | (with_reducible refine WE.call (block_ok (by omega) (by omega)) ?_) | (with_reducible refine WE.call (lup_ok (by omega) (by omega) (by omega) (by omega) (by omega) (by omega)) ?_) | (with_reducible refine WE.call (spare_ok (by omega) (by omega)) ?_) | (with_reducible refine WE.call (form_ok (by omega) (by omega)) ?_) | (with_reducible refine WE.call (form_no) ?_))
  | ((with_reducible show WO (bopV _ _ _) _); first | with_reducible apply o_add | with_reducible apply o_sub | ((with_reducible apply o_mul); first | exact mulOk_l (by omega) | exact mulOk_r (by omega)) | ((with_reducible apply o_fdiv') <;> first | omega | skip) | ((with_reducible apply o_mod); omega) | ((with_reducible apply o_catC); exact rfl) | ((with_reducible show WO (bopV .pow (.int _) (.int _)) _); apply o_pow (by omega); simp only [Int.reduceToNat, Int.reducePow]) | ((with_reducible show WO (bopV .mul (.lst _) _) _); apply WO.rf; exact rfl))
  | ((with_reducible show WO (copV _ _ _) _); first | with_reducible apply o_eq | with_reducible apply o_ne | with_reducible apply o_lt | with_reducible apply o_le | with_reducible apply o_gt | with_reducible apply o_ge | (apply WO.rf; exact rfl))
  | ((with_reducible show WO (truV _) _); first | with_reducible apply o_tb | (apply WO.rf; exact rfl))
  | ((with_reducible show WO (biV _ _) _); first | with_reducible apply o_lenL | with_reducible apply o_lenT | with_reducible apply o_abs | with_reducible apply o_int | with_reducible apply o_intb | with_reducible apply o_max | with_reducible apply o_min | with_reducible apply o_tupL | with_reducible apply o_tupT | with_reducible apply o_lstL | with_reducible apply o_lstT | with_reducible apply o_allT | ((with_reducible apply o_all); exact rfl))
  | ((with_reducible show WO _ _); first
    | with_reducible apply o_itL | with_reducible apply o_itT | with_reducible apply o_zipL | with_reducible apply o_zipT | with_reducible apply o_enum
    | ((with_reducible show WO (isTyV _ _) _); apply WO.rf; exact rfl) | ((with_reducible show WO (isTysV _ _) _); apply WO.rf; exact rfl) | ((with_reducible show WO (setTgV _ _ _) _); apply WO.rf; exact rfl) | ((with_reducible show WO (setAll _ _ _) _); apply WO.rf; exact rfl) | ((with_reducible show WO (ixW _ _) _); apply WO.rf; exact rfl) | ((with_reducible show WO (slW _ _ _) _); apply WO.rf; exact rfl))
  | ((with_reducible show IFB _ _ _); first | with_reducible apply i_t | with_reducible apply i_f | with_reducible apply i_n | ((with_reducible apply i_d) <;> intro hc <;> (try simp only [List.length_cons, List.length_nil] at hc) <;> try (exfalso; first | omega | exact hc trivial)) | ((with_reducible apply i_tt); exact rfl) | ((with_reducible apply i_ff); exact rfl))
  | ((with_reducible show Nat.ble _ _ = true ∧ _); refine And.intro rfl ?_) | ((with_reducible show setOk _ _ _ _ = true ∧ _); refine And.intro rfl ?_)
  | ((with_reducible show (_ ≤ _ ∧ _ < _) ∧ _); refine And.intro (by omega) ?_) | ((with_reducible show (_ ≤ _ ∧ _ < _ ∧ _ ≤ _ ∧ _ < _) ∧ _); refine And.intro (by omega) ?_) | ((with_reducible show List.length _ ≤ sizeLine ∧ _); refine And.intro (line_ok rfl) ?_)
  | with_reducible apply e_and2 | with_reducible apply e_or2 | with_reducible apply e_and1 | with_reducible apply e_or1 | with_reducible apply e_intV | with_reducible apply p_no | with_reducible apply p_yes
  | with_reducible apply lcT_of | with_reducible apply l_nil | with_reducible apply l_cons | with_reducible apply c_no | with_reducible apply c_yes
  | with_reducible apply t_seq | with_reducible apply t_r1 | with_reducible apply t_r2 | with_reducible apply t_zip | with_reducible apply t_enum
  | with_reducible apply tr_nx | with_reducible apply tr_ret | with_reducible apply tr_cnt | with_reducible apply tr_brk | with_reducible apply n_brk | with_reducible apply n_cnt
  | ((with_reducible show some _ = _ ∧ _ = _); exact And.intro rfl rfl)
  | with_reducible apply ret_rf))
theorem case_ok {t : Ts} (g0 : 0 ≤ t.g) (c0 : 0 ≤ t.c) (hb : t.c < 2 ^ 60 - 10) : WE (CV (38 + 1) true i__law_case_right [.tin] t) fun v t' => v = .bl true ∧ 0 ≤ t'.g ∧ 0 ≤ t'.c ∧ t'.c ≤ t.c + 2 := by
  refine c__law_case_right ?_
  walk_at "v4"
  rename_i a t1 a0 a1 g1 c1 d1 b t2 b0 b1 g2 c2 d2
  refine lc_rng (fun m => .int (Bs a (1 + b) m)) (fun x h1 h2 => ?_) ?_
  · walk_at "v4"
  walk_at "v4"
  refine lc_rng (fun m => .int (Bs a (1 + b) m)) (fun x h1 h2 => ?_) ?_
  · walk_at "v4"
  walk_at "v4"
  refine lc_rng (fun m => .int (Bs a (1 + b) m - m)) (fun x h1 h2 => ?_) ?_
  · walk_at "v4"
  walk_at "v4"
  have e : (enumL 0 ((irg 1 (41 - 1 : Int).toNat).map fun m => Vv.int (Bs a (1 + b) m))).map (fun v => match v with | .tup [.int j, .int o] => Vv.int (o - j - 1) | _ => .non) = (irg 1 (41 - 1 : Int).toNat).map (fun m => Vv.int (Bs a (1 + b) m - m)) := lists_eq (f := Bs a (1 + b)) (g := fun m => Bs a (1 + b) m - m) 40 0 (fun x => rfl)
  refine lc_vmap (fun v => match v with | .tup [.int j, .int o] => Vv.int (o - j - 1) | _ => .non) (fun x hx => ?_) ?_
  · obtain ⟨j, y, hy, rfl⟩ := enum_mem hx
    obtain ⟨m, _, rfl⟩ := List.mem_map.mp hy
    walk_at "v4"
  rw [e]
  walk_at "v4"
  have f1 : fitB 1 (.lst ((irg 1 (41 - 1 : Int).toNat).map fun m => Vv.int (Bs a (1 + b) m))) = true := fit_map _ _ (by rw [irg_len]; decide) (fun _ _ => rfl)
  have f2 : fitB 1 (.lst ((irg 1 (41 - 1 : Int).toNat).map fun m => Vv.int (Bs a (1 + b) m - m))) = true := fit_map _ _ (by rw [irg_len]; decide) (fun _ _ => rfl)
  refine .call (same_ok 2 (show (Nat.ble 4 1000000 && (fitB 1 _ && (fitB 1 _ && (true && (true && true))))) = true by rw [f1, f2]; rfl)) ?_
  walk_at "v4"
  exact ⟨_, _, rfl, rfl, by omega, by omega, by omega⟩
def BUD : Nat := 300
local macro_rules | `(tactic| walk_at "v5") => `(tactic| repeat' (first
  | ((with_reducible show WE (vv _ _ _ _) _); first
    | ((with_reducible apply e_var); exact rfl) | with_reducible apply e_int | with_reducible apply e_bin | with_reducible apply e_cmp | with_reducible apply e_call | with_reducible apply e_ix | with_reducible apply e_bi | with_reducible apply e_tup | with_reducible apply e_lst
    | with_reducible apply e_bl | with_reducible apply e_non | with_reducible apply e_str | ((with_reducible apply e_glo); exact rfl) | with_reducible apply e_neg | with_reducible apply e_not | with_reducible apply e_chain | with_reducible apply e_isN | with_reducible apply e_notN
    | with_reducible apply e_and | with_reducible apply e_or | with_reducible apply e_ife | with_reducible apply e_callk | with_reducible apply e_isi | with_reducible apply e_isis | with_reducible apply e_sl | with_reducible apply e_lc)
  | ((with_reducible show WE (vvs _ _ _ _) _); first | with_reducible apply es_cons | with_reducible apply es_nil | with_reducible apply es_star)
  | ((with_reducible show WS (xvs _ _ _ _ _) _); first | with_reducible apply w_cons | with_reducible apply w_nil)
  | ((with_reducible show WS (xv _ _ _ _ _) _); first | with_reducible apply w_set | with_reducible apply w_ret | with_reducible apply w_ite | with_reducible apply w_tset | with_reducible apply w_retN | with_reducible apply w_pass | with_reducible apply w_brk | with_reducible apply w_cnt | with_reducible apply w_ex)
  | with_reducible apply n_nx | with_reducible apply n_ret
  | ((with_reducible show WE (callW _ _ _ _ _ _ _ _) _); first | ((with_reducible refine cv_tk (by omega) (by omega) (by omega) (by omega) (by omega) ?_); intro x t' h0 h1 hg hc hd) )
  | ((with_reducible show WO (bopV _ _ _) _); first | with_reducible apply o_add | with_reducible apply o_sub | ((with_reducible apply o_mul); first | exact mulOk_l (by omega) | exact mulOk_r (by omega)) | ((with_reducible apply o_fdiv') <;> first | omega | skip) | ((with_reducible apply o_mod); omega) | ((with_reducible apply o_catC); exact rfl) | ((with_reducible show WO (bopV .pow (.int _) (.int _)) _); apply o_pow (by omega); simp only [Int.reduceToNat, Int.reducePow]) | ((with_reducible show WO (bopV .mul (.lst _) _) _); apply WO.rf; exact rfl))
  | ((with_reducible show WO (copV _ _ _) _); first | with_reducible apply o_eq | with_reducible apply o_ne | with_reducible apply o_lt | with_reducible apply o_le | with_reducible apply o_gt | with_reducible apply o_ge | (apply WO.rf; exact rfl))
  | ((with_reducible show WO (truV _) _); first | with_reducible apply o_tb | (apply WO.rf; exact rfl))
  | ((with_reducible show WO (biV _ _) _); first | with_reducible apply o_lenL | with_reducible apply o_lenT | with_reducible apply o_abs | with_reducible apply o_int | with_reducible apply o_intb | with_reducible apply o_max | with_reducible apply o_min | with_reducible apply o_tupL | with_reducible apply o_tupT | with_reducible apply o_lstL | with_reducible apply o_lstT | with_reducible apply o_allT | ((with_reducible apply o_all); exact rfl))
  | ((with_reducible show WO _ _); first
    | with_reducible apply o_itL | with_reducible apply o_itT | with_reducible apply o_zipL | with_reducible apply o_zipT | with_reducible apply o_enum
    | ((with_reducible show WO (isTyV _ _) _); apply WO.rf; exact rfl) | ((with_reducible show WO (isTysV _ _) _); apply WO.rf; exact rfl) | ((with_reducible show WO (setTgV _ _ _) _); apply WO.rf; exact rfl) | ((with_reducible show WO (setAll _ _ _) _); apply WO.rf; exact rfl) | ((with_reducible show WO (ixW _ _) _); apply WO.rf; exact rfl) | ((with_reducible show WO (slW _ _ _) _); apply WO.rf; exact rfl))
  | ((with_reducible show IFB _ _ _); first | with_reducible apply i_t | with_reducible apply i_f | with_reducible apply i_n | ((with_reducible apply i_d) <;> intro hc <;> (try simp only [List.length_cons, List.length_nil] at hc) <;> try (exfalso; first | omega | exact hc trivial)) | ((with_reducible apply i_tt); exact rfl) | ((with_reducible apply i_ff); exact rfl))
  | ((with_reducible show Nat.ble _ _ = true ∧ _); refine And.intro rfl ?_) | ((with_reducible show setOk _ _ _ _ = true ∧ _); refine And.intro rfl ?_)
  | ((with_reducible show (_ ≤ _ ∧ _ < _) ∧ _); refine And.intro (by omega) ?_) | ((with_reducible show (_ ≤ _ ∧ _ < _ ∧ _ ≤ _ ∧ _ < _) ∧ _); refine And.intro (by omega) ?_) | ((with_reducible show List.length _ ≤ sizeLine ∧ _); refine And.intro (line_ok rfl) ?_)
  | with_reducible apply e_and2 | with_reducible apply e_or2 | with_reducible apply e_and1 | with_reducible apply e_or1 | with_reducible apply e_intV | with_reducible apply p_no | with_reducible apply p_yes
  | with_reducible apply lcT_of | with_reducible apply l_nil | with_reducible apply l_cons | with_reducible apply c_no | with_reducible apply c_yes
  | with_reducible apply t_seq | with_reducible apply t_r1 | with_reducible apply t_r2 | with_reducible apply t_zip | with_reducible apply t_enum
  | with_reducible apply tr_nx | with_reducible apply tr_ret | with_reducible apply tr_cnt | with_reducible apply tr_brk | with_reducible apply n_brk | with_reducible apply n_cnt
  | ((with_reducible show some _ = _ ∧ _ = _); exact And.intro rfl rfl)
  | with_reducible apply ret_rf))
theorem right_ok (t : Ts) (g0 : 0 ≤ t.g) (c0 : 0 ≤ t.c) (hb : t.c + BUD < 2 ^ 60) : ∃ t', CV (39 + 1) true i__law_right [.tin] t = .ok (.bl true) t' := by
  unfold BUD at hb
  have key : WE (CV (39 + 1) true i__law_right [.tin] t) (fun v _ => v = .bl true) := by
    refine c__law_right ?_
    walk_at "v5"
    refine lc_true (fun i t' => 0 ≤ t'.g ∧ 0 ≤ t'.c ∧ t'.c ≤ t.c + 2 * i) _ ⟨g0, c0, by omega⟩ ?_ ?_
    · rintro i x t1 hx ⟨g1, c1, d1⟩
      have hi : i < 10 := by have := (List.getElem?_eq_some_iff.mp hx).1; rw [rngL_len] at this; simpa using this
      walk_at "v5"
      refine (case_ok g1 c1 (by omega)).ext ?_
      rintro v t2 ⟨rfl, g2, c2, d2⟩
      exact ⟨rfl, g2, c2, by omega⟩
    · rintro t1 ⟨g1, c1, d1⟩
      walk_at "v5"
      exact ⟨_, _, rfl, rfl⟩
  obtain ⟨v, t', e, rfl⟩ := key
  exact ⟨t', e⟩

theorem law_true (ns : List Int) (hl : ns.length ≤ 63) : ∃ h, callF T gl (LV0 + 1) i_law [.ref 0] [] [.fz (ns.map Vl.int)] = .ok (.bl true) h :=
  law_w (k := 39) (hr := i__law_by_hand_right) (ce := i__law_cells) (ri := i__law_right) (bo := i__law_box) (bud := BUD) (most := 3) (u := 2303) tr gr rfl (by decide) (by decide) rfl rfl (by decide) ⟨_, rfl, rfl⟩ hand_ok right_ok ns hl
end
set_option maxHeartbeats 0
theorem all_mk {w : World} {K : PySem.W.Frag} {h : Heap} {mg : Str → Option Value} {fa : Addr} (X : K.In h) (G : h.Ns mainGlobals mg) (hfa : mg "law" = some (.ref fa))
    {f0 f1 f2 f3 f4 f5 f6 f7 f8 f9 f10 f11 f12 f13 : Addr} {od0 an0 od1 an1 od2 an2 od3 an3 od4 an4 od5 an5 od6 an6 od7 an7 od8 an8 od9 an9 od10 an10 od11 an11 od12 an12 od13 an13 : Option Addr} {sl0 sl1 sl2 sl3 sl4 sl5 sl6 sl7 sl8 sl9 sl10 sl11 sl12 sl13 : Array (Option Value)} {oc0 kV0 dc0 pm0 cd0 ct0 oc1 kV1 dc1 pm1 cd1 ct1 oc2 kV2 dc2 pm2 cd2 ct2 oc3 kV3 dc3 pm3 cd3 ct3 oc4 kV4 dc4 pm4 cd4 ct4 oc5 kV5 dc5 pm5 cd5 ct5 oc6 kV6 dc6 pm6 cd6 ct6 oc7 kV7 dc7 pm7 cd7 ct7 oc8 kV8 dc8 pm8 cd8 ct8 oc9 kV9 dc9 pm9 cd9 ct9 oc10 kV10 dc10 pm10 cd10 ct10 oc11 kV11 dc11 pm11 cd11 ct11 oc12 kV12 dc12 pm12 cd12 ct12 oc13 kV13 dc13 pm13 cd13 ct13 : Value}
    (a0 : PySem.W.nsIn K mainGlobals "is_number" = some (some (.ref f0))) (l0 : K.lookup f0 = some ⟨oc0, od0, .func (PySem.W.fnOf "is_number" "is_number" (defArgs d_is_number.st) (defBody d_is_number.st) (defScope d_is_number.st) .none kV0 dc0 pm0 an0 cd0 ct0), sl0⟩) (c0 : PySem.W.codeIn K cd0 "is_number" = true) (k0 : PySem.W.keepIn K (.ref f0) = true)
    (a1 : PySem.W.nsIn K mainGlobals "up" = some (some (.ref f1))) (l1 : K.lookup f1 = some ⟨oc1, od1, .func (PySem.W.fnOf "up" "up" (defArgs d_up.st) (defBody d_up.st) (defScope d_up.st) .none kV1 dc1 pm1 an1 cd1 ct1), sl1⟩) (c1 : PySem.W.codeIn K cd1 "up" = true) (k1 : PySem.W.keepIn K (.ref f1) = true)
    (a2 : PySem.W.nsIn K mainGlobals "is_form" = some (some (.ref f2))) (l2 : K.lookup f2 = some ⟨oc2, od2, .func (PySem.W.fnOf "is_form" "is_form" (defArgs d_is_form.st) (defBody d_is_form.st) (defScope d_is_form.st) .none kV2 dc2 pm2 an2 cd2 ct2), sl2⟩) (c2 : PySem.W.codeIn K cd2 "is_form" = true) (k2 : PySem.W.keepIn K (.ref f2) = true)
    (a3 : PySem.W.nsIn K mainGlobals "block_size" = some (some (.ref f3))) (l3 : K.lookup f3 = some ⟨oc3, od3, .func (PySem.W.fnOf "block_size" "block_size" (defArgs d_block_size.st) (defBody d_block_size.st) (defScope d_block_size.st) .none kV3 dc3 pm3 an3 cd3 ct3), sl3⟩) (c3 : PySem.W.codeIn K cd3 "block_size" = true) (k3 : PySem.W.keepIn K (.ref f3) = true)
    (a4 : PySem.W.nsIn K mainGlobals "spare_cells" = some (some (.ref f4))) (l4 : K.lookup f4 = some ⟨oc4, od4, .func (PySem.W.fnOf "spare_cells" "spare_cells" (defArgs d_spare_cells.st) (defBody d_spare_cells.st) (defScope d_spare_cells.st) .none kV4 dc4 pm4 an4 cd4 ct4), sl4⟩) (c4 : PySem.W.codeIn K cd4 "spare_cells" = true) (k4 : PySem.W.keepIn K (.ref f4) = true)
    (a5 : PySem.W.nsIn K mainGlobals "_law_box" = some (some (.ref f5))) (l5 : K.lookup f5 = some ⟨oc5, od5, .func (PySem.W.fnOf "_law_box" "_law_box" (defArgs d__law_box.st) (defBody d__law_box.st) (defScope d__law_box.st) .none kV5 dc5 pm5 an5 cd5 ct5), sl5⟩) (c5 : PySem.W.codeIn K cd5 "_law_box" = true) (k5 : PySem.W.keepIn K (.ref f5) = true)
    (a6 : PySem.W.nsIn K mainGlobals "_law_take" = some (some (.ref f6))) (l6 : K.lookup f6 = some ⟨oc6, od6, .func (PySem.W.fnOf "_law_take" "_law_take" (defArgs d__law_take.st) (defBody d__law_take.st) (defScope d__law_take.st) .none kV6 dc6 pm6 an6 cd6 ct6), sl6⟩) (c6 : PySem.W.codeIn K cd6 "_law_take" = true) (k6 : PySem.W.keepIn K (.ref f6) = true)
    (a7 : PySem.W.nsIn K mainGlobals "_law_cells" = some (some (.ref f7))) (l7 : K.lookup f7 = some ⟨oc7, od7, .func (PySem.W.fnOf "_law_cells" "_law_cells" (defArgs d__law_cells.st) (defBody d__law_cells.st) (defScope d__law_cells.st) .none kV7 dc7 pm7 an7 cd7 ct7), sl7⟩) (c7 : PySem.W.codeIn K cd7 "_law_cells" = true) (k7 : PySem.W.keepIn K (.ref f7) = true)
    (a8 : PySem.W.nsIn K mainGlobals "_law_same" = some (some (.ref f8))) (l8 : K.lookup f8 = some ⟨oc8, od8, .func (PySem.W.fnOf "_law_same" "_law_same" (defArgs d__law_same.st) (defBody d__law_same.st) (defScope d__law_same.st) .none kV8 dc8 pm8 an8 cd8 ct8), sl8⟩) (c8 : PySem.W.codeIn K cd8 "_law_same" = true) (k8 : PySem.W.keepIn K (.ref f8) = true)
    (a9 : PySem.W.nsIn K mainGlobals "_law_up" = some (some (.ref f9))) (l9 : K.lookup f9 = some ⟨oc9, od9, .func (PySem.W.fnOf "_law_up" "_law_up" (defArgs d__law_up.st) (defBody d__law_up.st) (defScope d__law_up.st) .none kV9 dc9 pm9 an9 cd9 ct9), sl9⟩) (c9 : PySem.W.codeIn K cd9 "_law_up" = true) (k9 : PySem.W.keepIn K (.ref f9) = true)
    (a10 : PySem.W.nsIn K mainGlobals "_law_by_hand_right" = some (some (.ref f10))) (l10 : K.lookup f10 = some ⟨oc10, od10, .func (PySem.W.fnOf "_law_by_hand_right" "_law_by_hand_right" (defArgs d__law_by_hand_right.st) (defBody d__law_by_hand_right.st) (defScope d__law_by_hand_right.st) .none kV10 dc10 pm10 an10 cd10 ct10), sl10⟩) (c10 : PySem.W.codeIn K cd10 "_law_by_hand_right" = true) (k10 : PySem.W.keepIn K (.ref f10) = true)
    (a11 : PySem.W.nsIn K mainGlobals "_law_case_right" = some (some (.ref f11))) (l11 : K.lookup f11 = some ⟨oc11, od11, .func (PySem.W.fnOf "_law_case_right" "_law_case_right" (defArgs d__law_case_right.st) (defBody d__law_case_right.st) (defScope d__law_case_right.st) .none kV11 dc11 pm11 an11 cd11 ct11), sl11⟩) (c11 : PySem.W.codeIn K cd11 "_law_case_right" = true) (k11 : PySem.W.keepIn K (.ref f11) = true)
    (a12 : PySem.W.nsIn K mainGlobals "_law_right" = some (some (.ref f12))) (l12 : K.lookup f12 = some ⟨oc12, od12, .func (PySem.W.fnOf "_law_right" "_law_right" (defArgs d__law_right.st) (defBody d__law_right.st) (defScope d__law_right.st) .none kV12 dc12 pm12 an12 cd12 ct12), sl12⟩) (c12 : PySem.W.codeIn K cd12 "_law_right" = true) (k12 : PySem.W.keepIn K (.ref f12) = true)
    (a13 : PySem.W.nsIn K mainGlobals "law" = some (some (.ref f13))) (l13 : K.lookup f13 = some ⟨oc13, od13, .func (PySem.W.fnOf "law" "law" (defArgs d_law.st) (defBody d_law.st) (defScope d_law.st) .none kV13 dc13 pm13 an13 cd13 ct13), sl13⟩) (c13 : PySem.W.codeIn K cd13 "law" = true) (k13 : PySem.W.keepIn K (.ref f13) = true)
    (z0 : PySem.W.nsIn K mainGlobals "isinstance" = some none)
    (z1 : PySem.W.nsIn K mainGlobals "int" = some none)
    (z2 : PySem.W.nsIn K mainGlobals "bool" = some none)
    (z3 : PySem.W.nsIn K mainGlobals "str" = some none)
    (z4 : PySem.W.nsIn K mainGlobals "list" = some none)
    (z5 : PySem.W.nsIn K mainGlobals "tuple" = some none)
    (z6 : PySem.W.nsIn K mainGlobals "dict" = some none)
    (z7 : PySem.W.nsIn K mainGlobals "len" = some none)
    (z8 : PySem.W.nsIn K mainGlobals "abs" = some none)
    (z9 : PySem.W.nsIn K mainGlobals "max" = some none)
    (z10 : PySem.W.nsIn K mainGlobals "min" = some none)
    (z11 : PySem.W.nsIn K mainGlobals "sum" = some none)
    (z12 : PySem.W.nsIn K mainGlobals "all" = some none)
    (z13 : PySem.W.nsIn K mainGlobals "any" = some none)
    (z14 : PySem.W.nsIn K mainGlobals "range" = some none)
    (z15 : PySem.W.nsIn K mainGlobals "zip" = some none)
    (z16 : PySem.W.nsIn K mainGlobals "enumerate" = some none)
    : ∃ fd : FuncData, (∀ (s : Shared) (v : Value), BindsTo s fd ⟨[v], []⟩ [("_law_script", v)]) ∧ ∀ base : Heap, K.In base → base.Ns mainGlobals mg → FnOk PySem.Challenge.rw_growback_k64_forms_and_blocks.prog w K mg base CX0 (LV0 + 1) fa fd ["_law_script"] (spC K (callF T gl (LV0 + 1)) 13) := by
  have e := hfa.symm.trans (PySem.W.mg_of X G a13)
  cases e
  have F0 := fun_mk (st := d_is_number.st) l0 c0 k0
  have b0 := F0.binds (ps := d_is_number.ps) fun _ _ _ _ _ _ us hl => match us, hl with | [_], _ => rfl
  have F1 := fun_mk (st := d_up.st) l1 c1 k1
  have b1 := F1.binds (ps := d_up.ps) fun _ _ _ _ _ _ us hl => match us, hl with | [_, _], _ => rfl
  have F2 := fun_mk (st := d_is_form.st) l2 c2 k2
  have b2 := F2.binds (ps := d_is_form.ps) fun _ _ _ _ _ _ us hl => match us, hl with | [_], _ => rfl
  have F3 := fun_mk (st := d_block_size.st) l3 c3 k3
  have b3 := F3.binds (ps := d_block_size.ps) fun _ _ _ _ _ _ us hl => match us, hl with | [_, _], _ => rfl
  have F4 := fun_mk (st := d_spare_cells.st) l4 c4 k4
  have b4 := F4.binds (ps := d_spare_cells.ps) fun _ _ _ _ _ _ us hl => match us, hl with | [_, _], _ => rfl
  have F5 := fun_mk (st := d__law_box.st) l5 c5 k5
  have b5 := F5.binds (ps := d__law_box.ps) fun _ _ _ _ _ _ us hl => match us, hl with | [_, _], _ => rfl
  have F6 := fun_mk (st := d__law_take.st) l6 c6 k6
  have b6 := F6.binds (ps := d__law_take.ps) fun _ _ _ _ _ _ us hl => match us, hl with | [_, _], _ => rfl
  have F7 := fun_mk (st := d__law_cells.st) l7 c7 k7
  have b7 := F7.binds (ps := d__law_cells.ps) fun _ _ _ _ _ _ us hl => match us, hl with | [_, _], _ => rfl
  have F8 := fun_mk (st := d__law_same.st) l8 c8 k8
  have b8 := F8.binds (ps := d__law_same.ps) fun _ _ _ _ _ _ us hl => match us, hl with | [_, _], _ => rfl
  have F9 := fun_mk (st := d__law_up.st) l9 c9 k9
  have b9 := F9.binds (ps := d__law_up.ps) fun _ _ _ _ _ _ us hl => match us, hl with | [_, _], _ => rfl
  have F10 := fun_mk (st := d__law_by_hand_right.st) l10 c10 k10
  have b10 := F10.binds (ps := d__law_by_hand_right.ps) fun _ _ _ _ _ _ us hl => match us, hl with | [], _ => rfl
  have F11 := fun_mk (st := d__law_case_right.st) l11 c11 k11
  have b11 := F11.binds (ps := d__law_case_right.ps) fun _ _ _ _ _ _ us hl => match us, hl with | [_], _ => rfl
  have F12 := fun_mk (st := d__law_right.st) l12 c12 k12
  have b12 := F12.binds (ps := d__law_right.ps) fun _ _ _ _ _ _ us hl => match us, hl with | [_], _ => rfl
  have F13 := fun_mk (st := d_law.st) l13 c13 k13
  have b13 := F13.binds (ps := d_law.ps) fun _ _ _ _ _ _ us hl => match us, hl with | [_], _ => rfl
  have top : TopOk K mg ds consts kws gl := by
    refine ⟨fun f d e => ?_, fun n hn => ?_, fun j n e v ev => ?_⟩
    · match f, e with
      | 0, e =>
        cases e
        refine ⟨_, _, PySem.W.mg_of X G a0, F0, b0, fun np ks perm hm => ?_⟩
        rcases List.mem_cons.mp hm with hq | hm
        · cases hq
        rcases List.mem_cons.mp hm with hq | hm
        · cases hq
        rcases List.mem_cons.mp hm with hq | hm
        · cases hq
        cases hm
      | 1, e =>
        cases e
        refine ⟨_, _, PySem.W.mg_of X G a1, F1, b1, fun np ks perm hm => ?_⟩
        rcases List.mem_cons.mp hm with hq | hm
        · cases hq
        rcases List.mem_cons.mp hm with hq | hm
        · cases hq
        rcases List.mem_cons.mp hm with hq | hm
        · cases hq
        cases hm
      | 2, e =>
        cases e
        refine ⟨_, _, PySem.W.mg_of X G a2, F2, b2, fun np ks perm hm => ?_⟩
        rcases List.mem_cons.mp hm with hq | hm
        · cases hq
          exact ⟨fun s us ws _ hl => by
            unfold gK at hl ⊢
            split at hl
            · rename_i hc
              rw [if_pos hc]
              match us, ws, hc with
              | [], [_], _ => exact .of_eq rfl
            · simp [d_is_form] at hl, gK_rel⟩
        rcases List.mem_cons.mp hm with hq | hm
        · cases hq
        rcases List.mem_cons.mp hm with hq | hm
        · cases hq
        cases hm
      | 3, e =>
        cases e
        refine ⟨_, _, PySem.W.mg_of X G a3, F3, b3, fun np ks perm hm => ?_⟩
        rcases List.mem_cons.mp hm with hq | hm
        · cases hq
        rcases List.mem_cons.mp hm with hq | hm
        · cases hq
          exact ⟨fun s us ws _ hl => by
            unfold gK at hl ⊢
            split at hl
            · rename_i hc
              rw [if_pos hc]
              match us, ws, hc with
              | [], [_, _], _ => exact .of_eq rfl
            · simp [d_block_size] at hl, gK_rel⟩
        rcases List.mem_cons.mp hm with hq | hm
        · cases hq
        cases hm
      | 4, e =>
        cases e
        refine ⟨_, _, PySem.W.mg_of X G a4, F4, b4, fun np ks perm hm => ?_⟩
        rcases List.mem_cons.mp hm with hq | hm
        · cases hq
        rcases List.mem_cons.mp hm with hq | hm
        · cases hq
        rcases List.mem_cons.mp hm with hq | hm
        · cases hq
          exact ⟨fun s us ws _ hl => by
            unfold gK at hl ⊢
            split at hl
            · rename_i hc
              rw [if_pos hc]
              match us, ws, hc with
              | [], [_, _], _ => exact .of_eq rfl
            · simp [d_spare_cells] at hl, gK_rel⟩
        cases hm
      | 5, e =>
        cases e
        refine ⟨_, _, PySem.W.mg_of X G a5, F5, b5, fun np ks perm hm => ?_⟩
        rcases List.mem_cons.mp hm with hq | hm
        · cases hq
        rcases List.mem_cons.mp hm with hq | hm
        · cases hq
        rcases List.mem_cons.mp hm with hq | hm
        · cases hq
        cases hm
      | 6, e =>
        cases e
        refine ⟨_, _, PySem.W.mg_of X G a6, F6, b6, fun np ks perm hm => ?_⟩
        rcases List.mem_cons.mp hm with hq | hm
        · cases hq
        rcases List.mem_cons.mp hm with hq | hm
        · cases hq
        rcases List.mem_cons.mp hm with hq | hm
        · cases hq
        cases hm
      | 7, e =>
        cases e
        refine ⟨_, _, PySem.W.mg_of X G a7, F7, b7, fun np ks perm hm => ?_⟩
        rcases List.mem_cons.mp hm with hq | hm
        · cases hq
        rcases List.mem_cons.mp hm with hq | hm
        · cases hq
        rcases List.mem_cons.mp hm with hq | hm
        · cases hq
        cases hm
      | 8, e =>
        cases e
        refine ⟨_, _, PySem.W.mg_of X G a8, F8, b8, fun np ks perm hm => ?_⟩
        rcases List.mem_cons.mp hm with hq | hm
        · cases hq
        rcases List.mem_cons.mp hm with hq | hm
        · cases hq
        rcases List.mem_cons.mp hm with hq | hm
        · cases hq
        cases hm
      | 9, e =>
        cases e
        refine ⟨_, _, PySem.W.mg_of X G a9, F9, b9, fun np ks perm hm => ?_⟩
        rcases List.mem_cons.mp hm with hq | hm
        · cases hq
        rcases List.mem_cons.mp hm with hq | hm
        · cases hq
        rcases List.mem_cons.mp hm with hq | hm
        · cases hq
        cases hm
      | 10, e =>
        cases e
        refine ⟨_, _, PySem.W.mg_of X G a10, F10, b10, fun np ks perm hm => ?_⟩
        rcases List.mem_cons.mp hm with hq | hm
        · cases hq
        rcases List.mem_cons.mp hm with hq | hm
        · cases hq
        rcases List.mem_cons.mp hm with hq | hm
        · cases hq
        cases hm
      | 11, e =>
        cases e
        refine ⟨_, _, PySem.W.mg_of X G a11, F11, b11, fun np ks perm hm => ?_⟩
        rcases List.mem_cons.mp hm with hq | hm
        · cases hq
        rcases List.mem_cons.mp hm with hq | hm
        · cases hq
        rcases List.mem_cons.mp hm with hq | hm
        · cases hq
        cases hm
      | 12, e =>
        cases e
        refine ⟨_, _, PySem.W.mg_of X G a12, F12, b12, fun np ks perm hm => ?_⟩
        rcases List.mem_cons.mp hm with hq | hm
        · cases hq
        rcases List.mem_cons.mp hm with hq | hm
        · cases hq
        rcases List.mem_cons.mp hm with hq | hm
        · cases hq
        cases hm
      | 13, e =>
        cases e
        refine ⟨_, _, PySem.W.mg_of X G a13, F13, b13, fun np ks perm hm => ?_⟩
        rcases List.mem_cons.mp hm with hq | hm
        · cases hq
        rcases List.mem_cons.mp hm with hq | hm
        · cases hq
        rcases List.mem_cons.mp hm with hq | hm
        · cases hq
        cases hm
      | n + 14, e => simp [ds] at e
    · simp only [bltNames, List.mem_cons, List.mem_nil_iff, or_false] at hn
      rcases hn with rfl | rfl | rfl | rfl | rfl | rfl | rfl | rfl | rfl | rfl | rfl | rfl | rfl | rfl | rfl | rfl | rfl
      · exact PySem.W.mg_none_of X G z0
      · exact PySem.W.mg_none_of X G z1
      · exact PySem.W.mg_none_of X G z2
      · exact PySem.W.mg_none_of X G z3
      · exact PySem.W.mg_none_of X G z4
      · exact PySem.W.mg_none_of X G z5
      · exact PySem.W.mg_none_of X G z6
      · exact PySem.W.mg_none_of X G z7
      · exact PySem.W.mg_none_of X G z8
      · exact PySem.W.mg_none_of X G z9
      · exact PySem.W.mg_none_of X G z10
      · exact PySem.W.mg_none_of X G z11
      · exact PySem.W.mg_none_of X G z12
      · exact PySem.W.mg_none_of X G z13
      · exact PySem.W.mg_none_of X G z14
      · exact PySem.W.mg_none_of X G z15
      · exact PySem.W.mg_none_of X G z16
    · simp [consts] at e
  exact ⟨PySem.W.fnOf "law" "law" (defArgs d_law.st) (defBody d_law.st) (defScope d_law.st) .none kV13 dc13 pm13 an13 cd13 ct13, fun s v => .of_eq rfl, fun base _ _ => fn_step (lvl := LV0) (d := d_law) top chk rfl (fun f d e => all_fn top chk LV0 f d e) F13⟩
end Lw
open PySem PySem.W PyProof.Rows
set_option maxHeartbeats 0 in
theorem PySem.Challenge.cw_growback_k64_forms_and_blocks_holds : PySem.Challenge.rw_growback_k64_forms_and_blocks.Holds := by
  w_on; o_law; k_head; (case hw => w_witness2)
  k_fill
  refine L2.walk_ofK (l := PySem.Challenge.rw_growback_k64_forms_and_blocks) (n := 63) (k := Lw.LV0 + 1) (x := "_law_script") (CX := L2.CX0) (sp := fun K => GB.spC K (GB.callF Lw.T Lw.gl (Lw.LV0 + 1)) 13) rfl (by decide) rfl ⟨rfl, by decide, by decide⟩ (fun w h Y => PySem.W.kIn_of Y) ?F
    (fun K H a ns hl ho hs => let ⟨h2, e⟩ := Lw.law_true ns hl; GB.law_sp ho hs e) (fun _ _ _ _ h => h)
  case F =>
    intro w mg fa h KX G hmg
    refine' Lw.all_mk KX G hmg ?a0 ?l0 ?c0 ?k0 ?a1 ?l1 ?c1 ?k1 ?a2 ?l2 ?c2 ?k2 ?a3 ?l3 ?c3 ?k3 ?a4 ?l4 ?c4 ?k4 ?a5 ?l5 ?c5 ?k5 ?a6 ?l6 ?c6 ?k6 ?a7 ?l7 ?c7 ?k7 ?a8 ?l8 ?c8 ?k8 ?a9 ?l9 ?c9 ?k9 ?a10 ?l10 ?c10 ?k10 ?a11 ?l11 ?c11 ?k11 ?a12 ?l12 ?c12 ?k12 ?a13 ?l13 ?c13 ?k13 ?z0 ?z1 ?z2 ?z3 ?z4 ?z5 ?z6 ?z7 ?z8 ?z9 ?z10 ?z11 ?z12 ?z13 ?z14 ?z15 ?z16
    (case a0 => k_is)
    (case l0 => k_is)
    (case c0 => k_is)
    (case k0 => k_is)
    (case a1 => k_is)
    (case l1 => k_is)
    (case c1 => k_is)
    (case k1 => k_is)
    (case a2 => k_is)
    (case l2 => k_is)
    (case c2 => k_is)
    (case k2 => k_is)
    (case a3 => k_is)
    (case l3 => k_is)
    (case c3 => k_is)
    (case k3 => k_is)
    (case a4 => k_is)
    (case l4 => k_is)
    (case c4 => k_is)
    (case k4 => k_is)
    (case a5 => k_is)
    (case l5 => k_is)
    (case c5 => k_is)
    (case k5 => k_is)
    (case a6 => k_is)
    (case l6 => k_is)
    (case c6 => k_is)
    (case k6 => k_is)
    (case a7 => k_is)
    (case l7 => k_is)
    (case c7 => k_is)
    (case k7 => k_is)
    (case a8 => k_is)
    (case l8 => k_is)
    (case c8 => k_is)
    (case k8 => k_is)
    (case a9 => k_is)
    (case l9 => k_is)
    (case c9 => k_is)
    (case k9 => k_is)
    (case a10 => k_is)
    (case l10 => k_is)
    (case c10 => k_is)
    (case k10 => k_is)
    (case a11 => k_is)
    (case l11 => k_is)
    (case c11 => k_is)
    (case k11 => k_is)
    (case a12 => k_is)
    (case l12 => k_is)
    (case c12 => k_is)
    (case k12 => k_is)
    (case a13 => k_is)
    (case l13 => k_is)
    (case c13 => k_is)
    (case k13 => k_is)
    (case z0 => k_is)
    (case z1 => k_is)
    (case z2 => k_is)
    (case z3 => k_is)
    (case z4 => k_is)
    (case z5 => k_is)
    (case z6 => k_is)
    (case z7 => k_is)
    (case z8 => k_is)
    (case z9 => k_is)
    (case z10 => k_is)
    (case z11 => k_is)
    (case z12 => k_is)
    (case z13 => k_is)
    (case z14 => k_is)
    (case z15 => k_is)
    (case z16 => k_is)
