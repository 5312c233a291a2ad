import PyProof.Rows.All
import Wide.All
import OpenK.AllK
import Wide.FinOn
import KE.KStateDown
import Lean
import HandS.ForMost
import HandS.More
import HandS.Conv
import HandS.SetKeys
import HandS.SortOrd
import HandS.SortKw
import HandS.Zip
import HandS.FStr
import HandS.StrSplit
import HandS.Defaults
import HandS.Exc
import HandS.TupAny
import HandS.TupMul
import HandS.Style
import HandS.Flow
import HandS.CallSlots
import HandS.TupLe
import KE.KDictKeyed
import KE.KeyNested
import KE.SortKeyed
import HandS.Deep
import HandS.TupLen
import HandS.IsInst
import HandS.HeadHook1
import HandS.HeadHook2
import HandS.HeadHook4
import HandS.Lambda
import KE.SortData
import HandS.Ends
import HandS.EndBits
import HandS.HeadEnd
import HandS.NestedK
import HandS.Words
import HandS.Head2
import PySem.Challenge.RW_leastfill_k85_texts_shown_and_read
section
set_option Elab.async false
set_option linter.all false
set_option maxRecDepth 100000
set_option maxHeartbeats 4000000
/-! Mi0: data, the mini-AST, its interpreter. -/
namespace Mi
open PySem

/-- data: tuples, frozen lists and dicts are values; ref: a shared object; slot: the list or dict that a local name owns (only as an operand) -/
inductive D where
  | non | bl (b : Bool) | int (i : Int) | str (x : Str)
  | tup (l : List D) | lst (l : List D) | scr (l : List D) | dic (ks xs : List D)
  | ref (n : Nat) | slot (i : Nat) | fn (x : Str)
  deriving Inhabited

/-- a shared object -/
inductive MO where
  | lst (l : List D) | dic (ks xs : List D) | ins (C : Str) (fs : List (Str × D)) | tab (g : Str × Option Str)
  deriving Inhabited

/-- a local name -/
inductive Slot where
  | no | val (d : D) | lst (l : List D) | dic (ks xs : List D)
  deriving Inhabited

structure Exn where
  cls : Str
  fs : List (Str × D)

inductive Rs (α : Type) where
  | ok (a : α) (σ : List Slot) (G : List MO)
  | ex (x : Exn) (σ : List Slot) (G : List MO)
  | bad

/-- a call's end -/
inductive FO where
  | ok (d : D) (G : List MO)
  | ex (x : Exn) (G : List MO)
  | bad

def Ev (α : Type) := List Slot → List MO → Rs α

def Rs.andThen {α β : Type} (r : Rs α) (f : α → List Slot → List MO → Rs β) : Rs β := match r with
  | .ok a σ G => f a σ G
  | .ex x σ G => .ex x σ G
  | .bad => .bad
def Ev.bind {α β : Type} (m : Ev α) (f : α → Ev β) : Ev β := fun σ G => (m σ G).andThen f
def Ev.pure {α : Type} (a : α) : Ev α := fun σ G => .ok a σ G
def Ev.bad {α : Type} : Ev α := fun _ _ => .bad
def Ev.lift {α : Type} (o : Option α) : Ev α := fun σ G => match o with
  | some a => .ok a σ G
  | none => .bad
/-- a look at the state -/
def Ev.look {α : Type} (f : List Slot → List MO → Option α) : Ev α := fun σ G => match f σ G with
  | some a => .ok a σ G
  | none => .bad

inductive Op2 where
  | add | sub | mul | mod | fdiv | pow
  deriving DecidableEq
inductive CmpO where
  | eq | ne | lt | le | gt | ge | isN | notN | inn | nin
  deriving DecidableEq
/-- built-in functions and types, called with values -/
inductive Bi where
  | len | tuple | list | dict | sorted | all | int | str | repr | max2 | min2 | abs
  | isi (t : String) | isc (C : Str) | maxd | min1 | max1 | set
  deriving DecidableEq
/-- methods of built-in types -/
inductive Bm where
  | append | extend | pop | popAt | setdefault | update | get1 | get2 | join | split | lines | partition | index | count
  deriving DecidableEq

mutual
inductive E where
  | c (d : D) | v (i : Nat) | g (x : Str)
  | tup (a : Es) | lst (a : Es) | dic (k x : Es) | gl (e : E)
  | bin (o : Op2) (a b : E) | neg (a : E) | nt (a : E) | and (a b : E) | or (a b : E) | ife (c a b : E)
  | cmp (o : CmpO) (a b : E) | chn (o p : CmpO) (a b c : E)
  | ix (a i : E) | sl (a : E) (hl : Bool) (lo : E) (hh : Bool) (hi : E) | rev (a : E)
  | fld (a : E) (f : Str) | gix (x : Str) (i : E) | gin (i : E) (x : Str)
  | call (f : Str) (a : Es) | callk (f : Str) (a : Es) (ks : List Str) (kw : Es) | callv (i : Nat) (a : Es)
  | mk (C : Str) (a : Es) | meth (C m : Str) (o : E) (a : Es) | methk (C m : Str) (o : E) (a : Es) (ks : List Str) (kw : Es)
  | bi (b : Bi) (e : E) | bi2 (b : Bi) (e f : E) | bm (m : Bm) (o : E) (a : Es)
  | srt (e : E) (f : Str) | srl (e : E) (n : Nat) (g : Str × Option Str) (ns : List Str) (body : E) | lc (elt : E) (t : Tg) (it : I) (hi : Bool) (c : E) (vs : List Nat)
  | fs (a : Es) | fv (e : E)
inductive Es where
  | nil | cons (e : E) (r : Es)
inductive I where
  | seq (e : E) | rng (e : E) | rng2 (a b : E) | enum (e : E) | zip (a b : E)
inductive Tg where
  | nm (i : Nat) | tp (l : Tgs)
inductive Tgs where
  | nil | cons (t : Tg) (r : Tgs)
end

mutual
inductive S where
  | ret (e : E) | retN | ex (e : E) | asg (t : Tg) (e : E) | par (i : Nat) (a : E) (j : Nat) (b : E)
  | asgF (o : E) (f : Str) (e : E) | asgI (o i e : E) | aug (i : Nat) (o : Op2) (e : E) | augF (a : E) (f : Str) (o : Op2) (e : E)
  | ifs (c : E) (a b : Ss) | for_ (t : Tg) (it : I) (b : Ss) | whl (c : E) (b : Ss)
  | pass | cont | brk | rais (C : Str) (a : Es) | tryS (b : Ss) (h : Hs)
inductive Ss where
  | nil | cons (s : S) (r : Ss)
/-- except clauses: the class, the name's slot (if there is one), the suite -/
inductive Hs where
  | nil | cons (C : Str) (n : Option Nat) (b : Ss) (r : Hs)
end

inductive Fl where
  | nx | rt (d : D) | bk | ct
  deriving Inhabited

/-! ### data, looked at -/
/-- what an operand holds -/
inductive Ct where
  | lst (l : List D) | scr (l : List D) | tup (l : List D) | dic (ks xs : List D) | str (x : Str) | ins (C : Str) (fs : List (Str × D)) | no
def ct (σ : List Slot) (G : List MO) : D → Ct
  | .lst l => .lst l
  | .tup l => .tup l
  | .scr l => .scr l
  | .dic ks xs => .dic ks xs
  | .str x => .str x
  | .ref n => match G[n]? with
    | some (.lst l) => .lst l
    | some (.dic ks xs) => .dic ks xs
    | some (.ins C fs) => .ins C fs
    | some (.tab _) => .no
    | none => .no
  | .slot i => match σ[i]? with
    | some (.lst l) => .lst l
    | some (.dic ks xs) => .dic ks xs
    | _ => .no
  | _ => .no

mutual
/-- plain data, all through -/
def D.py : D → Option PyData
  | .non => some .none
  | .bl b => some (.bool b)
  | .int i => some (.int i)
  | .str x => some (.str x)
  | .tup l => (D.pys l).map .tuple
  | .lst l => (D.pys l).map .list
  | _ => none
def D.pys : List D → Option (List PyData)
  | [] => some []
  | d :: r => match D.py d, D.pys r with
    | some p, some ps => some (p :: ps)
    | _, _ => none
end
/-- .. of an operand -/
def opy (σ : List Slot) (G : List MO) (d : D) : Option PyData := match d with
  | .slot _ => (match ct σ G d with
    | .lst l => (D.pys l).map .list
    | _ => none)
  | .ref _ => (match ct σ G d with
    | .lst l => (D.pys l).map .list
    | _ => none)
  | d => d.py

/-- a dict's key: an int or a text -/
def D.key : D → Option L2.Key
  | .int i => some (.inl i)
  | .str x => some (.inr x)
  | _ => none
mutual
def D.beq : D → D → Bool
  | .non, .non => true
  | .bl a, .bl b => a == b
  | .int a, .int b => a == b
  | .str a, .str b => decide (a = b)
  | .tup a, .tup b => D.beqs a b
  | .lst a, .lst b => D.beqs a b
  | .dic a x, .dic b y => D.beqs a b && D.beqs x y
  | .ref a, .ref b => a == b
  | .slot a, .slot b => a == b
  | .fn a, .fn b => decide (a = b)
  | _, _ => false
def D.beqs : List D → List D → Bool
  | [], [] => true
  | a :: r, b :: t => D.beq a b && D.beqs r t
  | _, _ => false
end
mutual
/-- a key: ints, texts, tuples of these -/
def D.nk : D → Option NestedKey
  | .int i => some (.num i)
  | .str x => some (.text x)
  | .tup l => (D.nks l).map .tup
  | _ => none
def D.nks : List D → Option (List NestedKey)
  | [] => some []
  | d :: r => match D.nk d, D.nks r with
    | some k, some l => some (k :: l)
    | _, _ => none
end
def D.leaf : D → Bool
  | .int _ => true
  | .str _ => true
  | _ => false
def D.isTup : D → Bool
  | .tup l => match D.nks l with
    | some ks => decide (NestedKey.depthAll ks ≤ 7)
    | none => false
  | _ => false
/-- a dict keeps keys of one sort -/
def okKey (ks : List D) (k : D) : Bool := (k.leaf && ks.all D.leaf) || (k.isTup && ks.all D.isTup)
def dHas (ks : List D) (k : D) : Bool := ks.any fun a => a.beq k
def dGet : List D → List D → D → Option D
  | a :: ks, x :: xs, k => if a.beq k = true then some x else dGet ks xs k
  | _, _, _ => none
def repX : List D → List D → D → D → List D
  | a :: ks, y :: ys, k, x => (if a.beq k = true then x else y) :: repX ks ys k x
  | _, ys, _, _ => ys
def dPut (ks xs : List D) (k x : D) : List D × List D := if dHas ks k = true then (ks, repX ks xs k x) else (ks ++ [k], xs ++ [x])
def pairOf : D → Option (D × D)
  | .tup [a, b] => some (a, b)
  | _ => none
def pairsOf : List D → Option (List (D × D))
  | [] => some []
  | d :: r => match pairOf d, pairsOf r with
    | some p, some ps => some (p :: ps)
    | _, _ => none

/-! ### order of keys -/
mutual
/-- x < y can be asked -/
def pcmp : PyData → PyData → Bool
  | .bool _, .bool _ => true
  | .int _, .int _ => true
  | .str _, .str _ => true
  | .list xs, .list ys => pcmps xs ys
  | .tuple xs, .tuple ys => pcmps xs ys
  | _, _ => false
def pcmps : List PyData → List PyData → Bool
  | x :: xs, y :: ys => pcmp x y && (!PyData.eqv x y || pcmps xs ys)
  | _, _ => true
end
/-- what is asked of the keys -/
def tup1 : PyData → Bool
  | .tuple (_ :: _) => true
  | _ => false
def ntup : PyData → Bool
  | .tuple _ => false
  | .none => false
  | _ => true
def keysOk (ds : List PyData) : Bool := ds.all SeqAt.shaped && (ds.all (fun a => ds.all (pcmp a)) && (ds.all tup1 || ds.all ntup))
/-- sorted by keys, stably -/
def sortBy (ks ds : List D) : Option (List D) := match D.pys ks with
  | some ps => if keysOk ps = true then some (((ps.zip ds).mergeSort fun a b => !W.dataLt b.1 a.1).map (·.2)) else none
  | none => none

/-! ### operations on values -/
def lstOk (l : List D) : Option D := if l.length ≤ sizeLine then some (.lst l) else none
def tupOk (l : List D) : Option D := if l.length ≤ sizeLine then some (.tup l) else none
def strOk (x : Str) : Option D := if x.length ≤ sizeLine then some (.str x) else none
def rep {α : Type} : Nat → List α → List α
  | 0, _ => []
  | n + 1, l => l ++ rep n l
def op2 (o : Op2) (σ : List Slot) (G : List MO) (a b : D) : Option D := match o, a, b with
  | .add, .int i, .int j => some (.int (i + j))
  | .sub, .int i, .int j => some (.int (i - j))
  | .mul, .int i, .int j => if (-(2 ^ 64) < i ∧ i < 2 ^ 64) ∨ (-(2 ^ 64) < j ∧ j < 2 ^ 64) then some (.int (i * j)) else none
  | .mod, .int i, .int j => if 0 < j then some (.int (i % j)) else none
  | .fdiv, .int i, .int j => if 0 < j ∧ j < 1073741824 then some (.int (i / j)) else none
  | .pow, .int i, .int j => if 0 ≤ j ∧ j ≤ 1000000 ∧ i.natAbs < 2 ^ 64 then some (.int (i ^ j.toNat)) else none
  | .add, a, b => (match ct σ G a, ct σ G b with
    | .str x, .str y => if x.length + y.length ≤ sizeLine then some (.str (x ++ y)) else none
    | .tup x, .tup y => tupOk (x ++ y)
    | .lst x, .lst y => lstOk (x ++ y)
    | _, _ => none)
  | .mul, a, .int j => (match ct σ G a with
    | .lst x => if -(2 ^ 63) ≤ j ∧ j < 2 ^ 63 then (if x.length * j.toNat ≤ sizeLine then some (.lst (rep j.toNat x)) else none) else none
    | .tup x => if x ≠ [] ∧ 2 ≤ j ∧ j ≤ 1000 ∧ x.length ≤ 1000 then some (.tup (rep j.toNat x)) else none
    | _ => none)
  | _, _, _ => none
/-- whether a datum stands in a list -/
def inPy (p : PyData) (l : List PyData) : Bool := l.any fun q => PyData.eqv q p
def isNone (σ : List Slot) (G : List MO) (a : D) : Option Bool := match a with
  | .non => some true
  | .slot i => (match ct σ G (.slot i) with
    | .lst _ => some false
    | .dic _ _ => some false
    | _ => none)
  | _ => some false
def cmp2 (o : CmpO) (σ : List Slot) (G : List MO) (a b : D) : Option Bool := match o with
  | .eq => (match opy σ G a, opy σ G b with
    | some p, some q => if SeqAt.shaped p && SeqAt.shaped q then some (PyData.eqv p q) else none
    | _, _ => none)
  | .ne => (match opy σ G a, opy σ G b with
    | some p, some q => if SeqAt.shaped p && SeqAt.shaped q then some (!PyData.eqv p q) else none
    | _, _ => none)
  | .isN => (match b with
    | .non => isNone σ G a
    | _ => none)
  | .notN => (match b with
    | .non => (isNone σ G a).map (!·)
    | _ => none)
  | .lt => (match a, b with
    | .int i, .int j => some (decide (i < j))
    | _, _ => none)
  | .gt => (match a, b with
    | .int i, .int j => some (decide (j < i))
    | _, _ => none)
  | .le => (match a, b with
    | .int i, .int j => some (decide (i ≤ j))
    | _, _ => none)
  | .ge => (match a, b with
    | .int i, .int j => some (decide (j ≤ i))
    | _, _ => none)
  | .inn => (match ct σ G b with
    | .str y => (match a with
      | .str x => some (!(Builtin.Str.occurrences y x 0 y.length 1).isEmpty)
      | _ => none)
    | .dic ks _ => if okKey ks a = true then some (dHas ks a) else none
    | .lst l => (match a.py, D.pys l with
      | some p, some ps => if SeqAt.shaped p && ps.all SeqAt.shaped then some (inPy p ps) else none
      | _, _ => none)
    | .tup l => (match a.py, D.pys l with
      | some p, some ps => if SeqAt.shaped p && ps.all SeqAt.shaped then some (inPy p ps) else none
      | _, _ => none)
    | _ => none)
  | .nin => (match ct σ G b with
    | .str y => (match a with
      | .str x => some (Builtin.Str.occurrences y x 0 y.length 1).isEmpty
      | _ => none)
    | .dic ks _ => if okKey ks a = true then some (!dHas ks a) else none
    | .lst l => (match a.py, D.pys l with
      | some p, some ps => if SeqAt.shaped p && ps.all SeqAt.shaped then some (!inPy p ps) else none
      | _, _ => none)
    | .tup l => (match a.py, D.pys l with
      | some p, some ps => if SeqAt.shaped p && ps.all SeqAt.shaped then some (!inPy p ps) else none
      | _, _ => none)
    | _ => none)
/-- a place in a list of n: from 0 on, or from behind -/
def plc (n : Nat) (i : Int) : Option Nat := if 0 ≤ i ∧ i < n then some i.toNat else if i < 0 ∧ -(n : Int) ≤ i then some (i + n).toNat else none
def ixOf (σ : List Slot) (G : List MO) (a i : D) : Option D := match ct σ G a, i with
  | .lst l, .int k => (plc l.length k).bind fun j => l[j]?
  | .tup l, .int k => (plc l.length k).bind fun j => l[j]?
  | .str x, .int k => if x.length ≤ sizeLine then (plc x.cps.toList.length k).bind fun j => (x.cps.toList[j]?).map fun c => .str ⟨#[c]⟩ else none
  | .dic ks xs, k => if okKey ks k = true then dGet ks xs k else none
  | _, _ => none
/-- a bound of a slice, from 0 on -/
def bnd (n : Nat) (d : Nat) : Bool → D → Option Nat
  | false, _ => some d
  | true, .int k => if 0 ≤ k ∧ k < 2 ^ 62 then some (min k.toNat n) else none
  | true, _ => none
def cutL {α : Type} (l : List α) (a b : Nat) : List α := (l.drop a).take (b - a)
def slOf (σ : List Slot) (G : List MO) (a : D) (hl : Bool) (lo : D) (hh : Bool) (hi : D) : Option D := match ct σ G a with
  | .lst l => (match bnd l.length 0 hl lo, bnd l.length l.length hh hi with
    | some x, some y => some (.lst (cutL l x y))
    | _, _ => none)
  | .scr l => (match bnd l.length 0 hl lo, bnd l.length l.length hh hi with
    | some x, some y => some (.lst (cutL l x y))
    | _, _ => none)
  | .tup l => (match bnd l.length 0 hl lo, bnd l.length l.length hh hi with
    | some x, some y => some (.tup (cutL l x y))
    | _, _ => none)
  | .str s => if s.length ≤ sizeLine then (match bnd s.length 0 hl lo, bnd s.length s.length hh hi with
    | some x, some y => some (.str ⟨(cutL s.cps.toList x y).toArray⟩)
    | _, _ => none) else none
  | _ => none
def revOf (σ : List Slot) (G : List MO) (a : D) : Option D := match ct σ G a with
  | .lst l => some (.lst l.reverse)
  | _ => none
def strsOf : List D → Option (List Str)
  | [] => some []
  | .str x :: r => (strsOf r).map (x :: ·)
  | _ :: _ => none
def intsOf : List D → Option (List Int)
  | [] => some []
  | .int x :: r => (intsOf r).map (x :: ·)
  | _ :: _ => none
def boolsOf : List D → Option (List Bool)
  | [] => some []
  | .bl x :: r => (boolsOf r).map (x :: ·)
  | _ :: _ => none
/-- the items of an operand that is walked -/
def itemsOf (σ : List Slot) (G : List MO) (d : D) : Option (List D) := match ct σ G d with
  | .lst l => some l
  | .tup l => some l
  | .dic ks _ => some ks
  | _ => none
/-- the items of a list or a dict that is sorted -/
def srcOf (σ : List Slot) (G : List MO) (d : D) : Option (List D) := match ct σ G d with
  | .lst l => some l
  | .dic ks _ => some ks
  | _ => none
def dPutOk (ks xs : List D) (k x : D) : Option (List D × List D) := if okKey ks k = true ∧ ks.length < sizeLine then some (dPut ks xs k x) else none
def dPutsOk : List (D × D) → List D → List D → Option (List D × List D)
  | [], ks, xs => some (ks, xs)
  | (k, x) :: r, ks, xs => match dPutOk ks xs k x with
    | some (k2, x2) => dPutsOk r k2 x2
    | none => none
def isI (t : String) (σ : List Slot) (G : List MO) (d : D) : Option Bool := match d with
  | .non => some false
  | .bl _ => some (t == "bool" || t == "int")
  | .int _ => some (t == "int")
  | .str _ => some (t == "str")
  | d => (match ct σ G d with
    | .lst _ => some (t == "list")
    | .tup _ => some (t == "tuple")
    | .dic _ _ => some (t == "dict")
    | _ => none)
def bi1 (b : Bi) (σ : List Slot) (G : List MO) (d : D) : Option D := match b with
  | .len => (match ct σ G d with
    | .lst l => some (.int l.length)
    | .tup l => some (.int l.length)
    | .dic ks _ => some (.int ks.length)
    | .str x => if x.length ≤ sizeLine then some (.int x.length) else none
    | _ => none)
  | .tuple => (match ct σ G d with
    | .lst l => some (.tup l)
    | .tup l => some (.tup l)
    | _ => none)
  | .list => (match ct σ G d with
    | .lst l => some (.lst l)
    | .tup l => some (.lst l)
    | .dic ks _ => some (.lst ks)
    | _ => none)
  | .dict => (match ct σ G d with
    | .lst l => (pairsOf l).bind fun ps => (dPutsOk ps [] []).map fun p => .dic p.1 p.2
    | _ => none)
  | .sorted => (srcOf σ G d).bind fun l => (sortBy l l).map .lst
  | .all => (match ct σ G d with
    | .lst l => (boolsOf l).map fun bs => .bl (bs.all id)
    | _ => none)
  | .int => (match d with
    | .int i => some (.int i)
    | .bl k => some (.int (if k then 1 else 0))
    | .str x => if x.length ≤ 640 then (intText? x).map .int else none
    | _ => none)
  | .str => (match d with
    | .str x => some (.str x)
    | .int i => if i.natAbs.log2 < 1920 then some (.str (toString i)) else none
    | _ => none)
  | .repr => (match opy σ G d with
    | some p => if p.showable = true ∧ p.depth ≤ 64 ∧ p.shown.length + 64 ≤ sizeLine then some (.str p.shown) else none
    | none => none)
  | .isi t => (isI t σ G d).map .bl
  | _ => none
def bi2 (b : Bi) (d e : D) : Option D := match b, d, e with
  | .max2, .int i, .int j => some (.int (if j > i then j else i))
  | .min2, .int i, .int j => some (.int (if j < i then j else i))
  | _, _, _ => none

/-! ### the interpreter -/
structure Fns where
  call : Str → List D → List MO → FO
  kw : Str → List D → List Str → List D → List MO → FO
  fuel : Nat
  gval : Str → Option D
  gdic : Str → Option (List D × List D)
  fok : Str → Str → Bool

/-- a list or a dict that a name owns is frozen where its value goes elsewhere -/
def settle (d : D) : Ev D := fun σ G => match d with
  | .slot i => (match σ[i]? with
    | some (.lst l) => .ok (.lst l) (σ.set i (.val (.lst l))) G
    | some (.dic ks xs) => .ok (.dic ks xs) (σ.set i (.val (.dic ks xs))) G
    | _ => .bad)
  | d => .ok d σ G
def evVar (i : Nat) : Ev D := fun σ G => match σ[i]? with
  | some (.val d) => .ok d σ G
  | some (.lst _) => .ok (.slot i) σ G
  | some (.dic _ _) => .ok (.slot i) σ G
  | _ => .bad
def fromFO (r : FO) (σ : List Slot) : Rs D := match r with
  | .ok d G => .ok d σ G
  | .ex x G => .ex x σ G
  | .bad => .bad
def truth : D → Ev Bool
  | .bl b => Ev.pure b
  | _ => Ev.bad
/-- a part of a slice: left out, or an int -/
def part : Bool → D → Ev D
  | false, _ => Ev.pure .non
  | true, .int i => Ev.pure (.int i)
  | true, _ => Ev.bad
/-- no exception goes through -/
def noEx {α : Type} (m : Ev α) : Ev α := fun σ G => match m σ G with
  | .ex _ _ _ => .bad
  | r => r
def ownSet (i : Nat) (s : Slot) : Ev Unit := fun σ G => if i < σ.length then .ok () (σ.set i s) G else .bad
def Tgs.len : Tgs → Nat
  | .nil => 0
  | .cons _ r => r.len + 1
mutual
/-- the slots that a target stores -/
def Tg.slots : Tg → List Nat
  | .nm i => [i]
  | .tp l => l.slots
def Tgs.slots : Tgs → List Nat
  | .nil => []
  | .cons t r => t.slots ++ r.slots
end
mutual
/-- a settled value goes to a target -/
def asgT : Tg → D → Ev Unit
  | .nm i, d => ownSet i (.val d)
  | .tp ts, d => match d with
    | .tup l => if l.length = ts.len then asgTs ts l else Ev.bad
    | _ => Ev.bad
def asgTs : Tgs → List D → Ev Unit
  | .nil, [] => Ev.pure ()
  | .cons t r, d :: l => (asgT t d).bind fun _ => asgTs r l
  | _, _ => Ev.bad
end
/-- what is written to a content's place -/
def ctPut (d : D) (s : Slot) (o : MO) : Ev Unit := fun σ G => match d with
  | .slot i => if i < σ.length then .ok () (σ.set i s) G else .bad
  | .ref n => if n < G.length then .ok () σ (G.set n o) else .bad
  | _ => .bad
def putL (d : D) (l : List D) : Ev Unit := ctPut d (.lst l) (.lst l)
def putD (d : D) (ks xs : List D) : Ev Unit := ctPut d (.dic ks xs) (.dic ks xs)
def joinOf (σ : List Slot) (G : List MO) (x : D) : Option (List Str) := match ct σ G x with
  | .lst l => strsOf l
  | .tup l => strsOf l
  | _ => none
/-- what an update brings -/
def updPs : D → Option (List (D × D))
  | .lst l => pairsOf l
  | .dic k2 x2 => some (k2.zip x2)
  | _ => none
def updOk (ks : List D) (ps : List (D × D)) : Bool := ks.all D.leaf && (ps.all (fun p => p.1.leaf) && decide (ks.length + ps.length ≤ sizeLine))
def evBm (m : Bm) (o : D) (as : List D) : Ev D := fun σ G => match m, as, ct σ G o with
  | .append, [x], .lst l => if l.length < sizeLine then (putL o (l ++ [x])).bind (fun _ => Ev.pure .non) σ G else .bad
  | .extend, [x], .lst l => (match ct σ G x with
    | .lst r => if l.length + r.length ≤ sizeLine then (putL o (l ++ r)).bind (fun _ => Ev.pure .non) σ G else .bad
    | .tup r => if l.length + r.length ≤ sizeLine then (putL o (l ++ r)).bind (fun _ => Ev.pure .non) σ G else .bad
    | _ => .bad)
  | .pop, [], .lst l => (match l.getLast? with
    | some x => (putL o l.dropLast).bind (fun _ => Ev.pure x) σ G
    | none => .bad)
  | .popAt, [.int k], .lst l => (match plc l.length k with
    | some j => (match l[j]? with
      | some x => (putL o (l.eraseIdx j)).bind (fun _ => Ev.pure x) σ G
      | none => .bad)
    | none => .bad)
  | .setdefault, [k, x], .dic ks xs => (match dGet ks xs k with
    | some y => if okKey ks k = true ∧ ks.length < sizeLine then .ok y σ G else .bad
    | none => (match dPutOk ks xs k x with
      | some p => (putD o p.1 p.2).bind (fun _ => Ev.pure x) σ G
      | none => .bad))
  | .update, [x], .dic ks xs => (match updPs x with
    | some ps => if updOk ks ps = true then (match dPutsOk ps ks xs with
      | some p => (putD o p.1 p.2).bind (fun _ => Ev.pure .non) σ G
      | none => .bad) else .bad
    | none => .bad)
  | .get1, [k], .dic ks xs => if okKey ks k = true then .ok ((dGet ks xs k).getD .non) σ G else .bad
  | .get2, [k, x], .dic ks xs => if okKey ks k = true then .ok ((dGet ks xs k).getD x) σ G else .bad
  | .join, [x], .str a => (match joinOf σ G x with
    | some ys => if (ys.map (·.length)).sum + ys.length * a.length ≤ 16777216 then .ok (.str (Txt.join a ys)) σ G else .bad
    | none => .bad)
  | .split, [.str b], .str a => if (b.length == 0) = false ∧ a.length + 2 ≤ sizeLine then .ok (.lst ((Txt.split a b).map .str)) σ G else .bad
  | .lines, [], .str a => if a.length + 2 ≤ sizeLine ∧ (lineCuts a).length ≤ sizeLine then .ok (.lst ((Txt.lines a).map .str)) σ G else .bad
  | .partition, [.str b], .str a => if (b.length == 0) = false ∧ a.length ≤ sizeLine then
      .ok (.tup [.str (Txt.partition a b).1, .str (Txt.partition a b).2.1, .str (Txt.partition a b).2.2]) σ G else .bad
  | _, _, _ => .bad
def Bm.ty : Bm → String
  | .append => "list"
  | .extend => "list"
  | .pop => "list"
  | .popAt => "list"
  | .setdefault => "dict"
  | .update => "dict"
  | .get1 => "dict"
  | .get2 => "dict"
  | .index => "list"
  | .count => "list"
  | _ => "str"
def Ct.ty : Ct → String
  | .lst _ => "list"
  | .tup _ => "tuple"
  | .dic _ _ => "dict"
  | .str _ => "str"
  | _ => ""
/-- the receiver is of the method's type -/
def tyOk (m : Bm) (σ : List Slot) (G : List MO) (d : D) : Option Unit := if (ct σ G d).ty = m.ty then some () else none
def loopFor (asg : D → Ev Unit) (body : Ev Fl) : List D → Ev Fl
  | [] => Ev.pure .nx
  | d :: r => (asg d).bind fun _ => body.bind fun f => match f with
    | .nx => loopFor asg body r
    | .ct => loopFor asg body r
    | .bk => Ev.pure .nx
    | .rt d => Ev.pure (.rt d)
def loopWhl (test : Ev Bool) (body : Ev Fl) : Nat → Ev Fl
  | 0 => Ev.bad
  | n + 1 => test.bind fun b => if b = true then body.bind fun f => (match f with
    | .nx => loopWhl test body n
    | .ct => loopWhl test body n
    | .bk => Ev.pure .nx
    | .rt d => Ev.pure (.rt d)) else Ev.pure .nx
/-- the keys of a sort -/
def loopKeys (key : D → Ev D) : List D → List D → Ev (List D)
  | [], acc => Ev.pure acc
  | d :: r, acc => (key d).bind fun k => loopKeys key r (acc ++ [k])
def wipeL (S : List Slot) : List Nat → List Slot
  | [] => S
  | v :: vs => (wipeL S vs).set v .no
def restL (S0 S : List Slot) : List Nat → List Slot
  | [] => S
  | v :: vs => (restL S0 S vs).set v (S0.getD v .no)
def wipeD (vs : List Nat) : Ev Unit := fun σ G => .ok () (wipeL σ vs) G
/-- a comprehension's turns: acc what is made so far -/
def loopLc (vs : List Nat) (asg : D → Ev Unit) (test : Ev Bool) (elt : Ev D) : List D → List D → Ev (List D)
  | [], acc => Ev.pure acc
  | d :: r, acc => (wipeD vs).bind fun _ => (asg d).bind fun _ => test.bind fun b =>
    if b = true then elt.bind fun x => if acc.length < sizeLine then loopLc vs asg test elt r (acc ++ [x]) else Ev.bad else loopLc vs asg test elt r acc
def Slot.plain : Slot → Bool
  | .no => true
  | .val _ => true
  | _ => false
/-- the block's own names are as they were -/
def inBlk {α : Type} (vs : List Nat) (m : Ev α) : Ev α := fun σ G =>
  if (vs.all fun v => match σ[v]? with
    | some s => s.plain
    | none => false) = true then
    match m σ G with
    | .ok a σ' G' => .ok a (restL σ σ' vs) G'
    | _ => .bad
  else .bad
def newObj (o : MO) : Ev D := fun σ G => .ok (.ref G.length) σ (G ++ [o])
def evGl (d : D) : Ev D := match d with
  | .lst l => newObj (.lst l)
  | .dic ks xs => newObj (.dic ks xs)
  | _ => Ev.bad
/-- a field; ok: whether the class has no attribute so called -/
def fldOf (ok : Str → Str → Bool) (G : List MO) (d : D) (f : Str) : Option D := match d with
  | .ref n => (match G[n]? with
    | some (.ins C fs) => if ok C f = true then fs.lookup f else none
    | _ => none)
  | _ => none
/-- an instance of C that has no field m -/
def insOf (G : List MO) (C m : Str) (d : D) : Option Unit := match d with
  | .ref n => (match G[n]? with
    | some (.ins C' fs) => if C' = C ∧ fs.lookup m = none then some () else none
    | _ => none)
  | _ => none
def putFld (fs : List (Str × D)) (f : Str) (x : D) : List (Str × D) := match fs with
  | [] => [(f, x)]
  | (g, y) :: r => if g = f then (f, x) :: r else (g, y) :: putFld r f x
def setFld (ok : Str → Str → Bool) (d : D) (f : Str) (x : D) : Ev Unit := fun σ G => match d with
  | .ref n => (match G[n]? with
    | some (.ins C fs) => if ok C f = true ∧ fs.length < 1000 then .ok () σ (G.set n (.ins C (putFld fs f x))) else .bad
    | _ => .bad)
  | _ => .bad
def initName (C : Str) : Str := C ++ ".__init__"
def methName (C m : Str) : Str := C ++ "." ++ m
/-- whether an expression's value is a new list or dict -/
def E.fresh : E → Bool
  | .lst _ => true
  | .dic _ _ => true
  | .lc _ _ _ _ _ _ => true
  | .bi .list _ => true
  | .bi .dict _ => true
  | .bi .sorted _ => true
  | .srt _ _ => true
  | .srl _ _ _ _ _ => true
  | .bin .add _ _ => true
  | .bin .mul _ _ => true
  | .bm .split _ _ => true
  | .sl _ _ _ _ _ => true
  | .rev _ => true
  | _ => false
/-- a value goes to a name -/
def asgN (fr : Bool) (i : Nat) (d : D) : Ev Unit := match fr, d with
  | true, .lst l => ownSet i (.lst l)
  | true, .dic ks xs => ownSet i (.dic ks xs)
  | _, d => (settle d).bind fun d => ownSet i (.val d)
def asgE (fr : Bool) (t : Tg) (d : D) : Ev Unit := match t with
  | .nm i => asgN fr i d
  | t => (settle d).bind fun d => asgT t d

/-- the items of what is walked -/
def seqI (d : D) : Ev (List D) := (settle d).bind fun d => match d with
    | .lst l => Ev.pure l
    | .tup l => Ev.pure l
    | .str x => Ev.pure (x.cps.toList.map fun c => .str ⟨#[c]⟩)
    | _ => Ev.bad
def enumI (d : D) : Ev (List D) := (settle d).bind fun d => match d with
    | .lst l => Ev.pure (l.zipIdx.map fun p => .tup [.int (p.2 : Nat), p.1])
    | _ => Ev.bad
/-- a lambda's call: its body over its own names -/
def lamF (body : Ev D) (m : Nat) (x : D) (G : List MO) : FO := match (body.bind settle) (.val x :: List.replicate m .no) G with
  | .ok d _ G => .ok d G
  | .ex x _ G => .ex x G
  | .bad => .bad
def tabOk (G : List MO) (n : Nat) (g : Str × Option Str) : Option Unit := match G[n]? with
  | some (.tab h) => if h = g then some () else none
  | _ => none
section
variable (Φ : Fns)
mutual
def evE : E → Ev D
  | .c d => Ev.pure d
  | .v i => evVar i
  | .g x => Ev.lift (Φ.gval x)
  | .tup a => (evEs a).bind fun l => Ev.lift (tupOk l)
  | .lst a => (evEs a).bind fun l => Ev.lift (lstOk l)
  | .dic k x => (evEs k).bind fun ks => (noEx (evEs x)).bind fun xs => Ev.lift ((dPutsOk (ks.zip xs) [] []).map fun p => .dic p.1 p.2)
  | .gl e => (evE e).bind evGl
  | .bin o a b => (evE a).bind fun x => (evE b).bind fun y => Ev.look fun σ G => op2 o σ G x y
  | .neg a => (evE a).bind fun x => match x with
    | .int i => Ev.pure (.int (-i))
    | _ => Ev.bad
  | .nt a => (evE a).bind fun x => (truth x).bind fun b => Ev.pure (.bl (!b))
  | .and a b => (evE a).bind fun x => (truth x).bind fun c => if c = true then evE b else Ev.pure (.bl false)
  | .or a b => (evE a).bind fun x => (truth x).bind fun c => if c = true then Ev.pure (.bl true) else evE b
  | .ife c a b => ((evE c).bind truth).bind fun t => if t = true then evE a else evE b
  | .cmp o a b => (evE a).bind fun x => (evE b).bind fun y => (Ev.look fun σ G => cmp2 o σ G x y).bind fun r => Ev.pure (.bl r)
  | .chn o p a b c => (evE a).bind fun x => (evE b).bind fun y => (Ev.look fun σ G => cmp2 o σ G x y).bind fun r =>
    if r = true then (evE c).bind fun z => (Ev.look fun σ G => cmp2 p σ G y z).bind fun r => Ev.pure (.bl r) else Ev.pure (.bl false)
  | .ix a i => (evE a).bind fun x => (evE i).bind fun k => Ev.look fun σ G => ixOf σ G x k
  | .sl a hl lo hh hi => (evE a).bind fun x => ((evE lo).bind (part hl)).bind fun l => ((evE hi).bind (part hh)).bind fun h => Ev.look fun σ G => slOf σ G x hl l hh h
  | .rev a => (evE a).bind fun x => Ev.look fun σ G => revOf σ G x
  | .fld a f => (evE a).bind fun x => Ev.look fun _ G => fldOf Φ.fok G x f
  | .gix x i => (evE i).bind fun k => Ev.lift ((Φ.gdic x).bind fun p => dGet p.1 p.2 k)
  | .gin i x => (evE i).bind fun k => Ev.lift ((Φ.gdic x).bind fun p => match k with
    | .str _ => some (.bl (dHas p.1 k))
    | _ => none)
  | .call f a => (evEs a).bind fun l => fun σ G => fromFO (Φ.call f l G) σ
  | .callk f a ks kw => (evEs a).bind fun l => (evEs kw).bind fun w => fun σ G => fromFO (Φ.kw f l ks w G) σ
  | .callv i a => (evVar i).bind fun d => match d with
    | .fn f => (evEs a).bind fun l => fun σ G => fromFO (Φ.call f l G) σ
    | _ => Ev.bad
  | .mk C a => (evEs a).bind fun l => (newObj (.ins C [])).bind fun d => Ev.bind (fun σ G => fromFO (Φ.call (initName C) (d :: l) G) σ) fun r => match r with
    | .non => Ev.pure d
    | _ => Ev.bad
  | .meth C m o a => (evE o).bind fun d => (Ev.look fun _ G => insOf G C m d).bind fun _ => (evEs a).bind fun l => fun σ G => fromFO (Φ.call (methName C m) (d :: l) G) σ
  | .methk C m o a ks kw => (evE o).bind fun d => (Ev.look fun _ G => insOf G C m d).bind fun _ => (evEs a).bind fun l => (evEs kw).bind fun w => fun σ G => fromFO (Φ.kw (methName C m) (d :: l) ks w G) σ
  | .bi b e => (evE e).bind fun x => Ev.look fun σ G => bi1 b σ G x
  | .bi2 b e f => (evE e).bind fun x => (evE f).bind fun y => Ev.lift (bi2 b x y)
  | .bm m o a => (evE o).bind fun d => (Ev.look fun σ G => tyOk m σ G d).bind fun _ => (evEs a).bind fun l => evBm m d l
  | .srt e f => (evE e).bind fun d => (Ev.look fun σ G => srcOf σ G d).bind fun l => noEx ((loopKeys (fun x σ G => fromFO (Φ.call f [x] G) σ) l []).bind fun ks => Ev.lift ((sortBy ks l).map .lst))
  | .srl e n g ns body => (evE e).bind fun d => (Ev.look fun _ G => tabOk G n g).bind fun _ => (Ev.look fun σ G => srcOf σ G d).bind fun l => noEx ((loopKeys (fun x σ G => fromFO (lamF (evE body) (ns.length - 1) x G) σ) l []).bind fun ks => Ev.lift ((sortBy ks l).map .lst))
  | .lc elt t it h c vs => (evI it).bind fun l => (inBlk vs (loopLc vs (asgT t) (if h = true then (evE c).bind truth else Ev.pure true) ((evE elt).bind settle) l [])).bind fun r => Ev.pure (.lst r)
  | .fs a => evFs a Str.empty
  | .fv e => (evE e).bind fun x => Ev.lift (match x with
    | .str y => strOk y
    | .int i => if i.natAbs.log2 < 1920 then some (.str (toString i)) else none
    | _ => none)
/-- the parts of a text -/
def evFs : Es → Str → Ev D
  | .nil, acc => Ev.pure (.str acc)
  | .cons e r, acc => (evE e).bind fun x => match x with
    | .str y => if (acc ++ y).length ≤ sizeLine then evFs r (acc ++ y) else Ev.bad
    | _ => Ev.bad
/-- arguments, settled -/
def evEs : Es → Ev (List D)
  | .nil => Ev.pure []
  | .cons e r => ((evE e).bind settle).bind fun d => (evEs r).bind fun l => Ev.pure (d :: l)
def evI : I → Ev (List D)
  | .seq e => (evE e).bind seqI
  | .rng e => (evE e).bind fun d => match d with
    | .int n => if -(2 ^ 62) ≤ n ∧ n < 2 ^ 62 then Ev.pure ((List.range n.toNat).map fun (k : Nat) => .int k) else Ev.bad
    | _ => Ev.bad
  | .rng2 a b => (evE a).bind fun x => (evE b).bind fun y => match x, y with
    | .int m, .int n => if (-(2 ^ 62) ≤ m ∧ m < 2 ^ 62) ∧ -(2 ^ 62) ≤ n ∧ n < 2 ^ 62 then Ev.pure ((List.range (n - m).toNat).map fun (k : Nat) => .int (m + k)) else Ev.bad
    | _, _ => Ev.bad
  | .enum e => (evE e).bind enumI
  | .zip a b => (evE a).bind fun x => (settle x).bind fun x => (evE b).bind fun y => (settle y).bind fun y => match x, y with
    | .lst l, .lst m => Ev.pure ((l.zip m).map fun p => .tup [p.1, p.2])
    | .tup l, .tup m => Ev.pure ((l.zip m).map fun p => .tup [p.1, p.2])
    | _, _ => Ev.bad
end
end

/-! ### statements -/
def asgNs (fr : Bool) (i : Nat) (d : D) : Ev Fl := (asgN fr i d).bind fun _ => Ev.pure .nx
/-- o[i] = x -/
def setIx (o i x : D) : Ev Unit := fun σ G => match ct σ G o, i with
  | .lst l, .int k => (match plc l.length k with
    | some j => putL o (l.set j x) σ G
    | none => .bad)
  | .dic ks xs, k => (match dPutOk ks xs k x with
    | some p => putD o p.1 p.2 σ G
    | none => .bad)
  | _, _ => .bad
def augN (i : Nat) (o : Op2) (x : D) : Ev Unit := fun σ G => match σ[i]? with
  | some (.val d) => (match op2 o σ G d x with
    | some (.int k) => .ok () (σ.set i (.val (.int k))) G
    | some (.str k) => .ok () (σ.set i (.val (.str k))) G
    | _ => .bad)
  | some (.lst l) => (match o, ct σ G x with
    | .add, .lst r => if l.length + r.length ≤ sizeLine then .ok () (σ.set i (.lst (l ++ r))) G else .bad
    | _, _ => .bad)
  | _ => .bad
section
variable (Φ : Fns)
mutual
def evS : S → Ev Fl
  | .ret e => (evE Φ e).bind fun d => (settle d).bind fun d => Ev.pure (.rt d)
  | .retN => Ev.pure (.rt .non)
  | .ex e => (evE Φ e).bind fun _ => Ev.pure .nx
  | .asg t e => (evE Φ e).bind fun d => (asgE e.fresh t d).bind fun _ => Ev.pure .nx
  | .par i a j b => (evE Φ a).bind fun x => (settle x).bind fun x => (evE Φ b).bind fun y => (settle y).bind fun y => (asgN a.fresh i x).bind fun _ => asgNs b.fresh j y
  | .asgF o f e => (evE Φ e).bind fun x => (settle x).bind fun x => (evE Φ o).bind fun d => (setFld Φ.fok d f x).bind fun _ => Ev.pure .nx
  | .asgI o i e => (evE Φ e).bind fun x => (settle x).bind fun x => (evE Φ o).bind fun d => (evE Φ i).bind fun k => (setIx d k x).bind fun _ => Ev.pure .nx
  | .aug i o e => (evVar i).bind fun _ => (evE Φ e).bind fun x => (augN i o x).bind fun _ => Ev.pure .nx
  | .augF a f o e => (evE Φ a).bind fun d => (Ev.look fun _ G => fldOf Φ.fok G d f).bind fun x => (evE Φ e).bind fun y => (Ev.look fun σ G => op2 o σ G x y).bind fun z => (setFld Φ.fok d f z).bind fun _ => Ev.pure .nx
  | .ifs c a b => ((evE Φ c).bind truth).bind fun t => if t = true then evSs a else evSs b
  | .for_ t it b => (evI Φ it).bind fun l => loopFor (asgT t) (evSs b) l
  | .whl c b => loopWhl ((evE Φ c).bind truth) (evSs b) Φ.fuel
  | .pass => Ev.pure .nx
  | .cont => Ev.pure .ct
  | .brk => Ev.pure .bk
  | .rais C a => Ev.bad
  | .tryS b h => Ev.bad
def evSs : Ss → Ev Fl
  | .nil => Ev.pure .nx
  | .cons s r => (evS s).bind fun f => match f with
    | .nx => evSs r
    | f => Ev.pure f
end
end

/-! ### a program -/
structure Fd where
  name : Str
  ps : List Str
  ns : List Str
  dfl : List D
  body : Ss
structure Prg where
  fns : List Fd
  gval : List (Str × D)
  gdic : List (Str × (List D × List D))
  flds : List (Str × Str)
def Prg.fd (P : Prg) (f : Str) : Option Fd := P.fns.find? fun d => d.name == f
def oneG {α : Type} (slots : List (Str × α)) (dl : Nat) (dfl : List α) (p : Str × Nat) : Option α := match slots.lookup p.1 with
  | some x => some x
  | none => if dl ≤ p.2 then dfl[p.2 - dl]? else none
def allG {α : Type} (slots : List (Str × α)) (dl : Nat) (dfl : List α) : List (Str × Nat) → Option (List α)
  | [] => some []
  | p :: r => match oneG slots dl dfl p, allG slots dl dfl r with
    | some x, some l => some (x :: l)
    | _, _ => none
/-- the arguments in the parameters' order: l by place, w by the names ks, the rest by defaults -/
def bindG {α : Type} (ps : List Str) (l : List α) (ks : List Str) (w dfl : List α) : Option (List α) := allG (ps.zip l ++ ks.zip w) (ps.length - dfl.length) dfl ps.zipIdx
def endF (r : Rs Fl) : FO := match r with
  | .ok .nx _ G => .ok .non G
  | .ok (.rt d) _ G => .ok d G
  | .ex x _ G => .ex x G
  | _ => .bad
def runB (Φ : Fns) (d : Fd) (l : List D) (G : List MO) : FO :=
  endF (evSs Φ d.body ((l.map Slot.val) ++ List.replicate (d.ns.length - l.length) Slot.no) G)
mutual
def rawF (P : Prg) (n : Nat) : Nat → Str → List D → List MO → FO
  | 0, _, _, _ => .bad
  | k + 1, f, l, G => match P.fd f with
    | some d => runB (fnsF P n k) d l G
    | none => .bad
def fnsF (P : Prg) (n : Nat) : Nat → Fns
  | 0 => ⟨fun _ _ _ => .bad, fun _ _ _ _ _ => .bad, n, fun x => P.gval.lookup x, fun x => P.gdic.lookup x, fun C f => P.flds.contains (C, f)⟩
  | k + 1 => ⟨fun f l G => match P.fd f with
      | some d => (match bindG d.ps l [] [] d.dfl with
        | some l => rawF P n k f l G
        | none => .bad)
      | none => .bad, fun f l ks w G => match P.fd f with
      | some d => (match bindG d.ps l ks w d.dfl with
        | some l => rawF P n k f l G
        | none => .bad)
      | none => .bad, n, fun x => P.gval.lookup x, fun x => P.gdic.lookup x, fun C f => P.flds.contains (C, f)⟩
end
def callF (P : Prg) (n k : Nat) (f : Str) (l : List D) (G : List MO) : FO := rawF P n k f l G
/-! ### Bools -/
theorem b2 {a b : Bool} (h : (a && b) = true) : a = true ∧ b = true := by rwa [Bool.and_eq_true] at h
theorem nt_ok {a : Bool} (h : (!a) = true) : a = false := by cases a <;> first | rfl | cases h
theorem of_dec {p : Prop} [Decidable p] (h : decide p = true) : p := of_decide_eq_true h
theorem no_ {P : Prop} (h : false = true) : P := by cases h
end Mi

end
section
set_option Elab.async false
set_option linter.all false
set_option maxRecDepth 100000
set_option maxHeartbeats 1000000
/-! Mi1: how data lie in the abstract heap; states; the readings of Ev. -/
namespace Mi
open PySem PySem.Spec PyProof.Rows L2
abbrev Sv := L2.St

/-- what never changes -/
structure Wd where
  P : Program
  w : World
  K : PySem.W.Frag
  mg : Str → Option Value

/-- a tuple, a list of the written part -/
def WrT (K : PySem.W.Frag) (a : Addr) (xs : List V) : Prop :=
  ∃ (o : Obj) (its : Array Value) (n : Nat), K.lookup a = some o ∧ o.cls = .type "tuple" ∧ o.data = .seq its n ∧ its.size ≤ sizeLine ∧ Vals xs its.toList

/-- a list of the written part -/
def WrL (K : PySem.W.Frag) (a : Addr) (xs : List V) : Prop :=
  ∃ (o : Obj) (its : Array Value) (n : Nat), K.lookup a = some o ∧ o.cls = .type "list" ∧ o.dict = none ∧ o.data = .seq its n ∧ its.size ≤ sizeLine ∧ Vals xs its.toList

/-- a dict's keys as the library has them -/
def DicO (W : Wd) (a : Addr) (ks : List D) (kvs vs : List V) (ho : HO) : Prop :=
  (ks.all D.leaf = true ∧ ∃ l : List (Key × V), ho = .dK l ∧ l.map (fun p => kV p.1) = kvs ∧ l.map (·.2) = vs) ∨
  (ks.all D.isTup = true ∧ ks ≠ [] ∧ ∃ (xs : List (NestedKey × Addr × Value)) (o : Obj) (es : Array DictEntry) (ep : Nat), ho = .ext (fun h => h.get? a = some o) ∧ o.ExactDict ∧ o.data = .dict es ep ∧
    es.toList = xs.map (entryOfKey (nestedKind W.P W.w)) ∧ (xs.map (·.1)).Nodup ∧ kvs = xs.map (fun x => V.ref x.2.1) ∧ Vals vs (xs.map (·.2.2)) ∧ D.nks ks = some (xs.map (·.1)) ∧ (a == sysModules) = false ∧ xs.length ≤ sizeLine)

mutual
def RD (W : Wd) (ρ : List Addr) (Fr : Addr → Prop) (H : Hp) : D → V → Prop
  | .non, v => v = .non
  | .bl b, v => v = .bl b
  | .int i, v => v = .int i
  | .str x, v => v = .str x
  | .tup l, v => ∃ a vs, v = .ref a ∧ ((Fr a ∧ Rd H a (.tup vs)) ∨ WrT W.K a vs) ∧ RDs W ρ Fr H l vs
  | .lst l, v => ∃ a vs, v = .ref a ∧ (Fr a ∧ H a = some (.lst vs)) ∧ RDs W ρ Fr H l vs
  | .scr l, v => ∃ a vs, v = .ref a ∧ ((Fr a ∧ Rd H a (.lst vs)) ∨ WrL W.K a vs) ∧ RDs W ρ Fr H l vs
  | .dic ks xs, v => ∃ a ho kvs vs, v = .ref a ∧ (Fr a ∧ H a = some ho) ∧ DicO W a ks kvs vs ho ∧ RDs W ρ Fr H ks kvs ∧ RDs W ρ Fr H xs vs
  | .ref n, v => ∃ a, ρ[n]? = some a ∧ v = .ref a
  | .slot _, _ => False
  | .fn x, v => ∃ f, W.mg x = some (.ref f) ∧ v = .ref f
def RDs (W : Wd) (ρ : List Addr) (Fr : Addr → Prop) (H : Hp) : List D → List V → Prop
  | [], vs => vs = []
  | d :: ds, vs => ∃ v r, vs = v :: r ∧ RD W ρ Fr H d v ∧ RDs W ρ Fr H ds r
end
/-- an operand -/
def RO (W : Wd) (ρ : List Addr) (Fr : Addr → Prop) (H : Hp) (σ : Sv) : D → V → Prop
  | .slot i, v => σ[i]? = some (some v)
  | d, v => RD W ρ Fr H d v

theorem RDs.length {W : Wd} {ρ : List Addr} {Fr : Addr → Prop} {H : Hp} : ∀ {ds : List D} {vs : List V}, RDs W ρ Fr H ds vs → ds.length = vs.length
  | [], _, h => by simp only [RDs] at h; subst h; rfl
  | d :: ds, vs, h => by
    simp only [RDs] at h
    obtain ⟨v, r, rfl, _, h⟩ := h
    simp only [List.length_cons, RDs.length h]
theorem RDs.get {W : Wd} {ρ : List Addr} {Fr : Addr → Prop} {H : Hp} : ∀ {ds : List D} {vs : List V} {i : Nat} {d : D}, RDs W ρ Fr H ds vs → ds[i]? = some d → ∃ v, vs[i]? = some v ∧ RD W ρ Fr H d v
  | [], _, i, d, h, e => by simp at e
  | x :: ds, vs, 0, d, h, e => by
    simp only [RDs] at h
    obtain ⟨v, r, rfl, h1, h⟩ := h
    simp at e
    subst e
    exact ⟨v, rfl, h1⟩
  | x :: ds, vs, i + 1, d, h, e => by
    simp only [RDs] at h
    obtain ⟨v, r, rfl, h1, h⟩ := h
    simp only [List.getElem?_cons_succ] at e ⊢
    exact RDs.get h e
theorem RDs.get' {W : Wd} {ρ : List Addr} {Fr : Addr → Prop} {H : Hp} : ∀ {ds : List D} {vs : List V} {i : Nat} {v : V}, RDs W ρ Fr H ds vs → vs[i]? = some v → ∃ d, ds[i]? = some d ∧ RD W ρ Fr H d v
  | [], _, i, d, h, e => by simp only [RDs] at h; subst h; simp at e
  | x :: ds, vs, 0, v, h, e => by
    simp only [RDs] at h
    obtain ⟨v, r, rfl, h1, h⟩ := h
    simp at e
    subst e
    exact ⟨x, rfl, h1⟩
  | x :: ds, vs, i + 1, v, h, e => by
    simp only [RDs] at h
    obtain ⟨v, r, rfl, h1, h⟩ := h
    simp only [List.getElem?_cons_succ] at e ⊢
    exact RDs.get' h e
theorem RDs.append {W : Wd} {ρ : List Addr} {Fr : Addr → Prop} {H : Hp} : ∀ {ds es : List D} {vs us : List V}, RDs W ρ Fr H ds vs → RDs W ρ Fr H es us → RDs W ρ Fr H (ds ++ es) (vs ++ us)
  | [], _, _, _, h, g => by simp only [RDs] at h; subst h; exact g
  | d :: ds, _, _, _, h, g => by
    simp only [RDs] at h
    obtain ⟨v, r, rfl, h1, h⟩ := h
    show RDs W ρ Fr H (d :: (ds ++ _)) (v :: (r ++ _))
    simp only [RDs]
    exact ⟨v, _, rfl, h1, RDs.append h g⟩
theorem RDs.nil {W : Wd} {ρ : List Addr} {Fr : Addr → Prop} {H : Hp} : RDs W ρ Fr H [] [] := by simp only [RDs]
theorem RDs.cons {W : Wd} {ρ : List Addr} {Fr : Addr → Prop} {H : Hp} {d : D} {ds : List D} {v : V} {vs : List V} (h : RD W ρ Fr H d v) (t : RDs W ρ Fr H ds vs) : RDs W ρ Fr H (d :: ds) (v :: vs) := by
  simp only [RDs]; exact ⟨v, vs, rfl, h, t⟩
theorem RDs.one {W : Wd} {ρ : List Addr} {Fr : Addr → Prop} {H : Hp} {d : D} {v : V} (h : RD W ρ Fr H d v) : RDs W ρ Fr H [d] [v] := .cons h .nil
theorem RDs.inv {W : Wd} {ρ : List Addr} {Fr : Addr → Prop} {H : Hp} {d : D} {ds : List D} {vs : List V} (h : RDs W ρ Fr H (d :: ds) vs) : ∃ v r, vs = v :: r ∧ RD W ρ Fr H d v ∧ RDs W ρ Fr H ds r := by
  simp only [RDs] at h; exact h
theorem RDs.inv0 {W : Wd} {ρ : List Addr} {Fr : Addr → Prop} {H : Hp} {vs : List V} (h : RDs W ρ Fr H [] vs) : vs = [] := by
  simp only [RDs] at h; exact h
theorem RDs.take {W : Wd} {ρ : List Addr} {Fr : Addr → Prop} {H : Hp} : ∀ (n : Nat) {ds : List D} {vs : List V}, RDs W ρ Fr H ds vs → RDs W ρ Fr H (ds.take n) (vs.take n)
  | 0, _, _, _ => .nil
  | n + 1, [], vs, h => by rw [h.inv0]; exact .nil
  | n + 1, d :: ds, vs, h => by
    obtain ⟨v, r, rfl, h1, h⟩ := h.inv
    exact .cons h1 (RDs.take n h)
theorem RDs.drop {W : Wd} {ρ : List Addr} {Fr : Addr → Prop} {H : Hp} : ∀ (n : Nat) {ds : List D} {vs : List V}, RDs W ρ Fr H ds vs → RDs W ρ Fr H (ds.drop n) (vs.drop n)
  | 0, _, _, h => h
  | n + 1, [], vs, h => by rw [h.inv0]; exact .nil
  | n + 1, d :: ds, vs, h => by
    obtain ⟨v, r, rfl, h1, h⟩ := h.inv
    exact RDs.drop n h
theorem RDs.reverse {W : Wd} {ρ : List Addr} {Fr : Addr → Prop} {H : Hp} : ∀ {ds : List D} {vs : List V}, RDs W ρ Fr H ds vs → RDs W ρ Fr H ds.reverse vs.reverse
  | [], vs, h => by rw [h.inv0]; exact .nil
  | d :: ds, vs, h => by
    obtain ⟨v, r, rfl, h1, h⟩ := h.inv
    rw [List.reverse_cons, List.reverse_cons]
    exact (RDs.reverse h).append (.one h1)
theorem RDs.set {W : Wd} {ρ : List Addr} {Fr : Addr → Prop} {H : Hp} {d : D} {v : V} (hd : RD W ρ Fr H d v) : ∀ (n : Nat) {ds : List D} {vs : List V}, RDs W ρ Fr H ds vs → RDs W ρ Fr H (ds.set n d) (vs.set n v)
  | _, [], vs, h => by rw [h.inv0]; exact .nil
  | 0, e :: ds, vs, h => by
    obtain ⟨u, r, rfl, h1, h⟩ := h.inv
    exact .cons hd h
  | n + 1, e :: ds, vs, h => by
    obtain ⟨u, r, rfl, h1, h⟩ := h.inv
    exact .cons h1 (RDs.set hd n h)
theorem RDs.eraseIdx {W : Wd} {ρ : List Addr} {Fr : Addr → Prop} {H : Hp} : ∀ (n : Nat) {ds : List D} {vs : List V}, RDs W ρ Fr H ds vs → RDs W ρ Fr H (ds.eraseIdx n) (vs.eraseIdx n)
  | _, [], vs, h => by rw [h.inv0]; exact .nil
  | 0, e :: ds, vs, h => by
    obtain ⟨u, r, rfl, h1, h⟩ := h.inv
    exact h
  | n + 1, e :: ds, vs, h => by
    obtain ⟨u, r, rfl, h1, h⟩ := h.inv
    exact .cons h1 (RDs.eraseIdx n h)

/-- what is known stays known -/
structure Mo (ρ : List Addr) (Fr : Addr → Prop) (H : Hp) (ρ' : List Addr) (Fr' : Addr → Prop) (H' : Hp) : Prop where
  r : ∀ (n : Nat) (a : Addr), ρ[n]? = some a → ρ'[n]? = some a
  f : ∀ a, Fr a → Fr' a
  h : ∀ a, Fr a → H' a = H a
theorem Mo.refl {ρ : List Addr} {Fr : Addr → Prop} {H : Hp} : Mo ρ Fr H ρ Fr H := ⟨fun _ _ h => h, fun _ h => h, fun _ _ => rfl⟩
theorem Mo.trans {ρ ρ1 ρ2 : List Addr} {Fr Fr1 Fr2 : Addr → Prop} {H H1 H2 : Hp} (a : Mo ρ Fr H ρ1 Fr1 H1) (b : Mo ρ1 Fr1 H1 ρ2 Fr2 H2) : Mo ρ Fr H ρ2 Fr2 H2 :=
  ⟨fun n x h => b.r n x (a.r n x h), fun x h => b.f x (a.f x h), fun x h => (b.h x (a.f x h)).trans (a.h x h)⟩
theorem Rd.at {H H' : Hp} {a : Addr} {u : HO} (h : Rd H a u) (e : H' a = H a) : Rd H' a u := by
  rcases h with h | ⟨o, h⟩
  · exact .inl (e.trans h)
  · exact .inr ⟨o, e.trans h⟩
section
variable {W : Wd} {ρ ρ' : List Addr} {Fr Fr' : Addr → Prop} {H H' : Hp}
mutual
theorem RD.mono (m : Mo ρ Fr H ρ' Fr' H') : ∀ (d : D) (v : V), RD W ρ Fr H d v → RD W ρ' Fr' H' d v
  | .non, _, h => by simp only [RD] at h ⊢; exact h
  | .bl _, _, h => by simp only [RD] at h ⊢; exact h
  | .int _, _, h => by simp only [RD] at h ⊢; exact h
  | .str _, _, h => by simp only [RD] at h ⊢; exact h
  | .tup l, _, h => by
    simp only [RD] at h ⊢
    obtain ⟨a, vs, rfl, h1, h2⟩ := h
    refine ⟨a, vs, rfl, ?_, RDs.mono m l vs h2⟩
    rcases h1 with ⟨f, g⟩ | h1
    · exact .inl ⟨m.f a f, Rd.at g (m.h a f)⟩
    · exact .inr h1
  | .lst l, _, h => by
    simp only [RD] at h ⊢
    obtain ⟨a, vs, rfl, ⟨f, g⟩, h2⟩ := h
    exact ⟨a, vs, rfl, ⟨m.f a f, (m.h a f).trans g⟩, RDs.mono m l vs h2⟩
  | .scr l, _, h => by
    simp only [RD] at h ⊢
    obtain ⟨a, vs, rfl, h1, h2⟩ := h
    refine ⟨a, vs, rfl, ?_, RDs.mono m l vs h2⟩
    rcases h1 with ⟨f, g⟩ | h1
    · exact .inl ⟨m.f a f, Rd.at g (m.h a f)⟩
    · exact .inr h1
  | .dic ks xs, _, h => by
    simp only [RD] at h ⊢
    obtain ⟨a, ho, kvs, vs, rfl, ⟨f, g⟩, h1, h2, h3⟩ := h
    exact ⟨a, ho, kvs, vs, rfl, ⟨m.f a f, (m.h a f).trans g⟩, h1, RDs.mono m ks kvs h2, RDs.mono m xs vs h3⟩
  | .ref n, _, h => by
    simp only [RD] at h ⊢
    obtain ⟨a, h1, h2⟩ := h
    exact ⟨a, m.r _ _ h1, h2⟩
  | .slot _, _, h => by simp only [RD] at h
  | .fn x, _, h => by simp only [RD] at h ⊢; exact h
theorem RDs.mono (m : Mo ρ Fr H ρ' Fr' H') : ∀ (ds : List D) (vs : List V), RDs W ρ Fr H ds vs → RDs W ρ' Fr' H' ds vs
  | [], _, h => by simp only [RDs] at h ⊢; exact h
  | d :: ds, _, h => by
    simp only [RDs] at h ⊢
    obtain ⟨v, r, e, h1, h2⟩ := h
    exact ⟨v, r, e, RD.mono m d v h1, RDs.mono m ds r h2⟩
end
theorem RO.mono (m : Mo ρ Fr H ρ' Fr' H') {σ : Sv} {d : D} {v : V} (h : RO W ρ Fr H σ d v) : RO W ρ' Fr' H' σ d v := by
  cases d with
  | slot i => exact h
  | _ => exact RD.mono m _ _ h
theorem RO.rd {σ : Sv} {d : D} {v : V} (h : RO W ρ Fr H σ d v) (hs : ∀ i, d ≠ .slot i) : RD W ρ Fr H d v := by
  cases d with
  | slot i => exact absurd rfl (hs i)
  | _ => exact h
theorem RO.of {σ : Sv} {d : D} {v : V} (h : RD W ρ Fr H d v) : RO W ρ Fr H σ d v := by
  cases d with
  | slot i => simp only [RD] at h
  | _ => exact h
end

/-- the fields of an instance -/
def Flds (W : Wd) (ρ : List Addr) (Fr : Addr → Prop) (H : Hp) (fs : List (Str × D)) (gs : List (Str × V)) : Prop := fs.map (·.1) = gs.map (·.1) ∧ RDs W ρ Fr H (fs.map (·.2)) (gs.map (·.2))
/-- the def g: its code object c, the table a of that, its name q -/
def TabL (K : PySem.W.Frag) (g : Str × Option Str) (c a : Addr) (q : Str) : Prop :=
  ∃ (oc : Value) (od : Option Addr) (fd : FuncData) (osl : Array (Option Value)), K.lookup (He.fAd K g) = some ⟨oc, od, .func fd, osl⟩ ∧ fd.code = .ref c ∧ fd.qualname = q ∧ PySem.W.codeHdIn K c a = true
/-- a shared object as it lies -/
def MR (W : Wd) (ρ : List Addr) (Fr : Addr → Prop) (H : Hp) (a : Addr) : MO → HO → Prop
  | .lst l, ho => ∃ vs, ho = .lst vs ∧ RDs W ρ Fr H l vs
  | .dic ks xs, ho => ∃ kvs vs, DicO W a ks kvs vs ho ∧ RDs W ρ Fr H ks kvs ∧ RDs W ρ Fr H xs vs
  | .ins C fs, ho => ∃ Ca dx gs, W.mg C = some (.ref Ca) ∧ ho = .ins Ca dx gs ∧ Flds W ρ Fr H fs gs
  | .tab g, ho => ∃ (ps : Array Value) (c : Addr) (q : Str), ho = .tbl ps ∧ TriplesOk ps.toList ∧ TabL W.K g c a q ∧ ∀ pos cv, codeAmong pos ps.toList = some cv → ∃ c', cv = .ref c' ∧ Fr c' ∧ H c' = some (LamX.CodeO c' (q ++ ".<locals>." ++ "<lambda>"))
/-- what a name owns -/
def OR (W : Wd) (ρ : List Addr) (Fr : Addr → Prop) (H : Hp) (a : Addr) : Slot → HO → Prop
  | .lst l, ho => ∃ vs, ho = .lst vs ∧ RDs W ρ Fr H l vs
  | .dic ks xs, ho => ∃ kvs vs, DicO W a ks kvs vs ho ∧ RDs W ρ Fr H ks kvs ∧ RDs W ρ Fr H xs vs
  | _, _ => False
def Slot.own : Slot → Bool
  | .lst _ => true
  | .dic _ _ => true
  | _ => false
theorem MR.mono {W : Wd} {ρ ρ' : List Addr} {Fr Fr' : Addr → Prop} {H H' : Hp} (m : Mo ρ Fr H ρ' Fr' H') {a : Addr} {o : MO} {ho : HO} (h : MR W ρ Fr H a o ho) : MR W ρ' Fr' H' a o ho := by
  cases o with
  | lst l =>
    obtain ⟨vs, e, r⟩ := h
    exact ⟨vs, e, r.mono m⟩
  | dic ks xs =>
    obtain ⟨kvs, vs, e, r, q⟩ := h
    exact ⟨kvs, vs, e, r.mono m, q.mono m⟩
  | ins C fs =>
    obtain ⟨Ca, dx, gs, e, e2, r, q⟩ := h
    exact ⟨Ca, dx, gs, e, e2, r, q.mono m⟩
  | tab g =>
    obtain ⟨ps, c, q, e, t, l, h⟩ := h
    refine ⟨ps, c, q, e, t, l, fun pos cv hc => ?_⟩
    obtain ⟨c', e1, e2, e3⟩ := h pos cv hc
    exact ⟨c', e1, m.f c' e2, (m.h c' e2).trans e3⟩
theorem OR.mono {W : Wd} {ρ ρ' : List Addr} {Fr Fr' : Addr → Prop} {H H' : Hp} (m : Mo ρ Fr H ρ' Fr' H') {a : Addr} {o : Slot} {ho : HO} (h : OR W ρ Fr H a o ho) : OR W ρ' Fr' H' a o ho := by
  cases o with
  | lst l =>
    obtain ⟨vs, e, r⟩ := h
    exact ⟨vs, e, r.mono m⟩
  | dic ks xs =>
    obtain ⟨kvs, vs, e, r, q⟩ := h
    exact ⟨kvs, vs, e, r.mono m, q.mono m⟩
  | no => exact h
  | val _ => exact h

/-- the shared objects -/
structure GS (W : Wd) (G : List MO) (H : Hp) (ρ : List Addr) (Fr : Addr → Prop) : Prop where
  gl : ρ.length = G.length
  nd : ρ.Nodup
  nf : ∀ a ∈ ρ, ¬ Fr a
  ob : ∀ (n : Nat) (o : MO), G[n]? = some o → ∃ a ho, ρ[n]? = some a ∧ H a = some ho ∧ MR W ρ Fr H a o ho
  ft : ∀ a, Fr a → ∃ o, H a = some o
/-- where an activation began -/
structure Act where
  H : Hp
  ρ : List Addr
  Fr : Addr → Prop
/-- what a run leaves alone, what it may make -/
structure Ex (A : Act) (H : Hp) (ρ : List Addr) (Fr : Addr → Prop) : Prop where
  r : ∀ (n : Nat) (a : Addr), A.ρ[n]? = some a → ρ[n]? = some a
  f : ∀ a, A.Fr a → Fr a
  k : ∀ a o, A.H a = some o → a ∉ A.ρ → H a = some o
  nr : ∀ a ∈ ρ, a ∈ A.ρ ∨ A.H a = none
  nF : ∀ a, Fr a → A.Fr a ∨ A.H a = none
theorem Ex.refl {H : Hp} {ρ : List Addr} {Fr : Addr → Prop} : Ex ⟨H, ρ, Fr⟩ H ρ Fr := ⟨fun _ _ h => h, fun _ h => h, fun _ _ h _ => h, fun _ h => .inl h, fun _ h => .inl h⟩

/-- a point of a run -/
structure Pt where
  S : List Slot
  G : List MO
  H : Hp
  ρ : List Addr
  Fr : Addr → Prop
/-- .. lies so over the names' values σ -/
structure SR (W : Wd) (A : Act) (σ : Sv) (p : Pt) : Prop where
  g : GS W p.G p.H p.ρ p.Fr
  e : Ex A p.H p.ρ p.Fr
  sl : p.S.length = σ.length
  sv : ∀ (i : Nat) (d : D), p.S[i]? = some (.val d) → ∃ v, σ[i]? = some (some v) ∧ RD W p.ρ p.Fr p.H d v
  so : ∀ (i : Nat) (s : Slot), p.S[i]? = some s → s.own = true → ∃ a ho, σ[i]? = some (some (.ref a)) ∧ p.H a = some ho ∧ OR W p.ρ p.Fr p.H a s ho ∧ ¬ p.Fr a ∧ a ∉ p.ρ ∧ A.H a = none
  si : ∀ (i j : Nat) (a : Addr) (s t : Slot), p.S[i]? = some s → s.own = true → p.S[j]? = some t → t.own = true → σ[i]? = some (some (.ref a)) → σ[j]? = some (some (.ref a)) → i = j
abbrev Mp (p q : Pt) : Prop := Mo p.ρ p.Fr p.H q.ρ q.Fr q.H

/-- an exception as it lies -/
def XR (W : Wd) (p : Pt) (x : Exn) (cls : Value) (d : Option Addr) : Prop := ∃ Ca dd gs, W.mg x.cls = some (.ref Ca) ∧ cls = .ref Ca ∧ d = some dd ∧ p.H dd = some (.xd gs) ∧ Flds W p.ρ p.Fr p.H x.fs gs

/-- m, run at p, ends well: R of what it gives and of each state that fits -/
def wpD {α : Type} (W : Wd) (A : Act) (XW : WX) (σ : Sv) (m : Ev α) (p : Pt) (R : α → Pt → Prop) : Prop := SR W A σ p ∧ match m p.S p.G with
  | .ok a S G => ∀ q : Pt, q.S = S → q.G = G → SR W A σ q → Mp p q → R a q
  | .ex x S G => ∀ (q : Pt) (cls : Value) (d : Option Addr), q.S = S → q.G = G → SR W A σ q → Mp p q → XR W q x cls d → XW cls d σ q.H
  | .bad => False
/-- the same where names are stored: the values change -/
def wpS {α : Type} (W : Wd) (A : Act) (XW : WX) (σ : Sv) (m : Ev α) (p : Pt) (R : α → Sv → Pt → Prop) : Prop := SR W A σ p ∧ match m p.S p.G with
  | .ok a S G => ∀ (σ' : Sv) (q : Pt), q.S = S → q.G = G → SR W A σ' q → Mp p q → R a σ' q
  | .ex x S G => ∀ (σ' : Sv) (q : Pt) (cls : Value) (d : Option Addr), q.S = S → q.G = G → SR W A σ' q → Mp p q → XR W q x cls d → XW cls d σ' q.H
  | .bad => False
section
variable {W : Wd} {A : Act} {XW : WX} {σ : Sv} {α β : Type} {m : Ev α} {p : Pt}
theorem wpD.mono {R R' : α → Pt → Prop} (h : wpD W A XW σ m p R) (k : ∀ a q, SR W A σ q → Mp p q → R a q → R' a q) : wpD W A XW σ m p R' := by
  refine ⟨h.1, ?_⟩
  have h2 := h.2
  revert h2
  cases m p.S p.G with
  | ok a S G => exact fun h q e1 e2 s mo => k a q s mo (h q e1 e2 s mo)
  | ex x S G => exact id
  | bad => exact id
theorem wpD.bind {k : α → Ev β} {R : β → Pt → Prop} (h : wpD W A XW σ (m.bind k) p R) : wpD W A XW σ m p fun a q => wpD W A XW σ (k a) q R := by
  refine ⟨h.1, ?_⟩
  have h2 := h.2
  unfold Ev.bind at h2
  revert h2
  cases m p.S p.G with
  | ok a S G =>
    intro h q e1 e2 s mo
    subst e1 e2
    refine ⟨s, ?_⟩
    have h : match k a q.S q.G with
      | .ok a S G => ∀ q : Pt, q.S = S → q.G = G → SR W A σ q → Mp p q → R a q
      | .ex x S G => ∀ (q : Pt) (cls : Value) (d : Option Addr), q.S = S → q.G = G → SR W A σ q → Mp p q → XR W q x cls d → XW cls d σ q.H
      | .bad => False := h
    revert h
    cases k a q.S q.G with
    | ok b S G => exact fun h r e1 e2 s2 m2 => h r e1 e2 s2 (mo.trans m2)
    | ex x S G => exact fun h r cls d e1 e2 s2 m2 => h r cls d e1 e2 s2 (mo.trans m2)
    | bad => exact id
  | ex x S G => exact id
  | bad => exact id
theorem wpS.mono {R R' : α → Sv → Pt → Prop} (h : wpS W A XW σ m p R) (k : ∀ a σ' q, SR W A σ' q → Mp p q → R a σ' q → R' a σ' q) : wpS W A XW σ m p R' := by
  refine ⟨h.1, ?_⟩
  have h2 := h.2
  revert h2
  cases m p.S p.G with
  | ok a S G => exact fun h σ' q e1 e2 s mo => k a σ' q s mo (h σ' q e1 e2 s mo)
  | ex x S G => exact id
  | bad => exact id
theorem wpS.bind {k : α → Ev β} {R : β → Sv → Pt → Prop} (h : wpS W A XW σ (m.bind k) p R) : wpS W A XW σ m p fun a σ' q => wpS W A XW σ' (k a) q R := by
  refine ⟨h.1, ?_⟩
  have h2 := h.2
  unfold Ev.bind at h2
  revert h2
  cases m p.S p.G with
  | ok a S G =>
    intro h σ1 q e1 e2 s mo
    subst e1 e2
    refine ⟨s, ?_⟩
    have h : match k a q.S q.G with
      | .ok a S G => ∀ (σ' : Sv) (q : Pt), q.S = S → q.G = G → SR W A σ' q → Mp p q → R a σ' q
      | .ex x S G => ∀ (σ' : Sv) (q : Pt) (cls : Value) (d : Option Addr), q.S = S → q.G = G → SR W A σ' q → Mp p q → XR W q x cls d → XW cls d σ' q.H
      | .bad => False := h
    revert h
    cases k a q.S q.G with
    | ok b S G => exact fun h σ2 r e1 e2 s2 m2 => h σ2 r e1 e2 s2 (mo.trans m2)
    | ex x S G => exact fun h σ2 r cls d e1 e2 s2 m2 => h σ2 r cls d e1 e2 s2 (mo.trans m2)
    | bad => exact id
  | ex x S G => exact id
  | bad => exact id
/-- an expression ahead of what stores -/
theorem wpS.bindD {k : α → Ev β} {R : β → Sv → Pt → Prop} (h : wpS W A XW σ (m.bind k) p R) : wpD W A XW σ m p fun a q => wpS W A XW σ (k a) q R := by
  have h1 := h.bind
  refine ⟨h1.1, ?_⟩
  have h2 := h1.2
  revert h2
  cases m p.S p.G with
  | ok a S G => exact fun h q e1 e2 s mo => h σ q e1 e2 s mo
  | ex x S G => exact fun h q cls d e1 e2 s mo x => h σ q cls d e1 e2 s mo x
  | bad => exact id
theorem wpS.toD {R : α → Sv → Pt → Prop} (h : wpS W A XW σ m p R) : wpD W A XW σ m p fun a q => R a σ q := by
  refine ⟨h.1, ?_⟩
  have h2 := h.2
  revert h2
  cases m p.S p.G with
  | ok a S G => exact fun h q e1 e2 s mo => h σ q e1 e2 s mo
  | ex x S G => exact fun h q cls d e1 e2 s mo x => h σ q cls d e1 e2 s mo x
  | bad => exact id
theorem wpD.pure {a : α} {R : α → Pt → Prop} (h : wpD W A XW σ (Ev.pure a) p R) : R a p := h.2 p rfl rfl h.1 Mo.refl
theorem wpD.toPure {a : α} {R : α → Pt → Prop} (s : SR W A σ p) (h : ∀ q, SR W A σ q → q.S = p.S → q.G = p.G → Mp p q → R a q) : wpD W A XW σ (Ev.pure a) p R := ⟨s, fun q e1 e2 s mo => h q s e1 e2 mo⟩
theorem wpS.pure {a : α} {R : α → Sv → Pt → Prop} (h : wpS W A XW σ (Ev.pure a) p R) : R a σ p := h.2 σ p rfl rfl h.1 Mo.refl
theorem wpD.lift {o : Option α} {R : α → Pt → Prop} (h : wpD W A XW σ (Ev.lift o) p R) : ∃ a, o = some a ∧ R a p := by
  obtain ⟨s, h⟩ := h
  unfold Ev.lift at h
  cases o with
  | none => exact h.elim
  | some a => exact ⟨a, rfl, h p rfl rfl s Mo.refl⟩
theorem wpD.look {f : List Slot → List MO → Option α} {R : α → Pt → Prop} (h : wpD W A XW σ (Ev.look f) p R) : ∃ a, f p.S p.G = some a ∧ ∀ q : Pt, q.S = p.S → q.G = p.G → SR W A σ q → Mp p q → R a q := by
  obtain ⟨s, h⟩ := h
  unfold Ev.look at h
  cases e : f p.S p.G with
  | none => simp only [e] at h
  | some a =>
    simp only [e] at h
    exact ⟨a, rfl, h⟩
theorem wpD.bad {R : α → Pt → Prop} (h : wpD W A XW σ Ev.bad p R) : False := h.2
theorem wpS.bad {R : α → Sv → Pt → Prop} (h : wpS W A XW σ Ev.bad p R) : False := h.2
end

/-- readings -/
def teD (W : Wd) (A : Act) (XW : WX) (m : Ev D) : TE := fun σ H Q => ∃ p : Pt, p.H = H ∧ wpD W A XW σ m p fun d q => ∀ v, RO W q.ρ q.Fr q.H σ d v → Q v q.H
def ttD (W : Wd) (A : Act) (XW : WX) (m : Ev Bool) : TT := fun σ H Q => ∃ p : Pt, p.H = H ∧ wpD W A XW σ m p fun b q => Q b q.H
def taD (W : Wd) (A : Act) (XW : WX) (m : Ev (List D)) : TA := fun σ H Q => ∃ p : Pt, p.H = H ∧ wpD W A XW σ m p fun ds q => ∀ vs, RDs W q.ρ q.Fr q.H ds vs → Q vs q.H
def tsD (W : Wd) (A : Act) (XW : WX) (m : Ev Fl) : TS := fun E σ H => ∃ p : Pt, p.H = H ∧ wpS W A XW σ m p fun f σ' q => match f with
  | .nx => E.nx σ' q.H
  | .bk => E.bk σ' q.H
  | .ct => E.ct σ' q.H
  | .rt d => ∀ v, RD W q.ρ q.Fr q.H d v → E.rt v q.H
def tgD (W : Wd) (A : Act) (XW : WX) (t : Tg) : TG := fun v σ H Q => ∃ (p : Pt) (d : D), p.H = H ∧ RD W p.ρ p.Fr p.H d v ∧ wpS W A XW σ (asgT t d) p fun _ σ' q => Q σ' q.H
def tgsD (W : Wd) (A : Act) (XW : WX) (t : Tgs) : TGs := fun vs σ H Q => ∃ (p : Pt) (ds : List D), p.H = H ∧ RDs W p.ρ p.Fr p.H ds vs ∧ wpS W A XW σ (asgTs t ds) p fun _ σ' q => Q σ' q.H
theorem PE.imp {X : Cx} {e : Expr} {t u : TE} (h : PE X e t) (k : ∀ σ H Q, u σ H Q → t σ H Q) : PE X e u := ⟨fun pins s σ H Q I q => h.run pins s σ H Q I (k σ H Q q)⟩
theorem PT.imp {X : Cx} {e : Expr} {t u : TT} (h : PT X e t) (k : ∀ σ H Q, u σ H Q → t σ H Q) : PT X e u := ⟨fun pins s σ H Q I q => h.run pins s σ H Q I (k σ H Q q)⟩
theorem PA.imp {X : Cx} {e : List Expr} {t u : TA} (h : PA X e t) (k : ∀ σ H Q, u σ H Q → t σ H Q) : PA X e u := ⟨fun pos pins s σ H Q I q => h.run pos pins s σ H Q I (k σ H Q q)⟩
theorem PS.imp {X : Cx} {e : Stmt} {t u : TS} (h : PS X e t) (k : ∀ D σ H, u D σ H → t D σ H) : PS X e u := ⟨fun pins s σ H D I q => h.run pins s σ H D I (k D σ H q)⟩
theorem PSs.imp {X : Cx} {e : List Stmt} {t u : TS} (h : PSs X e t) (k : ∀ D σ H, u D σ H → t D σ H) : PSs X e u := ⟨fun pins s σ H D I q => h.run pins s σ H D I (k D σ H q)⟩
theorem PG.imp {X : Cx} {e : Expr} {t u : TG} (h : PG X e t) (k : ∀ v σ H Q, u v σ H Q → t v σ H Q) : PG X e u := ⟨fun pins s σ H v w Q I r q => h.run pins s σ H v w Q I r (k v σ H Q q)⟩
theorem teD.run {W : Wd} {A : Act} {XW : WX} {m : Ev D} {σ : Sv} {H : Hp} {Q : VK} {p : Pt} (e : p.H = H) (h : wpD W A XW σ m p fun d q => ∀ v, RO W q.ρ q.Fr q.H σ d v → Q v q.H) : teD W A XW m σ H Q := ⟨p, e, h⟩
end Mi

end
section
set_option Elab.async false
set_option linter.all false
set_option maxRecDepth 100000
set_option maxHeartbeats 1000000
/-! Mi2: changes of states. -/
namespace Mi
open PySem PySem.Spec PyProof.Rows L2

def Pt.put (p : Pt) (a : Addr) (ho : HO) : Pt := { p with H := upd p.H a ho }
/-- a is frozen -/
def Pt.frz (p : Pt) (a : Addr) : Pt := { p with Fr := fun b => b = a ∨ p.Fr b }
section
variable {W : Wd} {A : Act} {σ : Sv} {p : Pt} {a : Addr} {ho : HO}
/-- writing where nothing frozen lies -/
theorem mo_put (h : ¬ p.Fr a) : Mp p (p.put a ho) := ⟨fun _ _ h => h, fun _ h => h, fun b hb => upd_ne (fun e => h (e ▸ hb))⟩
theorem mo_frz : Mp p (p.frz a) := ⟨fun _ _ h => h, fun _ h => .inr h, fun _ _ => rfl⟩
theorem SR.nfr (s : SR W A σ p) (h : p.H a = none) : ¬ p.Fr a := fun f => by
  obtain ⟨o, e⟩ := s.g.ft a f
  rw [h] at e; cases e
theorem SR.nro (s : SR W A σ p) (h : p.H a = none) : a ∉ p.ρ := fun m => by
  obtain ⟨n, hn, e⟩ := List.getElem_of_mem m
  have hl := s.g.gl
  have hg : n < p.G.length := by omega
  obtain ⟨b, o, e1, e2, _⟩ := s.g.ob n p.G[n] (List.getElem?_eq_getElem hg)
  rw [List.getElem?_eq_getElem hn, e] at e1
  cases e1
  rw [h] at e2; cases e2
theorem SR.nbase (s : SR W A σ p) (h : p.H a = none) : A.H a = none := by
  cases q : A.H a with
  | none => rfl
  | some o =>
    by_cases m : a ∈ A.ρ
    · obtain ⟨n, hn, e⟩ := List.getElem_of_mem m
      have e1 := s.e.r n a (by rw [List.getElem?_eq_getElem hn, e])
      exact absurd (List.mem_of_getElem? e1) (s.nro h)
    · have := s.e.k a o q m
      rw [h] at this; cases this
/-- an address that no name owns -/
theorem SR.nown (s : SR W A σ p) (h : p.H a = none) {i : Nat} {t : Slot} (e : p.S[i]? = some t) (o : t.own = true) : σ[i]? ≠ some (some (.ref a)) := fun q => by
  obtain ⟨b, ho, e1, e2, _⟩ := s.so i t e o
  rw [q] at e1
  cases e1
  rw [h] at e2; cases e2
/-- a new object, frozen at once -/
theorem SR.newF (s : SR W A σ p) (h : p.H a = none) : SR W A σ ((p.put a ho).frz a) := by
  have m : Mp p ((p.put a ho).frz a) := (mo_put (s.nfr h)).trans mo_frz
  have nr := s.nro h
  have up : ∀ b o, p.H b = some o → upd p.H a ho b = some o := fun b o e => by
    rw [upd_ne (show b ≠ a from fun z => by rw [z, h] at e; cases e)]; exact e
  refine ⟨⟨s.g.gl, s.g.nd, fun b hb hf => ?_, fun n o e => ?_, fun b hf => ?_⟩, ⟨s.e.r, fun b hb => .inr (s.e.f b hb), fun b o e hb => up _ _ (s.e.k b o e hb), s.e.nr, fun b hb => ?_⟩, s.sl, fun i d e => ?_, fun i t e ow => ?_, s.si⟩
  · rcases hf with rfl | hf
    · exact nr hb
    · exact s.g.nf b hb hf
  · obtain ⟨b, o2, e1, e2, r⟩ := s.g.ob n o e
    exact ⟨b, o2, e1, up _ _ e2, r.mono m⟩
  · rcases hf with rfl | hf
    · exact ⟨ho, upd_same⟩
    · obtain ⟨o, e⟩ := s.g.ft b hf
      exact ⟨o, up _ _ e⟩
  · rcases hb with rfl | hb
    · exact .inr (s.nbase h)
    · exact s.e.nF b hb
  · obtain ⟨v, e1, r⟩ := s.sv i d e
    exact ⟨v, e1, r.mono m⟩
  · obtain ⟨b, o, e1, e2, r, f, q, z⟩ := s.so i t e ow
    refine ⟨b, o, e1, up _ _ e2, r.mono m, fun hf => ?_, q, z⟩
    rcases hf with rfl | hf
    · rw [h] at e2; cases e2
    · exact f hf
theorem SR.newM (s : SR W A σ p) (h : p.H a = none) : Mp p ((p.put a ho).frz a) := (mo_put (s.nfr h)).trans mo_frz
/-- a name's object is frozen -/
theorem SR.freeze (s : SR W A σ p) {i : Nat} {t : Slot} {d : D} (e : p.S[i]? = some t) (o : t.own = true) (e1 : σ[i]? = some (some (.ref a))) (hd : RD W p.ρ (fun b => b = a ∨ p.Fr b) p.H d (.ref a)) :
    SR W A σ { (p.frz a) with S := p.S.set i (.val d) } := by
  have m : Mp p (p.frz a) := mo_frz
  obtain ⟨b, ob, q1, q2, r, f, nr, z⟩ := s.so i t e o
  rw [e1] at q1
  cases q1
  have hi : i < p.S.length := (List.getElem?_eq_some_iff.mp e).1
  refine ⟨⟨s.g.gl, s.g.nd, fun b hb hf => ?_, fun n o e => ?_, fun b hf => ?_⟩, ⟨s.e.r, fun b hb => .inr (s.e.f b hb), s.e.k, s.e.nr, fun b hb => ?_⟩, by simpa using s.sl, fun j d' e' => ?_, fun j t' e' o' => ?_, fun j k b t1 t2 h1 h2 h3 h4 => ?_⟩
  · rcases hf with rfl | hf
    · exact nr hb
    · exact s.g.nf b hb hf
  · obtain ⟨b, o2, e1, e2, r⟩ := s.g.ob n o e
    exact ⟨b, o2, e1, e2, r.mono m⟩
  · rcases hf with rfl | hf
    · exact ⟨_, q2⟩
    · exact s.g.ft b hf
  · rcases hb with rfl | hb
    · exact .inr z
    · exact s.e.nF b hb
  · by_cases hj : i = j
    · subst hj
      rw [List.getElem?_set_self hi] at e'
      cases e'
      exact ⟨_, e1, hd⟩
    · rw [List.getElem?_set_ne hj] at e'
      obtain ⟨v, h1, r⟩ := s.sv j d' e'
      exact ⟨v, h1, r.mono m⟩
  · by_cases hj : i = j
    · subst hj
      rw [List.getElem?_set_self hi] at e'
      cases e'
      cases o'
    · rw [List.getElem?_set_ne hj] at e'
      obtain ⟨b, o2, h1, h2, r, f', n', z'⟩ := s.so j t' e' o'
      refine ⟨b, o2, h1, h2, r.mono m, fun hf => ?_, n', z'⟩
      rcases hf with rfl | hf
      · exact hj (s.si i j b t t' e o e' o' e1 h1)
      · exact f' hf
  · have hj : i ≠ j := fun z => by
      subst z
      rw [List.getElem?_set_self hi] at h1
      cases h1
      cases h2
    have hk : i ≠ k := fun z => by
      subst z
      rw [List.getElem?_set_self hi] at h3
      cases h3
      cases h4
    rw [List.getElem?_set_ne hj] at h1
    rw [List.getElem?_set_ne hk] at h3
    exact s.si j k b t1 t2 h1 h2 h3 h4
/-- a name's own object is changed -/
theorem SR.setOwn (s : SR W A σ p) {i : Nat} {t u : Slot} (e : p.S[i]? = some t) (o : t.own = true) (e1 : σ[i]? = some (some (.ref a))) (ou : u.own = true) (r : OR W p.ρ p.Fr p.H a u ho) :
    SR W A σ { (p.put a ho) with S := p.S.set i u } ∧ Mp p (p.put a ho) := by
  obtain ⟨b, ob, q1, q2, _, f, nr, z⟩ := s.so i t e o
  rw [e1] at q1
  cases q1
  have m : Mp p (p.put a ho) := mo_put f
  have hi : i < p.S.length := (List.getElem?_eq_some_iff.mp e).1
  refine ⟨⟨⟨s.g.gl, s.g.nd, s.g.nf, fun n o e => ?_, fun b hf => ?_⟩, ⟨s.e.r, s.e.f, fun b o' e hb => ?_, s.e.nr, s.e.nF⟩, by simpa using s.sl, fun j d' e' => ?_, fun j t' e' o' => ?_, fun j k b t1 t2 h1 h2 h3 h4 => ?_⟩, m⟩
  · obtain ⟨b, o2, e1, e2, r⟩ := s.g.ob n o e
    exact ⟨b, o2, e1, by show upd p.H a ho b = _; rw [upd_ne (show b ≠ a from fun z => nr (z ▸ List.mem_of_getElem? e1))]; exact e2, r.mono m⟩
  · show ∃ o, upd p.H a ho b = some o
    rw [upd_ne (show b ≠ a from fun z => f (z ▸ hf))]
    exact s.g.ft b hf
  · show upd p.H a ho b = _
    rw [upd_ne (show b ≠ a from fun q => by rw [q, z] at e; cases e)]
    exact s.e.k b o' e hb
  · by_cases hj : i = j
    · subst hj
      rw [List.getElem?_set_self hi] at e'
      cases e'
      cases ou
    · rw [List.getElem?_set_ne hj] at e'
      obtain ⟨v, h1, r⟩ := s.sv j d' e'
      exact ⟨v, h1, r.mono m⟩
  · by_cases hj : i = j
    · subst hj
      rw [List.getElem?_set_self hi] at e'
      cases e'
      exact ⟨_, ho, e1, upd_same, r.mono m, f, nr, z⟩
    · rw [List.getElem?_set_ne hj] at e'
      obtain ⟨b, o2, h1, h2, r, f', n', z'⟩ := s.so j t' e' o'
      exact ⟨b, o2, h1, by show upd p.H a ho b = _; rw [upd_ne (show b ≠ a from fun q => hj (s.si i j b t t' e o e' o' (q ▸ e1) h1))]; exact h2, r.mono m, f', n', z'⟩
  · have g1 : ∃ t1, p.S[j]? = some t1 ∧ t1.own = true := by
      by_cases hj : i = j
      · subst hj; exact ⟨t, e, o⟩
      · rw [List.getElem?_set_ne hj] at h1; exact ⟨t1, h1, h2⟩
    have g2 : ∃ t2, p.S[k]? = some t2 ∧ t2.own = true := by
      by_cases hk : i = k
      · subst hk; exact ⟨t, e, o⟩
      · rw [List.getElem?_set_ne hk] at h3; exact ⟨t2, h3, h4⟩
    obtain ⟨t1, a1, a2⟩ := g1
    obtain ⟨t2, a3, a4⟩ := g2
    exact s.si j k b t1 t2 a1 a2 a3 a4
/-- a shared object is changed -/
theorem SR.setG (s : SR W A σ p) {n : Nat} {o o' : MO} (e : p.G[n]? = some o) (e1 : p.ρ[n]? = some a) (r : MR W p.ρ p.Fr p.H a o' ho) :
    SR W A σ { (p.put a ho) with G := p.G.set n o' } ∧ Mp p (p.put a ho) := by
  have hm : a ∈ p.ρ := List.mem_of_getElem? e1
  have nf := s.g.nf a hm
  have m : Mp p (p.put a ho) := mo_put nf
  have hn : n < p.G.length := (List.getElem?_eq_some_iff.mp e).1
  have hr : n < p.ρ.length := (List.getElem?_eq_some_iff.mp e1).1
  refine ⟨⟨⟨by show p.ρ.length = _; rw [List.length_set]; exact s.g.gl, s.g.nd, s.g.nf, fun k o2 e2 => ?_, fun b hf => ?_⟩, ⟨s.e.r, s.e.f, fun b o2 e2 hb => ?_, s.e.nr, s.e.nF⟩, s.sl, fun j d' e' => ?_, fun j t' e' o2 => ?_, s.si⟩, m⟩
  · by_cases hk : n = k
    · subst hk
      rw [List.getElem?_set_self hn] at e2
      cases e2
      exact ⟨a, ho, e1, upd_same, r.mono m⟩
    · rw [List.getElem?_set_ne hk] at e2
      obtain ⟨b, o3, h1, h2, r⟩ := s.g.ob k o2 e2
      refine ⟨b, o3, h1, ?_, r.mono m⟩
      show upd p.H a ho b = _
      rw [upd_ne (show b ≠ a from fun z => hk ?_)]
      · exact h2
      · subst z
        have hk2 : k < p.ρ.length := (List.getElem?_eq_some_iff.mp h1).1
        have q1 := List.getElem?_eq_getElem hr
        have q2 := List.getElem?_eq_getElem hk2
        rw [e1] at q1
        rw [h1] at q2
        exact (List.getElem_inj s.g.nd).mp ((Option.some.inj q1).symm.trans (Option.some.inj q2))
  · show ∃ o, upd p.H a ho b = some o
    rw [upd_ne (show b ≠ a from fun z => nf (z ▸ hf))]
    exact s.g.ft b hf
  · show upd p.H a ho b = _
    have h3 : A.H b = some o2 := e2
    rw [upd_ne (show b ≠ a from fun q => ?_)]
    · exact s.e.k b o2 e2 hb
    · subst q
      rcases s.e.nr b hm with z | z
      · exact hb z
      · rw [z] at h3; cases h3
  · obtain ⟨v, h1, r⟩ := s.sv j d' e'
    exact ⟨v, h1, r.mono m⟩
  · obtain ⟨b, o3, h1, h2, r, f', n', z'⟩ := s.so j t' e' o2
    exact ⟨b, o3, h1, by show upd p.H a ho b = _; rw [upd_ne (show b ≠ a from fun q => n' (q ▸ hm))]; exact h2, r.mono m, f', n', z'⟩
/-- a new shared object -/
theorem SR.newG (s : SR W A σ p) (h : p.H a = none) {o : MO} (r : MR W p.ρ p.Fr p.H a o ho) :
    SR W A σ { S := p.S, G := p.G ++ [o], H := upd p.H a ho, ρ := p.ρ ++ [a], Fr := p.Fr } ∧ Mo p.ρ p.Fr p.H (p.ρ ++ [a]) p.Fr (upd p.H a ho) := by
  have nf := s.nfr h
  have nr := s.nro h
  have m : Mo p.ρ p.Fr p.H (p.ρ ++ [a]) p.Fr (upd p.H a ho) := ⟨fun n b e => by rw [List.getElem?_append_left (List.getElem?_eq_some_iff.mp e).1]; exact e, fun _ h => h, fun b hb => upd_ne (fun e => nf (e ▸ hb))⟩
  have up : ∀ b o, p.H b = some o → upd p.H a ho b = some o := fun b o e => by
    rw [upd_ne (show b ≠ a from fun z => by rw [z, h] at e; cases e)]; exact e
  refine ⟨⟨⟨by simp [s.g.gl], ?_, fun b hb => ?_, fun k o2 e2 => ?_, fun b hf => ?_⟩, ⟨fun n b e => ?_, s.e.f, fun b o2 e2 hb => up _ _ (s.e.k b o2 e2 hb), fun b hb => ?_, s.e.nF⟩, s.sl, fun j d' e' => ?_, fun j t' e' o2 => ?_, s.si⟩, m⟩
  · rw [List.nodup_append]
    refine ⟨s.g.nd, by simp, fun x hx y hy => ?_⟩
    have : y = a := by simpa using hy
    subst this
    exact fun z => nr (z ▸ hx)
  · rcases List.mem_append.mp hb with hb | hb
    · exact s.g.nf b hb
    · have : b = a := by simpa using hb
      subst this
      exact nf
  · by_cases hk : k < p.G.length
    · rw [List.getElem?_append_left hk] at e2
      obtain ⟨b, o3, h1, h2, r⟩ := s.g.ob k o2 e2
      exact ⟨b, o3, m.r _ _ h1, up _ _ h2, r.mono m⟩
    · have hk2 : k = p.G.length := by
        have := (List.getElem?_eq_some_iff.mp e2).1
        simp at this
        omega
      subst hk2
      rw [List.getElem?_append_right (Nat.le_refl _)] at e2
      simp at e2
      subst e2
      refine ⟨a, ho, ?_, upd_same, r.mono m⟩
      rw [List.getElem?_append_right (by rw [s.g.gl]; exact Nat.le_refl _)]
      simp [s.g.gl]
  · obtain ⟨o, e⟩ := s.g.ft b hf
    exact ⟨o, up _ _ e⟩
  · exact m.r n b (s.e.r n b e)
  · rcases List.mem_append.mp hb with hb | hb
    · exact s.e.nr b hb
    · have : b = a := by simpa using hb
      subst this
      exact .inr (s.nbase h)
  · obtain ⟨v, h1, r⟩ := s.sv j d' e'
    exact ⟨v, h1, r.mono m⟩
  · obtain ⟨b, o3, h1, h2, r, f', n', z'⟩ := s.so j t' e' o2
    refine ⟨b, o3, h1, up _ _ h2, r.mono m, f', fun q => ?_, z'⟩
    rcases List.mem_append.mp q with q | q
    · exact n' q
    · have : b = a := by simpa using q
      subst this
      rw [h] at h2; cases h2
/-- a name gets a value -/
theorem SR.setVal (s : SR W A σ p) {i : Nat} {d : D} {v : V} (hi : i < p.S.length) (r : RD W p.ρ p.Fr p.H d v) : SR W A (σ.set i (some v)) { p with S := p.S.set i (.val d) } := by
  have hσ : i < σ.length := by rw [← s.sl]; exact hi
  refine ⟨s.g, s.e, by simpa using s.sl, fun j d' e' => ?_, fun j t' e' o' => ?_, fun j k b t1 t2 h1 h2 h3 h4 h5 h6 => ?_⟩
  · by_cases hj : i = j
    · subst hj
      rw [List.getElem?_set_self hi] at e'
      cases e'
      exact ⟨v, by rw [List.getElem?_set_self hσ], r⟩
    · rw [List.getElem?_set_ne hj] at e' ⊢
      exact s.sv j d' e'
  · by_cases hj : i = j
    · subst hj
      rw [List.getElem?_set_self hi] at e'
      cases e'
      cases o'
    · rw [List.getElem?_set_ne hj] at e' ⊢
      exact s.so j t' e' o'
  · have hj : i ≠ j := fun z => by
      subst z
      rw [List.getElem?_set_self hi] at h1
      cases h1
      cases h2
    have hk : i ≠ k := fun z => by
      subst z
      rw [List.getElem?_set_self hi] at h3
      cases h3
      cases h4
    rw [List.getElem?_set_ne hj] at h1 h5
    rw [List.getElem?_set_ne hk] at h3 h6
    exact s.si j k b t1 t2 h1 h2 h3 h4 h5 h6
/-- a name gets a new object of its own -/
theorem SR.setNew (s : SR W A σ p) {i : Nat} {u : Slot} (hi : i < p.S.length) (h : p.H a = none) (ou : u.own = true) (r : OR W p.ρ p.Fr p.H a u ho) :
    SR W A (σ.set i (some (.ref a))) { (p.put a ho) with S := p.S.set i u } ∧ Mp p (p.put a ho) := by
  have hσ : i < σ.length := by rw [← s.sl]; exact hi
  have nf := s.nfr h
  have nr := s.nro h
  have m : Mp p (p.put a ho) := mo_put nf
  have up : ∀ b o, p.H b = some o → upd p.H a ho b = some o := fun b o e => by
    rw [upd_ne (show b ≠ a from fun z => by rw [z, h] at e; cases e)]; exact e
  refine ⟨⟨⟨s.g.gl, s.g.nd, s.g.nf, fun n o e => ?_, fun b hf => ?_⟩, ⟨s.e.r, s.e.f, fun b o' e hb => up _ _ (s.e.k b o' e hb), s.e.nr, s.e.nF⟩, by simpa using s.sl, fun j d' e' => ?_, fun j t' e' o' => ?_, fun j k b t1 t2 h1 h2 h3 h4 h5 h6 => ?_⟩, m⟩
  · obtain ⟨b, o2, e1, e2, r⟩ := s.g.ob n o e
    exact ⟨b, o2, e1, up _ _ e2, r.mono m⟩
  · obtain ⟨o, e⟩ := s.g.ft b hf
    exact ⟨o, up _ _ e⟩
  · by_cases hj : i = j
    · subst hj
      rw [List.getElem?_set_self hi] at e'
      cases e'
      cases ou
    · rw [List.getElem?_set_ne hj] at e' ⊢
      obtain ⟨v, h1, r⟩ := s.sv j d' e'
      exact ⟨v, h1, r.mono m⟩
  · by_cases hj : i = j
    · subst hj
      rw [List.getElem?_set_self hi] at e'
      cases e'
      exact ⟨a, ho, by rw [List.getElem?_set_self hσ], upd_same, r.mono m, nf, nr, s.nbase h⟩
    · rw [List.getElem?_set_ne hj] at e' ⊢
      obtain ⟨b, o2, h1, h2, r, f', n', z'⟩ := s.so j t' e' o'
      exact ⟨b, o2, h1, up _ _ h2, r.mono m, f', n', z'⟩
  · by_cases hj : i = j
    · by_cases hk : i = k
      · exact hj.symm.trans hk
      · subst hj
        rw [List.getElem?_set_self hσ] at h5
        cases h5
        rw [List.getElem?_set_ne hk] at h3 h6
        exact absurd h6 (s.nown h h3 h4)
    · by_cases hk : i = k
      · subst hk
        rw [List.getElem?_set_self hσ] at h6
        cases h6
        rw [List.getElem?_set_ne hj] at h1 h5
        exact absurd h5 (s.nown h h1 h2)
      · rw [List.getElem?_set_ne hj] at h1 h5
        rw [List.getElem?_set_ne hk] at h3 h6
        exact s.si j k b t1 t2 h1 h2 h3 h4 h5 h6
end
end Mi

end
section
set_option Elab.async false
set_option linter.all false
set_option maxRecDepth 100000
set_option maxHeartbeats 1000000
/-! Mi3: operations on values. -/
namespace Mi
open PySem PySem.Spec PyProof.Rows L2

section
variable {W : Wd} {A : Act} {σ : Sv} {q : Pt} {x : D} {v : V}
theorem RO.non (r : RO W q.ρ q.Fr q.H σ .non v) : v = .non := by simp only [RO, RD] at r; exact r
theorem RO.bl {b : Bool} (r : RO W q.ρ q.Fr q.H σ (.bl b) v) : v = .bl b := by simp only [RO, RD] at r; exact r
theorem RO.int {i : Int} (r : RO W q.ρ q.Fr q.H σ (.int i) v) : v = .int i := by simp only [RO, RD] at r; exact r
theorem RO.str {i : Str} (r : RO W q.ρ q.Fr q.H σ (.str i) v) : v = .str i := by simp only [RO, RD] at r; exact r
theorem WrT.sqT {K : PySem.W.Frag} {H : Hp} {a : Addr} {vs : List V} (h : WrT K a vs) : SqT K H a vs := .inr h
theorem fr_sqT {K : PySem.W.Frag} {H : Hp} {a : Addr} {vs : List V} {Fr : Addr → Prop} (h : (Fr a ∧ Rd H a (.tup vs)) ∨ WrT K a vs) : SqT K H a vs := by
  rcases h with ⟨_, h⟩ | h
  · exact .inl h
  · exact .inr h

/-- what an operand's content is -/
inductive CtR (W : Wd) (σ : Sv) (q : Pt) (v : V) : Ct → Prop
  | lst {l : List D} {a : Addr} {vs : List V} : v = .ref a → q.H a = some (.lst vs) → RDs W q.ρ q.Fr q.H l vs → CtR W σ q v (.lst l)
  | scr {l : List D} {a : Addr} {vs : List V} : v = .ref a → SqL W.K q.H a vs → RDs W q.ρ q.Fr q.H l vs → CtR W σ q v (.scr l)
  | tup {l : List D} {a : Addr} {vs : List V} : v = .ref a → SqT W.K q.H a vs → RDs W q.ρ q.Fr q.H l vs → CtR W σ q v (.tup l)
  | dic {ks xs : List D} {a : Addr} {ho : HO} {kvs vs : List V} : v = .ref a → q.H a = some ho → DicO W a ks kvs vs ho → RDs W q.ρ q.Fr q.H ks kvs → RDs W q.ρ q.Fr q.H xs vs → CtR W σ q v (.dic ks xs)
  | str {x : Str} : v = .str x → CtR W σ q v (.str x)
  | ins {C : Str} {fs : List (Str × D)} {a Ca dx : Addr} {gs : List (Str × V)} : v = .ref a → q.H a = some (.ins Ca dx gs) → W.mg C = some (.ref Ca) → Flds W q.ρ q.Fr q.H fs gs → CtR W σ q v (.ins C fs)
  | no : CtR W σ q v .no
theorem ct_rel (s : SR W A σ q) (r : RO W q.ρ q.Fr q.H σ x v) : CtR W σ q v (ct q.S q.G x) := by
  cases x with
  | lst l =>
    simp only [RO, RD] at r
    obtain ⟨a, vs, e, ⟨_, h⟩, r⟩ := r
    exact .lst e h r
  | scr l =>
    simp only [RO, RD] at r
    obtain ⟨a, vs, e, h, r⟩ := r
    exact .scr e (h.imp And.right id) r
  | tup l =>
    simp only [RO, RD] at r
    obtain ⟨a, vs, e, h, r⟩ := r
    exact .tup e (fr_sqT h) r
  | dic ks xs =>
    simp only [RO, RD] at r
    obtain ⟨a, ho, kvs, vs, e, ⟨_, h⟩, d, r1, r2⟩ := r
    exact .dic e h d r1 r2
  | str x => exact .str r.str
  | ref n =>
    simp only [RO, RD] at r
    obtain ⟨a, h, e⟩ := r
    show CtR W σ q v (match q.G[n]? with
      | some (.lst l) => .lst l
      | some (.dic ks xs) => .dic ks xs
      | some (.ins C fs) => .ins C fs
      | some (.tab _) => .no
      | none => .no)
    cases eg : q.G[n]? with
    | none => exact .no
    | some o =>
      obtain ⟨b, ho, h1, h2, m⟩ := s.g.ob n o eg
      rw [h] at h1
      cases h1
      cases o with
      | lst l =>
        obtain ⟨vs, rfl, r⟩ := m
        exact .lst e h2 r
      | dic ks xs =>
        obtain ⟨kvs, vs, d, r1, r2⟩ := m
        exact .dic e h2 d r1 r2
      | ins C fs =>
        obtain ⟨Ca, dx, gs, m1, rfl, m2⟩ := m
        exact .ins e h2 m1 m2
      | tab g => exact .no
  | slot i =>
    simp only [RO] at r
    show CtR W σ q v (match q.S[i]? with
      | some (.lst l) => .lst l
      | some (.dic ks xs) => .dic ks xs
      | _ => .no)
    cases eg : q.S[i]? with
    | none => exact .no
    | some t =>
      cases t with
      | no => exact .no
      | val _ => exact .no
      | lst l =>
        obtain ⟨a, ho, h1, h2, m, _⟩ := s.so i _ eg rfl
        rw [r] at h1
        cases h1
        obtain ⟨vs, rfl, m⟩ := m
        exact .lst rfl h2 m
      | dic ks xs =>
        obtain ⟨a, ho, h1, h2, m, _⟩ := s.so i _ eg rfl
        rw [r] at h1
        cases h1
        obtain ⟨kvs, vs, d, r1, r2⟩ := m
        exact .dic rfl h2 d r1 r2
  | _ => exact .no

/-! ### what an operation gives -/
def D.cont : D → Bool
  | .lst _ => true
  | .dic _ _ => true
  | .slot _ => true
  | _ => false
/-- a new object's content -/
def NR (W : Wd) (q : Pt) (a : Addr) : D → HO → Prop
  | .lst l, ho => ∃ vs, ho = .lst vs ∧ RDs W q.ρ q.Fr q.H l vs
  | .tup l, ho => ∃ vs, ho = .tup vs ∧ RDs W q.ρ q.Fr q.H l vs
  | .dic ks xs, ho => ∃ kvs vs, DicO W a ks kvs vs ho ∧ RDs W q.ρ q.Fr q.H ks kvs ∧ RDs W q.ρ q.Fr q.H xs vs
  | _, _ => False
inductive Res (W : Wd) (σ : Sv) (q : Pt) : D → V → Hp → Prop
  | old {d : D} {v : V} : d.cont = false → RO W q.ρ q.Fr q.H σ d v → Res W σ q d v q.H
  | new {d : D} {a : Addr} {ho : HO} : q.H a = none → NR W q a d ho → Res W σ q d (.ref a) (upd q.H a ho)
def teN (W : Wd) (A : Act) (XW : WX) (m : Ev D) : TE := fun σ H Q => ∃ p : Pt, p.H = H ∧ wpD W A XW σ m p fun d q => ∀ v H', Res W σ q d v H' → Q v H'
theorem NR.rd {a : Addr} {d : D} {ho : HO} (s : SR W A σ q) (h : q.H a = none) (n : NR W q a d ho) : RD W q.ρ (fun b => b = a ∨ q.Fr b) (upd q.H a ho) d (.ref a) := by
  have m : Mp q ((q.put a ho).frz a) := s.newM h
  cases d with
  | lst l =>
    obtain ⟨vs, rfl, r⟩ := n
    simp only [RD]
    exact ⟨a, vs, rfl, ⟨.inl rfl, upd_same⟩, r.mono m⟩
  | tup l =>
    obtain ⟨vs, rfl, r⟩ := n
    simp only [RD]
    exact ⟨a, vs, rfl, .inl ⟨.inl rfl, .inl upd_same⟩, r.mono m⟩
  | dic ks xs =>
    obtain ⟨kvs, vs, d, r1, r2⟩ := n
    simp only [RD]
    exact ⟨a, ho, kvs, vs, rfl, ⟨.inl rfl, upd_same⟩, d, r1.mono m, r2.mono m⟩
  | _ => exact n.elim
/-- a new value is frozen -/
theorem teN_of {XW : WX} {m : Ev D} {H : Hp} {Q : VK} (h : teD W A XW m σ H Q) : teN W A XW m σ H Q := by
  obtain ⟨p, e, s, h⟩ := h
  refine ⟨p, e, s, ?_⟩
  revert h
  cases m p.S p.G with
  | ok d S G =>
    intro h q e1 e2 sq mo v H' r
    cases r with
    | old hc ro => exact h q e1 e2 sq mo v ro
    | new hn n => exact h ((q.put _ _).frz _) e1 e2 (sq.newF hn) (mo.trans (sq.newM hn)) _ (RO.of (n.rd sq hn))
  | ex x S G => exact id
  | bad => exact id
theorem PE.ofN {X : Cx} {e : Expr} {XW : WX} {m : Ev D} (h : PE X e (teN W A XW m)) : PE X e (teD W A XW m) := PE.imp h fun _ _ _ => teN_of

/-! ### two operands -/
/-- the rule r of two values serves the operation f -/
def Ser2 (W : Wd) (f : List Slot → List MO → D → D → Option D) (r : R2) : Prop := ∀ (A : Act) (σ : Sv) (q : Pt) (x y z : D) (v u : V) (Q : VK), SR W A σ q → RO W q.ρ q.Fr q.H σ x v → RO W q.ρ q.Fr q.H σ y u → f q.S q.G x y = some z →
  (∀ w H', Res W σ q z w H' → Q w H') → r v u q.H Q
theorem OpR.or {X : Cx} {f : Value → Value → Sem Value} {r r' : R2} (h : OpR X f r) (h' : OpR X f r') : OpR X f (fun x y H Q => r x y H Q ∨ r' x y H Q) := by
  intro pins s σ H x y v u Q I rx ry q
  rcases q with q | q
  · exact h pins s σ H x y v u Q I rx ry q
  · exact h' pins s σ H x y v u Q I rx ry q

def rAdd (K : PySem.W.Frag) : R2 := fun x y H Q => rI0 (fun i j => .int (i + j)) x y H Q ∨ (∃ i j, x = .str i ∧ y = .str j ∧ i.length + j.length ≤ sizeLine ∧ Q (.str (i ++ j)) H) ∨ rCatA K x y H Q ∨ rCat x y H Q
theorem op_addA {X : Cx} : OpR X (binaryOp .Add) (rAdd X.K) := op_add.or (op_add_str.or (op_catA.or op_cat))
theorem Res.tup0 {z : List D} {a : Addr} {vs : List V} (h : SqT W.K q.H a vs) (r : RDs W q.ρ q.Fr q.H z vs) (ro : RO W q.ρ q.Fr q.H σ (.tup z) (.ref a)) : Res W σ q (.tup z) (.ref a) q.H := .old rfl ro
theorem RO.tup_of {l : List D} (r : RO W q.ρ q.Fr q.H σ x v) (e : ct q.S q.G x = .tup l) : RO W q.ρ q.Fr q.H σ (.tup l) v := by
  cases x with
  | tup l' =>
    have e' : Ct.tup l' = Ct.tup l := e
    cases e'
    exact r
  | ref n =>
    have e : (match q.G[n]? with
      | some (.lst l) => Ct.lst l
      | some (.dic ks xs) => .dic ks xs
      | some (.ins C fs) => .ins C fs
      | some (.tab _) => .no
      | none => .no) = .tup l := e
    cases eg : q.G[n]? with
    | none => rw [eg] at e; cases e
    | some o => rw [eg] at e; cases o <;> cases e
  | slot n =>
    have e : (match q.S[n]? with
      | some (.lst l) => Ct.lst l
      | some (.dic ks xs) => .dic ks xs
      | _ => .no) = .tup l := e
    cases eg : q.S[n]? with
    | none => rw [eg] at e; cases e
    | some o => rw [eg] at e; cases o <;> cases e
  | _ => cases e
end
section
variable {W : Wd}
theorem add_cts {σ : Sv} {A : Act} {q : Pt} {x y z : D} {v u : V} {Q : VK} (s : SR W A σ q) (rx : RO W q.ρ q.Fr q.H σ x v) (ry : RO W q.ρ q.Fr q.H σ y u)
    (e : (match ct q.S q.G x, ct q.S q.G y with
    | .str x, .str y => if x.length + y.length ≤ sizeLine then some (.str (x ++ y)) else none
    | .tup x, .tup y => tupOk (x ++ y)
    | .lst x, .lst y => lstOk (x ++ y)
    | _, _ => none) = some z) (h : ∀ w H', Res W σ q z w H' → Q w H') : rAdd W.K v u q.H Q := by
  have cx := ct_rel s rx
  have cy := ct_rel s ry
  cases ex : ct q.S q.G x with
  | str a =>
    rw [ex] at e cx
    cases ey : ct q.S q.G y with
    | str b =>
      rw [ey] at e cy
      cases cx with
      | str hx =>
        cases cy with
        | str hy =>
          subst hx hy
          simp only at e
          split at e
          · rename_i hz
            cases e
            exact .inr (.inl ⟨a, b, rfl, rfl, hz, h _ _ (.old rfl (RO.of (by simp only [RD])))⟩)
          · cases e
    | _ => rw [ey] at e; cases e
  | tup a =>
    have ox := RO.tup_of rx ex
    rw [ex] at e cx
    cases ey : ct q.S q.G y with
    | tup b =>
      have oy := RO.tup_of ry ey
      rw [ey] at e cy
      cases cx with
      | tup hx tx lx =>
        cases cy with
        | tup hy ty ly =>
          rename_i ax vx ay vy
          subst hx hy
          simp only [tupOk] at e
          split at e
          · rename_i hz
            cases e
            have h1 := lx.length
            have h2 := ly.length
            rw [List.length_append] at hz
            refine .inr (.inr (.inl ⟨ax, ay, vx, vy, rfl, rfl, tx, ty, by omega, fun e0 => ?_, fun e1 e0 => ?_, fun e1 e2 p hp => ?_⟩))
            · subst e0
              have : a = [] := List.eq_nil_of_length_eq_zero (by simpa using h1)
              subst this
              exact h _ _ (.old rfl oy)
            · subst e0
              have : b = [] := List.eq_nil_of_length_eq_zero (by simpa using h2)
              subst this
              rw [List.append_nil] at h
              exact h _ _ (.old rfl ox)
            · exact h _ _ (.new hp ⟨_, rfl, lx.append ly⟩)
          · cases e
    | _ => rw [ey] at e; cases e
  | lst a =>
    rw [ex] at e cx
    cases ey : ct q.S q.G y with
    | lst b =>
      rw [ey] at e cy
      cases cx with
      | lst hx tx lx =>
        cases cy with
        | lst hy ty ly =>
          rename_i ax vx ay vy
          subst hx hy
          simp only [lstOk] at e
          split at e
          · rename_i hz
            cases e
            have h1 := lx.length
            have h2 := ly.length
            rw [List.length_append] at hz
            exact .inr (.inr (.inr ⟨ax, ay, vx, vy, rfl, rfl, tx, ty, by omega, fun p hp => h _ _ (.new hp ⟨_, rfl, lx.append ly⟩)⟩))
          · cases e
    | _ => rw [ey] at e; cases e
  | _ => rw [ex] at e; cases e
theorem ser_add : Ser2 W (op2 .add) (rAdd W.K) := by
  intro A σ q x y z v u Q s rx ry e h
  cases x with
  | int i =>
    cases y with
    | int j =>
      have e : some (D.int (i + j)) = some z := e
      cases e
      rw [rx.int, ry.int]
      exact .inl ⟨i, j, rfl, rfl, h _ _ (.old rfl (RO.of (by simp only [RD])))⟩
    | _ => exact add_cts s rx ry e h
  | _ => cases y <;> exact add_cts s rx ry e h
theorem ser_sub : Ser2 W (op2 .sub) (rI0 fun i j => .int (i - j)) := by
  intro A σ q x y z v u Q s rx ry e h
  cases x with
  | int i =>
    cases y with
    | int j =>
      have e : some (D.int (i - j)) = some z := e
      cases e
      rw [rx.int, ry.int]
      exact ⟨i, j, rfl, rfl, h _ _ (.old rfl (RO.of (by simp only [RD])))⟩
    | _ => cases e
  | _ => cases y <;> cases e
theorem ser_mod : Ser2 W (op2 .mod) (rI (fun _ j => 0 < j) fun i j => .int (i % j)) := by
  intro A σ q x y z v u Q s rx ry e h
  cases x with
  | int i =>
    cases y with
    | int j =>
      have e : (if 0 < j then some (D.int (i % j)) else none) = some z := e
      split at e
      · cases e
        rw [rx.int, ry.int]
        exact ⟨i, j, rfl, rfl, by assumption, h _ _ (.old rfl (RO.of (by simp only [RD])))⟩
      · cases e
    | _ => cases e
  | _ => cases y <;> cases e
theorem ser_fdiv : Ser2 W (op2 .fdiv) (rI CDiv fun i j => .int (i / j)) := by
  intro A σ q x y z v u Q s rx ry e h
  cases x with
  | int i =>
    cases y with
    | int j =>
      have e : (if 0 < j ∧ j < 1073741824 then some (D.int (i / j)) else none) = some z := e
      split at e
      · cases e
        rw [rx.int, ry.int]
        exact ⟨i, j, rfl, rfl, by assumption, h _ _ (.old rfl (RO.of (by simp only [RD])))⟩
      · cases e
    | _ => cases e
  | _ => cases y <;> cases e
theorem ser_pow : Ser2 W (op2 .pow) (rI CPow fun i j => .int (i ^ j.toNat)) := by
  intro A σ q x y z v u Q s rx ry e h
  cases x with
  | int i =>
    cases y with
    | int j =>
      have e : (if 0 ≤ j ∧ j ≤ 1000000 ∧ i.natAbs < 2 ^ 64 then some (D.int (i ^ j.toNat)) else none) = some z := e
      split at e
      · cases e
        rw [rx.int, ry.int]
        exact ⟨i, j, rfl, rfl, by assumption, h _ _ (.old rfl (RO.of (by simp only [RD])))⟩
      · cases e
    | _ => cases e
  | _ => cases y <;> cases e
theorem rep_eq {α : Type} (l : List α) : ∀ n, rep n l = (List.replicate n l).flatten
  | 0 => rfl
  | n + 1 => by rw [rep, rep_eq l n, List.replicate_succ, List.flatten_cons]
theorem RDs.rep {ρ : List Addr} {Fr : Addr → Prop} {H : Hp} {l : List D} {vs : List V} (h : RDs W ρ Fr H l vs) : ∀ n, RDs W ρ Fr H (rep n l) (List.replicate n vs).flatten
  | 0 => .nil
  | n + 1 => by rw [Mi.rep, List.replicate_succ, List.flatten_cons]; exact h.append (RDs.rep h n)
def rMul (K : PySem.W.Frag) : R2 := fun x y H Q => rI CMul (fun i j => .int (i * j)) x y H Q ∨ rRep x y H Q ∨ rRepT K x y H Q
theorem op_mulA {X : Cx} : OpR X (binaryOp .Mult) (rMul X.K) := op_mul.or (op_rep.or op_repT)
theorem mul_cts {σ : Sv} {A : Act} {q : Pt} {x z : D} {j : Int} {v u : V} {Q : VK} (s : SR W A σ q) (rx : RO W q.ρ q.Fr q.H σ x v) (ry : RO W q.ρ q.Fr q.H σ (.int j) u)
    (e : (match ct q.S q.G x with
    | .lst x => if -(2 ^ 63) ≤ j ∧ j < 2 ^ 63 then (if x.length * j.toNat ≤ sizeLine then some (D.lst (rep j.toNat x)) else none) else none
    | .tup x => if x ≠ [] ∧ 2 ≤ j ∧ j ≤ 1000 ∧ x.length ≤ 1000 then some (.tup (rep j.toNat x)) else none
    | _ => none) = some z) (h : ∀ w H', Res W σ q z w H' → Q w H') : rMul W.K v u q.H Q := by
  have cx := ct_rel s rx
  have ej := ry.int
  subst ej
  cases ex : ct q.S q.G x with
  | lst a =>
    rw [ex] at e cx
    cases cx with
    | lst hx tx lx =>
      rename_i ax vx
      subst hx
      simp only at e
      have h1 := lx.length
      split at e
      · rename_i h63
        split at e
        · rename_i hz
          cases e
          refine .inr (.inl ⟨ax, j, vx, rfl, rfl, tx, h63.1, h63.2, by rw [← h1]; exact hz, fun p hp => h _ _ (.new hp ⟨_, rfl, lx.rep _⟩)⟩)
        · cases e
      · cases e
  | tup a =>
    rw [ex] at e cx
    cases cx with
    | tup hx tx lx =>
      rename_i ax vx
      subst hx
      simp only at e
      have h1 := lx.length
      split at e
      · rename_i hz
        cases e
        refine .inr (.inr ⟨ax, j, vx, rfl, rfl, tx, fun e0 => hz.1 (List.eq_nil_of_length_eq_zero (by rw [h1, e0]; rfl)), hz.2.1, hz.2.2.1, by rw [← h1]; exact hz.2.2.2, fun p hp => h _ _ (.new hp ⟨_, rfl, lx.rep _⟩)⟩)
      · cases e
  | _ => rw [ex] at e; cases e
theorem ser_mul : Ser2 W (op2 .mul) (rMul W.K) := by
  intro A σ q x y z v u Q s rx ry e h
  cases x with
  | int i =>
    cases y with
    | int j =>
      have e : (if (-(2 ^ 64) < i ∧ i < 2 ^ 64) ∨ (-(2 ^ 64) < j ∧ j < 2 ^ 64) then some (D.int (i * j)) else none) = some z := e
      split at e
      · cases e
        rw [rx.int, ry.int]
        exact .inl ⟨i, j, rfl, rfl, by assumption, h _ _ (.old rfl (RO.of (by simp only [RD])))⟩
      · cases e
    | _ => cases e
  | _ => cases y <;> first | exact mul_cts s rx ry e h | cases e
end
end Mi

end
section
set_option Elab.async false
set_option linter.all false
set_option maxRecDepth 100000
set_option maxHeartbeats 1000000
/-! Mi4: comparisons, items, slices. -/
namespace Mi
open PySem PySem.Spec PyProof.Rows L2

section
variable {W : Wd} {ρ : List Addr} {Fr : Addr → Prop} {H : Hp}
mutual
theorem py_dp : ∀ (d : D) (p : PyData) (v : V), d.py = some p → RD W ρ Fr H d v → Dp W.K H v p
  | .non, _, _, e, r => by
    simp only [D.py] at e
    cases e
    simp only [RD] at r
    subst r
    exact .non
  | .bl b, _, _, e, r => by
    simp only [D.py] at e
    cases e
    simp only [RD] at r
    subst r
    exact .bl b
  | .int b, _, _, e, r => by
    simp only [D.py] at e
    cases e
    simp only [RD] at r
    subst r
    exact .int b
  | .str b, _, _, e, r => by
    simp only [D.py] at e
    cases e
    simp only [RD] at r
    subst r
    exact .str b
  | .tup l, p, v, e, r => by
    simp only [D.py, Option.map_eq_some_iff] at e
    obtain ⟨ps, e, rfl⟩ := e
    simp only [RD] at r
    obtain ⟨a, vs, rfl, h, r⟩ := r
    exact .tup (fr_sqT h) (py_dps l ps vs e r)
  | .lst l, p, v, e, r => by
    simp only [D.py, Option.map_eq_some_iff] at e
    obtain ⟨ps, e, rfl⟩ := e
    simp only [RD] at r
    obtain ⟨a, vs, rfl, h, r⟩ := r
    exact .lst (SqL.of h.2) (py_dps l ps vs e r)
  | .scr _, _, _, e, _ => by simp only [D.py] at e; cases e
  | .dic _ _, _, _, e, _ => by simp only [D.py] at e; cases e
  | .ref _, _, _, e, _ => by simp only [D.py] at e; cases e
  | .slot _, _, _, e, _ => by simp only [D.py] at e; cases e
  | .fn _, _, _, e, _ => by simp only [D.py] at e; cases e
theorem py_dps : ∀ (ds : List D) (ps : List PyData) (vs : List V), D.pys ds = some ps → RDs W ρ Fr H ds vs → DpAll W.K H vs ps
  | [], _, _, e, r => by
    simp only [D.pys] at e
    cases e
    rw [r.inv0]
    exact .nil
  | d :: ds, ps, vs, e, r => by
    simp only [D.pys] at e
    obtain ⟨v, r', rfl, r1, r2⟩ := r.inv
    cases e1 : d.py with
    | none => rw [e1] at e; cases e
    | some p =>
      cases e2 : D.pys ds with
      | none => rw [e1, e2] at e; cases e
      | some qs =>
        rw [e1, e2] at e
        cases e
        exact .cons (py_dp d p v e1 r1) (py_dps ds qs r' e2 r2)
end
end
section
variable {W : Wd} {A : Act} {σ : Sv} {q : Pt} {x y : D} {v u : V}
theorem opy_dp (s : SR W A σ q) {p : PyData} (r : RO W q.ρ q.Fr q.H σ x v) (e : opy q.S q.G x = some p) : Dp W.K q.H v p := by
  have c := ct_rel s r
  have key : ∀ {x : D}, CtR W σ q v (ct q.S q.G x) → (match ct q.S q.G x with
      | .lst l => (D.pys l).map PyData.list
      | _ => none) = some p → Dp W.K q.H v p := by
    intro x c e
    cases ec : ct q.S q.G x with
    | lst l =>
      rw [ec] at c e
      simp only [Option.map_eq_some_iff] at e
      obtain ⟨ps, e3, rfl⟩ := e
      cases c with
      | lst ev h r3 =>
        subst ev
        exact .lst (SqL.of h) (py_dps (ρ := q.ρ) (Fr := q.Fr) l ps _ e3 r3)
    | _ => rw [ec] at e; cases e
  cases x with
  | slot i => exact key c e
  | ref n => exact key c e
  | non => exact py_dp (ρ := q.ρ) (Fr := q.Fr) _ _ _ e r
  | bl b => exact py_dp (ρ := q.ρ) (Fr := q.Fr) _ _ _ e r
  | int b => exact py_dp (ρ := q.ρ) (Fr := q.Fr) _ _ _ e r
  | str b => exact py_dp (ρ := q.ρ) (Fr := q.Fr) _ _ _ e r
  | tup b => exact py_dp (ρ := q.ρ) (Fr := q.Fr) _ _ _ e r
  | lst b => exact py_dp (ρ := q.ρ) (Fr := q.Fr) _ _ _ e r
  | scr b => exact py_dp (ρ := q.ρ) (Fr := q.Fr) _ _ _ e r
  | dic b c => exact py_dp (ρ := q.ρ) (Fr := q.Fr) _ _ _ e r
  | fn b => exact py_dp (ρ := q.ρ) (Fr := q.Fr) _ _ _ e r
theorem RO.ref_of (s : SR W A σ q) (r : RO W q.ρ q.Fr q.H σ x v) {b : Bool} (e : isNone q.S q.G x = some b) : decide (v = .non) = b := by
  cases x with
  | non => cases e; rw [r.non]; rfl
  | bl i => cases e; rw [r.bl]; rfl
  | int i => cases e; rw [r.int]; rfl
  | str i => cases e; rw [r.str]; rfl
  | tup l =>
    cases e
    simp only [RO, RD] at r
    obtain ⟨a, _, rfl, _⟩ := r
    rfl
  | lst l =>
    cases e
    simp only [RO, RD] at r
    obtain ⟨a, _, rfl, _⟩ := r
    rfl
  | scr l =>
    cases e
    simp only [RO, RD] at r
    obtain ⟨a, _, rfl, _⟩ := r
    rfl
  | dic k l =>
    cases e
    simp only [RO, RD] at r
    obtain ⟨a, _, _, _, rfl, _⟩ := r
    rfl
  | ref l =>
    cases e
    simp only [RO, RD] at r
    obtain ⟨a, _, rfl⟩ := r
    rfl
  | fn l =>
    cases e
    simp only [RO, RD] at r
    obtain ⟨a, _, rfl⟩ := r
    rfl
  | slot i =>
    have c := ct_rel s r
    have e : (match ct q.S q.G (.slot i) with
      | .lst _ => some false
      | .dic _ _ => some false
      | _ => none) = some b := e
    cases ec : ct q.S q.G (.slot i) with
    | lst l =>
      rw [ec] at e c
      cases e
      cases c with
      | lst ev _ _ => subst ev; rfl
    | dic k l =>
      rw [ec] at e c
      cases e
      cases c with
      | dic ev _ _ _ _ => subst ev; rfl
    | _ => rw [ec] at e; cases e
end

/-- the rule r serves the comparison o -/
def SerC (W : Wd) (o : CmpO) (r : R2) : Prop := ∀ (A : Act) (σ : Sv) (q : Pt) (x y : D) (b : Bool) (v u : V) (Q : VK), SR W A σ q → RO W q.ρ q.Fr q.H σ x v → RO W q.ρ q.Fr q.H σ y u → cmp2 o q.S q.G x y = some b → Q (.bl b) q.H → r v u q.H Q
section
variable {W : Wd} {X : Cx}
theorem serc_eq : SerC W .eq (rEqD W.K) := by
  intro A σ q x y b v u Q s rx ry e h
  simp only [cmp2] at e
  cases ex : opy q.S q.G x with
  | none => rw [ex] at e; cases e
  | some p =>
    cases ey : opy q.S q.G y with
    | none => rw [ex, ey] at e; cases e
    | some p2 =>
      rw [ex, ey] at e
      simp only at e
      split at e
      · rename_i hs
        cases e
        rw [Bool.and_eq_true] at hs
        exact ⟨p, p2, opy_dp s rx ex, opy_dp s ry ey, hs.1, hs.2, h⟩
      · cases e
theorem serc_ne : SerC W .ne (rNeD W.K) := by
  intro A σ q x y b v u Q s rx ry e h
  simp only [cmp2] at e
  cases ex : opy q.S q.G x with
  | none => rw [ex] at e; cases e
  | some p =>
    cases ey : opy q.S q.G y with
    | none => rw [ex, ey] at e; cases e
    | some p2 =>
      rw [ex, ey] at e
      simp only at e
      split at e
      · rename_i hs
        cases e
        rw [Bool.and_eq_true] at hs
        exact ⟨p, p2, opy_dp s rx ex, opy_dp s ry ey, hs.1, hs.2, h⟩
      · cases e
theorem serc_isN : SerC W .isN (fun x y H Q => y = .non ∧ Q (.bl (decide (x = .non))) H) := by
  intro A σ q x y b v u Q s rx ry e h
  cases y with
  | non => exact ⟨ry.non, by rw [RO.ref_of s rx e]; exact h⟩
  | _ => cases e
theorem serc_notN : SerC W .notN (fun x y H Q => y = .non ∧ Q (.bl (!decide (x = .non))) H) := by
  intro A σ q x y b v u Q s rx ry e h
  cases y with
  | non =>
    have e : (isNone q.S q.G x).map (!·) = some b := e
    rw [Option.map_eq_some_iff] at e
    obtain ⟨c, e3, rfl⟩ := e
    exact ⟨ry.non, by rw [RO.ref_of s rx e3]; exact h⟩
  | _ => cases e
theorem serc_gt : SerC W .gt (rI0 fun i j => .bl (decide (j < i))) := by
  intro A σ q x y b v u Q s rx ry e h
  cases x with
  | int i =>
    cases y with
    | int j =>
      have e : some (decide (j < i)) = some b := e
      cases e
      rw [rx.int, ry.int]
      exact ⟨i, j, rfl, rfl, h⟩
    | _ => cases e
  | _ => cases y <;> cases e
theorem serc_le : SerC W .le (rI0 fun i j => .bl (decide (i ≤ j))) := by
  intro A σ q x y b v u Q s rx ry e h
  cases x with
  | int i =>
    cases y with
    | int j =>
      have e : some (decide (i ≤ j)) = some b := e
      cases e
      rw [rx.int, ry.int]
      exact ⟨i, j, rfl, rfl, h⟩
    | _ => cases e
  | _ => cases y <;> cases e
theorem serc_ge : SerC W .ge (rI0 fun i j => .bl (decide (j ≤ i))) := by
  intro A σ q x y b v u Q s rx ry e h
  cases x with
  | int i =>
    cases y with
    | int j =>
      have e : some (decide (j ≤ i)) = some b := e
      cases e
      rw [rx.int, ry.int]
      exact ⟨i, j, rfl, rfl, h⟩
    | _ => cases e
  | _ => cases y <;> cases e

/-! ### x in a list or tuple of data -/
def rInA (K : PySem.W.Frag) (neg : Bool) : R2 := fun x y H Q => ∃ a d ds vs, Dp K H x d ∧ y = .ref a ∧ (SqL K H a vs ∨ SqT K H a vs) ∧ DpAll K H vs ds ∧ SeqAt.shaped d = true ∧ ds.all SeqAt.shaped = true ∧ Q (.bl (if neg then !inPy d ds else inPy d ds)) H
theorem canAll_of : ∀ {ds : List PyData}, ds.all SeqAt.shaped = true → PyData.canLayAll0 ds = true ∧ PyData.depthAll ds ≤ 64
  | [], _ => ⟨by simp [PyData.canLayAll0], by simp [PyData.depthAll]⟩
  | d :: ds, h => by
    rw [List.all_cons, Bool.and_eq_true] at h
    obtain ⟨h1, h2⟩ := canAll_of h.2
    have h3 := SeqAt.canLay_of_shaped h.1
    have h4 := SeqAt.depth_of_shaped h.1
    refine ⟨by simp [PyData.canLayAll0, h3, h1], ?_⟩
    simp only [PyData.depthAll]
    omega
theorem list_shaped {ds : List PyData} (h : PyData.canLayAll0 ds = true) : PyData.canLay0 (.list ds) = true := by simpa [PyData.canLay0] using h
theorem in_room {A : Around} {ds : List PyData} {d : PyData} (h : SeqAt.shaped d = true) (hu : A.units + 65 < cLine) : A.units + 1 + min (PyData.depthAll ds) d.depth < cLine := by
  have h1 := SeqAt.depth_of_shaped h
  have h2 : min (PyData.depthAll ds) d.depth ≤ d.depth := Nat.min_le_right _ _
  omega
theorem op_inA (hu : X.A.units + 65 < cLine) : OpR X (compareOp .In) (rInA X.K false) := by
  intro pins s σ H x y v u Q I rx ry h
  obtain ⟨a, d, ds, vs, hd, rfl, hs, hds, sd, se, q⟩ := h
  cases ry
  obtain ⟨as, r1⟩ := Dp.reads I d x v hd rx
  have hc := canAll_of se
  rcases hs with hs | hs
  · obtain ⟨bs, r2⟩ := Dp.reads I (.list ds) (.ref a) (.ref a) (.lst hs hds) rfl
    exact SeqAt.in_list_reads r2 r1 (list_shaped hc.1) (SeqAt.canLay_of_shaped sd) (in_room sd hu) ⟨.bl _, H, I, rfl, q⟩
  · obtain ⟨bs, r2⟩ := Dp.reads I (.tuple ds) (.ref a) (.ref a) (.tup hs hds) rfl
    exact SeqAt.in_tuple_reads r2 r1 (list_shaped hc.1) (SeqAt.canLay_of_shaped sd) (in_room sd hu) ⟨.bl _, H, I, rfl, q⟩
theorem op_ninA (hu : X.A.units + 65 < cLine) : OpR X (compareOp .NotIn) (rInA X.K true) := by
  intro pins s σ H x y v u Q I rx ry h
  obtain ⟨a, d, ds, vs, hd, rfl, hs, hds, sd, se, q⟩ := h
  cases ry
  obtain ⟨as, r1⟩ := Dp.reads I d x v hd rx
  have hc := canAll_of se
  rcases hs with hs | hs
  · obtain ⟨bs, r2⟩ := Dp.reads I (.list ds) (.ref a) (.ref a) (.lst hs hds) rfl
    exact SeqAt.notIn_list_reads r2 r1 (list_shaped hc.1) (SeqAt.canLay_of_shaped sd) (in_room sd hu) ⟨.bl _, H, I, rfl, q⟩
  · obtain ⟨bs, r2⟩ := Dp.reads I (.tuple ds) (.ref a) (.ref a) (.tup hs hds) rfl
    exact SeqAt.notIn_tuple_reads r2 r1 (list_shaped hc.1) (SeqAt.canLay_of_shaped sd) (in_room sd hu) ⟨.bl _, H, I, rfl, q⟩

/-! ### items -/
theorem plc_atI {α : Type} {l : List α} {k : Int} {j : Nat} {x : α} (e : plc l.length k = some j) (h : l[j]? = some x) : atI l k = some x := by
  have hj : j < l.length := (List.getElem?_eq_some_iff.mp h).1
  unfold plc at e
  unfold atI
  have : ixN l.length k = some j := by
    unfold ixN
    split at e
    · rename_i h1
      cases e
      rw [if_pos h1.1, if_pos h1.2]
    · split at e
      · rename_i h0 h1
        cases e
        rw [if_neg (by omega), if_pos (by omega)]
      · cases e
  rw [this]
  exact h
end

section
variable {W : Wd} {X : Cx}
theorem str_of_list {z : Str} {l : List Nat} (e : z.cps.toList = l) : z = ⟨l.toArray⟩ := by
  cases z with
  | mk c => subst e; simp
/-- items of lists, tuples, texts -/
theorem ser_ix {A : Act} {σ : Sv} {q : Pt} {x y z : D} {v u : V} {Q : VK} (s : SR W A σ q) (rx : RO W q.ρ q.Fr q.H σ x v) (ry : RO W q.ρ q.Fr q.H σ y u) (nd : ∀ ks xs, ct q.S q.G x ≠ .dic ks xs) (e : ixOf q.S q.G x y = some z)
    (h : ∀ w, RO W q.ρ q.Fr q.H σ z w → Q w q.H) : rIx W.K v u q.H Q := by
  have c := ct_rel s rx
  unfold ixOf at e
  cases ec : ct q.S q.G x with
  | lst l =>
    rw [ec] at c e
    cases y with
    | int k =>
      simp only at e
      cases ep : plc l.length k with
      | none => rw [ep] at e; cases e
      | some j =>
        rw [ep] at e
        have e : l[j]? = some z := e
        cases c with
        | lst ev hl r =>
          obtain ⟨w, ew, rw'⟩ := r.get e
          rw [r.length] at ep
          rw [ev, ry.int]
          exact .inl ⟨_, _, k, w, rfl, rfl, SqL.of hl, plc_atI ep ew, h w (RO.of rw')⟩
    | _ => cases e
  | tup l =>
    rw [ec] at c e
    cases y with
    | int k =>
      simp only at e
      cases ep : plc l.length k with
      | none => rw [ep] at e; cases e
      | some j =>
        rw [ep] at e
        have e : l[j]? = some z := e
        cases c with
        | tup ev hl r =>
          obtain ⟨w, ew, rw'⟩ := r.get e
          rw [r.length] at ep
          rw [ev, ry.int]
          exact .inr (.inl ⟨_, _, k, w, rfl, rfl, hl, plc_atI ep ew, h w (RO.of rw')⟩)
    | _ => cases e
  | str l =>
    rw [ec] at c e
    cases y with
    | int k =>
      simp only at e
      split at e
      · rename_i hz
        cases ep : plc l.cps.toList.length k with
        | none => rw [ep] at e; cases e
        | some j =>
          rw [ep] at e
          have e : (l.cps.toList[j]?).map (fun c => D.str ⟨#[c]⟩) = some z := e
          rw [Option.map_eq_some_iff] at e
          obtain ⟨c0, e0, rfl⟩ := e
          cases c with
          | str ev =>
            rw [ev, ry.int]
            exact .inr (.inr ⟨l, k, c0, rfl, rfl, hz, plc_atI ep e0, h _ (RO.of (by simp only [RD]))⟩)
      · cases e
    | _ => cases e
  | dic ks xs => exact absurd ec (nd ks xs)
  | _ => rw [ec] at e; cases e
theorem bnd_sIx {n d : Nat} {hb : Bool} {x : D} {k : Nat} (hd : d ≤ n) (e : bnd n d hb x = some k) : ∃ o : Option Int, (hb = false → o = none) ∧ (hb = true → ∃ i, x = .int i ∧ o = some i) ∧ HT.sIx n d o = k := by
  cases hb with
  | false =>
    cases e
    exact ⟨none, fun _ => rfl, (fun h => nomatch h), rfl⟩
  | true =>
    cases x with
    | int i =>
      have e : (if 0 ≤ i ∧ i < 2 ^ 62 then some (min i.toNat n) else none) = some k := e
      split at e
      · rename_i hi
        cases e
        refine ⟨some i, (fun h => nomatch h), fun _ => ⟨i, rfl, rfl⟩, ?_⟩
        show (if i < 0 then (i + (n : Int)).toNat else min i.toNat n) = min i.toNat n
        rw [if_neg (show ¬ i < 0 by omega)]
      · cases e
    | _ => cases e
/-- slices -/
def rSlM (K : PySem.W.Frag) : V → Option Int → Option Int → Hp → VK → Prop := fun x lo hi H Q => rSlL K x lo hi H Q ∨ rSlA K x lo hi H Q ∨ rSlS x lo hi H Q
theorem sl_M : SlR X (rSlM X.K) := sl_list.or (sl_tupA.or sl_str)
theorem RDs.cut {ρ : List Addr} {Fr : Addr → Prop} {H : Hp} {l : List D} {vs : List V} (h : RDs W ρ Fr H l vs) (a b : Nat) : RDs W ρ Fr H (cutL l a b) ((vs.drop a).take (b - a)) := RDs.take (b - a) (RDs.drop a h)
theorem ser_sl {A : Act} {σ : Sv} {q : Pt} {x z lo hi : D} {hl hh : Bool} {v : V} {Q : VK} {o1 o2 : Option Int} (s : SR W A σ q) (rx : RO W q.ρ q.Fr q.H σ x v) (e : slOf q.S q.G x hl lo hh hi = some z)
    (h1 : (hl = false → o1 = none) ∧ (hl = true → ∀ i, lo = .int i → o1 = some i)) (h2 : (hh = false → o2 = none) ∧ (hh = true → ∀ i, hi = .int i → o2 = some i))
    (h : ∀ w H', Res W σ q z w H' → Q w H') : rSlM W.K v o1 o2 q.H Q := by
  have c := ct_rel s rx
  have key : ∀ {n : Nat} {a b : Nat}, bnd n 0 hl lo = some a → bnd n n hh hi = some b → HT.sIx n 0 o1 = a ∧ HT.sIx n n o2 = b := by
    intro n a b ea eb
    obtain ⟨p1, x1, y1, z1⟩ := bnd_sIx (Nat.zero_le n) ea
    obtain ⟨p2, x2, y2, z2⟩ := bnd_sIx (Nat.le_refl n) eb
    have e1 : p1 = o1 := by
      cases hl with
      | false => rw [x1 rfl, h1.1 rfl]
      | true =>
        obtain ⟨i, ei, ep⟩ := y1 rfl
        rw [ep, h1.2 rfl i ei]
    have e2 : p2 = o2 := by
      cases hh with
      | false => rw [x2 rfl, h2.1 rfl]
      | true =>
        obtain ⟨i, ei, ep⟩ := y2 rfl
        rw [ep, h2.2 rfl i ei]
    rw [← e1, ← e2]
    exact ⟨z1, z2⟩
  unfold slOf at e
  cases ec : ct q.S q.G x with
  | lst l =>
    rw [ec] at c e
    simp only at e
    cases ea : bnd l.length 0 hl lo with
    | none => rw [ea] at e; cases e
    | some a =>
      cases eb : bnd l.length l.length hh hi with
      | none => rw [ea, eb] at e; cases e
      | some b =>
        rw [ea, eb] at e
        cases e
        cases c with
        | lst ev hx r =>
          rename_i ad vs
          obtain ⟨k1, k2⟩ := key ea eb
          rw [r.length] at k1 k2
          refine .inl ⟨ad, vs, ev, SqL.of hx, fun p hp => h _ _ (.new hp ⟨_, rfl, ?_⟩)⟩
          unfold cutV
          rw [k1, k2]
          exact r.cut a b
  | scr l =>
    rw [ec] at c e
    simp only at e
    cases ea : bnd l.length 0 hl lo with
    | none => rw [ea] at e; cases e
    | some a =>
      cases eb : bnd l.length l.length hh hi with
      | none => rw [ea, eb] at e; cases e
      | some b =>
        rw [ea, eb] at e
        cases e
        cases c with
        | scr ev hx r =>
          rename_i ad vs
          obtain ⟨k1, k2⟩ := key ea eb
          rw [r.length] at k1 k2
          refine .inl ⟨ad, vs, ev, hx, fun p hp => h _ _ (.new hp ⟨_, rfl, ?_⟩)⟩
          unfold cutV
          rw [k1, k2]
          exact r.cut a b
  | tup l =>
    have ox := RO.tup_of rx ec
    rw [ec] at c e
    simp only at e
    cases ea : bnd l.length 0 hl lo with
    | none => rw [ea] at e; cases e
    | some a =>
      cases eb : bnd l.length l.length hh hi with
      | none => rw [ea, eb] at e; cases e
      | some b =>
        rw [ea, eb] at e
        cases e
        cases c with
        | tup ev hx r =>
          rename_i ad vs
          obtain ⟨k1, k2⟩ := key ea eb
          have hlen := r.length
          rw [r.length] at k1 k2
          refine .inr (.inl ⟨ad, vs, ev, hx, fun hw => ?_, fun hw p hp => h _ _ (.new hp ⟨_, rfl, ?_⟩)⟩)
          · have ea0 : a = 0 := by rw [← k1]; exact hw.1
            have eb0 : b = l.length := by rw [← k2, hlen]; exact hw.2
            subst ea0 eb0
            have el : cutL l 0 l.length = l := by unfold cutL; simp
            rw [el] at h
            rw [ev] at ox
            exact h _ _ (.old rfl ox)
          · unfold cutV
            rw [k1, k2]
            exact r.cut a b
  | str l =>
    rw [ec] at c e
    simp only at e
    split at e
    · rename_i hz
      cases ea : bnd l.length 0 hl lo with
      | none => rw [ea] at e; cases e
      | some a =>
        cases eb : bnd l.length l.length hh hi with
        | none => rw [ea, eb] at e; cases e
        | some b =>
          rw [ea, eb] at e
          cases e
          cases c with
          | str ev =>
            obtain ⟨k1, k2⟩ := key ea eb
            refine .inr (.inr ⟨l, ev, hz, ?_⟩)
            unfold cutS
            rw [k1, k2]
            exact h _ _ (.old rfl (RO.of (by simp only [RD]; rfl)))
    · cases e
  | _ => rw [ec] at e; cases e
end
end Mi

end
section
set_option Elab.async false
set_option linter.all false
set_option maxRecDepth 100000
set_option maxHeartbeats 1000000
/-! Mi5: dicts. -/
namespace Mi
open PySem PySem.Spec PyProof.Rows L2

/-! ### keys that are ints and texts -/
def kD : Key → D
  | .inl i => .int i
  | .inr x => .str x
theorem leaf_kD {k : D} (h : k.leaf = true) : ∃ key, k = kD key := by
  cases k with
  | int i => exact ⟨.inl i, rfl⟩
  | str x => exact ⟨.inr x, rfl⟩
  | _ => cases h
theorem kD_leaf (k : Key) : (kD k).leaf = true := by cases k <;> rfl
theorem kD_tup (k : Key) : (kD k).isTup = false := by cases k <;> rfl
theorem kD_beq (a b : Key) : (kD a).beq (kD b) = decide (a = b) := by
  cases a with
  | inl i =>
    cases b with
    | inl j => simp only [kD, D.beq]; by_cases h : i = j <;> simp [h]
    | inr j => simp only [kD, D.beq]; simp
  | inr i =>
    cases b with
    | inl j => simp only [kD, D.beq]; simp
    | inr j => simp only [kD, D.beq]; by_cases h : i = j <;> simp [h]
section
variable {W : Wd} {ρ : List Addr} {Fr : Addr → Prop} {H : Hp}
theorem RD.kD {key : Key} {v : V} (h : RD W ρ Fr H (kD key) v) : v = kV key := by
  cases key with
  | inl i => simp only [Mi.kD, RD] at h; exact h
  | inr i => simp only [Mi.kD, RD] at h; exact h
theorem rd_kD (key : Key) : RD W ρ Fr H (kD key) (kV key) := by
  cases key <;> simp only [Mi.kD, RD] <;> rfl
theorem kV_inj {a b : Key} (h : kV a = kV b) : a = b := by
  cases a <;> cases b <;> cases h <;> rfl
inductive LeafR (W : Wd) (ρ : List Addr) (Fr : Addr → Prop) (H : Hp) : List D → List D → List (Key × V) → Prop
  | nil : LeafR W ρ Fr H [] [] []
  | cons {key : Key} {x : D} {v : V} {ks xs : List D} {l : List (Key × V)} : RD W ρ Fr H x v → LeafR W ρ Fr H ks xs l → LeafR W ρ Fr H (kD key :: ks) (x :: xs) ((key, v) :: l)
theorem LeafR.of : ∀ {ks xs : List D} {l : List (Key × V)}, ks.all D.leaf = true → RDs W ρ Fr H ks (l.map fun p => kV p.1) → RDs W ρ Fr H xs (l.map (·.2)) → LeafR W ρ Fr H ks xs l
  | [], xs, l, _, h1, h2 => by
    have e := h1.inv0
    have : l = [] := by simpa using e
    subst this
    cases xs with
    | nil => exact .nil
    | cons x xs => have := h2.length; simp at this
  | k :: ks, xs, [], _, h1, h2 => by have := h1.length; simp at this
  | k :: ks, [], p :: l, _, h1, h2 => by have := h2.length; simp at this
  | k :: ks, x :: xs, (key, v) :: l, hl, h1, h2 => by
    rw [List.all_cons, Bool.and_eq_true] at hl
    obtain ⟨a, b, e, r1, r2⟩ := h1.inv
    obtain ⟨c, d, e2, r3, r4⟩ := h2.inv
    simp only [List.map_cons, List.cons.injEq] at e e2
    obtain ⟨rfl, rfl⟩ := e
    obtain ⟨rfl, rfl⟩ := e2
    obtain ⟨key', rfl⟩ := leaf_kD hl.1
    have := kV_inj r1.kD
    subst this
    exact .cons r3 (LeafR.of hl.2 r2 r4)
theorem LeafR.to {ks xs : List D} {l : List (Key × V)} (h : LeafR W ρ Fr H ks xs l) : ks.all D.leaf = true ∧ RDs W ρ Fr H ks (l.map fun p => kV p.1) ∧ RDs W ρ Fr H xs (l.map (·.2)) := by
  induction h with
  | nil => exact ⟨rfl, .nil, .nil⟩
  | cons r t ih =>
    refine ⟨by rw [List.all_cons, kD_leaf, ih.1]; rfl, .cons (rd_kD _) ih.2.1, .cons r ih.2.2⟩
theorem LeafR.length {ks xs : List D} {l : List (Key × V)} (h : LeafR W ρ Fr H ks xs l) : ks.length = l.length ∧ xs.length = l.length := by
  induction h with
  | nil => exact ⟨rfl, rfl⟩
  | cons r t ih => simp [ih.1, ih.2]
theorem LeafR.val {ks xs : List D} {l : List (Key × V)} (h : LeafR W ρ Fr H ks xs l) (key : Key) : (∃ y v, dGet ks xs (kD key) = some y ∧ valV l key = some v ∧ RD W ρ Fr H y v ∧ dHas ks (kD key) = true) ∨ (dGet ks xs (kD key) = none ∧ valV l key = none ∧ dHas ks (kD key) = false) := by
  induction h with
  | nil => exact .inr ⟨rfl, rfl, rfl⟩
  | @cons k x v ks xs l r t ih =>
    by_cases e : k = key
    · subst e
      refine .inl ⟨x, v, ?_, ?_, r, ?_⟩
      · simp only [dGet, kD_beq, decide_true, if_true]
      · exact valV_pos rfl
      · simp only [dHas, List.any_cons, kD_beq, decide_true, Bool.true_or]
    · have hb : (kD k).beq (kD key) = false := by rw [kD_beq]; exact decide_eq_false e
      rcases ih with ⟨y, w, h1, h2, h3, h4⟩ | ⟨h1, h2, h4⟩
      · refine .inl ⟨y, w, ?_, ?_, h3, ?_⟩
        · simp only [dGet, hb, Bool.false_eq_true, if_false]; exact h1
        · rw [valV_neg e]; exact h2
        · simp only [dHas, List.any_cons, hb, Bool.false_or]; exact h4
      · refine .inr ⟨?_, ?_, ?_⟩
        · simp only [dGet, hb, Bool.false_eq_true, if_false]; exact h1
        · rw [valV_neg e]; exact h2
        · simp only [dHas, List.any_cons, hb, Bool.false_or]; exact h4
theorem LeafR.any {ks xs : List D} {l : List (Key × V)} (h : LeafR W ρ Fr H ks xs l) (key : Key) : dHas ks (kD key) = l.any fun kv => decide (kv.1 = key) := by
  induction h with
  | nil => rfl
  | @cons k x v ks xs l r t ih =>
    simp only [dHas, List.any_cons, kD_beq] at ih ⊢
    rw [ih]
theorem LeafR.rep {ks xs : List D} {l : List (Key × V)} (h : LeafR W ρ Fr H ks xs l) (key : Key) {x : D} {v : V} (r : RD W ρ Fr H x v) : LeafR W ρ Fr H ks (repX ks xs (kD key) x) (l.map fun kv => if kv.1 = key then (kv.1, v) else kv) := by
  induction h with
  | nil => exact .nil
  | @cons k y w ks xs l r' t ih =>
    simp only [repX, List.map_cons, kD_beq]
    by_cases e : k = key
    · rw [if_pos (decide_eq_true e), if_pos e]
      exact .cons r ih
    · rw [if_neg (by rw [decide_eq_false e]; exact Bool.false_ne_true), if_neg e]
      exact .cons r' ih
theorem LeafR.snoc {ks xs : List D} {l : List (Key × V)} (h : LeafR W ρ Fr H ks xs l) (key : Key) {x : D} {v : V} (r : RD W ρ Fr H x v) : LeafR W ρ Fr H (ks ++ [kD key]) (xs ++ [x]) (l ++ [(key, v)]) := by
  induction h with
  | nil => exact .cons r .nil
  | cons r' t ih => exact .cons r' ih
theorem LeafR.put {ks xs : List D} {l : List (Key × V)} (h : LeafR W ρ Fr H ks xs l) (key : Key) {x : D} {v : V} (r : RD W ρ Fr H x v) : LeafR W ρ Fr H (dPut ks xs (kD key) x).1 (dPut ks xs (kD key) x).2 (putK l key v) := by
  unfold dPut putK
  rw [h.any key]
  by_cases e : (l.any fun kv => decide (kv.1 = key)) = true
  · rw [if_pos e, if_pos e]
    exact h.rep key r
  · rw [if_neg e, if_neg e]
    exact h.snoc key r
theorem LeafR.nil_iff {xs : List D} {l : List (Key × V)} (h : LeafR W ρ Fr H [] xs l) : l = [] := by cases h; rfl
end

/-! ### keys that are tuples -/
section
variable {X : Cx} {pins : List (Addr × Obj)} {σ : Sv} {H : Hp} {s : Shared} {ρ : List Addr} {Fr : Addr → Prop}
abbrev wdOf (X : Cx) : Wd := ⟨X.prog, X.w, X.K, X.mg⟩
mutual
theorem nk_is (I : Inv X pins σ H s) : ∀ (d : D) (k : NestedKey) (v : V) (u : Value), d.nk = some k → RD (wdOf X) ρ Fr H d v → RelV v u → NestedIs s.heap k u
  | .int i, _, _, _, e, r, ru => by
    simp only [D.nk] at e
    cases e
    simp only [RD] at r
    subst r
    obtain ⟨t, rfl⟩ := ru
    exact .int i t
  | .str i, _, _, _, e, r, ru => by
    simp only [D.nk] at e
    cases e
    simp only [RD] at r
    subst r
    obtain ⟨t, rfl⟩ := ru
    exact .text i t
  | .tup l, k, v, u, e, r, ru => by
    simp only [D.nk, Option.map_eq_some_iff] at e
    obtain ⟨ks, e, rfl⟩ := e
    simp only [RD] at r
    obtain ⟨a, vs, rfl, h, r⟩ := r
    cases ru
    obtain ⟨its, rv, ⟨o, ho, hc, n, hd⟩, _⟩ := I.tuple (fr_sqT h)
    exact .tup ho hc hd (by simpa using nk_are I l ks vs its e r rv)
  | .non, _, _, _, e, _, _ => by simp only [D.nk] at e; cases e
  | .bl _, _, _, _, e, _, _ => by simp only [D.nk] at e; cases e
  | .lst _, _, _, _, e, _, _ => by simp only [D.nk] at e; cases e
  | .scr _, _, _, _, e, _, _ => by simp only [D.nk] at e; cases e
  | .dic _ _, _, _, _, e, _, _ => by simp only [D.nk] at e; cases e
  | .ref _, _, _, _, e, _, _ => by simp only [D.nk] at e; cases e
  | .slot _, _, _, _, e, _, _ => by simp only [D.nk] at e; cases e
  | .fn _, _, _, _, e, _, _ => by simp only [D.nk] at e; cases e
theorem nk_are (I : Inv X pins σ H s) : ∀ (ds : List D) (ks : List NestedKey) (vs : List V) (us : List Value), D.nks ds = some ks → RDs (wdOf X) ρ Fr H ds vs → Vals vs us → NestedAll s.heap ks us
  | [], _, _, _, e, r, ru => by
    simp only [D.nks] at e
    cases e
    have := r.inv0
    subst this
    cases ru
    exact .nil
  | d :: ds, ks, vs, us, e, r, ru => by
    simp only [D.nks] at e
    obtain ⟨v, r', rfl, r1, r2⟩ := r.inv
    cases e1 : d.nk with
    | none => rw [e1] at e; cases e
    | some k =>
      cases e2 : D.nks ds with
      | none => rw [e1, e2] at e; cases e
      | some l =>
        rw [e1, e2] at e
        cases e
        cases ru with
        | cons ru1 ru2 => exact .cons (nk_is I d k v _ e1 r1 ru1) (nk_are I ds l r' _ e2 r2 ru2)
end
theorem isTup_nk {k : D} (h : k.isTup = true) : ∃ nk, k.nk = some nk ∧ nk.depth ≤ 8 := by
  cases k with
  | tup l =>
    simp only [D.isTup] at h
    cases e : D.nks l with
    | none => rw [e] at h; cases h
    | some ks =>
      rw [e] at h
      refine ⟨.tup ks, by simp only [D.nk, e]; rfl, ?_⟩
      have := of_decide_eq_true h
      simp only [NestedKey.depth]
      omega
  | _ => cases h
theorem isTup_ref {W : Wd} {k : D} {v : V} (h : k.isTup = true) (r : RD W ρ Fr H k v) : ∃ b, v = .ref b := by
  cases k with
  | tup l =>
    simp only [RD] at r
    obtain ⟨a, vs, rfl, _⟩ := r
    exact ⟨a, rfl⟩
  | _ => cases h
theorem isTup_leaf {k : D} (h : k.isTup = true) : k.leaf = false := by
  cases k with
  | tup l => rfl
  | _ => cases h
/-- a key that a tuple is -/
theorem knd_is (I : Inv X pins σ H s) {k : D} {nk : NestedKey} {b : Addr} (h : k.isTup = true) (e : k.nk = some nk) (r : RD (wdOf X) ρ Fr H k (.ref b)) : (nestedKind X.prog X.w).is s.heap nk b := by
  obtain ⟨nk', e', hd⟩ := isTup_nk h
  rw [e] at e'
  cases e'
  exact ⟨nk_is I k nk _ _ e r rfl, hd⟩
mutual
theorem nk_beq : ∀ (a b : D) (x y : NestedKey), a.nk = some x → b.nk = some y → a.beq b = decide (x = y)
  | .int i, b, x, y, ea, eb => by
    simp only [D.nk] at ea
    cases ea
    cases b with
    | int j =>
      simp only [D.nk] at eb
      cases eb
      simp only [D.beq]
      by_cases h : i = j <;> simp [h]
    | str j =>
      simp only [D.nk] at eb
      cases eb
      simp [D.beq]
    | tup l =>
      simp only [D.nk, Option.map_eq_some_iff] at eb
      obtain ⟨_, _, rfl⟩ := eb
      simp [D.beq]
    | _ => simp only [D.nk] at eb; cases eb
  | .str i, b, x, y, ea, eb => by
    simp only [D.nk] at ea
    cases ea
    cases b with
    | int j =>
      simp only [D.nk] at eb
      cases eb
      simp [D.beq]
    | str j =>
      simp only [D.nk] at eb
      cases eb
      simp only [D.beq]
      by_cases h : i = j <;> simp [h]
    | tup l =>
      simp only [D.nk, Option.map_eq_some_iff] at eb
      obtain ⟨_, _, rfl⟩ := eb
      simp [D.beq]
    | _ => simp only [D.nk] at eb; cases eb
  | .tup l, b, x, y, ea, eb => by
    simp only [D.nk, Option.map_eq_some_iff] at ea
    obtain ⟨ks, ea, rfl⟩ := ea
    cases b with
    | int j =>
      simp only [D.nk] at eb
      cases eb
      simp [D.beq]
    | str j =>
      simp only [D.nk] at eb
      cases eb
      simp [D.beq]
    | tup m =>
      simp only [D.nk, Option.map_eq_some_iff] at eb
      obtain ⟨js, eb, rfl⟩ := eb
      simp only [D.beq]
      rw [nks_beq l m ks js ea eb]
      by_cases h : ks = js <;> simp [h]
    | _ => simp only [D.nk] at eb; cases eb
  | .non, _, _, _, ea, _ => by simp only [D.nk] at ea; cases ea
  | .bl _, _, _, _, ea, _ => by simp only [D.nk] at ea; cases ea
  | .lst _, _, _, _, ea, _ => by simp only [D.nk] at ea; cases ea
  | .scr _, _, _, _, ea, _ => by simp only [D.nk] at ea; cases ea
  | .dic _ _, _, _, _, ea, _ => by simp only [D.nk] at ea; cases ea
  | .ref _, _, _, _, ea, _ => by simp only [D.nk] at ea; cases ea
  | .slot _, _, _, _, ea, _ => by simp only [D.nk] at ea; cases ea
  | .fn _, _, _, _, ea, _ => by simp only [D.nk] at ea; cases ea
theorem nks_beq : ∀ (a b : List D) (x y : List NestedKey), D.nks a = some x → D.nks b = some y → D.beqs a b = decide (x = y)
  | [], b, x, y, ea, eb => by
    simp only [D.nks] at ea
    cases ea
    cases b with
    | nil => simp only [D.nks] at eb; cases eb; simp [D.beqs]
    | cons c r =>
      simp only [D.nks] at eb
      cases e1 : c.nk with
      | none => rw [e1] at eb; cases eb
      | some k =>
        cases e2 : D.nks r with
        | none => rw [e1, e2] at eb; cases eb
        | some l => rw [e1, e2] at eb; cases eb; simp [D.beqs]
  | d :: t, b, x, y, ea, eb => by
    simp only [D.nks] at ea
    cases e1 : d.nk with
    | none => rw [e1] at ea; cases ea
    | some k =>
      cases e2 : D.nks t with
      | none => rw [e1, e2] at ea; cases ea
      | some l =>
        rw [e1, e2] at ea
        cases ea
        cases b with
        | nil => simp only [D.nks] at eb; cases eb; simp [D.beqs]
        | cons c r =>
          simp only [D.nks] at eb
          cases e3 : c.nk with
          | none => rw [e3] at eb; cases eb
          | some k2 =>
            cases e4 : D.nks r with
            | none => rw [e3, e4] at eb; cases eb
            | some l2 =>
              rw [e3, e4] at eb
              cases eb
              simp only [D.beqs]
              rw [nk_beq d c k k2 e1 e3, nks_beq t r l l2 e2 e4]
              by_cases h1 : k = k2 <;> by_cases h2 : l = l2 <;> simp [h1, h2]
end
/-- keys, values, the library's entries -/
inductive NestR (W : Wd) (ρ : List Addr) (Fr : Addr → Prop) (H : Hp) : List D → List D → List (NestedKey × Addr × Value) → List V → Prop
  | nil : NestR W ρ Fr H [] [] [] []
  | cons {k x : D} {nk : NestedKey} {b : Addr} {v : V} {u : Value} {ks xs : List D} {l : List (NestedKey × Addr × Value)} {vs : List V} : k.isTup = true → k.nk = some nk → RD W ρ Fr H k (.ref b) → RD W ρ Fr H x v → RelV v u → NestR W ρ Fr H ks xs l vs →
      NestR W ρ Fr H (k :: ks) (x :: xs) ((nk, b, u) :: l) (v :: vs)
theorem NestR.of {W : Wd} : ∀ {ks xs : List D} {l : List (NestedKey × Addr × Value)} {vs : List V}, ks.all D.isTup = true → RDs W ρ Fr H ks (l.map fun x => V.ref x.2.1) → RDs W ρ Fr H xs vs → Vals vs (l.map (·.2.2)) → D.nks ks = some (l.map (·.1)) → NestR W ρ Fr H ks xs l vs
  | [], xs, l, vs, _, h1, h2, h3, h4 => by
    have e := h1.inv0
    have : l = [] := by simpa using e
    subst this
    cases h3
    cases xs with
    | nil => exact .nil
    | cons x xs => have := h2.length; simp at this
  | k :: ks, xs, [], vs, _, h1, h2, h3, _ => by have := h1.length; simp at this
  | k :: ks, xs, (nk, b, u) :: l, vs, hl, h1, h2, h3, h4 => by
    rw [List.all_cons, Bool.and_eq_true] at hl
    cases h3 with
    | @cons v vs' _ _ rv rvs =>
      obtain ⟨a, c, e, r1, r2⟩ := h1.inv
      simp only [List.map_cons, List.cons.injEq] at e
      obtain ⟨rfl, rfl⟩ := e
      cases xs with
      | nil => have := h2.length; simp at this
      | cons x xs =>
        obtain ⟨a2, c2, e2, r3, r4⟩ := h2.inv
        simp only [List.cons.injEq] at e2
        obtain ⟨rfl, rfl⟩ := e2
        simp only [D.nks] at h4
        cases e5 : k.nk with
        | none => rw [e5] at h4; cases h4
        | some nk' =>
          cases e6 : D.nks ks with
          | none => rw [e5, e6] at h4; cases h4
          | some l' =>
            rw [e5, e6] at h4
            simp only [Option.some.injEq, List.map_cons, List.cons.injEq] at h4
            obtain ⟨h4a, h4b⟩ := h4
            subst h4a
            exact .cons hl.1 e5 r1 r3 rv (NestR.of hl.2 r2 r4 rvs (by rw [e6, h4b]))
theorem NestR.to {W : Wd} {ks xs : List D} {l : List (NestedKey × Addr × Value)} {vs : List V} (h : NestR W ρ Fr H ks xs l vs) : ks.all D.isTup = true ∧ RDs W ρ Fr H ks (l.map fun x => V.ref x.2.1) ∧ RDs W ρ Fr H xs vs ∧ Vals vs (l.map (·.2.2)) ∧ D.nks ks = some (l.map (·.1)) := by
  induction h with
  | nil => exact ⟨rfl, .nil, .nil, .nil, by simp only [D.nks]; rfl⟩
  | cons h1 h2 h3 h4 h5 t ih =>
    obtain ⟨a1, a2, a3, a4, a5⟩ := ih
    exact ⟨by rw [List.all_cons, h1, a1]; rfl, .cons h3 a2, .cons h4 a3, .cons h5 a4, by simp only [D.nks, h2, a5]; rfl⟩
theorem NestR.length {W : Wd} {ks xs : List D} {l : List (NestedKey × Addr × Value)} {vs : List V} (h : NestR W ρ Fr H ks xs l vs) : ks.length = l.length := by
  induction h with
  | nil => rfl
  | cons h1 h2 h3 h4 h5 t ih => simp [ih]
theorem NestR.mem {W : Wd} {ks xs : List D} {l : List (NestedKey × Addr × Value)} {vs : List V} (h : NestR W ρ Fr H ks xs l vs) : ∀ x ∈ l, ∃ k : D, k.isTup = true ∧ k.nk = some x.1 ∧ RD W ρ Fr H k (.ref x.2.1) := by
  induction h with
  | nil => intro x hx; cases hx
  | @cons k x nk b v u ks xs l vs h1 h2 h3 h4 h5 t ih =>
    intro y hy
    rcases List.mem_cons.mp hy with rfl | hy
    · exact ⟨k, h1, h2, h3⟩
    · exact ih y hy
theorem NestR.val {W : Wd} {ks xs : List D} {l : List (NestedKey × Addr × Value)} {vs : List V} (h : NestR W ρ Fr H ks xs l vs) {k : D} {nk : NestedKey} (e : k.nk = some nk) :
    (∃ y v b u, dGet ks xs k = some y ∧ atKey l nk = some (b, u) ∧ RD W ρ Fr H y v ∧ RelV v u ∧ dHas ks k = true) ∨ (dGet ks xs k = none ∧ atKey l nk = none ∧ dHas ks k = false) := by
  induction h with
  | nil => exact .inr ⟨rfl, rfl, rfl⟩
  | @cons k' x nk' b v u ks xs l vs h1 h2 h3 h4 h5 t ih =>
    have hb := nk_beq k' k nk' nk h2 e
    by_cases q : nk' = nk
    · have hb : k'.beq k = true := by rw [hb]; exact decide_eq_true q
      refine .inl ⟨x, v, b, u, ?_, ?_, h4, h5, ?_⟩
      · simp only [dGet, hb, if_true]
      · simp [atKey, List.find?_cons, q]
      · simp only [dHas, List.any_cons, hb, Bool.true_or]
    · have hb : k'.beq k = false := by rw [hb]; exact decide_eq_false q
      have ha : atKey ((nk', b, u) :: l) nk = atKey l nk := by simp [atKey, List.find?_cons, q]
      rcases ih with ⟨y, w, b', u', g1, g2, g3, g4, g5⟩ | ⟨g1, g2, g5⟩
      · refine .inl ⟨y, w, b', u', ?_, by rw [ha]; exact g2, g3, g4, ?_⟩
        · simp only [dGet, hb, Bool.false_eq_true, if_false]; exact g1
        · simp only [dHas, List.any_cons, hb, Bool.false_or]; exact g5
      · refine .inr ⟨?_, by rw [ha]; exact g2, ?_⟩
        · simp only [dGet, hb, Bool.false_eq_true, if_false]; exact g1
        · simp only [dHas, List.any_cons, hb, Bool.false_or]; exact g5
theorem NestR.rep {W : Wd} {ks xs : List D} {l : List (NestedKey × Addr × Value)} {vs : List V} (h : NestR W ρ Fr H ks xs l vs) {k x : D} {nk : NestedKey} {v : V} {u : Value} (e : k.nk = some nk) (r : RD W ρ Fr H x v) (ru : RelV v u) :
    ∃ vs', NestR W ρ Fr H ks (repX ks xs k x) (l.map (putAt nk u)) vs' := by
  induction h with
  | nil => exact ⟨[], .nil⟩
  | @cons k' y nk' b w z ks xs l vs h1 h2 h3 h4 h5 t ih =>
    obtain ⟨vs', ih⟩ := ih
    have hb := nk_beq k' k nk' nk h2 e
    simp only [repX, List.map_cons]
    by_cases q : nk' = nk
    · have hb : k'.beq k = true := by rw [hb]; exact decide_eq_true q
      rw [if_pos hb]
      have ep : putAt nk u (nk', b, z) = (nk', b, u) := by simp [putAt, q]
      rw [ep]
      exact ⟨v :: vs', .cons h1 h2 h3 r ru ih⟩
    · have hb : k'.beq k = false := by rw [hb]; exact decide_eq_false q
      rw [if_neg (by rw [hb]; exact Bool.false_ne_true)]
      have ep : putAt nk u (nk', b, z) = (nk', b, z) := by simp [putAt, q]
      rw [ep]
      exact ⟨w :: vs', .cons h1 h2 h3 h4 h5 ih⟩
theorem NestR.snoc {W : Wd} {ks xs : List D} {l : List (NestedKey × Addr × Value)} {vs : List V} (h : NestR W ρ Fr H ks xs l vs) {k x : D} {nk : NestedKey} {b : Addr} {v : V} {u : Value} (ht : k.isTup = true) (e : k.nk = some nk) (rk : RD W ρ Fr H k (.ref b)) (r : RD W ρ Fr H x v) (ru : RelV v u) :
    NestR W ρ Fr H (ks ++ [k]) (xs ++ [x]) (l ++ [(nk, b, u)]) (vs ++ [v]) := by
  induction h with
  | nil => exact .cons ht e rk r ru .nil
  | cons h1 h2 h3 h4 h5 t ih => exact .cons h1 h2 h3 h4 h5 ih
theorem NestR.put {W : Wd} {ks xs : List D} {l : List (NestedKey × Addr × Value)} {vs : List V} (h : NestR W ρ Fr H ks xs l vs) {k x : D} {nk : NestedKey} {b : Addr} {v : V} {u : Value} (ht : k.isTup = true) (e : k.nk = some nk) (rk : RD W ρ Fr H k (.ref b)) (r : RD W ρ Fr H x v) (ru : RelV v u) :
    ∃ vs', NestR W ρ Fr H (dPut ks xs k x).1 (dPut ks xs k x).2 (storedH l nk b u) vs' := by
  unfold dPut storedH
  rcases h.val e with ⟨y, w, b', u', g1, g2, g3, g4, g5⟩ | ⟨g1, g2, g5⟩
  · rw [if_pos g5, if_pos (by rw [g2]; rfl)]
    exact h.rep e r ru
  · rw [if_neg (by rw [g5]; exact Bool.false_ne_true), if_neg (by rw [g2]; exact Bool.false_ne_true)]
    exact ⟨_, h.snoc ht e rk r ru⟩
end
end Mi

end
section
set_option Elab.async false
set_option linter.all false
set_option maxRecDepth 100000
set_option maxHeartbeats 1000000
/-! Mi6: calls. -/
namespace Mi
open PySem PySem.Spec PyProof.Rows L2

/-- room, and no guard stands -/
structure Rm (k : Nat) (A : Around) : Prop where
  r : Room k A
  g : A.guards = some []
theorem Rm.mono {j k : Nat} {A : Around} (r : Rm k A) (h : j ≤ k) : Rm j A := ⟨r.r.mono h, r.g⟩
theorem Rm.deeper {k : Nat} {A : Around} (r : Rm (k + 1) A) (env : Env) : Rm k (A.deeper env) := ⟨r.r.deeper env, r.g⟩
theorem Rm.in1 {k : Nat} {A : Around} (r : Rm (k + 1) A) : Rm k A.in1 := ⟨r.r.in1, r.g⟩
theorem Rm.make {k : Nat} {A : Around} (r : Rm (k + 1) A) (C : Addr) (us : List Value) (kw : List (Str × Value)) : Rm k (A.under (.builtin "type.__call__" ⟨.ref C :: us, kw⟩)) :=
  ⟨r.r.make C us kw, by have := r.g; simpa [Around.under, Code.guards, Code.isGuard, guardIds, pushGuards] using this⟩

/-- a def's promise -/
structure FnX (P : Program) (w : World) (K : PySem.W.Frag) (mg : Str → Option Value) (base : Heap) (k : Nat) (f : Addr) (fd : FuncData) (ps : List Str) (sp : Sp) : Prop where
  len : ∀ vs H Q E, sp vs H Q E → vs.length = ps.length
  run : ∀ (A : Around) (outer : List Env) (s : Shared) (H : Hp) (args : Args) (us : List Value) (vs : List V) (Q : VK) (E : XK), Rm k A → Env0 P w K mg base A outer s H → BindsTo s fd args (ps.zip us) → Vals vs us → sp vs H Q E →
    codeAny (model P w) A (.call (.ref f) args) (CR (L2.CX P w) outer P w H s Q E) s
theorem FnX.mono {P : Program} {w : World} {K : PySem.W.Frag} {mg : Str → Option Value} {base : Heap} {j k : Nat} {f : Addr} {fd : FuncData} {ps : List Str} {sp : Sp} (F : FnX P w K mg base j f fd ps sp) (h : j ≤ k) :
    FnX P w K mg base k f fd ps sp := ⟨F.len, fun A outer s H args us vs Q E hr => F.run A outer s H args us vs Q E (hr.mono h)⟩

section
variable {X : Cx} {pins : List (Addr × Obj)} {σ : Sv} {H : Hp} {s : Shared} {Q : VK} {us : List Value} {vs : List V} {k : Nat} {f C : Addr} {fd : FuncData} {ps : List Str} {sp : Sp} {XW : WX}
/-- what a call's end is to a body -/
theorem cr_ep {H0 : Hp} {s0 : Shared} {Q0 : VK} {r : Result} {s' : Shared} (tk : Takes X XW) (I : Inv X pins σ H0 s0) (h : CR (L2.CX X.prog X.w) X.stack X.prog X.w H0 s0 Q0 (WE XW σ) r s') : match r with
    | .ok (.ret u) => EP X pins σ Q0 u s'
    | .ok _ => False
    | .error e => X.xe e s' := by
  cases r with
  | error e => exact passAt tk σ pins H0 s0 e s' I h
  | ok fl =>
    cases fl with
    | ret u => exact I.after h
    | next => exact False.elim h
    | brk => exact False.elim h
    | cont => exact False.elim h
theorem run_fnx {pos : List Value} {kw : List (Str × Value)} (F : FnX X.prog X.w X.K X.mg X.base k f fd ps sp) (hr : Rm k X.A) (tk : Takes X XW) (I : Inv X pins σ H s) (hb : BindsTo s fd ⟨pos, kw⟩ (ps.zip us)) (r : Vals vs us) (h : sp vs H Q (WE XW σ)) :
    wpAny (model X.prog X.w) X.A (call (.ref f) pos kw) (EP X pins σ Q) X.xe s := by
  refine wpAny_call (codeAny_mono (F.run X.A X.stack s H ⟨pos, kw⟩ us vs Q (WE XW σ) hr I.env0 hb r h) fun r s' hq => ?_)
  have := cr_ep tk I hq
  cases r with
  | error e => exact this
  | ok fl => cases fl <;> exact this
theorem run_makex {pos : List Value} {kw : List (Str × Value)} (M : Mk X.K C f) (F : FnX X.prog X.w X.K X.mg X.base k f fd ps sp) (hr : Rm (k + 1) X.A) (tk : Takes X XW) (I : Inv X pins σ H s)
    {g : Value → List Value} {gV : V → List V} (hb : ∀ (s : Shared) (x : Value), X.K.In s.heap → BindsTo s fd ⟨x :: pos, kw⟩ (ps.zip (g x))) (r : ∀ a, Vals (gV (.ref a)) (g (.ref a)))
    (h : ∀ x dx, H x = none → H dx = none → dx ≠ x → sp (gV (.ref x)) (upd (upd H dx (.own x)) x (.ins C dx [])) (fun v H2 => v = .non ∧ Q (.ref x) H2) (WE XW σ)) :
    wpAny (model X.prog X.w) X.A (call (.ref C) pos kw) (EP X pins σ Q) X.xe s := by
  have hq := h (s.heap.objs.size + 1) s.heap.objs.size (I.hok.fresh (Nat.le_succ _)) (I.hok.fresh (Nat.le_refl _)) (Nat.ne_of_lt (Nat.lt_succ_self _))
  have I2 := Inv.made (C := C) I
  have r2 := r (s.heap.objs.size + 1)
  refine wpAny_call (make_map (f := f) I.kIn M.makes M.init (beq_iff_eq.mp M.fn) (codeAny_mono (F.run _ X.stack _ _ ⟨Value.ref (s.heap.objs.size + 1) :: pos, kw⟩ (g (Value.ref (s.heap.objs.size + 1))) _ _ (WE XW σ) (hr.make C pos kw)
    (I2.env0.make C pos kw) (hb _ _ I2.kIn) r2 hq) fun r s' hq' => ?_))
  have := cr_ep tk I2 hq'
  cases r with
  | error e => exact this
  | ok fl =>
    cases fl with
    | ret u =>
      obtain ⟨v, H', I3, rv, ev, q3⟩ := this
      subst ev
      exact ⟨rv, ⟨V.ref (s.heap.objs.size + 1), H', I3, rfl, q3⟩⟩
    | next => exact False.elim this
    | brk => exact False.elim this
    | cont => exact False.elim this
end

/-- a def by its body -/
theorem FunD.okx {P : Program} {w : World} {K : PySem.W.Frag} {mg : Str → Option Value} {base : Heap} {x qual : Str} {params : Arguments} {body : List Stmt} {scope : Scope} {dvs : List V} {kws : List (Str × V)} {f : Addr} {fd : FuncData}
    {N ps : List Str} {k : Nat} {sp : Sp} (F : FunD K x qual params body scope dvs kws f fd) (S : FnScope N ps scope) (len : ∀ vs H Q E, sp vs H Q E → vs.length = ps.length)
    (hbody : ∀ (cdv : Value) (A : Around) (outer : List Env) (s : Shared) (H : Hp) (vs : List V) (Q : VK) (E : XK), (∃ oc od osl, K.lookup f = some ⟨oc, od, .func fd, osl⟩ ∧ fd.code = cdv ∧ fd.qualname = qual) → Rm k (A.deeper (envOfC qual scope s.heap.objs.size f cdv)) → sp vs H Q E →
      ∃ t, PSs (cxOf (L2.CX P w) P w K mg base N qual scope f cdv A outer s H E) body t ∧ t { nx := fun _ H' => Q .non H', rt := Q } (start N vs) H) : FnX P w K mg base (k + 1) f fd ps sp := by
  obtain ⟨oc, od, dV, kV, doc, pm, an, cdv, ct, osl, rfl, lk, hcd, _, _⟩ := F.ex
  refine ⟨len, fun A outer s H args us vs Q E hr e0 hb r hsp => ?_⟩
  have hl := len _ _ _ _ hsp
  have KX : K.In s.heap := e0.mod.kin.keeps fun b o e => (e0.bs b o e).1
  have lim : s.heap.NoLimit := e0.mod.nolimit.keeps fun b o e => (e0.bs b o e).1
  refine codeAny_call_function hr.r.depth (KX _ _ lk) rfl S.co S.gen rfl (PySem.W.codeRec_of KX hcd) (hb _ _ _ _ ?_)
  refine wpAny_newFunctionEnv_cells S.kind (fun ⟨n, v⟩ hy => ?_) fun env he s1 x => ?_
  · rcases S.par n (List.of_mem_zip hy).1 with q | q
    · exact .inl q
    · exact .inr ⟨q, PySem.W.cellsFrom_some _ _ _ (.inl q)⟩
  subst he
  obtain ⟨t, ht, hq⟩ := hbody cdv A outer s H vs Q E ⟨oc, od, osl, lk, rfl, rfl⟩ (hr.deeper _) hsp
  refine ⟨lim.keeps x.toInCall.keep, codeAny_func (wpAny_mono (ht.run [] s1 (L2.start N vs) H _ (inv_start S hr.r.hd e0 hl r x) hq) (fun fl s' hs => ?_) fun e s' hs => hs)⟩
  cases fl with
  | ret u =>
    obtain ⟨v, σ', H', J, rv, q⟩ := hs
    exact ⟨v, H', J.os, J.bare, J.base, J.hok, rv, q⟩
  | next =>
    obtain ⟨σ', H', J, q⟩ := hs
    exact ⟨.non, H', J.os, J.bare, J.base, J.hok, rfl, q⟩
  | brk =>
    obtain ⟨_, _, _, q⟩ := hs
    exact False.elim q
  | cont =>
    obtain ⟨_, _, _, q⟩ := hs
    exact False.elim q

/-! ### what a call gives -/
def foP (W : Wd) (B : Act) (r : FO) (Q : VK) (E : XK) : Prop := match r with
  | .ok d G => ∀ (H : Hp) (ρ : List Addr) (Fr : Addr → Prop), GS W G H ρ Fr → Ex B H ρ Fr → ∀ v, RD W ρ Fr H d v → Q v H
  | .ex x G => ∀ (H : Hp) (ρ : List Addr) (Fr : Addr → Prop) (cls : Value) (dd : Option Addr), GS W G H ρ Fr → Ex B H ρ Fr → XR W ⟨[], G, H, ρ, Fr⟩ x cls dd → E cls dd H
  | .bad => False
/-- a def's promise, by what the interpreter gives -/
def spF (W : Wd) (n : Nat) (c : List D → List MO → FO) : Sp := fun vs H Q E => ∃ (ρ : List Addr) (Fr : Addr → Prop) (G : List MO) (ds : List D), vs.length = n ∧ GS W G H ρ Fr ∧ RDs W ρ Fr H ds vs ∧ foP W ⟨H, ρ, Fr⟩ (c ds G) Q E
theorem spF_len {W : Wd} {n : Nat} {c : List D → List MO → FO} {vs : List V} {H : Hp} {Q : VK} {E : XK} (h : spF W n c vs H Q E) : vs.length = n := by
  obtain ⟨_, _, _, _, h, _⟩ := h
  exact h
theorem spF_bad {W : Wd} {n : Nat} {vs : List V} {H : Hp} {Q : VK} {E : XK} (h : spF W n (fun _ _ => .bad) vs H Q E) : False := by
  obtain ⟨_, _, _, _, _, _, _, h⟩ := h
  exact h
theorem Ex.mo {B : Act} {W : Wd} {G : List MO} {H : Hp} {ρ : List Addr} {Fr : Addr → Prop} (g : GS W G B.H B.ρ B.Fr) (e : Ex B H ρ Fr) : Mo B.ρ B.Fr B.H ρ Fr H :=
  ⟨e.r, e.f, fun a hf => by
    obtain ⟨o, h⟩ := g.ft a hf
    rw [h]
    exact e.k a o h fun m => g.nf a m hf⟩
section
variable {W : Wd} {A : Act} {XW : WX} {σ : Sv} {p : Pt}
/-- a state behind a call -/
theorem SR.call (s : SR W A σ p) {G : List MO} {H : Hp} {ρ : List Addr} {Fr : Addr → Prop} (g : GS W G H ρ Fr) (e : Ex ⟨p.H, p.ρ, p.Fr⟩ H ρ Fr) : SR W A σ ⟨p.S, G, H, ρ, Fr⟩ ∧ Mp p ⟨p.S, G, H, ρ, Fr⟩ := by
  have m : Mo p.ρ p.Fr p.H ρ Fr H := Ex.mo (B := ⟨p.H, p.ρ, p.Fr⟩) s.g e
  refine ⟨⟨g, ⟨fun n a h => e.r n a (s.e.r n a h), fun a h => e.f a (s.e.f a h), fun a o h hn => ?_, fun a ha => ?_, fun a ha => ?_⟩, s.sl, fun i d h => ?_, fun i t h o => ?_, s.si⟩, m⟩
  · refine e.k a o (s.e.k a o h hn) fun hm => ?_
    rcases s.e.nr a hm with z | z
    · exact hn z
    · rw [h] at z; cases z
  · rcases e.nr a ha with z | z
    · exact s.e.nr a z
    · exact .inr (s.nbase z)
  · rcases e.nF a ha with z | z
    · exact s.e.nF a z
    · exact .inr (s.nbase z)
  · obtain ⟨v, h1, r⟩ := s.sv i d h
    exact ⟨v, h1, r.mono m⟩
  · obtain ⟨a, ho, h1, h2, r, nf, nr, z⟩ := s.so i t h o
    refine ⟨a, ho, h1, e.k a ho h2 nr, r.mono m, fun hf => ?_, fun hm => ?_, z⟩
    · rcases e.nF a hf with q | q
      · exact nf q
      · have q : p.H a = none := q
        rw [h2] at q; cases q
    · rcases e.nr a hm with q | q
      · exact nr q
      · have q : p.H a = none := q
        rw [h2] at q; cases q
/-- the interpreter's call, the def's promise -/
theorem wpD.call {c : List D → List MO → FO} {l : List D} {vs : List V} {R : D → Pt → Prop} (h : wpD W A XW σ (fun S G => fromFO (c l G) S) p R) (r : RDs W p.ρ p.Fr p.H l vs) :
    spF W vs.length c vs p.H (fun v H => ∃ (d : D) (q : Pt), q.H = H ∧ SR W A σ q ∧ Mp p q ∧ RD W q.ρ q.Fr q.H d v ∧ R d q) (WE XW σ) := by
  obtain ⟨s, h⟩ := h
  refine ⟨p.ρ, p.Fr, p.G, l, rfl, s.g, r, ?_⟩
  dsimp only at h
  unfold fromFO at h
  revert h
  unfold foP
  cases c l p.G with
  | bad => exact id
  | ok d G =>
    intro h H ρ Fr g e v rv
    obtain ⟨s', m⟩ := s.call g e
    exact ⟨d, ⟨p.S, G, H, ρ, Fr⟩, rfl, s', m, rv, h _ rfl rfl s' m⟩
  | ex x G =>
    intro h H ρ Fr cls dd g e xr
    obtain ⟨s', m⟩ := s.call g e
    exact h ⟨p.S, G, H, ρ, Fr⟩ cls dd rfl rfl s' m xr
/-- a body begins -/
theorem start_sr {G : List MO} {H : Hp} {ρ : List Addr} {Fr : Addr → Prop} {ds : List D} {vs : List V} {N : List Str} (g : GS W G H ρ Fr) (r : RDs W ρ Fr H ds vs) :
    SR W ⟨H, ρ, Fr⟩ (L2.start N vs) ⟨ds.map Slot.val ++ List.replicate (N.length - ds.length) Slot.no, G, H, ρ, Fr⟩ := by
  have hl := r.length
  have key : ∀ (i : Nat) (t : Slot), (ds.map Slot.val ++ List.replicate (N.length - ds.length) Slot.no)[i]? = some t → (∃ d, ds[i]? = some d ∧ t = .val d) ∨ t = .no := fun i t h => by
    by_cases hi : i < ds.length
    · rw [List.getElem?_append_left (by simpa using hi), List.getElem?_map] at h
      cases e : ds[i]? with
      | none => rw [e] at h; cases h
      | some d => rw [e] at h; cases h; exact .inl ⟨d, rfl, rfl⟩
    · rw [List.getElem?_append_right (by simpa using hi), List.getElem?_replicate] at h
      split at h
      · cases h; exact .inr rfl
      · cases h
  refine ⟨g, Ex.refl, ?_, fun i d h => ?_, fun i t h o => ?_, fun i j a s t h1 h2 => ?_⟩
  · simp only [L2.start, List.length_append, List.length_map, List.length_replicate, hl]
  · rcases key i _ h with ⟨d', h1, h2⟩ | h2
    · cases h2
      obtain ⟨v, hv, rv⟩ := r.get h1
      refine ⟨v, ?_, rv⟩
      unfold L2.start
      rw [List.getElem?_append_left (by simpa using (List.getElem?_eq_some_iff.mp hv).1), List.getElem?_map, hv]
      rfl
    · cases h2
  · rcases key i _ h with ⟨d', h1, h2⟩ | h2
    · subst h2; cases o
    · subst h2; cases o
  · rcases key i _ h1 with ⟨d', _, h3⟩ | h3
    · subst h3; cases h2
    · subst h3; cases h2
/-- a body ends -/
theorem body_end {m : Ev Fl} {p : Pt} {B : Act} {Q : VK} {E : XK} (s : SR W B σ p) (h : foP W B (endF (m p.S p.G)) Q E) : tsD W B (fun cls d _ H => E cls d H) m { nx := fun _ H' => Q .non H', rt := Q } σ p.H := by
  refine ⟨p, rfl, s, ?_⟩
  revert h
  unfold foP endF
  cases m p.S p.G with
  | bad => exact id
  | ok f S G =>
    cases f with
    | nx =>
      intro h σ' q e1 e2 s' _
      subst e2
      exact h q.H q.ρ q.Fr s'.g s'.e .non (by simp only [RD])
    | rt d =>
      intro h σ' q e1 e2 s' _ v rv
      subst e2
      exact h q.H q.ρ q.Fr s'.g s'.e v rv
    | bk => exact False.elim
    | ct => exact False.elim
  | ex x S G =>
    intro h σ' q cls d e1 e2 s' _ xr
    subst e2
    exact h q.H q.ρ q.Fr cls d s'.g s'.e xr
end
end Mi

end
section
set_option Elab.async false
set_option linter.all false
set_option maxRecDepth 100000
set_option maxHeartbeats 1000000
/-! Mi7: how arguments are bound. -/
namespace Mi
open PySem PySem.Spec PyProof.Rows L2

/-- two lists, item by item -/
inductive Rl {α β : Type} (R : α → β → Prop) : List α → List β → Prop
  | nil : Rl R [] []
  | cons {a : α} {b : β} {l : List α} {m : List β} : R a b → Rl R l m → Rl R (a :: l) (b :: m)
theorem Rl.length {α β : Type} {R : α → β → Prop} {l : List α} {m : List β} (h : Rl R l m) : l.length = m.length := by
  induction h with
  | nil => rfl
  | cons _ _ ih => simp [ih]
theorem Rl.get {α β : Type} {R : α → β → Prop} {l : List α} {m : List β} (h : Rl R l m) : ∀ {i : Nat} {a : α}, l[i]? = some a → ∃ b, m[i]? = some b ∧ R a b := by
  induction h with
  | nil => intro i a e; simp at e
  | cons r _ ih =>
    intro i a e
    cases i with
    | zero => simp at e; subst e; exact ⟨_, rfl, r⟩
    | succ i => simp at e; simpa using ih e
theorem RDs.rl {W : Wd} {ρ : List Addr} {Fr : Addr → Prop} {H : Hp} : ∀ {ds : List D} {vs : List V}, RDs W ρ Fr H ds vs → Rl (RD W ρ Fr H) ds vs
  | [], vs, h => by rw [h.inv0]; exact .nil
  | d :: ds, vs, h => by
    obtain ⟨v, r, rfl, h1, h⟩ := h.inv
    exact .cons h1 (RDs.rl h)
theorem Rl.rds {W : Wd} {ρ : List Addr} {Fr : Addr → Prop} {H : Hp} {ds : List D} {vs : List V} (h : Rl (RD W ρ Fr H) ds vs) : RDs W ρ Fr H ds vs := by
  induction h with
  | nil => exact .nil
  | cons r _ ih => exact .cons r ih
theorem Vals.rl {vs : List V} {us : List Value} (h : Vals vs us) : Rl RelV vs us := by
  induction h with
  | nil => exact .nil
  | cons r _ ih => exact .cons r ih
theorem Rl.vals {vs : List V} {us : List Value} (h : Rl RelV vs us) : Vals vs us := by
  induction h with
  | nil => exact .nil
  | cons r _ ih => exact .cons r ih
theorem Rl.append {α β : Type} {R : α → β → Prop} {l l2 : List α} {m m2 : List β} (h : Rl R l m) (h2 : Rl R l2 m2) : Rl R (l ++ l2) (m ++ m2) := by
  induction h with
  | nil => exact h2
  | cons r _ ih => exact .cons r ih
/-- names with values -/
theorem zip_look {α β : Type} {R : α → β → Prop} {l : List α} {m : List β} (h : Rl R l m) (x : Str) : ∀ ps : List Str, (∃ a b, (ps.zip l).lookup x = some a ∧ (ps.zip m).lookup x = some b ∧ R a b) ∨ ((ps.zip l).lookup x = none ∧ (ps.zip m).lookup x = none) := by
  induction h with
  | nil => intro ps; cases ps <;> exact .inr ⟨rfl, rfl⟩
  | @cons a b l m r t ih =>
    intro ps
    cases ps with
    | nil => exact .inr ⟨rfl, rfl⟩
    | cons p ps =>
      simp only [List.zip_cons_cons, List.lookup_cons]
      cases q : x == p with
      | true => exact .inl ⟨a, b, rfl, rfl, r⟩
      | false => exact ih ps
theorem look_app {α : Type} {x : Str} : ∀ {l m : List (Str × α)}, (l ++ m).lookup x = (l.lookup x).or (m.lookup x)
  | [], m => rfl
  | (k, v) :: l, m => by
    simp only [List.cons_append, List.lookup_cons]
    cases x == k with
    | true => rfl
    | false => exact look_app
theorem one_rel {α β : Type} {R : α → β → Prop} {l w dfl : List α} {m u efl : List β} (h1 : Rl R l m) (h2 : Rl R w u) (h3 : Rl R dfl efl) (ps ks : List Str) (dl : Nat) (p : Str × Nat) {a : α} (e : oneG (ps.zip l ++ ks.zip w) dl dfl p = some a) :
    ∃ b, oneG (ps.zip m ++ ks.zip u) dl efl p = some b ∧ R a b := by
  unfold oneG at e ⊢
  rw [look_app] at e ⊢
  rcases zip_look h1 p.1 ps with ⟨x, y, e1, e2, r⟩ | ⟨e1, e2⟩
  · rw [e1] at e
    cases e
    exact ⟨y, by rw [e2]; rfl, r⟩
  · rw [e1] at e
    rw [e2]
    rcases zip_look h2 p.1 ks with ⟨x, y, e3, e4, r⟩ | ⟨e3, e4⟩
    · rw [e3] at e
      cases e
      exact ⟨y, by rw [e4]; rfl, r⟩
    · rw [e3] at e
      rw [e4]
      simp only [Option.or_none] at e ⊢
      split at e
      · rename_i hd
        rw [if_pos hd]
        exact h3.get e
      · cases e
theorem all_rel {α β : Type} {R : α → β → Prop} {l w dfl : List α} {m u efl : List β} (h1 : Rl R l m) (h2 : Rl R w u) (h3 : Rl R dfl efl) (ps ks : List Str) (dl : Nat) : ∀ (qs : List (Str × Nat)) {r : List α}, allG (ps.zip l ++ ks.zip w) dl dfl qs = some r →
    ∃ s, allG (ps.zip m ++ ks.zip u) dl efl qs = some s ∧ Rl R r s
  | [], r, e => by cases e; exact ⟨[], rfl, .nil⟩
  | p :: qs, r, e => by
    unfold allG at e
    cases e1 : oneG (ps.zip l ++ ks.zip w) dl dfl p with
    | none => rw [e1] at e; cases e
    | some x =>
      cases e2 : allG (ps.zip l ++ ks.zip w) dl dfl qs with
      | none => rw [e1, e2] at e; cases e
      | some t =>
        rw [e1, e2] at e
        cases e
        obtain ⟨y, f1, r1⟩ := one_rel h1 h2 h3 ps ks dl p e1
        obtain ⟨s, f2, r2⟩ := all_rel h1 h2 h3 ps ks dl qs e2
        exact ⟨y :: s, by unfold allG; rw [f1, f2], .cons r1 r2⟩
theorem bind_rel {α β : Type} {R : α → β → Prop} {l w dfl : List α} {m u efl : List β} (h1 : Rl R l m) (h2 : Rl R w u) (h3 : Rl R dfl efl) (ps ks : List Str) {r : List α} (e : bindG ps l ks w dfl = some r) :
    ∃ s, bindG ps m ks u efl = some s ∧ Rl R r s := by
  unfold bindG at e ⊢
  rw [← h3.length]
  exact all_rel h1 h2 h3 ps ks _ _ e
theorem all_len {α : Type} {slots : List (Str × α)} {dl : Nat} {dfl : List α} : ∀ {qs : List (Str × Nat)} {r : List α}, allG slots dl dfl qs = some r → r.length = qs.length
  | [], r, e => by cases e; rfl
  | p :: qs, r, e => by
    unfold allG at e
    cases e1 : oneG slots dl dfl p with
    | none => rw [e1] at e; cases e
    | some x =>
      cases e2 : allG slots dl dfl qs with
      | none => rw [e1, e2] at e; cases e
      | some t =>
        rw [e1, e2] at e
        cases e
        simp [all_len e2]
theorem bind_len {α : Type} {ps ks : List Str} {l w dfl : List α} {r : List α} (e : bindG ps l ks w dfl = some r) : r.length = ps.length := by
  have := all_len e
  simpa using this
/-- which counts and names are fine -/
def bindC (ps : List Str) (n : Nat) (ks : List Str) (nd : Nat) : Bool :=
  decide (n ≤ ps.length) && decide (nd ≤ ps.length) && decide (ps.Nodup) && decide ((ps.take n ++ ks).Nodup) && (ks.all fun k => ps.contains k) && ((ps.take (ps.length - nd)).all fun x => (ps.take n).contains x || ks.contains x)
theorem zip_some {α : Type} {x : Str} : ∀ {ps : List Str} {l : List α}, x ∈ ps.take l.length → ((ps.zip l).lookup x).isSome = true
  | [], l, h => by simp at h
  | p :: ps, [], h => by simp at h
  | p :: ps, a :: l, h => by
    simp only [List.zip_cons_cons, List.lookup_cons]
    cases q : x == p with
    | true => rfl
    | false =>
      simp only [List.length_cons, List.take_succ_cons, List.mem_cons] at h
      rcases h with h | h
      · subst h; simp at q
      · exact zip_some h
theorem zip_none {α : Type} {x : Str} : ∀ {ps : List Str} {l : List α}, x ∉ ps.take l.length → (ps.zip l).lookup x = none
  | [], l, h => rfl
  | p :: ps, [], h => rfl
  | p :: ps, a :: l, h => by
    simp only [List.length_cons, List.take_succ_cons, List.mem_cons, not_or] at h
    simp only [List.zip_cons_cons, List.lookup_cons]
    have : (x == p) = false := beq_eq_false_iff_ne.mpr h.1
    rw [this]
    exact zip_none h.2

/-- the loop over the keywords -/
theorem kw_loop {f : Str × Value → List (Str × Value) × List (Str × Value) → Sem (ForInStep (List (Str × Value) × List (Str × Value)))} {ps : List Str}
    (hf : ∀ k v sl, k ∈ ps → sl.lookup k = none → f (k, v) (sl, []) = pure (.yield (sl ++ [(k, v)], []))) :
    ∀ (ks : List Str) (ws : List Value) (sl : List (Str × Value)), (∀ k ∈ ks, k ∈ ps) → ks.Nodup → (∀ k ∈ ks, sl.lookup k = none) → forIn (ks.zip ws) (sl, ([] : List (Str × Value))) f = pure (sl ++ ks.zip ws, [])
  | [], ws, sl, _, _, _ => by simp
  | k :: ks, [], sl, _, _, _ => by simp
  | k :: ks, v :: ws, sl, h1, h2, h3 => by
    rw [List.zip_cons_cons, List.forIn_cons, hf k v sl (h1 k (List.mem_cons_self ..)) (h3 k (List.mem_cons_self ..)), pure_bind]
    show forIn (ks.zip ws) (sl ++ [(k, v)], []) f = _
    rw [kw_loop hf ks ws (sl ++ [(k, v)]) (fun x hx => h1 x (List.mem_cons_of_mem _ hx)) (List.nodup_cons.mp h2).2 (fun x hx => ?_)]
    · simp
    · rw [look_app, h3 x (List.mem_cons_of_mem _ hx)]
      have : x ≠ k := fun e => (List.nodup_cons.mp h2).1 (e ▸ hx)
      simp [List.lookup_cons, beq_eq_false_iff_ne.mpr this]
/-- the loop over the defaults -/
theorem df_loop {f : Str × Value → List (Str × Value) → Sem (ForInStep (List (Str × Value)))} (hf : ∀ k v sl, f (k, v) sl = pure (.yield (if (sl.lookup k).isNone = true then sl ++ [(k, v)] else sl))) :
    ∀ (l : List (Str × Value)) (sl : List (Str × Value)), ∃ sl', forIn l sl f = pure sl' ∧ ∀ x, sl'.lookup x = (sl.lookup x).or (l.lookup x)
  | [], sl => ⟨sl, by simp, fun x => by simp⟩
  | (k, v) :: l, sl => by
    obtain ⟨sl', e, h⟩ := df_loop hf l (if (sl.lookup k).isNone = true then sl ++ [(k, v)] else sl)
    refine ⟨sl', ?_, fun x => ?_⟩
    · rw [List.forIn_cons, hf, pure_bind]
      exact e
    · rw [h x]
      cases q : sl.lookup k with
      | none =>
        simp only [Option.isNone_none, if_true, look_app]
        cases sl.lookup x with
        | some y => rfl
        | none =>
          simp only [Option.none_or, List.lookup_cons, List.lookup_nil]
          cases x == k <;> rfl
      | some y =>
        simp only [Option.isNone_some, Bool.false_eq_true, if_false, List.lookup_cons]
        cases q2 : x == k with
        | true =>
          have : x = k := by simpa using q2
          subst this
          rw [q]
          rfl
        | false => rfl
theorem fm_zip {g : Str → Option Value} {sl : List (Str × Value)} {dl : Nat} {dfl : List Value} : ∀ (qs : List (Str × Nat)) (r : List Value), allG sl dl dfl qs = some r → (∀ p ∈ qs, ∀ a, oneG sl dl dfl p = some a → g p.1 = some a) →
    (qs.map (·.1)).filterMap (fun n => (g n).map fun v => (n, v)) = (qs.map (·.1)).zip r
  | [], r, e, _ => by cases e; rfl
  | p :: qs, r, e, h => by
    unfold allG at e
    cases e1 : oneG sl dl dfl p with
    | none => rw [e1] at e; cases e
    | some x =>
      cases e2 : allG sl dl dfl qs with
      | none => rw [e1, e2] at e; cases e
      | some t =>
        rw [e1, e2] at e
        cases e
        have q := h p (List.mem_cons_self ..) x e1
        rw [List.map_cons, List.zip_cons_cons, List.filterMap_cons, q]
        simp only [Option.map_some]
        rw [fm_zip qs t e2 fun p' hp a => h p' (List.mem_cons_of_mem _ hp) a]
theorem zip_at {α : Type} : ∀ {ps : List Str} {l : List α} {i : Nat} {x : Str} {a : α}, ps.Nodup → ps[i]? = some x → l[i]? = some a → (ps.zip l).lookup x = some a
  | [], _, _, _, _, _, h, _ => by simp at h
  | p :: ps, [], _, _, _, _, _, h => by simp at h
  | p :: ps, b :: l, 0, x, a, nd, h1, h2 => by
    simp at h1 h2
    subst h1 h2
    simp [List.lookup_cons]
  | p :: ps, b :: l, i + 1, x, a, nd, h1, h2 => by
    simp only [List.getElem?_cons_succ] at h1 h2
    rw [List.zip_cons_cons, List.lookup_cons]
    have : x ≠ p := fun e => (List.nodup_cons.mp nd).1 (e ▸ List.mem_of_getElem? h1)
    rw [beq_eq_false_iff_ne.mpr this]
    exact zip_at (List.nodup_cons.mp nd).2 h1 h2
/-- BINDING: a def with plain parameters -/
theorem bind_args {x qual : Str} {as : List Arg} {ps : List Str} {d1 : List (Option Expr)} {d2 : List Expr} {body : List Stmt} {scope : Scope} {dV kV doc pm : Value} {an : Option Addr} {cdv ct : Value} {us ws its r : List Value} {ks : List Str} (ha : as.map (·.arg) = ps)
    (hw : ws.length = ks.length) (hc : bindC ps us.length ks its.length = true) (hr : bindG ps us ks ws its = some r) :
    ∃ k, bindArgs (PySem.W.fnOf x qual ⟨[], as, none, [], d1, none, d2⟩ body scope dV kV doc pm an cdv ct) ⟨us, ks.zip ws⟩ = seqItems? dV >>= k ∧ k (some its.toArray) = pure (ps.zip r) ∧ (its = [] → k none = pure (ps.zip r)) := by
  unfold bindC at hc
  simp only [Bool.and_eq_true, decide_eq_true_eq, List.all_eq_true, List.contains_iff_mem, Bool.or_eq_true] at hc
  obtain ⟨⟨⟨⟨⟨h1, h2⟩, h3⟩, h4⟩, h5⟩, h6⟩ := hc
  have hsl : ∀ k ∈ ks, (ps.zip us).lookup k = none := fun k hk => zip_none fun hm => by
    have := List.nodup_append.mp h4
    exact this.2.2 k hm k hk rfl
  unfold bindArgs PySem.W.fnOf
  simp only [List.map_nil, List.nil_append, ha]
  rw [kw_loop (ps := ps) (fun k v sl hk hl => ?_) ks ws (ps.zip us) h5 (List.nodup_append.mp h4).2.1 hsl]
  · rw [pure_bind]
    have hg : ¬ ps.length < us.length := by omega
    have hm : (ps.take (ps.length - its.length)).filter (fun n => ((ps.zip us ++ ks.zip ws).lookup n).isNone) = [] := by
      rw [List.filter_eq_nil_iff]
      intro n hn
      rw [look_app]
      rcases h6 n hn with q | q
      · have := zip_some (l := us) q
        cases e : (ps.zip us).lookup n with
        | none => rw [e] at this; cases this
        | some y => simp
      · have : ((ks.zip ws).lookup n).isSome = true := zip_some (by rw [hw, List.take_of_length_le (Nat.le_refl _)]; exact q)
        cases e : (ks.zip ws).lookup n with
        | none => rw [e] at this; cases this
        | some y => cases (ps.zip us).lookup n <;> simp
    have fin : ∀ sl' : List (Str × Value), (∀ x, sl'.lookup x = ((ps.zip us ++ ks.zip ws).lookup x).or (((ps.drop (ps.length - its.length)).zip its).lookup x)) → ps.filterMap (fun n => (sl'.lookup n).map fun v => (n, v)) = ps.zip r := by
      intro sl' hl
      have e : ps.zipIdx.map (·.1) = ps := List.zipIdx_map_fst 0 ps
      have q := fm_zip (g := fun n => sl'.lookup n) ps.zipIdx r hr fun p hp a ea => by
        obtain ⟨x, i⟩ := p
        have hx : ps[i]? = some x := by simpa using List.mk_mem_zipIdx_iff_getElem?.mp hp
        show sl'.lookup x = some a
        rw [hl x]
        unfold oneG at ea
        cases e1 : (ps.zip us ++ ks.zip ws).lookup x with
        | some y =>
          simp only [e1] at ea
          exact ea
        | none =>
          simp only [e1] at ea
          split at ea
          · rename_i hd
            rw [Option.none_or]
            refine zip_at (h3.sublist (List.drop_sublist _ _)) (i := i - (ps.length - its.length)) ?_ ea
            rw [List.getElem?_drop]
            have : ps.length - its.length + (i - (ps.length - its.length)) = i := by omega
            rw [this]
            exact hx
          · cases ea
      rw [e] at q
      exact q
    have key : ∀ (f : Str × Value → List (Str × Value) → Sem (ForInStep (List (Str × Value)))), (∀ k v sl, f (k, v) sl = pure (.yield (if (sl.lookup k).isNone = true then sl ++ [(k, v)] else sl))) →
        (do let s ← forIn ((ps.drop (ps.length - its.length)).zip its) (ps.zip us ++ ks.zip ws) f; pure (ps.filterMap (fun n => (s.lookup n).map fun v => (n, v)))) = (pure (ps.zip r) : Sem (List (Str × Value))) := by
      intro f hf
      obtain ⟨sl', e, hl⟩ := df_loop hf ((ps.drop (ps.length - its.length)).zip its) (ps.zip us ++ ks.zip ws)
      rw [e, pure_bind, fin sl' hl]
    have e0 : its.length - ps.length = 0 := by omega
    refine ⟨_, rfl, ?_, fun hi => ?_⟩
    · simp only [Option.getD_some, List.toList_toArray, e0, List.drop_zero, hm, Option.isNone_none, Bool.and_true, gt_iff_lt, decide_eq_true_eq, if_neg hg, List.isEmpty_nil, Bool.not_true, Bool.false_eq_true, if_false, List.forIn_nil, pure_bind, List.append_nil]
      exact key _ fun k v sl => by split <;> rfl
    · subst hi
      have hm' : (ps.take ps.length).filter (fun n => ((ps.zip us ++ ks.zip ws).lookup n).isNone) = [] := hm
      have key' := key
      simp only [List.length_nil, Nat.sub_zero] at key'
      simp only [Option.getD_none, List.length_nil, Nat.zero_sub, List.drop_zero, Nat.sub_zero, hm', Option.isNone_none, Bool.and_true, gt_iff_lt, decide_eq_true_eq, if_neg hg, List.isEmpty_nil, Bool.not_true, Bool.false_eq_true, if_false, List.forIn_nil, pure_bind, List.append_nil]
      exact key' _ fun k v sl => by split <;> rfl
  · simp only [List.contains_iff_mem.mpr hk, Bool.true_or, if_true, hl, Option.isSome_none, Bool.false_eq_true, if_false]
end Mi

end
section
set_option Elab.async false
set_option linter.all false
set_option maxRecDepth 100000
set_option maxHeartbeats 1000000
/-! Mi8: the context, arguments, calls. -/
namespace Mi
open PySem PySem.Spec PyProof.Rows L2

/-- binding of a def that stands behind the top -/
theorem FunD.bindsG {K : PySem.W.Frag} {x qual : Str} {as : List Arg} {d1 : List (Option Expr)} {d2 : List Expr} {body : List Stmt} {scope : Scope} {dvs : List V} {kws : List (Str × V)} {f : Addr} {fd : FuncData} {ps : List Str}
    (F : FunD K x qual ⟨[], as, none, [], d1, none, d2⟩ body scope dvs kws f fd) (ha : as.map (·.arg) = ps) :
    ∃ its : List Value, Vals dvs its ∧ ∀ (s : Shared) (us ws : List Value) (ks : List Str) (r : List Value), K.In s.heap → ws.length = ks.length → bindC ps us.length ks dvs.length = true → bindG ps us ks ws its = some r → BindsTo s fd ⟨us, ks.zip ws⟩ (ps.zip r) := by
  obtain ⟨oc, od, dV, kV, doc, pm, an, cdv, ct, osl, rfl, lk, hcd, hD, hK⟩ := F.ex
  rcases hD with ⟨rfl, rfl⟩ | ⟨e, T, o, its, m, rfl, lT, oT, rT⟩
  · refine ⟨[], .nil, fun s us ws ks r X hw hc hr => BindsTo.of_looks fun M => ?_⟩
    obtain ⟨k, e1, e2, e3⟩ := bind_args (x := x) (qual := qual) (d1 := d1) (d2 := d2) (body := body) (scope := scope) (dV := .none) (kV := kV) (doc := doc) (pm := pm) (an := an) (cdv := cdv) (ct := ct) ha hw hc hr
    rw [e1]
    exact .of_pure (e3 rfl)
  · refine ⟨its, rT, fun s us ws ks r X hw hc hr => BindsTo.of_looks fun M => ?_⟩
    rw [rT.length] at hc
    obtain ⟨k, e1, e2, e3⟩ := bind_args (x := x) (qual := qual) (d1 := d1) (d2 := d2) (body := body) (scope := scope) (dV := .ref T) (kV := kV) (doc := doc) (pm := pm) (an := an) (cdv := cdv) (ct := ct) ha hw hc hr
    rw [e1]
    exact looks_items X lT oT (.of_pure e2)

/-- a def at an address: what it promises, how it binds -/
structure FnE (W : Wd) (base : Heap) (k : Nat) (fd : Fd) (raw : List D → List MO → FO) (a : Addr) : Prop where
  ex : ∃ (dat : FuncData) (dvs : List V) (its : List Value), FnX W.P W.w W.K W.mg base k a dat fd.ps (spF W fd.ps.length raw) ∧ (∀ ρ Fr H, RDs W ρ Fr H fd.dfl dvs) ∧ Vals dvs its ∧
    ∀ (s : Shared) (us ws : List Value) (ks : List Str) (r : List Value), W.K.In s.heap → ws.length = ks.length → bindC fd.ps us.length ks fd.dfl.length = true → bindG fd.ps us ks ws its = some r → BindsTo s dat ⟨us, ks.zip ws⟩ (fd.ps.zip r)
  kp : PySem.W.keepIn W.K (.ref a) = true

/-- what is known of the module -/
structure Tb where
  P : Prg
  free : List Str
  glob : List Str
  mths : List (Str × Str)
  mks : List Str
  lams : List (Str × Option Str)
structure TbOk (W : Wd) (T : Tb) (base : Heap) (k : Nat) (Φ : Fns) : Prop where
  free : ∀ x ∈ T.free, W.mg x = none
  val : ∀ x d, Φ.gval x = some d → ∃ u v, W.mg x = some u ∧ RelV v u ∧ ∀ ρ Fr H, RD W ρ Fr H d v
  fld : ∀ C f, Φ.fok C f = true → ∀ Ca, W.mg C = some (.ref Ca) → Cls W.K Ca ∧ NoAttr W.K Ca f
  fns : ∃ raw : Str → List D → List MO → FO,
    (∀ f l G, Φ.call f l G = match T.P.fd f with
      | some d => (match bindG d.ps l [] [] d.dfl with
        | some l => raw f l G
        | none => .bad)
      | none => .bad) ∧
    (∀ f l ks w G, Φ.kw f l ks w G = match T.P.fd f with
      | some d => (match bindG d.ps l ks w d.dfl with
        | some l => raw f l G
        | none => .bad)
      | none => .bad) ∧
    (∀ f ∈ T.glob, ∀ fd, T.P.fd f = some fd → ∃ a, W.mg f = some (.ref a) ∧ FnE W base k fd (raw f) a) ∧
    (∀ p ∈ T.mths, ∀ fd, T.P.fd (methName p.1 p.2) = some fd → ∃ C a, W.mg p.1 = some (.ref C) ∧ Cls W.K C ∧ Meth W.K C p.2 a ∧ FnE W base k fd (raw (methName p.1 p.2)) a) ∧
    (∀ c ∈ T.mks, ∀ fd, T.P.fd (initName c) = some fd → ∃ C a, W.mg c = some (.ref C) ∧ Mk W.K C a ∧ FnE W base k fd (raw (initName c)) a)
  lams : ∀ g ∈ T.lams, ∃ c a q, TabL W.K g c a q ∧ LamX.TabB base W.mg c a

/-- a body's (a block's) names; me: the def, where its body may make lambdas -/
structure Cf where
  N : List Str
  sc : Scope
  os : Scope
  me : Option (Str × Option Str)
/-- the context of a body, of a block -/
structure XO (W : Wd) (T : Tb) (Φ : Fns) (k : Nat) (C : Cf) (X : Cx) (XW : WX) : Prop where
  wd : wdOf X = W
  nm : X.N = C.N
  sc : X.env.scope = C.sc
  nd : X.N.Nodup
  calm : X.calm = true
  rm : Rm (k + 1) X.A
  tk : Takes X XW
  po : PassesOwn (model X.prog X.w) X.A X.env X.xe
  tb : TbOk W T X.base k Φ
  fn : X.fn = (fun _ => true) ∨ X.fn = fun x => C.os.names.lookup x == some .cell
  me : ∀ g, C.me = some g → Rm (k + 3) X.A ∧ ∃ c a q, TabL W.K g c a q ∧ X.env.code = .ref c ∧ X.env.qual = q ++ ".<locals>." ∧ LamX.TabB X.base X.mg c a
theorem XO.units {W : Wd} {T : Tb} {Φ : Fns} {k : Nat} {C : Cf} {X : Cx} {XW : WX} (h : XO W T Φ k C X XW) : X.A.units + 200 < cLine := by have := h.rm.r.un; omega

section
variable {W : Wd} {A : Act} {XW : WX} {X : Cx} {σ : Sv} {p : Pt}
/-- settled, an operand is a value -/
theorem settle_ok {d : D} {v : V} {R : D → Pt → Prop} (h : wpD W A XW σ (settle d) p R) (r : RO W p.ρ p.Fr p.H σ d v) : ∃ d' q, q.H = p.H ∧ SR W A σ q ∧ Mp p q ∧ RD W q.ρ q.Fr q.H d' v ∧ (∀ i, d' ≠ .slot i) ∧ R d' q := by
  obtain ⟨s, h⟩ := h
  have plain : ∀ d : D, (∀ i, d ≠ .slot i) → (∀ q : Pt, q.S = p.S → q.G = p.G → SR W A σ q → Mp p q → R d q) → RO W p.ρ p.Fr p.H σ d v → ∃ d' q, q.H = p.H ∧ SR W A σ q ∧ Mp p q ∧ RD W q.ρ q.Fr q.H d' v ∧ (∀ i, d' ≠ .slot i) ∧ R d' q :=
    fun d hs h r => ⟨d, p, rfl, s, Mo.refl, r.rd hs, hs, h p rfl rfl s Mo.refl⟩
  cases d with
  | slot i =>
    simp only [settle] at h
    simp only [RO] at r
    cases e : p.S[i]? with
    | none => simp only [e] at h
    | some t =>
      simp only [e] at h
      cases t with
      | no => exact h.elim
      | val _ => exact h.elim
      | lst l =>
        obtain ⟨a, ho, h1, h2, m, nf, nr, z⟩ := s.so i _ e rfl
        rw [r] at h1
        cases h1
        obtain ⟨vs, rfl, m⟩ := m
        have hd : RD W p.ρ (fun b => b = a ∨ p.Fr b) p.H (.lst l) (.ref a) := by
          simp only [RD]
          exact ⟨a, vs, rfl, ⟨.inl rfl, h2⟩, m.mono (ρ' := p.ρ) (Fr' := fun b => b = a ∨ p.Fr b) (H' := p.H) (mo_frz (p := p))⟩
        have s' := s.freeze e rfl r hd
        exact ⟨.lst l, { (p.frz a) with S := p.S.set i (.val (.lst l)) }, rfl, s', mo_frz (p := p) (a := a), hd, (fun j => by simp), h _ rfl rfl s' (mo_frz (p := p) (a := a))⟩
      | dic ks xs =>
        obtain ⟨a, ho, h1, h2, m, nf, nr, z⟩ := s.so i _ e rfl
        rw [r] at h1
        cases h1
        obtain ⟨kvs, vs, dd, m1, m2⟩ := m
        have hd : RD W p.ρ (fun b => b = a ∨ p.Fr b) p.H (.dic ks xs) (.ref a) := by
          simp only [RD]
          exact ⟨a, ho, kvs, vs, rfl, ⟨.inl rfl, h2⟩, dd, m1.mono (ρ' := p.ρ) (Fr' := fun b => b = a ∨ p.Fr b) (H' := p.H) (mo_frz (p := p)), m2.mono (ρ' := p.ρ) (Fr' := fun b => b = a ∨ p.Fr b) (H' := p.H) (mo_frz (p := p))⟩
        have s' := s.freeze e rfl r hd
        exact ⟨.dic ks xs, { (p.frz a) with S := p.S.set i (.val (.dic ks xs)) }, rfl, s', mo_frz (p := p) (a := a), hd, (fun j => by simp), h _ rfl rfl s' (mo_frz (p := p) (a := a))⟩
  | _ => exact plain _ (fun j => by simp) h r

/-- readings where the value is settled -/
def teS (W : Wd) (A : Act) (XW : WX) (m : Ev D) : TE := fun σ H Q => ∃ p : Pt, p.H = H ∧ wpD W A XW σ (m.bind settle) p fun d q => ∀ v, RD W q.ρ q.Fr q.H d v → Q v q.H
theorem PE.toS {e : Expr} {m : Ev D} (h : PE X e (teD W A XW m)) : PE X e (teS W A XW m) := PE.imp h fun σ H Q => by
  rintro ⟨p, rfl, h⟩
  refine ⟨p, rfl, (wpD.bind h).mono fun d q s mo h v r => ?_⟩
  obtain ⟨d', q', e1, s', mo', r', _, h'⟩ := settle_ok h r
  have := h' v r'
  rw [e1] at this
  exact this
theorem pa_nilD : PA X [] (taD W A XW (Ev.pure [])) := PA.imp pa_nil fun σ H Q => by
  rintro ⟨p, rfl, h⟩
  exact h.pure [] .nil
theorem ta_cons {m : Ev D} {ms : Ev (List D)} {σ : Sv} {H : Hp} {Q : List V → Hp → Prop} (h : taD W A XW ((m.bind settle).bind fun d => ms.bind fun l => Ev.pure (d :: l)) σ H Q) : tCons (teS W A XW m) (taD W A XW ms) σ H Q := by
  obtain ⟨p, rfl, h⟩ := h
  refine ⟨p, rfl, (wpD.bind h).mono fun d q s mo h v r => ⟨q, rfl, (wpD.bind h).mono fun l q2 s2 mo2 h2 vs rs => ?_⟩⟩
  exact h2.pure (v :: vs) (.cons (RD.mono mo2 d v r) rs)
theorem pa_consD {e : Expr} {es : List Expr} {m : Ev D} {ms : Ev (List D)} (he : PE X e (teD W A XW m)) (hr : PA X es (taD W A XW ms)) (hs : starEach (e :: es) X.env = (false, eval e X.env) :: starEach es X.env) :
    PA X (e :: es) (taD W A XW ((m.bind settle).bind fun d => ms.bind fun l => Ev.pure (d :: l))) := PA.imp (pa_cons (PE.toS he) hr hs) fun _ _ _ => ta_cons
theorem pk_nilD : PK X [] (taD W A XW (Ev.pure [])) := ⟨fun pos pins s σ H Q I h => pk_nil.run pos pins s σ H Q I (by obtain ⟨p, rfl, h⟩ := h; exact h.pure [] .nil)⟩
theorem pk_consD {e : Expr} {kws : List Keyword} {nm : Option Str} {kpos : Pos} {m : Ev D} {ms : Ev (List D)} (he : PE X e (teD W A XW m)) (hr : PK X kws (taD W A XW ms)) :
    PK X (⟨nm, e, kpos⟩ :: kws) (taD W A XW ((m.bind settle).bind fun d => ms.bind fun l => Ev.pure (d :: l))) :=
  ⟨fun pos pins s σ H Q I h => (pk_cons (PE.toS he) hr).run pos pins s σ H Q I (ta_cons h)⟩
end

/-! ### calls -/
def noStar : Expr → Bool
  | .Starred _ _ => false
  | _ => true
def noStars (es : List Expr) : Bool := es.all noStar
def allNm (kws : List Keyword) : Bool := kws.all fun k => k.arg.isSome
def nmsOf (kws : List Keyword) : List Str := kws.filterMap (·.arg)
theorem star_one {e : Expr} {es : List Expr} {env : Env} (h : noStar e = true) : starEach (e :: es) env = (false, eval e env) :: starEach es env := by
  cases e <;> first | rfl | cases h
theorem star_any {env : Env} {pos : Pos} : ∀ {es : List Expr}, noStars es = true → (backTo pos (starEach es env)).any (·.1) = false
  | [], _ => rfl
  | e :: es, h => by
    unfold noStars at h
    rw [List.all_cons, Bool.and_eq_true] at h
    rw [star_one h.1]
    show (false || (backTo pos (starEach es env)).any (·.1)) = false
    rw [star_any h.2]
    rfl
theorem kw_all {env : Env} {pos : Pos} : ∀ {kws : List Keyword}, allNm kws = true → (backToKw pos (keywordEach kws env)).all (·.1.isSome) = true ∧ (backToKw pos (keywordEach kws env)).any (·.1.isNone) = false ∧ (backToKw pos (keywordEach kws env)).filterMap (·.1) = nmsOf kws
  | [], _ => ⟨rfl, rfl, rfl⟩
  | ⟨n, v, p⟩ :: kws, h => by
    unfold allNm at h
    rw [List.all_cons, Bool.and_eq_true] at h
    obtain ⟨a, b, c⟩ := kw_all (pos := pos) (env := env) h.2
    cases n with
    | none => simp at h
    | some x =>
      refine ⟨?_, ?_, ?_⟩
      · show (true && (backToKw pos (keywordEach kws env)).all (·.1.isSome)) = true
        rw [a]; rfl
      · show (false || (backToKw pos (keywordEach kws env)).any (·.1.isNone)) = false
        rw [b]; rfl
      · show x :: (backToKw pos (keywordEach kws env)).filterMap (·.1) = x :: nmsOf kws
        rw [c]
section
variable {X : Cx} {pins : List (Addr × Obj)} {σ : Sv} {H : Hp} {s : Shared} {first : List Value} {f : Value} {pos : Pos} {ta tk : TA} {Q : Value → Shared → Prop}
/-- the arguments, then the call -/
theorem call_with {es : List Expr} {kws : List Keyword} {R : List V → List V → Hp → Prop} (hk : PySem.W.keepIn X.K f = true) (ha : PA X es ta) (hkw : PK X kws tk) (h1 : noStars es = true) (h2 : allNm kws = true) (hn : es = [] → ∀ σ H Q, ta σ H Q → Q [] H) (I : Inv X pins σ H s)
    (h : ta σ H fun vs H1 => tk σ H1 fun zs H2 => R vs zs H2)
    (hc : ∀ us ws s' vs zs H', Inv X pins σ H' s' → Vals vs us → Vals zs ws → R vs zs H' → wpAny (model X.prog X.w) X.A (call f (first ++ us) ((nmsOf kws).zip ws)) Q X.xe s') :
    wpAny (model X.prog X.w) X.A (callWith pos f first (backTo pos (starEach es X.env)) (backToKw pos (keywordEach kws X.env))) Q X.xe s := by
  obtain ⟨k1, k2, k3⟩ := kw_all (pos := pos) (env := X.env) h2
  cases es with
  | nil =>
    refine PySem.W.callWith_KW0 (h₀ := X.base) I.ok.mod.kin hk k1 ?_ (by rw [k2]; rfl)
    refine thn (hkw.run pos pins s σ H _ I (hn rfl _ _ _ h)) fun ws s2 ⟨zs, H2, I2, rz, q2⟩ => ⟨I2.kIn, ?_⟩
    rw [k3]
    exact hc [] ws s2 [] zs H2 I2 .nil rz q2
  | cons e es =>
    unfold noStars at h1
    rw [List.all_cons, Bool.and_eq_true] at h1
    refine PySem.W.callWith_KW (h₀ := X.base) I.ok.mod.kin hk k1 (thn (ha.run pos pins s σ H _ I h) fun us s1 ⟨vs, H1, I1, r, q⟩ => ?_) (by rw [k2, star_any (es := e :: es) (by unfold noStars; rw [List.all_cons, h1.1]; exact h1.2)]; rfl) (star_one h1.1)
    refine thn (hkw.run pos pins s1 σ H1 _ I1 q) fun ws s2 ⟨zs, H2, I2, rz, q2⟩ => ⟨I2.kIn, ?_⟩
    rw [k3]
    exact hc us ws s2 vs zs H2 I2 r rz q2
end

theorem taD_nil {W : Wd} {A : Act} {XW : WX} {σ : Sv} {H : Hp} {Q : List V → Hp → Prop} (h : taD W A XW (Ev.pure []) σ H Q) : Q [] H := by
  obtain ⟨p, rfl, h⟩ := h
  exact h.pure [] .nil
section
variable {W : Wd} {A : Act} {XW : WX} {σ : Sv} {p : Pt}
/-- more that is tracked -/
theorem SR.junk (s : SR W A σ p) {a : Addr} {ho : HO} (h : p.H a = none) : SR W A σ (p.put a ho) ∧ Mp p (p.put a ho) := by
  have m : Mp p (p.put a ho) := mo_put (s.nfr h)
  have up : ∀ b o, p.H b = some o → upd p.H a ho b = some o := fun b o e => by
    rw [upd_ne (show b ≠ a from fun z => by rw [z, h] at e; cases e)]; exact e
  refine ⟨⟨⟨s.g.gl, s.g.nd, s.g.nf, fun n o e => ?_, fun b hf => ?_⟩, ⟨s.e.r, s.e.f, fun b o e hb => up _ _ (s.e.k b o e hb), s.e.nr, s.e.nF⟩, s.sl, fun i d e => ?_, fun i t e ow => ?_, s.si⟩, m⟩
  · obtain ⟨b, o2, e1, e2, r⟩ := s.g.ob n o e
    exact ⟨b, o2, e1, up _ _ e2, r.mono m⟩
  · obtain ⟨o, e⟩ := s.g.ft b hf
    exact ⟨o, up _ _ e⟩
  · obtain ⟨v, e1, r⟩ := s.sv i d e
    exact ⟨v, e1, r.mono m⟩
  · obtain ⟨b, o, e1, e2, r, f, q, z⟩ := s.so i t e ow
    exact ⟨b, o, e1, up _ _ e2, r.mono m, f, q, z⟩
end

section
variable {W : Wd} {T : Tb} {Φ : Fns} {k : Nat} {C : Cf} {X : Cx} {XW : WX} {A : Act} {pins : List (Addr × Obj)} {σ : Sv} {s : Shared}
/-- a def is called -/
theorem run_call (hx : XO W T Φ k C X XW) {fd : Fd} {raw : List D → List MO → FO} {a : Addr} (F : FnE W X.base k fd raw a) {ks : List Str} {l w l' : List D} {vs zs : List V} {us ws : List Value} {p : Pt} {R : D → Pt → Prop} (I : Inv X pins σ p.H s)
    (r1 : RDs W p.ρ p.Fr p.H l vs) (r2 : RDs W p.ρ p.Fr p.H w zs) (u1 : Vals vs us) (u2 : Vals zs ws) (hl : w.length = ks.length) (hc : bindC fd.ps l.length ks fd.dfl.length = true) (hb : bindG fd.ps l ks w fd.dfl = some l')
    (h : wpD W A XW σ (fun S G => fromFO (raw l' G) S) p R) :
    wpAny (model X.prog X.w) X.A (call (.ref a) us (ks.zip ws)) (EP X pins σ fun v H => ∃ (d : D) (q : Pt), q.H = H ∧ SR W A σ q ∧ Mp p q ∧ RD W q.ρ q.Fr q.H d v ∧ R d q) X.xe s := by
  obtain ⟨wd, nm, sc, nd, calm, rm, tk, po, tb, _, _⟩ := hx
  subst wd
  obtain ⟨dat, dvs, its, hF, hd, hv, hbind⟩ := F.ex
  obtain ⟨l2, e2, rl⟩ := bind_rel r1.rl r2.rl (hd p.ρ p.Fr p.H).rl fd.ps ks hb
  obtain ⟨l3, e3, rv⟩ := bind_rel (Vals.rl u1) (Vals.rl u2) (Vals.rl hv) fd.ps ks e2
  have len := bind_len e2
  refine run_fnx hF (rm.mono (Nat.le_succ k)) tk I (hbind s us ws ks l3 I.kIn (by rw [← u2.length, ← r2.length]; exact hl) (by rw [← u1.length, ← r1.length]; exact hc) e3) rv.vals ?_
  rw [← len]
  exact h.call rl.rds
end

/-- what is true of all that m gives -/
def Gives {α : Type} (m : Ev α) (P : α → Prop) : Prop := ∀ S G a S' G', m S G = .ok a S' G' → P a
theorem wpD.and {W : Wd} {A : Act} {XW : WX} {σ : Sv} {α : Type} {m : Ev α} {p : Pt} {P : α → Prop} {R : α → Pt → Prop} (hP : Gives m P) (h : wpD W A XW σ m p R) : wpD W A XW σ m p fun a q => P a ∧ R a q := by
  refine ⟨h.1, ?_⟩
  have h2 := h.2
  revert h2
  cases e : m p.S p.G with
  | ok a S G => exact fun h q e1 e2 s mo => ⟨hP _ _ _ _ _ e, h q e1 e2 s mo⟩
  | ex x S G => exact id
  | bad => exact id
def Es.len : Es → Nat
  | .nil => 0
  | .cons _ r => r.len + 1
theorem Ev.bind_ok {α β : Type} {m : Ev α} {k : α → Ev β} {S : List Slot} {G : List MO} {b : β} {S' : List Slot} {G' : List MO} (h : m.bind k S G = .ok b S' G') : ∃ a S1 G1, m S G = .ok a S1 G1 ∧ k a S1 G1 = .ok b S' G' := by
  unfold Ev.bind at h
  cases e : m S G with
  | ok a S1 G1 => rw [e] at h; exact ⟨a, S1, G1, rfl, h⟩
  | ex x S1 G1 => rw [e] at h; cases h
  | bad => rw [e] at h; cases h
theorem evEs_len (Φ : Fns) : ∀ a : Es, Gives (evEs Φ a) fun l => l.length = a.len
  | .nil => fun S G l S' G' h => by
    simp only [evEs, Ev.pure] at h
    cases h
    rfl
  | .cons e r => fun S G l S' G' h => by
    simp only [evEs] at h
    obtain ⟨d, S1, G1, _, h⟩ := Ev.bind_ok h
    obtain ⟨t, S2, G2, e2, h⟩ := Ev.bind_ok h
    simp only [Ev.pure] at h
    cases h
    simp only [List.length_cons, Es.len, evEs_len Φ r _ _ _ _ _ e2]

section
variable {W : Wd} {T : Tb} {Φ : Fns} {k : Nat} {C : Cf} {X : Cx} {XW : WX} {A : Act}
theorem ep_imp {pins : List (Addr × Obj)} {σ : Sv} {u : Value} {s' : Shared} {Q Q' : VK} (h : EP X pins σ Q u s') (hq : ∀ v H, Q v H → Q' v H) : EP X pins σ Q' u s' := by
  obtain ⟨v, H, I, r, q⟩ := h
  exact ⟨v, H, I, r, hq v H q⟩
/-- f(..) -/
theorem n_callk (hx : XO W T Φ k C X XW) {f : Str} {fd : Fd} {p pos : Pos} {es : List Expr} {kws : List Keyword} {n : Nat} {ms mk : Ev (List D)} (hf : f ∈ T.glob) (hd : T.P.fd f = some fd) (hg : Gl X f) (hdb : (f == ("__debug__" : Str)) = false)
    (ha : PA X es (taD W A XW ms)) (hk : PK X kws (taD W A XW mk)) (hn : es = [] → ms = Ev.pure []) (l1 : Gives ms fun l => l.length = n) (l2 : Gives mk fun l => l.length = (nmsOf kws).length) (h1 : noStars es = true) (h2 : allNm kws = true)
    (hc : bindC fd.ps n (nmsOf kws) fd.dfl.length = true) :
    PE X (.Call (.Name f p) es kws pos) (teD W A XW (ms.bind fun l => mk.bind fun w => fun σ G => fromFO (Φ.kw f l (nmsOf kws) w G) σ)) := by
  refine ⟨fun pins s σ H Q I h => ?_⟩
  obtain ⟨raw, _, c2, c3, _⟩ := hx.tb.fns
  obtain ⟨a, hm, F⟩ := c3 f hf fd hd
  have hK : wdOf X = W := hx.wd
  obtain ⟨pt, rfl, h⟩ := h
  refine wpAny_Call_Name_kw (ld_glob (u := .ref a) I hg (by rw [← hm, ← hK]) ?_ hdb)
  refine call_with (R := fun vs zs H => ∃ (l w : List D) (q : Pt), q.H = H ∧ RDs W q.ρ q.Fr q.H l vs ∧ RDs W q.ρ q.Fr q.H w zs ∧ l.length = n ∧ w.length = (nmsOf kws).length ∧ wpD W A XW σ (fun σ G => fromFO (Φ.kw f l (nmsOf kws) w G) σ) q fun d q => ∀ v, RO W q.ρ q.Fr q.H σ d v → Q v q.H)
    (by have := F.kp; rw [← hK] at this; exact this) ha hk h1 h2 (fun e σ H Q q => by rw [hn e] at q; exact taD_nil q) I ?_ ?_
  · refine ⟨pt, rfl, ((wpD.bind h).and l1).mono fun l q s mo h vs r => ⟨q, rfl, ((wpD.bind h.2).and l2).mono fun w q2 s2 mo2 h2 zs r2 => ⟨l, w, q2, rfl, r.mono mo2, r2, h.1, h2.1, h2.2⟩⟩⟩
  · rintro us ws s' vs zs H' I' u1 u2 ⟨l, w, q, rfl, r1, r2, e1, e2, h⟩
    have hkw := fun G => c2 f l (nmsOf kws) w G
    simp only [hkw, hd] at h
    cases hb : bindG fd.ps l (nmsOf kws) w fd.dfl with
    | none => simp only [hb, fromFO] at h; exact h.bad.elim
    | some l' =>
      simp only [hb] at h
      refine thn (run_call hx F I' r1 r2 u1 u2 e2 (by rw [e1]; exact hc) hb h) fun u s2 hq => ep_imp hq ?_
      rintro v H ⟨d, q2, rfl, s3, mo, rd, hh⟩
      exact hh v (RO.of rd)
theorem n_call (hx : XO W T Φ k C X XW) {f : Str} {fd : Fd} {p pos : Pos} {es : List Expr} {n : Nat} {ms : Ev (List D)} (hf : f ∈ T.glob) (hd : T.P.fd f = some fd) (hg : Gl X f) (hdb : (f == ("__debug__" : Str)) = false)
    (ha : PA X es (taD W A XW ms)) (hn : es = [] → ms = Ev.pure []) (l1 : Gives ms fun l => l.length = n) (h1 : noStars es = true)
    (hc : bindC fd.ps n [] fd.dfl.length = true) :
    PE X (.Call (.Name f p) es [] pos) (teD W A XW (ms.bind fun l => fun σ G => fromFO (Φ.call f l G) σ)) := by
  obtain ⟨raw, c1, c2, _⟩ := hx.tb.fns
  have e : (ms.bind fun l => fun σ G => fromFO (Φ.call f l G) σ) = (ms.bind fun l => (Ev.pure []).bind fun w => fun σ G => fromFO (Φ.kw f l (nmsOf []) w G) σ) := by
    congr 1
    funext l S G
    show fromFO (Φ.call f l G) S = fromFO (Φ.kw f l [] [] G) S
    rw [c1, c2]
  rw [e]
  exact n_callk hx hf hd hg hdb ha pk_nilD hn l1 (fun S G a S' G' h => by cases h; rfl) h1 rfl hc
end
end Mi

end
section
set_option Elab.async false
set_option linter.all false
set_option maxRecDepth 100000
set_option maxHeartbeats 1000000
/-! Mi9: methods, instances, fields. -/
namespace Mi
open PySem PySem.Spec PyProof.Rows L2

def plainRecv : Expr → Bool
  | .Call (.Name _ _) [] [] _ => false
  | _ => true
theorem base_plain {o : Expr} {attr : Str} {env : Env} {whole : Sem Value} (h : plainRecv o = true) : attributeBase o attr env whole = whole := by
  unfold attributeBase
  split
  · cases h
  · rfl
theorem form_ok {n : Nat} {es : List Expr} {kws : List Keyword} {pos : Pos} {env : Env} (h1 : noStars es = true) (h2 : allNm kws = true) (hn : n = es.length + kws.length) (hl : es.length + kws.length < 29) :
    methodCallForm n (backTo pos (starEach es env)) (backToKw pos (keywordEach kws env)) = true := by
  subst hn
  unfold methodCallForm
  have a : (backTo pos (starEach es env)).all (fun x => !x.1) = true := by
    have := star_any (pos := pos) (env := env) h1
    rw [List.any_eq_false] at this
    rw [List.all_eq_true]
    intro x hx
    have := this x hx
    simpa using this
  rw [a, (kw_all (pos := pos) (env := env) h2).1]
  simp only [Bool.true_and, decide_eq_true_eq]
  split <;> omega
theorem meth_eval {o : Expr} {name : Str} {apos pos : Pos} {es : List Expr} {kws : List Keyword} {env : Env} (hb : plainRecv o = true) (h1 : noStars es = true) (h2 : allNm kws = true) (hl : es.length + kws.length < 29) (hline : (apos.endLine == pos.line) = true) :
    eval (.Call (.Attribute o name apos) es kws pos) env = (do
      let ov ← eval o env
      standAt apos.atName
      let (f, first) ← holding [ov] (getMethod ov name (do return (← importBound o env).getD true))
      callWith pos f first (backTo pos (starEach es env)) (backToKw pos (keywordEach kws env))) := by
  show (do
    let ov ← attributeBase o name env (eval o env)
    standAt apos.atName
    methodCall o name apos pos env ov (es.length + kws.length) (backTo pos (starEach es env)) (backToKw pos (keywordEach kws env))) = _
  rw [base_plain hb]
  unfold methodCall calleeOf methodCallPos
  rw [form_ok h1 h2 rfl hl, hline]
  simp only [if_true, Bool.not_true, Bool.false_or, pure_bind]

section
variable {W : Wd} {T : Tb} {Φ : Fns} {k : Nat} {C : Cf} {X : Cx} {XW : WX} {A : Act} {σ : Sv} {q : Pt}
/-- a shared instance -/
theorem RO.ins {G : List MO} {d : D} {v : V} {Cn m : Str} (s : SR W A σ q) (r : RO W q.ρ q.Fr q.H σ d v) (e : insOf q.G Cn m d = some ()) : ∃ (n : Nat) (a Ca dx : Addr) (fs : List (Str × D)) (gs : List (Str × V)), d = .ref n ∧ v = .ref a ∧ q.G[n]? = some (.ins Cn fs) ∧ q.ρ[n]? = some a ∧ q.H a = some (.ins Ca dx gs) ∧ W.mg Cn = some (.ref Ca) ∧ Flds W q.ρ q.Fr q.H fs gs ∧ fs.lookup m = none := by
  cases d with
  | ref n =>
    simp only [insOf] at e
    cases eg : q.G[n]? with
    | none => rw [eg] at e; cases e
    | some o =>
      rw [eg] at e
      cases o with
      | ins C' fs =>
        simp only at e
        split at e
        · rename_i hc
          obtain ⟨hc, hl⟩ := hc
          subst hc
          simp only [RO, RD] at r
          obtain ⟨a, h1, rfl⟩ := r
          obtain ⟨b, ho, h2, h3, Ca, dx, gs, h4, rfl, h5⟩ := s.g.ob n _ eg
          rw [h1] at h2
          cases h2
          exact ⟨n, a, Ca, dx, fs, gs, rfl, rfl, eg, h1, h3, h4, h5, hl⟩
        · cases e
      | _ => cases e
  | _ => simp [insOf] at e
theorem look_none {fs : List (Str × D)} {gs : List (Str × V)} {m : Str} (h : fs.map (·.1) = gs.map (·.1)) (e : fs.lookup m = none) : gs.lookup m = none := by
  induction fs generalizing gs with
  | nil => cases gs with
    | nil => rfl
    | cons g gs => cases h
  | cons f fs ih =>
    cases gs with
    | nil => cases h
    | cons g gs =>
      simp only [List.map_cons, List.cons.injEq] at h
      obtain ⟨fk, fv⟩ := f
      obtain ⟨gk, gv⟩ := g
      simp only [List.lookup_cons] at e ⊢
      obtain ⟨h1, h2⟩ := h
      have h1 : fk = gk := h1
      subst h1
      cases q : m == fk with
      | true => rw [q] at e; cases e
      | false =>
        rw [q] at e
        exact ih h2 e
theorem look_some {ρ : List Addr} {Fr : Addr → Prop} {H : Hp} {fs : List (Str × D)} {gs : List (Str × V)} {m : Str} {d : D} (h : fs.map (·.1) = gs.map (·.1)) (r : RDs W ρ Fr H (fs.map (·.2)) (gs.map (·.2))) (e : fs.lookup m = some d) : ∃ v, gs.lookup m = some v ∧ RD W ρ Fr H d v := by
  induction fs generalizing gs with
  | nil => cases e
  | cons f fs ih =>
    cases gs with
    | nil => cases h
    | cons g gs =>
      simp only [List.map_cons, List.cons.injEq] at h
      obtain ⟨fk, fv⟩ := f
      obtain ⟨gk, gv⟩ := g
      obtain ⟨v, t, e1, r1, r2⟩ := r.inv
      simp only [List.map_cons, List.cons.injEq] at e1
      obtain ⟨rfl, rfl⟩ := e1
      simp only [List.lookup_cons] at e ⊢
      obtain ⟨h1, h2⟩ := h
      have h1 : fk = gk := h1
      subst h1
      cases q : m == fk with
      | true => rw [q] at e; cases e; exact ⟨gv, rfl, r1⟩
      | false =>
        rw [q] at e
        exact ih h2 r2 e
/-- o.m(..) -/
theorem n_methk (hx : XO W T Φ k C X XW) {Cn m : Str} {fd : Fd} {apos pos : Pos} {o : Expr} {es : List Expr} {kws : List Keyword} {n : Nat} {mo : Ev D} {ms mk : Ev (List D)} (hf : (Cn, m) ∈ T.mths) (hd : T.P.fd (methName Cn m) = some fd)
    (ho : PE X o (teD W A XW mo)) (ha : PA X es (taD W A XW ms)) (hk : PK X kws (taD W A XW mk)) (hn : es = [] → ms = Ev.pure []) (l1 : Gives ms fun l => l.length = n) (l2 : Gives mk fun l => l.length = (nmsOf kws).length)
    (hb : plainRecv o = true) (h1 : noStars es = true) (h2 : allNm kws = true) (hl : es.length + kws.length < 29) (hline : (apos.endLine == pos.line) = true)
    (hc : bindC fd.ps (n + 1) (nmsOf kws) fd.dfl.length = true) :
    PE X (.Call (.Attribute o m apos) es kws pos) (teD W A XW (mo.bind fun d => (Ev.look fun _ G => insOf G Cn m d).bind fun _ => ms.bind fun l => mk.bind fun w => fun σ G => fromFO (Φ.kw (methName Cn m) (d :: l) (nmsOf kws) w G) σ)) := by
  refine ⟨fun pins s σ H Q I h => ?_⟩
  obtain ⟨raw, _, c2, _, c4, _⟩ := hx.tb.fns
  obtain ⟨Ca, f, hm, hcl, hme, F⟩ := c4 (Cn, m) hf fd hd
  obtain rfl : W = wdOf X := hx.wd.symm
  obtain ⟨pt, rfl, h⟩ := h
  refine PySem.W.methodCall_KW (pl := (do return (← importBound o X.env).getD true)) (thn (ho.run pins s σ pt.H (fun v H1 => ∃ (d : D) (q : Pt), q.H = H1 ∧ SR (wdOf X) A σ q ∧ RO (wdOf X) q.ρ q.Fr q.H σ d v ∧ insOf q.G Cn m d = some () ∧ wpD (wdOf X) A XW σ (ms.bind fun l => mk.bind fun w => fun σ G => fromFO (Φ.kw (methName Cn m) (d :: l) (nmsOf kws) w G) σ) q fun d q => ∀ v, RO (wdOf X) q.ρ q.Fr q.H σ d v → Q v q.H) I
    ⟨pt, rfl, (wpD.bind h).mono fun d q s mo h v r => ?_⟩) fun u s1 hu => ?_) (meth_eval hb h1 h2 hl hline)
  · have h3 := wpD.bind h
    obtain ⟨u, e, h4⟩ := h3.look
    exact ⟨d, q, rfl, s, r, e, h4 q rfl rfl s Mo.refl⟩
  · obtain ⟨v, H1, I1, rv, d, q, rfl, sq, r, e, h⟩ := hu
    obtain ⟨i, a, Ca', dx, fs, gs, rfl, rfl, g1, g2, g3, g4, g5, g6⟩ := r.ins (G := q.G) sq e
    rw [hm] at g4
    cases g4
    cases rv
    refine getmeth_ok I1 g3 hcl hme (look_none g5.1 g6) ?_
    refine call_with (first := [.ref a]) (R := fun vs zs H => ∃ (l w : List D) (q : Pt), q.H = H ∧ RD (wdOf X) q.ρ q.Fr q.H (.ref i) (.ref a) ∧ RDs (wdOf X) q.ρ q.Fr q.H l vs ∧ RDs (wdOf X) q.ρ q.Fr q.H w zs ∧ l.length = n ∧ w.length = (nmsOf kws).length ∧ wpD (wdOf X) A XW σ (fun σ G => fromFO (Φ.kw (methName Cn m) (.ref i :: l) (nmsOf kws) w G) σ) q fun d q => ∀ v, RO (wdOf X) q.ρ q.Fr q.H σ d v → Q v q.H)
      F.kp ha hk h1 h2 (fun e σ H Q q => by rw [hn e] at q; exact taD_nil q) I1 ?_ ?_
    · refine ⟨q, rfl, ((wpD.bind h).and l1).mono fun l q2 s mo h vs r1 => ⟨q2, rfl, ((wpD.bind h.2).and l2).mono fun w q3 s2 mo2 h2 zs r2 => ⟨l, w, q3, rfl, RD.mono (mo.trans mo2) _ _ r, r1.mono mo2, r2, h.1, h2.1, h2.2⟩⟩⟩
    · rintro us ws s' vs zs H' I' u1 u2 ⟨l, w, q2, rfl, r0, r1, r2, e1, e2, h⟩
      have hkw := fun G => c2 (methName Cn m) (.ref i :: l) (nmsOf kws) w G
      simp only [hkw, hd] at h
      cases hbi : bindG fd.ps (.ref i :: l) (nmsOf kws) w fd.dfl with
      | none => simp only [hbi, fromFO] at h; exact h.bad.elim
      | some l' =>
        simp only [hbi] at h
        refine thn (run_call hx F (us := .ref a :: us) (vs := .ref a :: vs) I' (.cons r0 r1) r2 (.cons rfl u1) u2 e2 (by rw [List.length_cons, e1]; exact hc) hbi h) fun u s2 hq => ep_imp hq ?_
        rintro v H ⟨d, q3, rfl, s3, mo, rd, hh⟩
        exact hh v (RO.of rd)
theorem n_meth (hx : XO W T Φ k C X XW) {Cn m : Str} {fd : Fd} {apos pos : Pos} {o : Expr} {es : List Expr} {n : Nat} {mo : Ev D} {ms : Ev (List D)} (hf : (Cn, m) ∈ T.mths) (hd : T.P.fd (methName Cn m) = some fd)
    (ho : PE X o (teD W A XW mo)) (ha : PA X es (taD W A XW ms)) (hn : es = [] → ms = Ev.pure []) (l1 : Gives ms fun l => l.length = n)
    (hb : plainRecv o = true) (h1 : noStars es = true) (hl : es.length < 29) (hline : (apos.endLine == pos.line) = true)
    (hc : bindC fd.ps (n + 1) [] fd.dfl.length = true) :
    PE X (.Call (.Attribute o m apos) es [] pos) (teD W A XW (mo.bind fun d => (Ev.look fun _ G => insOf G Cn m d).bind fun _ => ms.bind fun l => fun σ G => fromFO (Φ.call (methName Cn m) (d :: l) G) σ)) := by
  obtain ⟨raw, c1, c2, _⟩ := hx.tb.fns
  have e : (mo.bind fun d => (Ev.look fun _ G => insOf G Cn m d).bind fun _ => ms.bind fun l => fun σ G => fromFO (Φ.call (methName Cn m) (d :: l) G) σ) = (mo.bind fun d => (Ev.look fun _ G => insOf G Cn m d).bind fun _ => ms.bind fun l => (Ev.pure []).bind fun w => fun σ G => fromFO (Φ.kw (methName Cn m) (d :: l) (nmsOf []) w G) σ) := by
    congr 1
    funext d
    congr 1
    funext _
    congr 1
    funext l S G
    show fromFO (Φ.call (methName Cn m) (d :: l) G) S = fromFO (Φ.kw (methName Cn m) (d :: l) [] [] G) S
    rw [c1, c2]
  rw [e]
  exact n_methk hx hf hd ho ha pk_nilD hn l1 (fun S G a S' G' h => by cases h; rfl) hb h1 rfl (by simpa using hl) hline hc
end

theorem rl_true {α β : Type} : ∀ {l : List α} {m : List β}, l.length = m.length → Rl (fun _ _ => True) l m
  | [], [], _ => .nil
  | [], _ :: _, h => by cases h
  | _ :: _, [], h => by cases h
  | a :: l, b :: m, h => .cons True.intro (rl_true (Nat.succ.inj h))
theorem spF_imp {W : Wd} {n : Nat} {c : List D → List MO → FO} {vs : List V} {H : Hp} {Q Q' : VK} {E : XK} (h : spF W n c vs H Q E) (hq : ∀ v H, Q v H → Q' v H) : spF W n c vs H Q' E := by
  obtain ⟨ρ, Fr, G, ds, h1, h2, h3, h4⟩ := h
  refine ⟨ρ, Fr, G, ds, h1, h2, h3, ?_⟩
  revert h4
  unfold foP
  cases c ds G with
  | ok d G => exact fun h H ρ Fr g e v r => hq v H (h H ρ Fr g e v r)
  | ex x G => exact id
  | bad => exact id
section
variable {W : Wd} {T : Tb} {Φ : Fns} {k : Nat} {C : Cf} {X : Cx} {XW : WX} {A : Act}
/-- C(..) -/
theorem n_mk (hx : XO W T Φ k C X XW) {Cn : Str} {fd : Fd} {p pos : Pos} {es : List Expr} {n : Nat} {ms : Ev (List D)} (hf : Cn ∈ T.mks) (hd : T.P.fd (initName Cn) = some fd) (hg : Gl X Cn) (hdb : (Cn == ("__debug__" : Str)) = false)
    (ha : PA X es (taD W A XW ms)) (hn : es = [] → ms = Ev.pure []) (l1 : Gives ms fun l => l.length = n) (h1 : noStars es = true) (hc : bindC fd.ps (n + 1) [] fd.dfl.length = true) :
    PE X (.Call (.Name Cn p) es [] pos) (teD W A XW (ms.bind fun l => (newObj (.ins Cn [])).bind fun d => Ev.bind (fun σ G => fromFO (Φ.call (initName Cn) (d :: l) G) σ) fun r => match r with
      | .non => Ev.pure d
      | _ => Ev.bad)) := by
  refine ⟨fun pins s σ H Q I h => ?_⟩
  obtain ⟨raw, c1, _, _, _, c5⟩ := hx.tb.fns
  obtain ⟨Ca, f, hm, hmk, F⟩ := c5 Cn hf fd hd
  obtain rfl : W = wdOf X := hx.wd.symm
  obtain ⟨pt, rfl, h⟩ := h
  refine wpAny_Call_Name_kw (ld_glob (u := .ref Ca) I hg hm ?_ hdb)
  refine call_with (kws := []) (tk := taD (wdOf X) A XW (Ev.pure [])) (R := fun vs zs H => ∃ (l : List D) (q : Pt), q.H = H ∧ RDs (wdOf X) q.ρ q.Fr q.H l vs ∧ l.length = n ∧ zs = [] ∧ wpD (wdOf X) A XW σ ((newObj (.ins Cn [])).bind fun d => Ev.bind (fun σ G => fromFO (Φ.call (initName Cn) (d :: l) G) σ) fun r => match r with
      | .non => Ev.pure d
      | _ => Ev.bad) q fun d q => ∀ v, RO (wdOf X) q.ρ q.Fr q.H σ d v → Q v q.H) hmk.kp ha pk_nilD h1 rfl (fun e σ H Q q => by rw [hn e] at q; exact taD_nil q) I ?_ ?_
  · refine ⟨pt, rfl, ((wpD.bind h).and l1).mono fun l q s mo h vs r => ⟨q, rfl, s, fun q2 e1 e2 s2 mo2 zs rz => ?_⟩⟩
    have := rz.inv0
    subst this
    refine ⟨l, q2, rfl, r.mono mo2, h.1, rfl, s2, ?_⟩
    have h2 := h.2.2
    rw [← e1, ← e2] at h2
    revert h2
    cases ((newObj (.ins Cn [])).bind fun d => Ev.bind (fun σ G => fromFO (Φ.call (initName Cn) (d :: l) G) σ) fun r => match r with
      | .non => Ev.pure d
      | _ => Ev.bad) q2.S q2.G with
    | ok a S G => exact fun h r e1 e2 s3 m3 => h r e1 e2 s3 (mo2.trans m3)
    | ex x S G => exact fun h r cls d e1 e2 s3 m3 => h r cls d e1 e2 s3 (mo2.trans m3)
    | bad => exact id
  · rintro us ws s' vs zs H' I' u1 u2 ⟨l, q, rfl, r1, e1, rfl, h⟩
    cases u2
    obtain ⟨dat, dvs, its, hF, hdv, hv, hbind⟩ := F.ex
    have h := wpD.bind h
    have sq := h.1
    have step : ∀ x dx, q.H x = none → q.H dx = none → dx ≠ x → ∃ q1 : Pt, q1.H = upd (upd q.H dx (.own x)) x (.ins Ca dx []) ∧ SR (wdOf X) A σ q1 ∧ Mp q q1 ∧ q1.ρ[q.G.length]? = some x ∧ wpD (wdOf X) A XW σ (Ev.bind (fun σ G => fromFO (Φ.call (initName Cn) (.ref q.G.length :: l) G) σ) fun r => match r with
      | .non => Ev.pure (.ref q.G.length)
      | _ => Ev.bad) q1 fun d q => ∀ v, RO (wdOf X) q.ρ q.Fr q.H σ d v → Q v q.H := fun x dx hx1 hx2 hne => by
      obtain ⟨s1, m1⟩ := sq.junk (ho := .own x) hx2
      have hx3 : (q.put dx (.own x)).H x = none := (upd_ne (Ne.symm hne)).trans hx1
      obtain ⟨s2, m2⟩ := s1.newG (o := .ins Cn []) (ho := .ins Ca dx []) hx3 ⟨Ca, dx, [], hm, rfl, rfl, .nil⟩
      refine ⟨_, rfl, s2, m1.trans m2, ?_, h.2 _ rfl rfl s2 (m1.trans m2)⟩
      show (q.ρ ++ [x])[q.G.length]? = some x
      rw [← sq.g.gl, List.getElem?_append_right (Nat.le_refl _)]
      simp
    -- the interpreter binds
    have hb : ∃ l', bindG fd.ps (D.ref q.G.length :: l) [] [] fd.dfl = some l' := by
      cases hbi : bindG fd.ps (D.ref q.G.length :: l) [] [] fd.dfl with
      | some l' => exact ⟨l', rfl⟩
      | none =>
        obtain ⟨q1, _, _, _, _, h3⟩ := step (s'.heap.objs.size + 1) s'.heap.objs.size (I'.hok.fresh (Nat.le_succ _)) (I'.hok.fresh (Nat.le_refl _)) (Nat.ne_of_lt (Nat.lt_succ_self _))
        have h4 := wpD.bind h3
        simp only [c1, hd, hbi, fromFO] at h4
        exact h4.bad.elim
    obtain ⟨l', hb⟩ := hb
    have hdl := (hdv q.ρ q.Fr q.H).length
    have hvb : ∀ a, ∃ t, bindG fd.ps (V.ref a :: vs) [] [] dvs = some t := fun a => by
      obtain ⟨t, e, _⟩ := bind_rel (R := fun _ _ => True) (m := V.ref a :: vs) (u := []) (efl := dvs) (rl_true (by simp [r1.length])) .nil (rl_true hdl) fd.ps [] hb
      exact ⟨t, e⟩
    have hub : ∀ a, Vals ((bindG fd.ps (V.ref a :: vs) [] [] dvs).getD []) ((bindG fd.ps (Value.ref a :: us) [] [] its).getD []) := fun a => by
      obtain ⟨t, e⟩ := hvb a
      obtain ⟨t2, e2, r⟩ := bind_rel (R := RelV) (l := V.ref a :: vs) (m := Value.ref a :: us) (.cons rfl (Vals.rl u1)) .nil (Vals.rl hv) fd.ps [] e
      rw [e, e2]
      exact r.vals
    refine run_makex (k := k) (fd := dat) (ps := fd.ps) (g := fun x => (bindG fd.ps (x :: us) [] [] its).getD []) (gV := fun v => (bindG fd.ps (v :: vs) [] [] dvs).getD []) hmk hF hx.rm hx.tk I' (fun s x Ks => ?_) hub (fun x dx hx1 hx2 hne => ?_)
    · obtain ⟨t2, e2, _⟩ := bind_rel (R := fun _ _ => True) (m := x :: us) (u := []) (efl := its) (rl_true (by simp [r1.length, u1.length])) .nil (rl_true (hdl.trans hv.length)) fd.ps [] hb
      rw [e2]
      exact hbind s (x :: us) [] [] t2 Ks rfl (by rw [List.length_cons, ← u1.length, ← r1.length, e1]; exact hc) e2
    · obtain ⟨q1, eH, s1, m1, er, h3⟩ := step x dx hx1 hx2 hne
      have h4 := wpD.bind h3
      simp only [c1, hd, hb] at h4
      obtain ⟨t, e, rl⟩ := bind_rel (R := RD (wdOf X) q1.ρ q1.Fr q1.H) (l := D.ref q.G.length :: l) (m := V.ref x :: vs) (.cons (by simp only [RD]; exact ⟨x, er, rfl⟩) (r1.mono m1).rl) .nil (hdv q1.ρ q1.Fr q1.H).rl fd.ps [] hb
      rw [e]
      have h5 := h4.call rl.rds
      have len := bind_len e
      rw [len, eH] at h5
      refine spF_imp h5 ?_
      rintro v H ⟨d, q2, rfl, s2, m2, rd, h6⟩
      cases d with
      | non =>
        simp only [RD] at rd
        exact ⟨rd, h6.pure (.ref x) (RO.of (by simp only [RD]; exact ⟨x, m2.r _ _ er, rfl⟩))⟩
      | _ => exact h6.bad.elim
end
end Mi

end
section
set_option Elab.async false
set_option linter.all false
set_option maxRecDepth 100000
set_option maxHeartbeats 1000000
/-! Mi10: names, displays, operations, tests. -/
namespace Mi
open PySem PySem.Spec PyProof.Rows L2

section
variable {W : Wd} {T : Tb} {Φ : Fns} {k : Nat} {C : Cf} {X : Cx} {XW : WX} {A : Act}
theorem n_var (i : Nat) {x : Str} {pos : Pos} (hN : X.N[i]? = some x) (hv : Vis X.env.scope x) (hd : (x == ("__debug__" : Str)) = false) (hcd : (x == ("__classdict__" : Str)) = false) : PE X (.Name x pos) (teD W A XW (evVar i)) := PE.imp (pe_var hN hv hd hcd) fun σ H Q => by
  rintro ⟨p, rfl, s, h⟩
  unfold evVar at h
  cases e : p.S[i]? with
  | none => simp only [e] at h
  | some t =>
    simp only [e] at h
    cases t with
    | no => exact h.elim
    | val d =>
      obtain ⟨v, h1, r⟩ := s.sv i d e
      exact ⟨v, h1, h p rfl rfl s Mo.refl v (RO.of r)⟩
    | lst l =>
      obtain ⟨a, ho, h1, _⟩ := s.so i _ e rfl
      exact ⟨_, h1, h p rfl rfl s Mo.refl _ h1⟩
    | dic ks xs =>
      obtain ⟨a, ho, h1, _⟩ := s.so i _ e rfl
      exact ⟨_, h1, h p rfl rfl s Mo.refl _ h1⟩
theorem te_const {d : D} {v : V} {σ : Sv} {H : Hp} {Q : VK} (r : ∀ ρ Fr H, RD W ρ Fr H d v) (h : teD W A XW (Ev.pure d) σ H Q) : Q v H := by
  obtain ⟨p, rfl, h⟩ := h
  exact h.pure v (RO.of (r _ _ _))
theorem n_non {j : Nat} {pos : Pos} : PE X (.Constant .none j pos) (teD W A XW (Ev.pure .non)) := PE.imp pe_non fun _ _ _ h => te_const (fun _ _ _ => by simp only [RD]) h
theorem n_bl {b : Bool} {j : Nat} {pos : Pos} : PE X (.Constant (.bool b) j pos) (teD W A XW (Ev.pure (.bl b))) := PE.imp pe_bl fun _ _ _ h => te_const (fun _ _ _ => by simp only [RD]) h
theorem n_int {i : Int} {j : Nat} {pos : Pos} : PE X (.Constant (.int i) j pos) (teD W A XW (Ev.pure (.int i))) := PE.imp pe_int fun _ _ _ h => te_const (fun _ _ _ => by simp only [RD]) h
theorem n_str {x : Str} {j : Nat} {pos : Pos} : PE X (.Constant (.str x) j pos) (teD W A XW (Ev.pure (.str x))) := PE.imp pe_str fun _ _ _ h => te_const (fun _ _ _ => by simp only [RD]) h
theorem n_negc {i : Int} {j : Nat} {pos p2 : Pos} : PE X (.UnaryOp .USub (.Constant (.int i) j p2) pos) (teD W A XW (Ev.pure (.int (-i)))) := PE.imp (pe_un un_neg pe_int) fun _ _ _ h => ⟨i, rfl, te_const (fun _ _ _ => by simp only [RD]) h⟩
theorem n_glob (hx : XO W T Φ k C X XW) {x : Str} {pos : Pos} (hg : Gl X x) (hd : (x == ("__debug__" : Str)) = false) : PE X (.Name x pos) (teD W A XW (Ev.lift (Φ.gval x))) := by
  obtain rfl : W = wdOf X := hx.wd.symm
  cases e : Φ.gval x with
  | none => exact ⟨fun pins s σ H Q I h => by obtain ⟨p, rfl, h⟩ := h; obtain ⟨a, e, _⟩ := h.lift; cases e⟩
  | some d =>
    obtain ⟨u, v, h1, h2, h3⟩ := hx.tb.val x d e
    exact PE.imp (pe_glob hg h1 h2 hd) fun _ _ _ h => te_const h3 h
theorem n_tup {es : List Expr} {k1 : Nat} {pos : Pos} {ms : Ev (List D)} (ha : PA X es (taD W A XW ms)) : PE X (.Tuple es k1 pos) (teN W A XW (ms.bind fun l => Ev.lift (tupOk l))) := PE.imp (pe_tup ha) fun σ H Q => by
  rintro ⟨p, rfl, h⟩
  refine ⟨p, rfl, (wpD.bind h).mono fun l q s mo h vs r => ?_⟩
  obtain ⟨d, e, h⟩ := h.lift
  unfold tupOk at e
  split at e
  · rename_i hz
    cases e
    exact ⟨by rw [← r.length]; exact hz, fun p hp => h _ _ (.new hp ⟨vs, rfl, r⟩)⟩
  · cases e
theorem n_lst {es : List Expr} {pos : Pos} {ms : Ev (List D)} (ha : PA X es (taD W A XW ms)) : PE X (.List es pos) (teN W A XW (ms.bind fun l => Ev.lift (lstOk l))) := PE.imp (pe_lst ha) fun σ H Q => by
  rintro ⟨p, rfl, h⟩
  refine ⟨p, rfl, (wpD.bind h).mono fun l q s mo h vs r => ?_⟩
  obtain ⟨d, e, h⟩ := h.lift
  unfold lstOk at e
  split at e
  · rename_i hz
    cases e
    exact ⟨by rw [← r.length]; exact hz, fun p hp => h _ _ (.new hp ⟨vs, rfl, r⟩)⟩
  · cases e
/-- {} -/
theorem n_dic0 {pos : Pos} : PE X (.Dict [] [] pos) (teN W A XW (Ev.pure (.dic [] []))) := PE.imp pe_dnewK fun σ H Q => by
  rintro ⟨p, rfl, h⟩
  intro a ha
  exact h.pure _ _ (.new ha ⟨[], [], .inl ⟨rfl, [], rfl, rfl, rfl⟩, .nil, .nil⟩)
/-- a new list or dict becomes a shared object -/
theorem n_gl {e : Expr} {m : Ev D} (h : PE X e (teN W A XW m)) : PE X e (teD W A XW (m.bind evGl)) := PE.imp h fun σ H Q => by
  rintro ⟨p, rfl, h⟩
  refine ⟨p, rfl, (wpD.bind h).mono fun d q s mo h v H' r => ?_⟩
  cases r with
  | old hc ro =>
    cases d with
    | lst l => cases hc
    | dic ks xs => cases hc
    | _ => exact h.bad.elim
  | @new a ho hp n =>
    cases d with
    | lst l =>
      obtain ⟨vs, rfl, r⟩ := n
      obtain ⟨s', m'⟩ := s.newG (o := .lst l) hp ⟨vs, rfl, r⟩
      refine h.2 ⟨q.S, q.G ++ [.lst l], upd q.H a (.lst vs), q.ρ ++ [a], q.Fr⟩ rfl rfl s' m' _ (RO.of ?_)
      simp only [RD]
      refine ⟨_, ?_, rfl⟩
      show (q.ρ ++ [_])[q.G.length]? = _
      rw [← s.g.gl, List.getElem?_append_right (Nat.le_refl _)]
      simp
    | dic ks xs =>
      obtain ⟨kvs, vs, dd, r1, r2⟩ := n
      obtain ⟨s', m'⟩ := s.newG (o := .dic ks xs) hp ⟨kvs, vs, dd, r1, r2⟩
      refine h.2 ⟨q.S, q.G ++ [.dic ks xs], upd q.H a ho, q.ρ ++ [a], q.Fr⟩ rfl rfl s' m' _ (RO.of ?_)
      simp only [RD]
      refine ⟨_, ?_, rfl⟩
      show (q.ρ ++ [_])[q.G.length]? = _
      rw [← s.g.gl, List.getElem?_append_right (Nat.le_refl _)]
      simp
    | _ => exact h.bad.elim

/-! ### operations -/
theorem n_bin {op : Operator} {r : R2} {f : List Slot → List MO → D → D → Option D} {a b : Expr} {pos : Pos} {ma mb : Ev D} (ho : OpR X (binaryOp op) r) (hs : Ser2 W f r) (ha : PE X a (teD W A XW ma)) (hb : PE X b (teD W A XW mb)) :
    PE X (.BinOp a op b pos) (teN W A XW (ma.bind fun x => mb.bind fun y => Ev.look fun σ G => f σ G x y)) := PE.imp (pe_op ho ha hb) fun σ H Q => by
  rintro ⟨p, rfl, h⟩
  refine ⟨p, rfl, (wpD.bind h).mono fun x q s mo h v rx => ⟨q, rfl, (wpD.bind h).mono fun y q2 s2 mo2 h u ry => ?_⟩⟩
  obtain ⟨z, e, h⟩ := h.look
  exact hs A σ q2 x y z v u Q s2 (rx.mono mo2) ry e fun w H' res => h q2 rfl rfl s2 Mo.refl w H' res
theorem n_cmp {op : CmpOp} {o : CmpO} {r : R2} {a b : Expr} {pos : Pos} {ma mb : Ev D} (ho : OpR X (compareOp op) r) (hs : SerC W o r) (hm : behindInMarks op b = false) (ha : PE X a (teD W A XW ma)) (hb : PE X b (teD W A XW mb)) :
    PE X (.Compare a [op] [b] pos) (teD W A XW (ma.bind fun x => mb.bind fun y => (Ev.look fun σ G => cmp2 o σ G x y).bind fun r => Ev.pure (.bl r))) := PE.imp (pe_cmpR ho ha hb hm) fun σ H Q => by
  rintro ⟨p, rfl, h⟩
  refine ⟨p, rfl, (wpD.bind h).mono fun x q s mo h v rx => ⟨q, rfl, (wpD.bind h).mono fun y q2 s2 mo2 h u ry => ?_⟩⟩
  obtain ⟨c, e, h⟩ := (wpD.bind h).look
  exact hs A σ q2 x y c v u Q s2 (rx.mono mo2) ry e ((h q2 rfl rfl s2 Mo.refl).pure _ (RO.of (by simp only [RD])))
/-- a test, by its value -/
theorem tt_of {σ : Sv} {H : Hp} {Q : Bool → Hp → Prop} {m : Ev D} (h : ttD W A XW (m.bind truth) σ H Q) : teD W A XW m σ H fun x H1 => ∃ c, x = .bl c ∧ Q c H1 := by
  obtain ⟨p, rfl, h⟩ := h
  refine ⟨p, rfl, (wpD.bind h).mono fun d q s mo h v r => ?_⟩
  cases d with
  | bl b => exact ⟨b, r.bl, h.pure⟩
  | _ => exact h.bad.elim
theorem n_cmpT {op : CmpOp} {o : CmpO} {r : R2} {a b : Expr} {pos : Pos} {ma mb : Ev D} (ho : OpR X (compareOp op) r) (hs : SerC W o r) (hm : behindInMarks op b = false) (ha : PE X a (teD W A XW ma)) (hb : PE X b (teD W A XW mb)) :
    PT X (.Compare a [op] [b] pos) (ttD W A XW ((ma.bind fun x => mb.bind fun y => (Ev.look fun σ G => cmp2 o σ G x y).bind fun r => Ev.pure (.bl r)).bind truth)) := PT.imp (pt_cmpR ho ha hb hm) fun σ H Q h0 => by
  obtain ⟨p, rfl, h⟩ := tt_of h0
  refine ⟨p, rfl, (wpD.bind h).mono fun x q s mo h v rx => ⟨q, rfl, (wpD.bind h).mono fun y q2 s2 mo2 h u ry => ?_⟩⟩
  obtain ⟨c, e, h⟩ := (wpD.bind h).look
  exact hs A σ q2 x y c v u _ s2 (rx.mono mo2) ry e ((h q2 rfl rfl s2 Mo.refl).pure _ (RO.of (by simp only [RD])))
theorem te_chain {o o' : CmpO} {r r' : R2} {ma mb mc : Ev D} {σ : Sv} {H : Hp} {Q : VK} (hs : SerC W o r) (hs' : SerC W o' r')
    (h : teD W A XW (ma.bind fun x => mb.bind fun y => (Ev.look fun σ G => cmp2 o σ G x y).bind fun r => if r = true then mc.bind fun z => (Ev.look fun σ G => cmp2 o' σ G y z).bind fun r => Ev.pure (.bl r) else Ev.pure (.bl false)) σ H Q) :
    tChain r r' (teD W A XW ma) (teD W A XW mb) (teD W A XW mc) σ H Q := by
  obtain ⟨p, rfl, h⟩ := h
  refine ⟨p, rfl, (wpD.bind h).mono fun x q s mo h v rx => ⟨q, rfl, (wpD.bind h).mono fun y q2 s2 mo2 h u ry => ?_⟩⟩
  obtain ⟨c, e, h⟩ := (wpD.bind h).look
  have h := h q2 rfl rfl s2 Mo.refl
  refine hs A σ q2 x y c v u _ s2 (rx.mono mo2) ry e ⟨c, rfl, ?_⟩
  cases c with
  | false =>
    rw [if_neg Bool.false_ne_true] at h ⊢
    exact h.pure _ (RO.of (by simp only [RD]))
  | true =>
    rw [if_pos rfl] at h ⊢
    refine ⟨q2, rfl, (wpD.bind h).mono fun z q3 s3 mo3 h w rz => ?_⟩
    obtain ⟨c', e', h⟩ := (wpD.bind h).look
    exact hs' A σ q3 y z c' u w _ s3 (ry.mono mo3) rz e' ((h q3 rfl rfl s3 Mo.refl).pure _ (RO.of (by simp only [RD])))
theorem n_chn {op op' : CmpOp} {o o' : CmpO} {r r' : R2} {a b c : Expr} {pos : Pos} {ma mb mc : Ev D} (ho : OpR X (compareOp op) r) (hs : SerC W o r) (ho' : OpR X (compareOp op') r') (hs' : SerC W o' r') (hm : lastMarks [op, op'] [b, c] = false)
    (ha : PE X a (teD W A XW ma)) (hb : PE X b (teD W A XW mb)) (hc : PE X c (teD W A XW mc)) :
    PE X (.Compare a [op, op'] [b, c] pos) (teD W A XW (ma.bind fun x => mb.bind fun y => (Ev.look fun σ G => cmp2 o σ G x y).bind fun r => if r = true then mc.bind fun z => (Ev.look fun σ G => cmp2 o' σ G y z).bind fun r => Ev.pure (.bl r) else Ev.pure (.bl false))) :=
  PE.imp (pe_chain ho ho' ha hb hc hm) fun _ _ _ => te_chain hs hs'
theorem n_chnT {op op' : CmpOp} {o o' : CmpO} {r r' : R2} {a b c : Expr} {pos : Pos} {ma mb mc : Ev D} (ho : OpR X (compareOp op) r) (hs : SerC W o r) (ho' : OpR X (compareOp op') r') (hs' : SerC W o' r') (hm : lastMarks [op, op'] [b, c] = false)
    (ha : PE X a (teD W A XW ma)) (hb : PE X b (teD W A XW mb)) (hc : PE X c (teD W A XW mc)) :
    PT X (.Compare a [op, op'] [b, c] pos) (ttD W A XW ((ma.bind fun x => mb.bind fun y => (Ev.look fun σ G => cmp2 o σ G x y).bind fun r => if r = true then mc.bind fun z => (Ev.look fun σ G => cmp2 o' σ G y z).bind fun r => Ev.pure (.bl r) else Ev.pure (.bl false)).bind truth)) :=
  PT.imp (pt_chain ho ho' ha hb hc hm) fun _ _ _ h => te_chain hs hs' (tt_of h)
theorem n_val {e : Expr} {m : Ev D} (h : PE X e (teD W A XW m)) (he : ∀ whole, isTrue e X.env whole = (do let v ← whole; standAt e.pos; holding [v] (truthy v))) : PT X e (ttD W A XW (m.bind truth)) := PT.imp (pt_val h he) fun _ _ _ => tt_of
/-! ### and, or, not, if -/
theorem Ev.bind_assoc {α β γ : Type} (m : Ev α) (f : α → Ev β) (g : β → Ev γ) : (m.bind f).bind g = m.bind fun a => (f a).bind g := by
  funext S G
  unfold Ev.bind Rs.andThen
  cases m S G <;> rfl
theorem Ev.bind_congr {α β : Type} {m : Ev α} {f g : α → Ev β} (h : ∀ a, f a = g a) : m.bind f = m.bind g := by
  congr 1
  funext a
  exact h a
theorem bad_bind {α β : Type} {f : α → Ev β} : (Ev.bad : Ev α).bind f = Ev.bad := rfl
theorem ev_and (ma mb : Ev D) : ((ma.bind fun x => (truth x).bind fun c => if c = true then mb else Ev.pure (.bl false)).bind truth) = (ma.bind truth).bind fun c => if c = true then mb.bind truth else Ev.pure false := by
  rw [Ev.bind_assoc, Ev.bind_assoc]
  refine Ev.bind_congr fun x => ?_
  rw [Ev.bind_assoc]
  refine Ev.bind_congr fun c => ?_
  cases c <;> rfl
theorem ev_or (ma mb : Ev D) : ((ma.bind fun x => (truth x).bind fun c => if c = true then Ev.pure (.bl true) else mb).bind truth) = (ma.bind truth).bind fun c => if c = true then Ev.pure true else mb.bind truth := by
  rw [Ev.bind_assoc, Ev.bind_assoc]
  refine Ev.bind_congr fun x => ?_
  rw [Ev.bind_assoc]
  refine Ev.bind_congr fun c => ?_
  cases c <;> rfl
theorem ev_not (ma : Ev D) : ((ma.bind fun x => (truth x).bind fun b => Ev.pure (.bl (!b))).bind truth) = (ma.bind truth).bind fun c => Ev.pure (!c) := by
  rw [Ev.bind_assoc, Ev.bind_assoc]
  refine Ev.bind_congr fun x => ?_
  rw [Ev.bind_assoc]
  refine Ev.bind_congr fun c => ?_
  rfl
theorem ev_if (mc ma mb : Ev D) : (((mc.bind truth).bind fun t => if t = true then ma else mb).bind truth) = (mc.bind truth).bind fun c => if c = true then ma.bind truth else mb.bind truth := by
  rw [Ev.bind_assoc]
  refine Ev.bind_congr fun c => ?_
  cases c <;> rfl
theorem tt_and {ma mb : Ev D} {σ : Sv} {H : Hp} {Q : Bool → Hp → Prop} (h : ttD W A XW ((ma.bind fun x => (truth x).bind fun c => if c = true then mb else Ev.pure (.bl false)).bind truth) σ H Q) : tAnd (ttD W A XW (ma.bind truth)) (ttD W A XW (mb.bind truth)) σ H Q := by
  rw [ev_and] at h
  obtain ⟨p, rfl, h⟩ := h
  refine ⟨p, rfl, (wpD.bind h).mono fun c q s mo h => ?_⟩
  cases c with
  | true => exact ⟨q, rfl, h⟩
  | false => exact h.pure
theorem tt_or {ma mb : Ev D} {σ : Sv} {H : Hp} {Q : Bool → Hp → Prop} (h : ttD W A XW ((ma.bind fun x => (truth x).bind fun c => if c = true then Ev.pure (.bl true) else mb).bind truth) σ H Q) : tOr (ttD W A XW (ma.bind truth)) (ttD W A XW (mb.bind truth)) σ H Q := by
  rw [ev_or] at h
  obtain ⟨p, rfl, h⟩ := h
  refine ⟨p, rfl, (wpD.bind h).mono fun c q s mo h => ?_⟩
  cases c with
  | true => exact h.pure
  | false => exact ⟨q, rfl, h⟩
theorem te_and {ma mb : Ev D} {σ : Sv} {H : Hp} {Q : VK} (h : teD W A XW (ma.bind fun x => (truth x).bind fun c => if c = true then mb else Ev.pure (.bl false)) σ H Q) : tAndV (teD W A XW ma) (teD W A XW mb) σ H Q := by
  obtain ⟨p, rfl, h⟩ := h
  refine ⟨p, rfl, (wpD.bind h).mono fun x q s mo h v r => ?_⟩
  cases x with
  | bl c =>
    refine ⟨c, r.bl, ?_⟩
    cases c with
    | true => exact ⟨q, rfl, h⟩
    | false => exact wpD.pure (a := D.bl false) h (.bl false) (RO.of (by simp only [RD]))
  | _ => exact h.2.elim
theorem te_or {ma mb : Ev D} {σ : Sv} {H : Hp} {Q : VK} (h : teD W A XW (ma.bind fun x => (truth x).bind fun c => if c = true then Ev.pure (.bl true) else mb) σ H Q) : tOrV (teD W A XW ma) (teD W A XW mb) σ H Q := by
  obtain ⟨p, rfl, h⟩ := h
  refine ⟨p, rfl, (wpD.bind h).mono fun x q s mo h v r => ?_⟩
  cases x with
  | bl c =>
    refine ⟨c, r.bl, ?_⟩
    cases c with
    | true => exact wpD.pure (a := D.bl true) h (.bl true) (RO.of (by simp only [RD]))
    | false => exact ⟨q, rfl, h⟩
  | _ => exact h.2.elim
theorem n_not {a : Expr} {pos : Pos} {ma : Ev D} (ha : PE X a (teD W A XW ma)) : PE X (.UnaryOp .Not a pos) (teD W A XW (ma.bind fun x => (truth x).bind fun b => Ev.pure (.bl (!b)))) := PE.imp (pe_not ha) fun σ H Q => by
  rintro ⟨p, rfl, h⟩
  refine ⟨p, rfl, (wpD.bind h).mono fun x q s mo h v r => ?_⟩
  cases x with
  | bl c => exact ⟨c, r.bl, wpD.pure (a := D.bl (!c)) h _ (RO.of (by simp only [RD]))⟩
  | _ => exact h.2.elim
theorem n_notT {a : Expr} {pos : Pos} {ma : Ev D} (ha : PT X a (ttD W A XW (ma.bind truth))) : PT X (.UnaryOp .Not a pos) (ttD W A XW ((ma.bind fun x => (truth x).bind fun b => Ev.pure (.bl (!b))).bind truth)) := PT.imp (pt_not ha) fun σ H Q h => by
  rw [ev_not] at h
  obtain ⟨p, rfl, h⟩ := h
  exact ⟨p, rfl, (wpD.bind h).mono fun c q s mo h => h.pure⟩
theorem n_ife {c a b : Expr} {pos : Pos} {mc ma mb : Ev D} (hc : PT X c (ttD W A XW (mc.bind truth))) (ha : PE X a (teD W A XW ma)) (hb : PE X b (teD W A XW mb)) : PE X (.IfExp c a b pos) (teD W A XW ((mc.bind truth).bind fun t => if t = true then ma else mb)) := PE.imp (pe_ifExp hc ha hb) fun σ H Q => by
  rintro ⟨p, rfl, h⟩
  refine ⟨p, rfl, (wpD.bind h).mono fun c q s mo h => ?_⟩
  cases c with
  | true => exact ⟨q, rfl, h⟩
  | false => exact ⟨q, rfl, h⟩
theorem n_ifeT {c a b : Expr} {pos : Pos} {mc ma mb : Ev D} (hc : PT X c (ttD W A XW (mc.bind truth))) (ha : PT X a (ttD W A XW (ma.bind truth))) (hb : PT X b (ttD W A XW (mb.bind truth))) : PT X (.IfExp c a b pos) (ttD W A XW (((mc.bind truth).bind fun t => if t = true then ma else mb).bind truth)) := by
  refine ⟨fun pins s σ H Q I h => ?_⟩
  rw [ev_if] at h
  obtain ⟨p, rfl, h⟩ := h
  show wpAny _ _ (do if ← isTrue c X.env (eval c X.env) then isTrue a X.env (eval a X.env) else isTrue b X.env (eval b X.env)) _ _ s
  refine wpAny_bind (thn (hc.run pins s σ p.H (fun t H1 => ∃ q : Pt, q.H = H1 ∧ wpD W A XW σ (if t = true then ma.bind truth else mb.bind truth) q fun b q => Q b q.H) I ⟨p, rfl, (wpD.bind h).mono fun c q s mo h => ⟨q, rfl, h⟩⟩) fun t s1 ⟨H1, I1, q, e, h⟩ => ?_)
  subst e
  cases t with
  | true => exact ha.run pins s1 σ q.H Q I1 ⟨q, rfl, h⟩
  | false => exact hb.run pins s1 σ q.H Q I1 ⟨q, rfl, h⟩

/-! ### items, slices, fields -/
theorem n_fld (hx : XO W T Φ k C X XW) {e : Expr} {f : Str} {pos : Pos} {m : Ev D} (hb : plainRecv e = true) (he : PE X e (teD W A XW m)) : PE X (.Attribute e f pos) (teD W A XW (m.bind fun x => Ev.look fun _ G => fldOf Φ.fok G x f)) := PE.imp (pe_fld he (base_plain hb)) fun σ H Q => by
  obtain rfl : W = wdOf X := hx.wd.symm
  rintro ⟨p, rfl, h⟩
  refine ⟨p, rfl, (wpD.bind h).mono fun x q s mo h v r => ?_⟩
  obtain ⟨z, e, h0⟩ := h.look
  cases x with
  | ref n =>
    simp only [fldOf] at e
    cases eg : q.G[n]? with
    | none => rw [eg] at e; cases e
    | some o =>
      rw [eg] at e
      cases o with
      | ins Cn fs =>
        simp only at e
        split at e
        · rename_i hok
          simp only [RO, RD] at r
          obtain ⟨a, h1, rfl⟩ := r
          obtain ⟨b, ho, h2, h3, Ca, dx, gs, h4, rfl, h5⟩ := s.g.ob n _ eg
          rw [h1] at h2
          cases h2
          obtain ⟨c1, c2⟩ := hx.tb.fld Cn f hok Ca h4
          obtain ⟨v, h6, h7⟩ := look_some h5.1 h5.2 e
          exact ⟨a, Ca, dx, gs, v, rfl, h3, c1, c2, h6, h0 q rfl rfl s Mo.refl v (RO.of h7)⟩
        · cases e
      | _ => cases e
  | _ => cases e
end
end Mi

end
section
set_option Elab.async false
set_option linter.all false
set_option maxRecDepth 100000
set_option maxHeartbeats 1000000
/-! Mi11: dicts, used. -/
namespace Mi
open PySem PySem.Spec PyProof.Rows L2

section
variable {X : Cx} {pins : List (Addr × Obj)} {σ : Sv} {H : Hp} {s : Shared} {ρ : List Addr} {Fr : Addr → Prop} {a : Addr} {ho : HO} {ks xs : List D} {kvs vs : List V} {k : D} {y : V}
/-- a dict as a key finds it: keys that are ints and texts, or keys that are tuples -/
inductive DV (X : Cx) (ρ : List Addr) (Fr : Addr → Prop) (H : Hp) (s : Shared) (a : Addr) (ho : HO) (ks xs : List D) (k : D) (y : V) : Prop
  | leaf (l : List (Key × V)) (key : Key) : ho = .dK l → LeafR (wdOf X) ρ Fr H ks xs l → k = kD key → y = kV key → DV X ρ Fr H s a ho ks xs k y
  | nest (l : List (NestedKey × Addr × Value)) (us : List V) (nk : NestedKey) (b : Addr) : k.isTup = true → k.nk = some nk → y = .ref b → NestR (wdOf X) ρ Fr H ks xs l us → s.heap.DictOfH (nestedKind X.prog X.w) a l →
      (nestedKind X.prog X.w).is s.heap nk b → (a == sysModules) = false → l.length ≤ sizeLine → Mut (some ho) → DV X ρ Fr H s a ho ks xs k y
theorem nest_at (I : Inv X pins σ H s) {l : List (NestedKey × Addr × Value)} {us : List V} (n : NestR (wdOf X) ρ Fr H ks xs l us) : ∀ x ∈ l, (nestedKind X.prog X.w).is s.heap x.1 x.2.1 := fun x hx => by
  obtain ⟨k, h1, h2, h3⟩ := n.mem x hx
  exact knd_is I h1 h2 h3
theorem dic_view (I : Inv X pins σ H s) (e : H a = some ho) (d : DicO (wdOf X) a ks kvs vs ho) (r1 : RDs (wdOf X) ρ Fr H ks kvs) (r2 : RDs (wdOf X) ρ Fr H xs vs) (ok : okKey ks k = true) (rk : RD (wdOf X) ρ Fr H k y) : DV X ρ Fr H s a ho ks xs k y := by
  unfold okKey at ok
  rw [Bool.or_eq_true, Bool.and_eq_true, Bool.and_eq_true] at ok
  rcases d with ⟨hl, l, rfl, rfl, rfl⟩ | ⟨ht, hne, l, o, es, ep, rfl, ho1, ho2, ho3, ho4, rfl, ho5, ho6, ho7, ho8⟩
  · have lr := LeafR.of hl r1 r2
    rcases ok with ⟨k1, _⟩ | ⟨k1, k2⟩
    · obtain ⟨key, rfl⟩ := leaf_kD k1
      exact .leaf l key rfl lr rfl rk.kD
    · have hk : ks = [] := by
        cases ks with
        | nil => rfl
        | cons x r =>
          rw [List.all_cons, Bool.and_eq_true] at hl k2
          rw [isTup_leaf k2.1] at hl
          cases hl.1
      subst hk
      cases lr
      obtain ⟨nk, e2, _⟩ := isTup_nk k1
      obtain ⟨b, rfl⟩ := isTup_ref k1 rk
      obtain ⟨z, hd, vs, rel, o, es, ep, h1, h2, h3, _, h5, _⟩ := dk_of I.hok e
      cases rel
      have h4 : es.toList = [] := by
        generalize es.toList = l at h5
        cases h5
        rfl
      exact .nest [] [] nk b k1 e2 rfl .nil ⟨o, es, ep, h1, h2, h3, h4, (fun x hx => by cases hx), List.nodup_nil⟩ (knd_is I k1 e2 rk) hd (Nat.zero_le _) True.intro
  · rcases ok with ⟨k1, k2⟩ | ⟨k1, _⟩
    · cases ks with
      | nil => exact absurd rfl hne
      | cons x r =>
        rw [List.all_cons, Bool.and_eq_true] at ht k2
        rw [isTup_leaf ht.1] at k2
        cases k2.1
    · obtain ⟨nk, e2, _⟩ := isTup_nk k1
      obtain ⟨b, rfl⟩ := isTup_ref k1 rk
      have n := NestR.of ht r1 r2 ho5 ho6
      obtain ⟨h1, _⟩ := (show ObjOk X.prog X.w H s.heap a (.ext fun h => h.get? a = some o) from I.hok a _ e)
      exact .nest l vs nk b k1 e2 rfl n ⟨o, es, ep, h1, ho1, ho2, ho3, nest_at I n, ho4⟩ (knd_is I k1 e2 rk) ho7 ho8 True.intro
/-- a dict as it lies, tracked, from the library's word -/
theorem nest_lie {h : Heap} {l : List (NestedKey × Addr × Value)} {us : List V} (n : NestR (wdOf X) ρ Fr H ks xs l us) (dd : h.DictOfH (nestedKind X.prog X.w) a l) (ha : (a == sysModules) = false) (hz : l.length ≤ sizeLine) :
    ∃ ho kvs, (∀ H', ObjOk X.prog X.w H' h a ho) ∧ DicO (wdOf X) a ks kvs us ho ∧ RDs (wdOf X) ρ Fr H ks kvs ∧ RDs (wdOf X) ρ Fr H xs us := by
  obtain ⟨o, es, ep, h1, h2, h3, h4, h5, h6⟩ := dd
  obtain ⟨n1, n2, n3, n4, n5⟩ := n.to
  cases ks with
  | nil =>
    cases n
    have h4 : es.toList = [] := h4
    exact ⟨.dK [], [], fun H' => ⟨Nat.zero_le _, ha, [], .nil, o, es, ep, h1, h2, h3, (fun e he => by rw [← Array.mem_toList_iff, h4] at he; cases he), by rw [h4]; exact .nil, List.nodup_nil⟩, .inl ⟨rfl, [], rfl, rfl, rfl⟩, .nil, .nil⟩
  | cons x r =>
    refine ⟨.ext (fun h => h.get? a = some o), _, fun H' => ⟨h1, ⟨o, h1⟩, fun h1 h2 p q => q _ p⟩, .inr ⟨n1, by simp, l, o, es, ep, rfl, h2, h3, h4, h6, rfl, n4, n5, ha, hz⟩, n2, n3⟩

/-! ### d[k], k in d, d.get -/
/-- a dict of data at x, a key -/
structure DK (X : Cx) (ρ : List Addr) (Fr : Addr → Prop) (H : Hp) (a : Addr) (ks xs : List D) (k : D) (x y : V) : Prop where
  ex : ∃ ho kvs vs, x = .ref a ∧ H a = some ho ∧ DicO (wdOf X) a ks kvs vs ho ∧ RDs (wdOf X) ρ Fr H ks kvs ∧ RDs (wdOf X) ρ Fr H xs vs ∧ okKey ks k = true ∧ RD (wdOf X) ρ Fr H k y
def rDix (X : Cx) : R2 := fun x y H Q => ∃ ρ Fr a ks xs k z, DK X ρ Fr H a ks xs k x y ∧ dGet ks xs k = some z ∧ ∀ w, RD (wdOf X) ρ Fr H z w → Q w H
def rDin (X : Cx) (neg : Bool) : R2 := fun y x H Q => ∃ ρ Fr a ks xs k, DK X ρ Fr H a ks xs k x y ∧ Q (.bl (if neg then !dHas ks k else dHas ks k)) H
theorem dict_is (I : Inv X pins σ H s) (e : H a = some ho) (d : DicO (wdOf X) a ks kvs vs ho) : s.TypeIs (.ref a) "dict" ∧ ∃ o, s.heap.get? a = some o ∧ o.ExactDict := by
  rcases d with ⟨hl, l, rfl, rfl, rfl⟩ | ⟨ht, hne, l, o, es, ep, rfl, ho1, ho2, ho3, ho4, rfl, ho5, ho6, ho7, ho8⟩
  · obtain ⟨z, hd, vs, rel, o, es, ep, h1, h2, h3, h4, h5⟩ := dk_of I.hok e
    exact ⟨⟨o, h1, h2.1⟩, o, h1, h2⟩
  · obtain ⟨h1, _⟩ := (show ObjOk X.prog X.w H s.heap a (.ext fun h => h.get? a = some o) from I.hok a _ e)
    exact ⟨⟨o, h1, ho1.1⟩, o, h1, ho1⟩
theorem nroom {A : Around} (hu : A.units + 10 < cLine) : (nestedKind X.prog X.w).room A.in1 := by
  show A.units + 1 + 8 < cLine
  omega
theorem dix_get {A : Around} {E : Value → Shared → Prop} {Q : VK} {z : D} {u : Value} (hu : A.units + 10 < cLine) (I : Inv X pins σ H s) (d : DK X ρ Fr H a ks xs k (.ref a) y) (ry : RelV y u) (hz : dGet ks xs k = some z) (h : ∀ w, RD (wdOf X) ρ Fr H z w → Q w H) :
    wpAny (model X.prog X.w) A (getItem (.ref a) u) (EP X pins σ Q) E s := by
  obtain ⟨ho, kvs, vs, _, e, d, r1, r2, ok, rk⟩ := d.ex
  cases dic_view I e d r1 r2 ok rk with
  | leaf l key e1 lr e2 e3 =>
    subst e1 e2 e3
    rcases lr.val key with ⟨y, v, h1, h2, h3, _⟩ | ⟨h1, _⟩
    · rw [hz] at h1
      cases h1
      exact d_getItem (v := v) (by omega) I (by have := DGet.k (k := key) e; rw [h2] at this; exact this) ry fun w' s3 I3 rw' => ⟨v, H, I3, rw', h v h3⟩
    · rw [hz] at h1; cases h1
  | nest l us nk b e1 e2 e3 n dd kn hd hl mu =>
    subst e3
    cases ry
    rcases n.val e2 with ⟨y, v, b', u', g1, g2, g3, g4, _⟩ | ⟨h1, _⟩
    · rw [hz] at g1
      cases g1
      exact wpAny_getItem_heap (nroom hu) kn dd g2 ⟨v, H, I.tok _, g4, h v g3⟩
    · rw [hz] at h1; cases h1
theorem ix_dix (hu : X.A.units + 10 < cLine) : IxR X (rDix X) := by
  intro value slice pins s σ H x y v u Q I rx ry ⟨ρ, Fr, a, ks, xs, k, z, d, hz, h⟩ hs
  obtain ⟨ho, kvs, vs, rfl, e, dd, _⟩ := id d.ex
  cases rx
  exact tail_any (dict_is I e dd).1 PySem.F.slot_dict_getitem.lookup (dix_get hu I d ry hz h) hs
theorem op_din (hu : X.A.units + 10 < cLine) : OpR X (compareOp .In) (rDin X false) := by
  intro pins s σ H y x u v Q I ry rx ⟨ρ, Fr, a, ks, xs, k, d, h⟩
  obtain ⟨ho, kvs, vs, rfl, e, dd, r1, r2, ok, rk⟩ := id d.ex
  cases rx
  cases dic_view I e dd r1 r2 ok rk with
  | leaf l key e1 lr e2 e3 =>
    subst e1 e2 e3
    refine d_in (o := valV l key) (by omega) I (DGet.k e) ry fun s' I' => ⟨.bl (dHas ks (kD key)), H, I', ?_, h⟩
    rcases lr.val key with ⟨y, v, h1, h2, h3, h4⟩ | ⟨h1, h2, h4⟩
    · rw [h2, h4]; rfl
    · rw [h2, h4]; rfl
  | nest l us nk b e1 e2 e3 n dd kn hd hl mu =>
    subst e3
    cases ry
    refine wpAny_in_heap (nroom hu) kn hd dd ⟨.bl (dHas ks k), H, I.tok _, ?_, h⟩
    rcases n.val e2 with ⟨y, v, b', u', g1, g2, g3, g4, g5⟩ | ⟨h1, g2, g5⟩
    · rw [g2, g5]; rfl
    · rw [g2, g5]; rfl
theorem op_dnin (hu : X.A.units + 10 < cLine) : OpR X (compareOp .NotIn) (rDin X true) := by
  intro pins s σ H y x u v Q I ry rx ⟨ρ, Fr, a, ks, xs, k, d, h⟩
  obtain ⟨ho, kvs, vs, rfl, e, dd, r1, r2, ok, rk⟩ := id d.ex
  cases rx
  cases dic_view I e dd r1 r2 ok rk with
  | leaf l key e1 lr e2 e3 =>
    subst e1 e2 e3
    refine d_notIn (o := valV l key) (by omega) I (DGet.k e) ry fun s' I' => ⟨.bl (!dHas ks (kD key)), H, I', ?_, h⟩
    rcases lr.val key with ⟨y, v, h1, h2, h3, h4⟩ | ⟨h1, h2, h4⟩
    · rw [h2, h4]; rfl
    · rw [h2, h4]; rfl
  | nest l us nk b e1 e2 e3 n dd kn hd hl mu =>
    subst e3
    cases ry
    refine wpAny_notIn_heap (nroom hu) kn hd dd ⟨.bl (!dHas ks k), H, I.tok _, ?_, h⟩
    rcases n.val e2 with ⟨y, v, b', u', g1, g2, g3, g4, g5⟩ | ⟨h1, g2, g5⟩
    · rw [g2, g5]; rfl
    · rw [g2, g5]; rfl
/-! ### d[k] = v, d.setdefault -/
/-- the dict behind a store -/
def DPt (X : Cx) (ρ : List Addr) (Fr : Addr → Prop) (H : Hp) (a : Addr) (p : List D × List D) (H' : Hp) : Prop := ∃ ho kvs vs, H' = upd H a ho ∧ DicO (wdOf X) a p.1 kvs vs ho ∧ RDs (wdOf X) ρ Fr H p.1 kvs ∧ RDs (wdOf X) ρ Fr H p.2 vs
theorem leaf_pt {l : List (Key × V)} (lr : LeafR (wdOf X) ρ Fr H ks xs l) (key : Key) {z : D} {v : V} (r : RD (wdOf X) ρ Fr H z v) : DPt X ρ Fr H a (dPut ks xs (kD key) z) (upd H a (.dK (putK l key v))) := by
  have p := lr.put key r
  obtain ⟨p1, p2, p3⟩ := p.to
  exact ⟨_, _, _, rfl, .inl ⟨p1, _, rfl, rfl, rfl⟩, p2, p3⟩
theorem dput_set {A : Around} {E : Value → Shared → Prop} {Q : Unit → Shared → Prop} {z : D} {v : V} {u r : Value} (hu : A.units + 10 < cLine) (I : Inv X pins σ H s) (d : DK X ρ Fr H a ks xs k (.ref a) y) (ry : RelV y u) (rv : RelV v r) (rz : RD (wdOf X) ρ Fr H z v) (hl : ks.length < sizeLine)
    (h : ∀ s' H', Inv X pins σ H' s' → DPt X ρ Fr H a (dPut ks xs k z) H' → Q () s') : wpAny (model X.prog X.w) A (setItem (.ref a) u r) Q E s := by
  obtain ⟨ho, kvs, vs, _, e, d, r1, r2, ok, rk⟩ := d.ex
  cases dic_view I e d r1 r2 ok rk with
  | leaf l key e1 lr e2 e3 =>
    subst e1 e2 e3
    exact d_setItem (by omega) I (DPut.k e (by rw [← lr.length.1]; exact hl)) ry rv fun s' I' => h s' _ I' (leaf_pt lr key rz)
  | nest l us nk b e1 e2 e3 n dd kn hd hl2 mu =>
    subst e3
    cases ry
    refine wpAny_setItem_heap (nroom hu) kn dd (fun h' dd' hs => ?_) hl2
    obtain ⟨us', n'⟩ := n.put e1 e2 rk rz rv
    have hz : (storedH l nk b r).length ≤ sizeLine := by
      have e5 := n.length
      unfold storedH
      split
      · rw [List.length_map]; exact hl2
      · rw [List.length_append, List.length_singleton]; omega
    obtain ⟨ho', kvs', o1, o2, o3, o4⟩ := nest_lie n' dd' hd hz
    have he : ∃ q, h'.get? a = some q := let ⟨q, _, _, hq, _⟩ := dd'; ⟨q, hq⟩
    exact h _ _ (d_write I (by rw [e]; exact mu) hs he (o1 _)) ⟨ho', kvs', us', rfl, o2, o3, o4⟩
/-- d.setdefault(k, z): args (y, v) -/
def rDsetd (X : Cx) : V → List V → Hp → VK → Prop := fun x ys H Q => ∃ ρ Fr a ks xs k z y v, ys = [y, v] ∧ DK X ρ Fr H a ks xs k x y ∧ RD (wdOf X) ρ Fr H z v ∧ ks.length < sizeLine ∧
  (∀ t, dGet ks xs k = some t → ∀ w, RD (wdOf X) ρ Fr H t w → Q w H) ∧ (dGet ks xs k = none → ∀ H', DPt X ρ Fr H a (dPut ks xs k z) H' → Q v H')
theorem mt_dsetd (hu : X.A.units + 10 < cLine) : MtR X "dict.setdefault" (rDsetd X) := by
  intro pins s σ H x ys xv us Q I rx rs hr
  obtain ⟨ρ, Fr, a, ks, xs, k, z, y, v, rfl, d, rz, hl, h1, h2⟩ := hr
  obtain ⟨ho, kvs, vs, rfl, e, dd, r1, r2, ok, rk⟩ := id d.ex
  cases rx
  cases rs with
  | @cons _ u _ _ ry rs =>
    cases rs with
    | @cons _ r _ _ rv rs =>
      cases rs
      cases dic_view I e dd r1 r2 ok rk with
      | leaf l key e1 lr e2 e3 =>
        subst e1 e2 e3
        refine d_setd I e ry rv (by rw [← lr.length.1]; exact hl) (fun w hw w' s' I' rw' => ?_) (fun hn w' s' I' rw' => ?_)
        · rcases lr.val key with ⟨t, w2, g1, g2, g3, _⟩ | ⟨_, g2, _⟩
          · rw [hw] at g2
            cases g2
            exact ⟨w, H, I', rw', h1 t g1 w g3⟩
          · rw [hw] at g2; cases g2
        · rcases lr.val key with ⟨t, w2, g1, g2, g3, _⟩ | ⟨g1, g2, _⟩
          · rw [hn] at g2; cases g2
          · exact ⟨v, _, I', rw', h2 g1 _ (leaf_pt lr key rz)⟩
      | nest l us nk b e1 e2 e3 n dd kn hd hl2 mu =>
        subst e3
        cases ry
        refine call_setdefault_heap (nroom hu) kn hd dd (fun p hp => ?_) (fun hn h' dd' hs => ?_) hl2
        · rcases n.val e2 with ⟨t, w, b', u', g1, g2, g3, g4, _⟩ | ⟨_, g2, _⟩
          · rw [hp] at g2
            cases g2
            exact ⟨w, H, I.tok _, g4, h1 t g1 w g3⟩
          · rw [hp] at g2; cases g2
        · rcases n.val e2 with ⟨t, w, b', u', g1, g2, g3, g4, _⟩ | ⟨g1, g2, _⟩
          · rw [hn] at g2; cases g2
          · obtain ⟨us', n'⟩ := n.put e1 e2 rk rz rv
            have hz : (storedH l nk b r).length ≤ sizeLine := by
              have e5 := n.length
              unfold storedH
              split
              · rw [List.length_map]; exact hl2
              · rw [List.length_append, List.length_singleton]; omega
            obtain ⟨ho', kvs', o1, o2, o3, o4⟩ := nest_lie n' dd' hd hz
            have he : ∃ q, h'.get? a = some q := let ⟨q, _, _, hq, _⟩ := dd'; ⟨q, hq⟩
            exact ⟨v, _, d_write I (by rw [e]; exact mu) hs he (o1 _), rv, h2 g1 _ ⟨ho', kvs', us', rfl, o2, o3, o4⟩⟩
end
end Mi

end
section
set_option Elab.async false
set_option linter.all false
set_option maxRecDepth 100000
set_option maxHeartbeats 1000000
/-! Mi12: subscripts, built-in functions. -/
namespace Mi
open PySem PySem.Spec PyProof.Rows L2

def noSlice : Expr → Bool
  | .Slice _ _ _ _ => false
  | _ => true
theorem plainIx_ok {b : Expr} (h : noSlice b = true) : PlainIx b := by
  intro o i
  cases b <;> first | rfl | cases h
section
variable {W : Wd} {T : Tb} {Φ : Fns} {k : Nat} {C : Cf} {X : Cx} {XW : WX} {A : Act}
theorem n_ix (hx : XO W T Φ k C X XW) {a b : Expr} {pos : Pos} {ma mb : Ev D} (hs : noSlice b = true) (ha : PE X a (teD W A XW ma)) (hb : PE X b (teD W A XW mb)) :
    PE X (.Subscript a b pos) (teD W A XW (ma.bind fun x => mb.bind fun y => Ev.look fun σ G => ixOf σ G x y)) := PE.imp (pe_ix (ix_seq.or (ix_dix (by have := hx.units; omega))) ha hb (plainIx_ok hs)) fun σ H Q => by
  obtain rfl : W = wdOf X := hx.wd.symm
  rintro ⟨p, rfl, h⟩
  refine ⟨p, rfl, (wpD.bind h).mono fun x q s mo h v rx => ⟨q, rfl, (wpD.bind h).mono fun y q2 s2 mo2 h u ry => ?_⟩⟩
  obtain ⟨z, e, h⟩ := h.look
  have rx := rx.mono mo2
  cases ec : ct q2.S q2.G x with
  | dic ks xs =>
    refine .inr ?_
    have c := ct_rel s2 rx
    unfold ixOf at e
    rw [ec] at c e
    have e : (if okKey ks y = true then dGet ks xs y else none) = some z := e
    split at e
    · rename_i hk
      cases c with
      | @dic _ _ a ho kvs vs ev h1 h2 h3 h4 =>
        have ns : ∀ i, y ≠ .slot i := fun i z => by
          subst z
          unfold okKey at hk
          simp [D.leaf, D.isTup] at hk
        exact ⟨q2.ρ, q2.Fr, a, ks, xs, y, z, ⟨ho, kvs, vs, ev, h1, h2, h3, h4, hk, ry.rd ns⟩, e, fun w rw' => h q2 rfl rfl s2 Mo.refl w (RO.of rw')⟩
    · cases e
  | _ => exact .inl (ser_ix s2 rx ry (fun ks xs e => by rw [ec] at e; cases e) e fun w rw' => h q2 rfl rfl s2 Mo.refl w rw')
/-- a part of a slice's reading -/
def toD (W : Wd) (A : Act) (XW : WX) (b : Bool) (m : Ev D) : TO := fun σ H Q => ∃ p : Pt, p.H = H ∧ wpD W A XW σ (m.bind (part b)) p fun d q => ∀ o : Option Int, (b = false → o = none) → (b = true → ∀ i, d = .int i → o = some i) → Q o q.H
def PartOk (X : Cx) (W : Wd) (A : Act) (XW : WX) (b : Bool) (o : Option Expr) (m : Ev D) : Prop := (b = false ∧ o = none ∧ m = Ev.pure .non) ∨ (b = true ∧ ∃ e, o = some e ∧ PE X e (teD W A XW m))
theorem po_of {b : Bool} {o : Option Expr} {m : Ev D} (h : PartOk X W A XW b o m) : PO X o (toD W A XW b m) := by
  rcases h with ⟨rfl, rfl, rfl⟩ | ⟨rfl, e, rfl, he⟩
  · refine ⟨fun pins s σ H Q I h => po_none.run pins s σ H Q I ?_⟩
    obtain ⟨p, rfl, h⟩ := h
    exact wpD.pure (a := D.non) h none (fun _ => rfl) (fun e => by cases e)
  · refine ⟨fun pins s σ H Q I h => (po_some he).run pins s σ H Q I ?_⟩
    obtain ⟨p, rfl, h⟩ := h
    refine ⟨p, rfl, (wpD.bind h).mono fun d q s mo h v r => ?_⟩
    cases d with
    | int i => exact ⟨i, r.int, wpD.pure (a := D.int i) h (some i) (fun e => by cases e) (fun _ j ej => by cases ej; rfl)⟩
    | _ => exact h.2.elim
theorem n_sl (hx : XO W T Φ k C X XW) {a : Expr} {lo hi : Option Expr} {p2 pos : Pos} {ma ml mh : Ev D} {hl hh : Bool} (ha : PE X a (teD W A XW ma)) (h1 : PartOk X W A XW hl lo ml) (h2 : PartOk X W A XW hh hi mh) :
    PE X (.Subscript a (.Slice lo hi none p2) pos) (teN W A XW (ma.bind fun x => (ml.bind (part hl)).bind fun l => (mh.bind (part hh)).bind fun h => Ev.look fun σ G => slOf σ G x hl l hh h)) := by
  obtain rfl : W = wdOf X := hx.wd.symm
  refine PE.imp (pe_slice sl_M ha (po_of h1) (po_of h2)) fun σ H Q => ?_
  rintro ⟨p, rfl, h⟩
  refine ⟨p, rfl, (wpD.bind h).mono fun x q s mo h v rx => ⟨q, rfl, (wpD.bind h).mono fun l q2 s2 mo2 h o1 e1 e2 => ⟨q2, rfl, (wpD.bind h).mono fun u q3 s3 mo3 h o2 e3 e4 => ?_⟩⟩⟩
  obtain ⟨z, e, h⟩ := h.look
  exact ser_sl s3 (rx.mono (mo2.trans mo3)) e ⟨e1, e2⟩ ⟨e3, e4⟩ fun w H' r => h q3 rfl rfl s3 Mo.refl w H' r
/-- a[::-1] -/
theorem n_rev (hx : XO W T Φ k C X XW) {a : Expr} {k1 : Nat} {p1 p2 p3 pos : Pos} {ma : Ev D} (ha : PE X a (teD W A XW ma)) :
    PE X (.Subscript a (.Slice none none (some (.UnaryOp .USub (.Constant (.int 1) k1 p1) p2)) p3) pos) (teN W A XW (ma.bind fun x => Ev.look fun σ G => revOf σ G x)) := PE.imp (pe_revL ha) fun σ H Q => by
  obtain rfl : W = wdOf X := hx.wd.symm
  rintro ⟨p, rfl, h⟩
  refine ⟨p, rfl, (wpD.bind h).mono fun x q s mo h v rx => ?_⟩
  obtain ⟨z, e, h⟩ := h.look
  have c := ct_rel s rx
  unfold revOf at e
  cases ec : ct q.S q.G x with
  | lst l =>
    rw [ec] at c e
    cases e
    cases c with
    | @lst _ a vs ev hl r =>
      exact ⟨a, vs, ev, SqL.of hl, fun p hp => h q rfl rfl s Mo.refl _ _ (.new hp ⟨_, rfl, r.reverse⟩)⟩
  | _ => rw [ec] at e; cases e
/-! ### built-in functions of one argument -/
def SerB (W : Wd) (b : Bi) (r : List V → Hp → VK → Prop) : Prop := ∀ (A : Act) (σ : Sv) (q : Pt) (x z : D) (v : V) (Q : VK), SR W A σ q → RO W q.ρ q.Fr q.H σ x v → bi1 b q.S q.G x = some z → (∀ w H', Res W σ q z w H' → Q w H') → r [v] q.H Q
theorem te_bi {b : Bi} {r : List V → Hp → VK → Prop} {m : Ev D} (hs : SerB W b r) {σ : Sv} {H : Hp} {Q : VK} (h : teN W A XW (m.bind fun x => Ev.look fun σ G => bi1 b σ G x) σ H Q) : tCB r (tCons (teD W A XW m) tNil) σ H Q := by
  obtain ⟨p, rfl, h⟩ := h
  refine ⟨p, rfl, (wpD.bind h).mono fun x q s mo h v rx => ?_⟩
  obtain ⟨z, e, h⟩ := h.look
  exact hs A σ q x z v Q s rx e fun w H' res => h q rfl rfl s Mo.refl w H' res
theorem n_biB {b : Bi} {id : String} {r : List V → Hp → VK → Prop} {x : Str} {e : Expr} {p pos : Pos} {m : Ev D} (hc : CallR X (.builtin id) r) (hs : SerB W b r) (hg : Gl X x) (hm : X.mg x = none) (hv : bootBuiltins x = some (.builtin id)) (hst : noStar e = true) (he : PE X e (teD W A XW m))
    (hn : x ≠ "__name__") (hdb : (x == ("__debug__" : Str)) = false) : PE X (.Call (.Name x p) [e] [] pos) (teN W A XW (m.bind fun x => Ev.look fun σ G => bi1 b σ G x)) :=
  PE.imp (pe_callB hc hg hm hv (pa_cons he pa_nil (star_one hst)) hn hdb (star_one hst) rfl) fun _ _ _ h => te_bi hs h
theorem n_biT {b : Bi} {t : String} {r : List V → Hp → VK → Prop} {x : Str} {e : Expr} {p pos : Pos} {m : Ev D} (hc : CallR X (.type t) r) (hs : SerB W b r) (hg : Gl X x) (hm : X.mg x = none) (hv : bootBuiltins x = some (.type t)) (hst : noStar e = true) (he : PE X e (teD W A XW m))
    (hn : x ≠ "__name__") (hdb : (x == ("__debug__" : Str)) = false) : PE X (.Call (.Name x p) [e] [] pos) (teN W A XW (m.bind fun x => Ev.look fun σ G => bi1 b σ G x)) :=
  PE.imp (pe_callTy hc hg hm hv (pa_cons he pa_nil (star_one hst)) hn hdb (star_one hst) rfl) fun _ _ _ h => te_bi hs h
end

mutual
theorem py_nodict : ∀ (d : D) (p : PyData), d.py = some p → p.hasDict = false
  | .non, _, e => by simp only [D.py] at e; cases e; simp only [PyData.hasDict]
  | .bl _, _, e => by simp only [D.py] at e; cases e; simp only [PyData.hasDict]
  | .int _, _, e => by simp only [D.py] at e; cases e; simp only [PyData.hasDict]
  | .str _, _, e => by simp only [D.py] at e; cases e; simp only [PyData.hasDict]
  | .tup l, _, e => by
    simp only [D.py, Option.map_eq_some_iff] at e
    obtain ⟨ps, e, rfl⟩ := e
    simp only [PyData.hasDict]
    exact pys_nodict l ps e
  | .lst l, _, e => by
    simp only [D.py, Option.map_eq_some_iff] at e
    obtain ⟨ps, e, rfl⟩ := e
    simp only [PyData.hasDict]
    exact pys_nodict l ps e
  | .scr _, _, e => by simp only [D.py] at e; cases e
  | .dic _ _, _, e => by simp only [D.py] at e; cases e
  | .ref _, _, e => by simp only [D.py] at e; cases e
  | .slot _, _, e => by simp only [D.py] at e; cases e
  | .fn _, _, e => by simp only [D.py] at e; cases e
theorem pys_nodict : ∀ (ds : List D) (ps : List PyData), D.pys ds = some ps → PyData.hasDictAll ps = false
  | [], _, e => by simp only [D.pys] at e; cases e; simp only [PyData.hasDictAll]
  | d :: ds, ps, e => by
    simp only [D.pys] at e
    cases e1 : d.py with
    | none => rw [e1] at e; cases e
    | some p =>
      cases e2 : D.pys ds with
      | none => rw [e1, e2] at e; cases e
      | some qs =>
        rw [e1, e2] at e
        cases e
        simp only [PyData.hasDictAll, py_nodict d p e1, pys_nodict ds qs e2, Bool.or_false]
end
theorem opy_nodict {σ : List Slot} {G : List MO} {x : D} {p : PyData} (e : opy σ G x = some p) : p.hasDict = false := by
  have key : ∀ {c : Ct}, (match c with
      | .lst l => (D.pys l).map PyData.list
      | _ => none) = some p → p.hasDict = false := by
    intro c e
    cases c with
    | lst l =>
      simp only [Option.map_eq_some_iff] at e
      obtain ⟨ps, e2, rfl⟩ := e
      simp only [PyData.hasDict]
      exact pys_nodict l ps e2
    | _ => cases e
  cases x with
  | slot i => exact key e
  | ref n => exact key e
  | _ => exact py_nodict _ _ e
section
variable {W : Wd} {X : Cx}
theorem op_rbase {A : Act} {σ : Sv} {q : Pt} {d : D} {v : V} (r : RO W q.ρ q.Fr q.H σ d v) (hc : d.cont = false) : Res W σ q d v q.H := .old hc r
/-- a dict of data, as an argument -/
structure DA (X : Cx) (ρ : List Addr) (Fr : Addr → Prop) (H : Hp) (a : Addr) (ks xs : List D) (kvs : List V) : Prop where
  ex : ∃ ho vs, H a = some ho ∧ DicO (wdOf X) a ks kvs vs ho ∧ RDs (wdOf X) ρ Fr H ks kvs ∧ RDs (wdOf X) ρ Fr H xs vs
/-- .. as the library has it -/
theorem da_view {pins : List (Addr × Obj)} {σ : Sv} {H : Hp} {s : Shared} {ρ : List Addr} {Fr : Addr → Prop} {a : Addr} {ks xs : List D} {kvs : List V} (I : Inv X pins σ H s) (d : DA X ρ Fr H a ks xs kvs) :
    (∃ l, H a = some (.dK l) ∧ LeafR (wdOf X) ρ Fr H ks xs l ∧ kvs = l.map fun p => kV p.1) ∨
    (∃ (l : List (NestedKey × Addr × Value)) (us : List V), NestR (wdOf X) ρ Fr H ks xs l us ∧ s.heap.DictOfH (nestedKind X.prog X.w) a l ∧ (a == sysModules) = false ∧ l.length ≤ sizeLine ∧ kvs = l.map fun x => V.ref x.2.1) := by
  obtain ⟨ho, vs, e, d, r1, r2⟩ := d.ex
  rcases d with ⟨hl, l, rfl, rfl, rfl⟩ | ⟨ht, hne, l, o, es, ep, rfl, ho1, ho2, ho3, ho4, rfl, ho5, ho6, ho7, ho8⟩
  · exact .inl ⟨l, e, LeafR.of hl r1 r2, rfl⟩
  · have n := NestR.of ht r1 r2 ho5 ho6
    obtain ⟨h1, _⟩ := (show ObjOk X.prog X.w H s.heap a (.ext fun h => h.get? a = some o) from I.hok a _ e)
    exact .inr ⟨l, _, n, ⟨o, es, ep, h1, ho1, ho2, ho3, nest_at I n, ho4⟩, ho7, ho8, rfl⟩
def rLenDA (X : Cx) : List V → Hp → VK → Prop := fun ys H Q => ∃ ρ Fr a ks xs kvs, ys = [.ref a] ∧ DA X ρ Fr H a ks xs kvs ∧ Q (.int ks.length) H
theorem call_lenDA : CallR X (.builtin "len") (rLenDA X) := by
  intro pins s σ H ys us Q I r h
  obtain ⟨ρ, Fr, a, ks, xs, kvs, rfl, d, q⟩ := h
  obtain ⟨u, rfl, rx⟩ := vals1 r
  cases rx
  rcases da_view I d with ⟨l, e, lr, _⟩ | ⟨l, us, n, dd, hd, hl, _⟩
  · exact d_len I (.of e) fun t s' I' => ⟨.int ks.length, H, I', ⟨t, by rw [lr.length.1]⟩, q⟩
  · have hz : (l.length : Int) < 2 ^ 63 := by have := line63; omega
    exact call_len_dictH hd dd hz ⟨.int ks.length, H, I.tok _, ⟨_, by rw [n.length]⟩, q⟩
/-- list(d) -/
def rListDA (X : Cx) : List V → Hp → VK → Prop := fun ys H Q => ∃ ρ Fr a ks xs kvs, ys = [.ref a] ∧ DA X ρ Fr H a ks xs kvs ∧ ∀ p, H p = none → Q (.ref p) (upd H p (.lst kvs))
theorem call_listDA (hc : X.calm = true) : CallR X (.type "list") (rListDA X) := by
  intro pins s σ H ys us Q I r h
  obtain ⟨ρ, Fr, a, ks, xs, kvs, rfl, d, q⟩ := h
  rcases da_view I d with ⟨l, e, lr, rfl⟩ | ⟨l, vs, n, dd, hd, hl, rfl⟩
  · exact call_list_dK hc pins s σ H [.ref a] us Q I r ⟨a, l, rfl, e, q⟩
  · obtain ⟨u, rfl, rx⟩ := vals1 r
    cases rx
    obtain ⟨o, es, ep, ho, hx, hdt, he, _, hn⟩ := dd
    have l1 : es.size = l.length := size_of_entries he
    refine PySem.W.kdl_call (kdl_raw hd hx hdt) (I.ok.hd hc) ho (by omega) fun h' tk acc' c' kp e it => ?_
    have ea : acc'.toList = (l.map fun x => x.2.1).map Value.ref := by
      have hl : acc'.toList.length = l.length := by rw [Array.length_toList, it.1]; exact l1
      apply List.ext_getElem?
      intro j
      rw [List.getElem?_map, List.getElem?_map]
      cases hj : acc'.toList[j]? with
      | none =>
        have h1 := List.getElem?_eq_none_iff.mp hj
        rw [List.getElem?_eq_none (by omega)]
        rfl
      | some v =>
        obtain ⟨en, hen, hv⟩ := it.2 j v (by rw [← Array.getElem?_toList]; exact hj)
        have qe := entry_at he j
        rw [hen] at qe
        cases hb : l[j]? with
        | none => rw [hb] at qe; cases qe
        | some b =>
          rw [hb] at qe
          cases qe
          rw [hv]
          rfl
    refine ⟨.ref s.heap.objs.size, _, I.laid (t' := tk) (o := .lst (l.map fun x => V.ref x.2.1)) kp (Nat.le_refl _) ⟨by rw [List.length_map]; exact hl, acc'.toList, c', ?_, by rw [Array.toArray_toList]; exact e⟩, rfl, q _ (I.hok.fresh (Nat.le_refl _))⟩
    rw [ea]
    have := vals_refs (l.map fun x => x.2.1)
    rw [List.map_map] at this
    exact this
theorem serb_len : SerB (wdOf X) .len (fun xs H Q => (∃ x n, xs = [x] ∧ LenV X.K x H n ∧ Q (.int n) H) ∨ rLenDA X xs H Q) := by
  intro A σ q x z v Q s rx e h
  have c := ct_rel s rx
  simp only [bi1] at e
  cases ec : ct q.S q.G x with
  | lst l =>
    rw [ec] at c e
    cases e
    cases c with
    | lst ev hl r =>
      subst ev
      exact .inl ⟨_, _, rfl, .inl ⟨_, SqL.of hl, rfl⟩, h _ _ (.old rfl (RO.of (by simp only [RD]; rw [r.length])))⟩
  | tup l =>
    rw [ec] at c e
    cases e
    cases c with
    | tup ev hl r =>
      subst ev
      exact .inl ⟨_, _, rfl, .inr ⟨_, hl, rfl⟩, h _ _ (.old rfl (RO.of (by simp only [RD]; rw [r.length])))⟩
  | str y =>
    rw [ec] at c e
    simp only at e
    split at e
    · rename_i hz
      cases e
      cases c with
      | str ev =>
        subst ev
        exact .inl ⟨_, _, rfl, ⟨hz, rfl⟩, h _ _ (.old rfl (RO.of (by simp only [RD])))⟩
    · cases e
  | dic ks xs =>
    rw [ec] at c e
    cases e
    cases c with
    | @dic _ _ a ho kvs vs ev h1 h2 h3 h4 => exact .inr ⟨q.ρ, q.Fr, a, ks, xs, kvs, by rw [ev], ⟨ho, vs, h1, h2, h3, h4⟩, h _ _ (.old rfl (RO.of (by simp only [RD])))⟩
  | _ => rw [ec] at e; cases e
theorem serb_tuple : SerB W .tuple (fun xs H Q => ∃ p ys, xs = [.ref p] ∧ ((SqL W.K H p ys ∧ ∀ l, H l = none → Q (.ref l) (upd H l (.tup ys))) ∨ (SqT W.K H p ys ∧ Q (.ref p) H))) := by
  intro A σ q x z v Q s rx e h
  have c := ct_rel s rx
  simp only [bi1] at e
  cases ec : ct q.S q.G x with
  | lst l =>
    rw [ec] at c e
    cases e
    cases c with
    | lst ev hl r =>
      subst ev
      exact ⟨_, _, rfl, .inl ⟨SqL.of hl, fun p hp => h _ _ (.new hp ⟨_, rfl, r⟩)⟩⟩
  | tup l =>
    have ro := RO.tup_of rx ec
    rw [ec] at c e
    cases e
    cases c with
    | tup ev hl r =>
      subst ev
      exact ⟨_, _, rfl, .inr ⟨hl, h _ _ (.old rfl ro)⟩⟩
  | _ => rw [ec] at e; cases e
theorem serb_all : SerB W .all (rAll W.K) := by
  intro A σ q x z v Q s rx e h
  have c := ct_rel s rx
  simp only [bi1] at e
  have key : ∀ {l : List D} {bs : List Bool} {vs : List V}, boolsOf l = some bs → RDs W q.ρ q.Fr q.H l vs → vs = bs.map V.bl := by
    intro l
    induction l with
    | nil => intro bs vs e r; cases e; exact r.inv0
    | cons d l ih =>
      intro bs vs e r
      cases d with
      | bl b =>
        simp only [boolsOf, Option.map_eq_some_iff] at e
        obtain ⟨bs', e, rfl⟩ := e
        obtain ⟨v, r', rfl, r1, r2⟩ := r.inv
        simp only [RD] at r1
        subst r1
        rw [ih e r2]
        rfl
      | _ => cases e
  cases ec : ct q.S q.G x with
  | lst l =>
    rw [ec] at c e
    simp only [Option.map_eq_some_iff] at e
    obtain ⟨bs, e, rfl⟩ := e
    cases c with
    | lst ev hl r =>
      subst ev
      rw [key e r] at hl
      exact ⟨_, bs, rfl, SqL.of hl, h _ _ (.old rfl (RO.of (by simp only [RD])))⟩
  | _ => rw [ec] at e; cases e
def rInt1 : List V → Hp → VK → Prop := fun xs H Q => ((∃ i, xs = [.int i] ∧ Q (.int i) H) ∨ ∃ k, xs = [.bl k] ∧ Q (.int (if k then 1 else 0)) H) ∨ (∃ a n, xs = [.str a] ∧ PySem.intText? a = some n ∧ a.length ≤ 640 ∧ Q (.int n) H)
theorem call_intA : CallR X (.type "int") rInt1 := call_int1.or call_int_str
theorem serb_int : SerB W .int rInt1 := by
  intro A σ q x z v Q s rx e h
  cases x with
  | int i =>
    cases e
    exact .inl (.inl ⟨i, by rw [rx.int], h _ _ (.old rfl (RO.of (by simp only [RD])))⟩)
  | bl b =>
    cases e
    exact .inl (.inr ⟨b, by rw [rx.bl], h _ _ (.old rfl (RO.of (by simp only [RD])))⟩)
  | str y =>
    have e : (if y.length ≤ 640 then (intText? y).map D.int else none) = some z := e
    split at e
    · rename_i hz
      rw [Option.map_eq_some_iff] at e
      obtain ⟨n, e2, rfl⟩ := e
      exact .inr ⟨y, n, by rw [rx.str], e2, hz, h _ _ (.old rfl (RO.of (by simp only [RD])))⟩
    · cases e
  | _ => cases e
def rStr1 : List V → Hp → VK → Prop := fun xs H Q => (∃ i, xs = [.int i] ∧ i.natAbs.log2 < 1920 ∧ Q (.str (toString i)) H) ∨ ∃ y, xs = [.str y] ∧ Q (.str y) H
theorem call_strA : CallR X (.type "str") rStr1 := by
  refine call_str_int.or ?_
  intro pins s σ H xs us Q I r h
  obtain ⟨y, rfl, q⟩ := h
  obtain ⟨u, rfl, t, rfl⟩ := vals1 r
  exact P.str_of_str ⟨.str y, H, I, ⟨t, rfl⟩, q⟩
theorem serb_str : SerB W .str rStr1 := by
  intro A σ q x z v Q s rx e h
  cases x with
  | int i =>
    have e : (if i.natAbs.log2 < 1920 then some (D.str (toString i)) else none) = some z := e
    split at e
    · rename_i hz
      cases e
      exact .inl ⟨i, by rw [rx.int], hz, h _ _ (.old rfl (RO.of (by simp only [RD])))⟩
    · cases e
  | str y =>
    cases e
    exact .inr ⟨y, by rw [rx.str], h _ _ (.old rfl (RO.of (by simp only [RD])))⟩
  | _ => cases e
/-- repr of data -/
def rRepr (K : PySem.W.Frag) : List V → Hp → VK → Prop := fun xs H Q => ∃ x d, xs = [x] ∧ Dp K H x d ∧ d.showable = true ∧ d.hasDict = false ∧ d.depth ≤ 64 ∧ d.shown.length + 64 ≤ sizeLine ∧ Q (.str d.shown) H
theorem call_reprA (hg : X.A.guards = some []) (hu : X.A.units + 100 < cLine) : CallR X (.builtin "repr") (rRepr X.K) := by
  intro pins s σ H xs us Q I r h
  obtain ⟨x, d, rfl, hd, h1, h2, h3, h4, q⟩ := h
  obtain ⟨u, rfl, rx⟩ := vals1 r
  obtain ⟨as, rd⟩ := Dp.reads I d x u hd rx
  cases hd with
  | non =>
    cases rx
    exact P.repr_of_none ⟨.str (PyData.shown .none), H, I.tok _, ⟨_, by simp only [PyData.shown]; rfl⟩, q⟩
  | bl b =>
    cases rx
    exact P.repr_of_bool ⟨.str (PyData.shown (.bool b)), H, I.tok _, ⟨_, by simp only [PyData.shown]; cases b <;> rfl⟩, q⟩
  | int i =>
    obtain ⟨t, rfl⟩ := rx
    exact P.repr_of_int (of_decide_eq_true (by simpa only [PyData.showable] using h1)) ⟨.str (PyData.shown (.int i)), H, I.tok _, ⟨_, by simp only [PyData.shown]; rfl⟩, q⟩
  | str y =>
    obtain ⟨t, rfl⟩ := rx
    simp only [PyData.shown] at h4
    exact P.repr_of_str ⟨.str (PyData.shown (.str y)), H, I.tok _, ⟨_, by simp only [PyData.shown]; rfl⟩, q⟩ (by omega)
  | lst =>
    cases rx
    exact repr_of_reads' rd h1 (fun e => by rw [h2] at e; cases e) hg (by omega) (fun _ _ e => e) (fun h' u tk hk => ⟨.str _, H, I.kept hk, ⟨u, rfl⟩, q⟩) (by omega)
  | tup =>
    cases rx
    exact repr_of_reads' rd h1 (fun e => by rw [h2] at e; cases e) hg (by omega) (fun _ _ e => e) (fun h' u tk hk => ⟨.str _, H, I.kept hk, ⟨u, rfl⟩, q⟩) (by omega)
theorem serb_repr : SerB W .repr (rRepr W.K) := by
  intro A σ q x z v Q s rx e h
  simp only [bi1] at e
  cases eo : opy q.S q.G x with
  | none => rw [eo] at e; cases e
  | some p =>
    rw [eo] at e
    simp only at e
    split at e
    · rename_i hz
      cases e
      exact ⟨v, p, rfl, opy_dp s rx eo, hz.1, opy_nodict eo, hz.2.1, hz.2.2, h _ _ (.old rfl (RO.of (by simp only [RD])))⟩
    · cases e
/-! ### list(..) of lists and tuples; isinstance -/
theorem serb_list : SerB (wdOf X) .list (fun xs H Q => (∃ p ys, xs = [.ref p] ∧ (SqL X.K H p ys ∨ SqT X.K H p ys) ∧ ∀ l, H l = none → Q (.ref l) (upd H l (.lst ys))) ∨ rListDA X xs H Q) := by
  intro A σ q x z v Q s rx e h
  have c := ct_rel s rx
  simp only [bi1] at e
  cases ec : ct q.S q.G x with
  | lst l =>
    rw [ec] at c e
    cases e
    cases c with
    | lst ev hl r =>
      subst ev
      exact .inl ⟨_, _, rfl, .inl (SqL.of hl), fun p hp => h _ _ (.new hp ⟨_, rfl, r⟩)⟩
  | tup l =>
    rw [ec] at c e
    cases e
    cases c with
    | tup ev hl r =>
      subst ev
      exact .inl ⟨_, _, rfl, .inr hl, fun p hp => h _ _ (.new hp ⟨_, rfl, r⟩)⟩
  | dic ks xs =>
    rw [ec] at c e
    cases e
    cases c with
    | @dic _ _ a ho kvs vs ev h1 h2 h3 h4 => exact .inr ⟨q.ρ, q.Fr, a, ks, xs, kvs, by rw [ev], ⟨ho, vs, h1, h2, h3, h4⟩, fun p hp => h _ _ (.new hp ⟨_, rfl, h3⟩)⟩
  | _ => rw [ec] at e; cases e
end
end Mi

end
section
set_option Elab.async false
set_option linter.all false
set_option maxRecDepth 100000
set_option maxHeartbeats 1000000
/-! Mi13: isinstance, methods of built-in types. -/
namespace Mi
open PySem PySem.Spec PyProof.Rows L2

def isiTypes : List String := ["str", "int", "bool", "tuple", "list", "dict"]
def tyN (t : String) : String → Option Bool := fun d => match d with
  | "NoneType" => some false
  | "bool" => some (t == "bool" || t == "int")
  | "int" => some (t == "int")
  | "str" => some (t == "str")
  | "list" => some (t == "list")
  | "tuple" => some (t == "tuple")
  | "dict" => some (t == "dict")
  | _ => none
theorem kit_ty (K : PySem.W.Frag) {t : String} (h : t ∈ isiTypes) {d : String} (hd : d ∈ ["NoneType", "bool", "int", "str", "list", "tuple", "dict"]) : PySem.W.kitOne K (.type d) (.type t) = tyN t d := by
  simp only [isiTypes, List.mem_cons, List.not_mem_nil, or_false] at h hd
  rcases h with rfl | rfl | rfl | rfl | rfl | rfl <;> rcases hd with rfl | rfl | rfl | rfl | rfl | rfl | rfl <;> rfl
section
variable {W : Wd} {T : Tb} {Φ : Fns} {k : Nat} {C : Cf} {X : Cx} {XW : WX} {A : Act}
/-- the type of data -/
def rIsiA (X : Cx) (t : String) : List V → Hp → VK → Prop := fun xs H Q => (∃ (x : V) (d : String) (b : Bool), xs = [x, .ty t] ∧ TyX X.K H x (.type d) ∧ d ∈ ["NoneType", "bool", "int", "str", "list", "tuple", "dict"] ∧ tyN t d = some b ∧ Q (.bl b) H) ∨
  (∃ ρ Fr a ks ys kvs, xs = [.ref a, .ty t] ∧ DA X ρ Fr H a ks ys kvs ∧ Q (.bl (t == "dict")) H)
theorem call_isiA {t : String} (ht : t ∈ isiTypes) : CallR X (.builtin "isinstance") (rIsiA X t) := by
  intro pins s σ H xs us Q I r h
  rcases h with ⟨x, d, b, rfl, ty, hd, hb, q⟩ | ⟨ρ, Fr, a, ks, ys, kvs, rfl, d, q⟩
  · exact call_isi pins s σ H _ us Q I r ⟨x, .ty t, .type d, .type t, b, rfl, .ty t, ty, by rw [kit_ty X.K ht hd]; exact hb, q⟩
  · obtain ⟨u1, u2, rfl, r1, r2⟩ := vals2 r
    cases r1
    cases r2
    obtain ⟨ho, vs, e, d, _⟩ := d.ex
    obtain ⟨_, o, h1, h2⟩ := dict_is I e d
    exact PySem.W.kia_one PySem.W.kitx_dict I.kIn ⟨o, h1, h2.1⟩ (by rw [kit_ty X.K ht (by simp)]; rfl) (fun z => nomatch z) fun tk => ⟨.bl _, H, I.tok tk, rfl, q⟩
theorem n_isi (hx : XO W T Φ k C X XW) {t : String} {x y : Str} {e : Expr} {p p2 pos : Pos} {m : Ev D} (ht : t ∈ isiTypes) (hg : Gl X x) (hm : X.mg x = none) (hv : bootBuiltins x = some (.builtin "isinstance")) (hst : noStar e = true) (he : PE X e (teD W A XW m))
    (hn : x ≠ "__name__") (hdb : (x == ("__debug__" : Str)) = false) (hg2 : Gl X y) (hm2 : X.mg y = none) (hv2 : bootBuiltins y = some (.type t)) (hn2 : y ≠ "__name__") (hdb2 : (y == ("__debug__" : Str)) = false) :
    PE X (.Call (.Name x p) [e, .Name y p2] [] pos) (teD W A XW (m.bind fun x => Ev.look fun σ G => bi1 (.isi t) σ G x)) := by
  obtain rfl : W = wdOf X := hx.wd.symm
  refine PE.imp (pe_callB (call_isiA ht) hg hm hv (pa_cons he (pa_cons (pe_bltn (v := .ty t) hg2 hm2 hv2 rfl hn2 hdb2) pa_nil rfl) (star_one hst)) hn hdb (star_one hst) rfl) fun σ H Q => ?_
  rintro ⟨pt, rfl, h⟩
  refine ⟨pt, rfl, (wpD.bind h).mono fun d q s mo h v rx => ?_⟩
  obtain ⟨z, e, h⟩ := h.look
  have h := fun b (ez : z = .bl b) => h q rfl rfl s Mo.refl (.bl b) (by subst ez; exact RO.of (by simp only [RD]))
  show rIsiA X t [v, .ty t] q.H Q
  have e : (isI t q.S q.G d).map D.bl = some z := e
  rw [Option.map_eq_some_iff] at e
  obtain ⟨b, e9, rfl⟩ := e
  have h := h b rfl
  have seq : ∀ {d : D}, RO (wdOf X) q.ρ q.Fr q.H σ d v → (match ct q.S q.G d with
      | .lst _ => some (t == "list")
      | .tup _ => some (t == "tuple")
      | .dic _ _ => some (t == "dict")
      | _ => none) = some b → rIsiA X t [v, .ty t] q.H Q := by
    intro d rx e
    have c := ct_rel s rx
    cases ec : ct q.S q.G d with
    | lst l =>
      rw [ec] at c e
      cases e
      cases c with
      | lst ev hl r => exact .inl ⟨v, "list", _, rfl, by rw [ev]; exact .base (.lst hl), by simp, rfl, h⟩
    | tup l =>
      rw [ec] at c e
      cases e
      cases c with
      | tup ev hl r =>
        refine .inl ⟨v, "tuple", _, rfl, ?_, by simp, rfl, h⟩
        rw [ev]
        rcases hl with (hl | ⟨o, hl⟩) | ⟨o, its, n, h1, h2, _⟩
        · exact .base (.tup hl)
        · exact .fTuple hl
        · exact .kTuple h1 h2
    | dic ks xs =>
      rw [ec] at c e
      cases e
      cases c with
      | @dic _ _ a ho kvs vs ev h1 h2 h3 h4 => exact .inr ⟨q.ρ, q.Fr, a, ks, xs, kvs, by rw [ev], ⟨ho, vs, h1, h2, h3, h4⟩, h⟩
    | _ => rw [ec] at e; cases e
  cases d with
  | non => cases e9; exact .inl ⟨v, "NoneType", _, rfl, by rw [rx.non]; exact .base .non, by simp, rfl, h⟩
  | bl y => cases e9; exact .inl ⟨v, "bool", _, rfl, by rw [rx.bl]; exact .base (.bl y), by simp, rfl, h⟩
  | int y => cases e9; exact .inl ⟨v, "int", _, rfl, by rw [rx.int]; exact .base (.int y), by simp, rfl, h⟩
  | str y => cases e9; exact .inl ⟨v, "str", _, rfl, by rw [rx.str]; exact .base (.str y), by simp, rfl, h⟩
  | _ => exact seq rx e9

/-! ### methods of built-in types -/
/-- what the type of an operand is at run time -/
theorem ct_type {pins : List (Addr × Obj)} {σ : Sv} {s : Shared} {q : Pt} {x : D} {v : V} {u : Value} (I : Inv X pins σ q.H s) (c : CtR (wdOf X) σ q v (ct q.S q.G x)) (r : RelV v u) {t : String} (ht : (ct q.S q.G x).ty = t) (hne : t ≠ "") (hnt : t ≠ "tuple") :
    s.TypeIs u t ∧ ∀ a, u = .ref a → ∃ ob, s.heap.get? a = some ob ∧ ob.dict = none := by
  cases ec : ct q.S q.G x with
  | lst l =>
    rw [ec] at c ht
    cases c with
    | @lst _ a vs ev hl rs =>
      subst ev ht
      exact tyV_is I r (show tyV X.K "list" (.ref a) q.H from .inl ⟨rfl, vs, SqL.of hl⟩)
  | dic ks xs =>
    rw [ec] at c ht
    cases c with
    | @dic _ _ a ho kvs vs ev h1 h2 h3 h4 =>
      subst ev ht
      cases r
      obtain ⟨t1, o, e1, e2⟩ := dict_is I h1 h2
      exact ⟨t1, fun b e => by cases e; exact ⟨o, e1, e2.2.1⟩⟩
  | str y =>
    rw [ec] at c ht
    cases c with
    | str ev =>
      subst ev ht
      exact tyV_is I r (show tyV X.K "str" (.str y) q.H from rfl)
  | tup l => rw [ec] at ht; exact absurd ht.symm hnt
  | _ => rw [ec] at ht; exact absurd ht.symm hne
/-- the method m of the interpreter, id of the library -/
def MtF (X : Cx) (F : Sv → Pt → D → V → Hp → Prop) (m : Bm) (id : String) : Prop := ∀ (A : Act) (XW : WX) (pins : List (Addr × Obj)) (s : Shared) (σ : Sv) (q : Pt) (d : D) (l : List D) (v : V) (vs : List V) (u : Value) (us : List Value) (R : D → Pt → Prop) (Q : VK), Inv X pins σ q.H s → RO (wdOf X) q.ρ q.Fr q.H σ d v → RDs (wdOf X) q.ρ q.Fr q.H l vs → RelV v u → Vals vs us →
  wpD (wdOf X) A XW σ (evBm m d l) q R → (∀ z q', SR (wdOf X) A σ q' → Mp q q' → R z q' → ∀ w H', F σ q' z w H' → Q w H') → wpAny (model X.prog X.w) X.A (call (.builtin id) (u :: us)) (EP X pins σ Q) X.xe s
/-- a reading with the ends F -/
def teF (W : Wd) (A : Act) (XW : WX) (F : Sv → Pt → D → V → Hp → Prop) (m : Ev D) : TE := fun σ H Q => ∃ p : Pt, p.H = H ∧ wpD W A XW σ m p fun d q => ∀ v H', F σ q d v H' → Q v H'
/-- any value -/
def FO1 (W : Wd) : Sv → Pt → D → V → Hp → Prop := fun σ q d v H' => RO W q.ρ q.Fr q.H σ d v ∧ H' = q.H
theorem PE.of1 {e : Expr} {m : Ev D} (h : PE X e (teF W A XW (FO1 W) m)) : PE X e (teD W A XW m) := PE.imp h fun σ H Q => by
  rintro ⟨p, rfl, h⟩
  refine ⟨p, rfl, h.mono fun d q s mo h v H' r => ?_⟩
  obtain ⟨r, rfl⟩ := r
  exact h v r
theorem n_bmF {F : Sv → Pt → D → V → Hp → Prop} (hx : XO W T Φ k C X XW) {m : Bm} {id : String} {name : Str} {o : Expr} {es : List Expr} {apos cpos : Pos} {mo : Ev D} {ms : Ev (List D)} (pa : PlainAttrs m.ty) (slot : PySem.Slot m.ty name id) (hty : typeOf (.builtin id) = pure (.type "method_descriptor")) (hm : MtF X F m id)
    (ho : PE X o (teD W A XW mo)) (ha : PA X es (taD W A XW ms)) (hn : es = [] → ms = Ev.pure []) (hb : plainRecv o = true) (h1 : noStars es = true) (hl : es.length < 29) (hline : (apos.endLine == cpos.line) = true) (hne : m.ty ≠ "") (hnt : m.ty ≠ "tuple") :
    PE X (.Call (.Attribute o name apos) es [] cpos) (teF W A XW F (mo.bind fun d => (Ev.look fun σ G => tyOk m σ G d).bind fun _ => ms.bind fun l => evBm m d l)) := by
  obtain rfl : W = wdOf X := hx.wd.symm
  refine ⟨fun pins s σ H Q I h => ?_⟩
  obtain ⟨p, rfl, h⟩ := h
  have few := form_ok (n := es.length) (es := es) (kws := []) (pos := cpos) (env := X.env) h1 rfl rfl (by simpa using hl)
  refine wpAny_Call_method_late (base_plain hb) ?_ hline rfl (thn (ho.run pins s σ p.H (fun v H1 => ∃ (d : D) (q : Pt), q.H = H1 ∧ SR (wdOf X) A σ q ∧ RO (wdOf X) q.ρ q.Fr q.H σ d v ∧ tyOk m q.S q.G d = some () ∧ wpD (wdOf X) A XW σ (ms.bind fun l => evBm m d l) q fun d q => ∀ v H', F σ q d v H' → Q v H') I
    ⟨p, rfl, (wpD.bind h).mono fun d q s mo h v r => ?_⟩) fun u s1 hu => ?_)
  · exact few
  · have h3 := wpD.bind h
    obtain ⟨w, e, h4⟩ := h3.look
    exact ⟨d, q, rfl, s, r, e, h4 q rfl rfl s Mo.refl⟩
  · obtain ⟨v, H1, I1, rv, d, q, rfl, sq, r, e, h⟩ := hu
    have hct : (ct q.S q.G d).ty = m.ty := by
      unfold tyOk at e
      split at e
      · assumption
      · cases e
    obtain ⟨t1, t2⟩ := ct_type (q := q) I1 (ct_rel sq r) rv hct hne hnt
    refine ⟨m.ty, id, pa, slot, hty, t1, t2, ?_⟩
    have fin : ∀ us s2 vs H2, Inv X pins σ H2 s2 → Vals vs us → (∃ (l : List D) (q2 : Pt), q2.H = H2 ∧ RDs (wdOf X) q2.ρ q2.Fr q2.H l vs ∧ RO (wdOf X) q2.ρ q2.Fr q2.H σ d v ∧ wpD (wdOf X) A XW σ (evBm m d l) q2 fun d q => ∀ v H', F σ q d v H' → Q v H') → wpAny (model X.prog X.w) X.A (call (.builtin id) (u :: us)) (EP X pins σ Q) X.xe s2 := by
      rintro us s2 vs H2 I2 rv2 ⟨l, q2, rfl, r1, r0, h⟩
      exact hm A XW pins s2 σ q2 d l v vs u us _ Q I2 r0 r1 rv rv2 h fun z q' s' mo' hz w H' res => hz w H' res
    have hr : taD (wdOf X) A XW ms σ q.H fun vs H2 => ∃ (l : List D) (q2 : Pt), q2.H = H2 ∧ RDs (wdOf X) q2.ρ q2.Fr q2.H l vs ∧ RO (wdOf X) q2.ρ q2.Fr q2.H σ d v ∧ wpD (wdOf X) A XW σ (evBm m d l) q2 fun d q => ∀ v H', F σ q d v H' → Q v H' :=
      ⟨q, rfl, (wpD.bind h).mono fun l q2 s2 mo h vs r1 => ⟨l, q2, rfl, r1, r.mono mo, h⟩⟩
    cases es with
    | nil =>
      have := hn rfl
      subst this
      exact Calls.callWith_builtin rfl (PySem.evalArgs_none (fin [] s1 [] q.H I1 .nil (taD_nil hr)))
    | cons e es =>
      have hA := ha.run cpos pins s1 σ q.H _ I1 hr
      unfold noStars at h1
      rw [List.all_cons, Bool.and_eq_true] at h1
      rw [star_one h1.1] at hA ⊢
      refine Calls.callWith_builtin (by show (false || (backTo cpos (starEach es X.env)).any (·.1)) = false; rw [star_any h1.2]; rfl) (Calls.evalArgs_plain ?_)
      exact thn hA fun us s2 ⟨vs, H2, I2, r2, q2⟩ => fin us s2 vs H2 I2 r2 q2
end
end Mi

end
section
set_option Elab.async false
set_option linter.all false
set_option maxRecDepth 100000
set_option maxHeartbeats 1000000
/-! Mi14: methods of lists, dicts, texts. -/
namespace Mi
open PySem PySem.Spec PyProof.Rows L2

section
variable {W : Wd} {XW : WX} {X : Cx} {A : Act} {σ : Sv} {q : Pt}
/-- a list's content is written -/
theorem putL_ok {α : Type} {d : D} {v : V} {a : Addr} {l l' : List D} {vs' : List V} {z : α} {R : α → Pt → Prop} (h : wpD W A XW σ ((putL d l').bind fun _ => Ev.pure z) q R) (ro : RO W q.ρ q.Fr q.H σ d v) (ev : v = .ref a) (ec : ct q.S q.G d = .lst l) (r : RDs W q.ρ q.Fr q.H l' vs') :
    ∃ q' : Pt, q'.H = upd q.H a (.lst vs') ∧ SR W A σ q' ∧ Mp q q' ∧ R z q' := by
  have s := h.1
  have h2 := h.2
  subst ev
  cases d with
  | slot i =>
    have ro : σ[i]? = some (some (.ref a)) := ro
    have es : q.S[i]? = some (.lst l) := by
      have ec : (match q.S[i]? with
        | some (.lst l) => Ct.lst l
        | some (.dic ks xs) => .dic ks xs
        | _ => .no) = .lst l := ec
      cases e : q.S[i]? with
      | none => rw [e] at ec; cases ec
      | some t =>
        rw [e] at ec
        cases t with
        | lst m => cases ec; rfl
        | _ => cases ec
    have hi : i < q.S.length := (List.getElem?_eq_some_iff.mp es).1
    obtain ⟨s', m'⟩ := s.setOwn (u := .lst l') (ho := .lst vs') es rfl ro rfl ⟨vs', rfl, r⟩
    simp only [putL, ctPut, Ev.bind, Rs.andThen, if_pos hi, Ev.pure] at h2
    exact ⟨_, rfl, s', m', h2 _ rfl rfl s' m'⟩
  | ref n =>
    have ro : ∃ b, q.ρ[n]? = some b ∧ V.ref a = .ref b := by simpa only [RO, RD] using ro
    obtain ⟨b, eb, e0⟩ := ro
    cases e0
    have es : q.G[n]? = some (.lst l) := by
      have ec : (match q.G[n]? with
        | some (.lst l) => Ct.lst l
        | some (.dic ks xs) => .dic ks xs
        | some (.ins C fs) => .ins C fs
        | some (.tab _) => .no
        | none => .no) = .lst l := ec
      cases e : q.G[n]? with
      | none => rw [e] at ec; cases ec
      | some t =>
        rw [e] at ec
        cases t with
        | lst m => cases ec; rfl
        | _ => cases ec
    have hi : n < q.G.length := (List.getElem?_eq_some_iff.mp es).1
    obtain ⟨s', m'⟩ := s.setG (o' := .lst l') (ho := .lst vs') es eb ⟨vs', rfl, r⟩
    simp only [putL, ctPut, Ev.bind, Rs.andThen, if_pos hi, Ev.pure] at h2
    exact ⟨_, rfl, s', m', h2 _ rfl rfl s' m'⟩
  | _ => simp only [putL, ctPut, Ev.bind, Rs.andThen] at h2
theorem putD_ok {α : Type} {d : D} {v : V} {a : Addr} {ks xs : List D} {p : List D × List D} {ho : HO} {kvs vs : List V} {z : α} {R : α → Pt → Prop} (h : wpD W A XW σ ((putD d p.1 p.2).bind fun _ => Ev.pure z) q R) (ro : RO W q.ρ q.Fr q.H σ d v) (ev : v = .ref a) (ec : ct q.S q.G d = .dic ks xs)
    (d1 : DicO W a p.1 kvs vs ho) (d2 : RDs W q.ρ q.Fr q.H p.1 kvs) (d3 : RDs W q.ρ q.Fr q.H p.2 vs) :
    ∃ q' : Pt, q'.H = upd q.H a ho ∧ SR W A σ q' ∧ Mp q q' ∧ R z q' := by
  have s := h.1
  have h2 := h.2
  subst ev
  cases d with
  | slot i =>
    have ro : σ[i]? = some (some (.ref a)) := ro
    have es : q.S[i]? = some (.dic ks xs) := by
      have ec : (match q.S[i]? with
        | some (.lst l) => Ct.lst l
        | some (.dic ks xs) => .dic ks xs
        | _ => .no) = .dic ks xs := ec
      cases e : q.S[i]? with
      | none => rw [e] at ec; cases ec
      | some t =>
        rw [e] at ec
        cases t with
        | dic m n => cases ec; rfl
        | _ => cases ec
    have hi : i < q.S.length := (List.getElem?_eq_some_iff.mp es).1
    obtain ⟨s', m'⟩ := s.setOwn (u := .dic p.1 p.2) (ho := ho) es rfl ro rfl ⟨kvs, vs, d1, d2, d3⟩
    simp only [putD, ctPut, Ev.bind, Rs.andThen, if_pos hi, Ev.pure] at h2
    exact ⟨_, rfl, s', m', h2 _ rfl rfl s' m'⟩
  | ref n =>
    have ro : ∃ b, q.ρ[n]? = some b ∧ V.ref a = .ref b := by simpa only [RO, RD] using ro
    obtain ⟨b, eb, e0⟩ := ro
    cases e0
    have es : q.G[n]? = some (.dic ks xs) := by
      have ec : (match q.G[n]? with
        | some (.lst l) => Ct.lst l
        | some (.dic ks xs) => .dic ks xs
        | some (.ins C fs) => .ins C fs
        | some (.tab _) => .no
        | none => .no) = .dic ks xs := ec
      cases e : q.G[n]? with
      | none => rw [e] at ec; cases ec
      | some t =>
        rw [e] at ec
        cases t with
        | dic m n => cases ec; rfl
        | _ => cases ec
    have hi : n < q.G.length := (List.getElem?_eq_some_iff.mp es).1
    obtain ⟨s', m'⟩ := s.setG (o' := .dic p.1 p.2) (ho := ho) es eb ⟨kvs, vs, d1, d2, d3⟩
    simp only [putD, ctPut, Ev.bind, Rs.andThen, if_pos hi, Ev.pure] at h2
    exact ⟨_, rfl, s', m', h2 _ rfl rfl s' m'⟩
  | _ => simp only [putD, ctPut, Ev.bind, Rs.andThen] at h2
/-- the state alone decides -/
theorem wpD.of_eq {α : Type} {m m' : Ev α} {R : α → Pt → Prop} (h : wpD W A XW σ m q R) (e : m q.S q.G = m' q.S q.G) : wpD W A XW σ m' q R := by
  refine ⟨h.1, ?_⟩
  have := h.2
  rw [e] at this
  exact this
theorem wpD.not_bad {α : Type} {m : Ev α} {R : α → Pt → Prop} (h : wpD W A XW σ m q R) : m q.S q.G ≠ .bad := fun e => by
  have := h.2
  rw [e] at this
  exact this
theorem RDs.dropLast {ρ : List Addr} {Fr : Addr → Prop} {H : Hp} {ds : List D} {vs : List V} (h : RDs W ρ Fr H ds vs) : RDs W ρ Fr H ds.dropLast vs.dropLast := by
  rw [List.dropLast_eq_take, List.dropLast_eq_take, h.length]
  exact h.take _
theorem plc_seq {n j : Nat} {i : Int} (h : plc n i = some j) (hn : n ≤ sizeLine) : seqIndex? i n = some j ∧ -(2 ^ 63) ≤ i ∧ i < 2 ^ 63 ∧ j < n := by
  have := sizeLine_eq
  unfold plc at h
  unfold seqIndex?
  split at h
  · rename_i h1
    cases h
    refine ⟨?_, by omega, by omega, by omega⟩
    have e1 : (if i < 0 then i + (n : Int) else i) = i := if_neg (by omega)
    simp only [e1]
    rw [if_pos (by simp only [Bool.and_eq_true, decide_eq_true_eq]; omega)]
  · split at h
    · rename_i h1 h2
      cases h
      refine ⟨?_, by omega, by omega, by omega⟩
      have e1 : (if i < 0 then i + (n : Int) else i) = i + n := if_pos h2.1
      simp only [e1]
      rw [if_pos (by simp only [Bool.and_eq_true, decide_eq_true_eq]; omega)]
    · cases h
end

section
variable {X : Cx}
abbrev MtD (X : Cx) (m : Bm) (id : String) : Prop := MtF X (FO1 (wdOf X)) m id
abbrev MtN (X : Cx) (m : Bm) (id : String) : Prop := MtF X (fun σ q d v H' => Res (wdOf X) σ q d v H') m id
theorem md_append : MtD X .append "list.append" := by
  intro A XW pins s σ q d l v vs u us R Q I rd rl rv rs h hR
  have hb := h.not_bad
  have c := ct_rel h.1 rd
  cases l with
  | nil => exact absurd rfl hb
  | cons x t =>
    cases t with
    | cons y t => exact absurd rfl hb
    | nil =>
      cases ec : ct q.S q.G d with
      | lst l =>
        have e : evBm .append d [x] q.S q.G = if l.length < sizeLine then (putL d (l ++ [x])).bind (fun _ => Ev.pure .non) q.S q.G else .bad := by
          simp only [evBm, ec]
        by_cases hz : l.length < sizeLine
        · rw [if_pos hz] at e
          have h := h.of_eq e
          rw [ec] at c
          cases c with
          | @lst _ a ws ev hl r =>
            obtain ⟨y, t, rfl, r1, r2⟩ := rl.inv
            have := r2.inv0
            subst this
            obtain ⟨q', e', s', m', hz'⟩ := putL_ok h rd ev ec (r.append (.one r1))
            refine mt_append pins s σ q.H v [y] u us Q I rv rs ⟨a, ws, y, ev, rfl, hl, by rw [← r.length]; exact hz, ?_⟩
            rw [← e']
            exact hR .non q' s' m' hz' .non q'.H ⟨RO.of (by simp only [RD]), rfl⟩
        · rw [if_neg hz] at e
          exact absurd e hb
      | _ => simp only [evBm, ec, ne_eq, not_true] at hb
theorem md_pop : MtD X .pop "list.pop" := by
  intro A XW pins s σ q d l v vs u us R Q I rd rl rv rs h hR
  have hb := h.not_bad
  have c := ct_rel h.1 rd
  cases l with
  | cons x t => exact absurd rfl hb
  | nil =>
    cases ec : ct q.S q.G d with
    | lst l =>
      cases el : l.getLast? with
      | none => exact absurd (show evBm .pop d [] q.S q.G = .bad by simp only [evBm, ec, el]) hb
      | some x =>
        have e : evBm .pop d [] q.S q.G = (putL d l.dropLast).bind (fun _ => Ev.pure x) q.S q.G := by simp only [evBm, ec, el]
        have h := h.of_eq e
        rw [ec] at c
        cases c with
        | @lst _ a ws ev hl r =>
          have := rl.inv0
          subst this
          obtain ⟨q', e', s', m', hz'⟩ := putL_ok h rd ev ec r.dropLast
          have ex : l[l.length - 1]? = some x := by rw [← List.getLast?_eq_getElem?]; exact el
          obtain ⟨y, ey, ry⟩ := r.get ex
          refine mt_pop pins s σ q.H v [] u us Q I rv rs ⟨a, ws, y, ev, rfl, hl, by rw [← r.length]; exact ey, ?_⟩
          rw [← e']
          exact hR x q' s' m' hz' y q'.H ⟨RO.of (RD.mono m' _ _ ry), rfl⟩
    | _ => simp only [evBm, ec, ne_eq, not_true] at hb
theorem md_popAt : MtD X .popAt "list.pop" := by
  intro A XW pins s σ q d l v vs u us R Q I rd rl rv rs h hR
  have hb := h.not_bad
  have c := ct_rel h.1 rd
  cases l with
  | nil => exact absurd rfl hb
  | cons x t =>
    cases t with
    | cons y t => exact absurd (by cases x <;> rfl) hb
    | nil =>
      cases x with
      | int i =>
        cases ec : ct q.S q.G d with
        | lst l =>
          cases ep : plc l.length i with
          | none => exact absurd (show evBm .popAt d [.int i] q.S q.G = .bad by simp only [evBm, ec, ep]) hb
          | some j =>
            cases ex : l[j]? with
            | none => exact absurd (show evBm .popAt d [.int i] q.S q.G = .bad by simp only [evBm, ec, ep, ex]) hb
            | some x =>
              have e : evBm .popAt d [.int i] q.S q.G = (putL d (l.eraseIdx j)).bind (fun _ => Ev.pure x) q.S q.G := by simp only [evBm, ec, ep, ex]
              have h := h.of_eq e
              rw [ec] at c
              cases c with
              | @lst _ a ws ev hl r =>
                obtain ⟨y, t, rfl, r1, r2⟩ := rl.inv
                have := r2.inv0
                subst this
                simp only [RD] at r1
                subst r1
                obtain ⟨q', e', s', m', hz'⟩ := putL_ok h rd ev ec (RDs.eraseIdx j r)
                obtain ⟨y, ey, ry⟩ := r.get ex
                obtain ⟨z, _⟩ := I.lstM hl
                rw [r.length] at ep
                obtain ⟨p1, p2, p3, p4⟩ := plc_seq ep z
                refine mt_popAt pins s σ q.H v [.int i] u us Q I rv rs ⟨a, ws, i, j, y, ev, rfl, hl, p2, p3, p1, ey, ?_⟩
                rw [← e']
                exact hR x q' s' m' hz' y q'.H ⟨RO.of (RD.mono m' _ _ ry), rfl⟩
        | _ => simp only [evBm, ec, ne_eq, not_true] at hb
      | _ => exact absurd rfl hb
theorem md_setdefault (hu : X.A.units + 10 < cLine) : MtD X .setdefault "dict.setdefault" := by
  intro A XW pins s σ q d l v vs u us R Q I rd rl rv rs h hR
  have hb := h.not_bad
  have c := ct_rel h.1 rd
  cases l with
  | nil => exact absurd rfl hb
  | cons k t =>
    cases t with
    | nil => exact absurd rfl hb
    | cons x t =>
      cases t with
      | cons y t => exact absurd rfl hb
      | nil =>
        cases ec : ct q.S q.G d with
        | dic ks xs =>
          rw [ec] at c
          cases c with
          | @dic _ _ a ho kvs ws ev h1 h2 h3 h4 =>
            subst ev
            obtain ⟨y, t, rfl, r1, r2⟩ := rl.inv
            obtain ⟨w, t, rfl, r3, r4⟩ := r2.inv
            have := r4.inv0
            subst this
            cases eg : dGet ks xs k with
            | some y' =>
              by_cases hk : okKey ks k = true ∧ ks.length < sizeLine
              · have e : evBm .setdefault d [k, x] q.S q.G = .ok y' q.S q.G := by simp only [evBm, ec, eg, if_pos hk]
                have h2' := h.2
                rw [e] at h2'
                refine mt_dsetd hu pins s σ q.H (.ref a) [y, w] u us Q I rv rs ⟨q.ρ, q.Fr, a, ks, xs, k, x, y, w, rfl, ⟨ho, kvs, ws, rfl, h1, h2, h3, h4, hk.1, r1⟩, r3, hk.2, fun t et w' rw' => ?_, fun en => (by rw [eg] at en; cases en)⟩
                rw [eg] at et
                cases et
                exact hR _ q h.1 Mo.refl (h2' q rfl rfl h.1 Mo.refl) w' q.H ⟨RO.of rw', rfl⟩
              · exact absurd (show evBm .setdefault d [k, x] q.S q.G = .bad by simp only [evBm, ec, eg, if_neg hk]) hb
            | none =>
              cases ep : dPutOk ks xs k x with
              | none => exact absurd (show evBm .setdefault d [k, x] q.S q.G = .bad by simp only [evBm, ec, eg, ep]) hb
              | some p =>
                have e : evBm .setdefault d [k, x] q.S q.G = (putD d p.1 p.2).bind (fun _ => Ev.pure x) q.S q.G := by simp only [evBm, ec, eg, ep]
                have h := h.of_eq e
                unfold dPutOk at ep
                split at ep
                · rename_i hk
                  cases ep
                  refine mt_dsetd hu pins s σ q.H (.ref a) [y, w] u us Q I rv rs ⟨q.ρ, q.Fr, a, ks, xs, k, x, y, w, rfl, ⟨ho, kvs, ws, rfl, h1, h2, h3, h4, hk.1, r1⟩, r3, hk.2, fun t et => (by rw [eg] at et; cases et), fun _ H' hp => ?_⟩
                  obtain ⟨ho', kvs', ws', rfl, d1, d2, d3⟩ := hp
                  obtain ⟨q', e', s', m', hz'⟩ := putD_ok h rd rfl ec d1 d2 d3
                  rw [← e']
                  exact hR x q' s' m' hz' w q'.H ⟨RO.of (RD.mono m' _ _ r3), rfl⟩
                · cases ep
        | _ => simp only [evBm, ec, ne_eq, not_true] at hb

/-! ### texts -/
theorem strs_rel {W : Wd} {ρ : List Addr} {Fr : Addr → Prop} {H : Hp} : ∀ {l : List D} {ys : List Str} {vs : List V}, strsOf l = some ys → RDs W ρ Fr H l vs → vs = ys.map V.str
  | [], ys, vs, e, r => by cases e; exact r.inv0
  | .str x :: l, ys, vs, e, r => by
    simp only [strsOf, Option.map_eq_some_iff] at e
    obtain ⟨t, e, rfl⟩ := e
    obtain ⟨v, r', rfl, r1, r2⟩ := r.inv
    simp only [RD] at r1
    subst r1
    rw [strs_rel e r2]
    rfl
  | .non :: _, _, _, e, _ => by cases e
  | .bl _ :: _, _, _, e, _ => by cases e
  | .int _ :: _, _, _, e, _ => by cases e
  | .tup _ :: _, _, _, e, _ => by cases e
  | .lst _ :: _, _, _, e, _ => by cases e
  | .scr _ :: _, _, _, e, _ => by cases e
  | .dic _ _ :: _, _, _, e, _ => by cases e
  | .ref _ :: _, _, _, e, _ => by cases e
  | .slot _ :: _, _, _, e, _ => by cases e
  | .fn _ :: _, _, _, e, _ => by cases e
theorem rds_strs {W : Wd} {ρ : List Addr} {Fr : Addr → Prop} {H : Hp} : ∀ ys : List Str, RDs W ρ Fr H (ys.map .str) (ys.map V.str)
  | [] => .nil
  | y :: ys => .cons (by simp only [RD]) (rds_strs ys)
theorem md_join : MtD X .join "str.join" := by
  intro A XW pins s σ q d l v vs u us R Q I rd rl rv rs h hR
  have hb := h.not_bad
  have c := ct_rel h.1 rd
  cases l with
  | nil => exact absurd rfl hb
  | cons x t =>
    cases t with
    | cons y t => exact absurd rfl hb
    | nil =>
      cases ec : ct q.S q.G d with
      | str a =>
        cases ei : joinOf q.S q.G x with
        | none => exact absurd (show evBm .join d [x] q.S q.G = .bad by simp only [evBm, ec, ei]) hb
        | some ys =>
          by_cases hz : (ys.map (·.length)).sum + ys.length * a.length ≤ 16777216
          · have e : evBm .join d [x] q.S q.G = .ok (.str (Txt.join a ys)) q.S q.G := by simp only [evBm, ec, ei, if_pos hz]
            have h2' := h.2
            rw [e] at h2'
            rw [ec] at c
            cases c with
            | str ev =>
              subst ev
              obtain ⟨y, t, rfl, r1, r2⟩ := rl.inv
              have := r2.inv0
              subst this
              have fin := hR _ q h.1 Mo.refl (h2' q rfl rfl h.1 Mo.refl) (.str (Txt.join a ys)) q.H ⟨RO.of (by simp only [RD]), rfl⟩
              have cx := ct_rel (σ := σ) h.1 (RO.of r1)
              unfold joinOf at ei
              cases ecx : ct q.S q.G x with
              | lst l =>
                rw [ecx] at ei cx
                cases cx with
                | @lst _ p ws ev hl r =>
                  subst ev
                  rw [strs_rel ei r] at hl
                  exact mt_join pins s σ q.H _ _ u us Q I rv rs ⟨a, p, ys, rfl, rfl, .inl (SqL.of hl), hz, fin⟩
              | tup l =>
                rw [ecx] at ei cx
                cases cx with
                | @tup _ p ws ev hl r =>
                  subst ev
                  rw [strs_rel ei r] at hl
                  exact mt_join pins s σ q.H _ _ u us Q I rv rs ⟨a, p, ys, rfl, rfl, .inr hl, hz, fin⟩
              | _ => rw [ecx] at ei; cases ei
          · exact absurd (show evBm .join d [x] q.S q.G = .bad by simp only [evBm, ec, ei, if_neg hz]) hb
      | _ => simp only [evBm, ec, ne_eq, not_true] at hb
theorem md_split : MtN X .split "str.split" := by
  intro A XW pins s σ q d l v vs u us R Q I rd rl rv rs h hR
  have hb := h.not_bad
  have c := ct_rel h.1 rd
  cases l with
  | nil => exact absurd (show evBm .split d [] q.S q.G = .bad by cases ct q.S q.G d <;> rfl) hb
  | cons x t =>
    cases t with
    | cons y t => exact absurd (show evBm .split d (x :: y :: t) q.S q.G = .bad by cases ct q.S q.G d <;> cases x <;> rfl) hb
    | nil =>
      cases x with
      | str b =>
        cases ec : ct q.S q.G d with
        | str a =>
          by_cases hz : (b.length == 0) = false ∧ a.length + 2 ≤ sizeLine
          · have e : evBm .split d [.str b] q.S q.G = .ok (.lst ((Txt.split a b).map .str)) q.S q.G := by simp only [evBm, ec, if_pos hz]
            have h2' := h.2
            rw [e] at h2'
            rw [ec] at c
            cases c with
            | str ev =>
              subst ev
              obtain ⟨y, t, rfl, r1, r2⟩ := rl.inv
              have := r2.inv0
              subst this
              simp only [RD] at r1
              subst r1
              exact mt_split pins s σ q.H _ _ u us Q I rv rs ⟨a, b, rfl, rfl, hz.1, hz.2, fun p hp => hR _ q h.1 Mo.refl (h2' q rfl rfl h.1 Mo.refl) _ _ (.new hp ⟨_, rfl, rds_strs _⟩)⟩
          · exact absurd (show evBm .split d [.str b] q.S q.G = .bad by simp only [evBm, ec, if_neg hz]) hb
        | _ => simp only [evBm, ec, ne_eq, not_true] at hb
      | _ => exact absurd (by cases ct q.S q.G d <;> rfl) hb
theorem md_lines : MtN X .lines "str.splitlines" := by
  intro A XW pins s σ q d l v vs u us R Q I rd rl rv rs h hR
  have hb := h.not_bad
  have c := ct_rel h.1 rd
  cases l with
  | cons x t => exact absurd (show evBm .lines d (x :: t) q.S q.G = .bad by cases ct q.S q.G d <;> rfl) hb
  | nil =>
    cases ec : ct q.S q.G d with
    | str a =>
      by_cases hz : a.length + 2 ≤ sizeLine ∧ (lineCuts a).length ≤ sizeLine
      · have e : evBm .lines d [] q.S q.G = .ok (.lst ((Txt.lines a).map .str)) q.S q.G := by simp only [evBm, ec, if_pos hz]
        have h2' := h.2
        rw [e] at h2'
        rw [ec] at c
        cases c with
        | str ev =>
          subst ev
          have := rl.inv0
          subst this
          exact mt_lines pins s σ q.H _ _ u us Q I rv rs ⟨a, rfl, rfl, hz.1, hz.2, fun p hp => hR _ q h.1 Mo.refl (h2' q rfl rfl h.1 Mo.refl) _ _ (.new hp ⟨_, rfl, rds_strs _⟩)⟩
      · exact absurd (show evBm .lines d [] q.S q.G = .bad by simp only [evBm, ec, if_neg hz]) hb
    | _ => simp only [evBm, ec, ne_eq, not_true] at hb
end
end Mi

end
section
set_option Elab.async false
set_option linter.all false
set_option maxRecDepth 100000
set_option maxHeartbeats 1000000
/-! Mi15: targets, what a loop walks, for, while. -/
namespace Mi
open PySem PySem.Spec PyProof.Rows L2

section
variable {W : Wd} {T : Tb} {Φ : Fns} {k : Nat} {C : Cf} {X : Cx} {XW : WX} {A : Act} {σ : Sv} {p : Pt}
theorem wpS.ownSet {i : Nat} {d : D} {v : V} {R : Unit → Sv → Pt → Prop} (h : wpS W A XW σ (ownSet i (.val d)) p R) (r : RD W p.ρ p.Fr p.H d v) : R () (σ.set i (some v)) { p with S := p.S.set i (.val d) } := by
  have s := h.1
  have h2 := h.2
  unfold Mi.ownSet at h2
  by_cases hi : i < p.S.length
  · rw [if_pos hi] at h2
    have s' := s.setVal hi r
    exact h2 _ _ rfl rfl s' Mo.refl
  · rw [if_neg hi] at h2
    exact h2.elim
/-- a statement's run, from a later point -/
theorem wpS.at {α : Type} {m : Ev α} {R : α → Sv → Pt → Prop} {q : Pt} (h : wpS W A XW σ m p R) (s : SR W A σ q) (e1 : q.S = p.S) (e2 : q.G = p.G) (mo : Mp p q) : wpS W A XW σ m q R := by
  refine ⟨s, ?_⟩
  have h2 := h.2
  rw [e1, e2]
  revert h2
  cases m p.S p.G with
  | ok a S G => exact fun h σ' r e1 e2 s2 m2 => h σ' r e1 e2 s2 (mo.trans m2)
  | ex x S G => exact fun h σ' r cls d e1 e2 s2 m2 => h σ' r cls d e1 e2 s2 (mo.trans m2)
  | bad => exact id
theorem wpD.at {α : Type} {m : Ev α} {R : α → Pt → Prop} {q : Pt} (h : wpD W A XW σ m p R) (s : SR W A σ q) (e1 : q.S = p.S) (e2 : q.G = p.G) (mo : Mp p q) : wpD W A XW σ m q R := by
  refine ⟨s, ?_⟩
  have h2 := h.2
  rw [e1, e2]
  revert h2
  cases m p.S p.G with
  | ok a S G => exact fun h r e1 e2 s2 m2 => h r e1 e2 s2 (mo.trans m2)
  | ex x S G => exact fun h r cls d e1 e2 s2 m2 => h r cls d e1 e2 s2 (mo.trans m2)
  | bad => exact id
/-! ### targets -/
theorem wipe_set {σ : Sv} {x : Option V} : ∀ {vs : List Nat} {i : Nat}, i ∈ vs → wipe (σ.set i x) vs = wipe σ vs
  | [], _, h => by cases h
  | v :: vs, i, h => by
    unfold wipe
    by_cases e : i ∈ vs
    · rw [wipe_set e]
    · have hv : i = v := by
        rcases List.mem_cons.mp h with h | h
        · exact h
        · exact absurd h e
      subst hv
      have key : ∀ vs : List Nat, wipe (σ.set i x) vs = (wipe σ vs).set i (if i ∈ vs then none else x) ∨ i ∈ vs := by
        intro vs
        by_cases e : i ∈ vs
        · exact .inr e
        · refine .inl ?_
          rw [if_neg e]
          induction vs with
          | nil => rfl
          | cons v vs ih =>
            unfold wipe
            simp only [List.mem_cons, not_or] at e
            rw [ih e.2, List.set_comm _ _ (fun z => e.1 z)]
      rcases key vs with k | k
      · rw [k, List.set_set]
      · exact absurd k e
/-- only these slots have changed -/
def Only_ (vs : List Nat) (σ σ' : Sv) : Prop := ∀ ws : List Nat, (∀ i ∈ vs, i ∈ ws) → wipe σ' ws = wipe σ ws
def tgW (W : Wd) (A : Act) (XW : WX) (t : Tg) : TG := fun v σ H Q => ∃ (p : Pt) (d : D), p.H = H ∧ RD W p.ρ p.Fr p.H d v ∧ wpS W A XW σ (asgT t d) p fun _ σ' q => Only_ t.slots σ σ' → Q σ' q.H
def tgsW (W : Wd) (A : Act) (XW : WX) (t : Tgs) : TGs := fun vs σ H Q => ∃ (p : Pt) (ds : List D), p.H = H ∧ RDs W p.ρ p.Fr p.H ds vs ∧ wpS W A XW σ (asgTs t ds) p fun _ σ' q => Only_ t.slots σ σ' → Q σ' q.H
theorem g_nm {i : Nat} {x : Str} {pos : Pos} (hN : X.N.Nodup) (hi : X.N[i]? = some x) (hx : Loc X.env.scope x) (hf : X.fn x = true ∨ X.env.scope.names.lookup x = some .local) : PG X (.Name x pos) (tgW W A XW (.nm i)) := PG.imp (pg_name hN hi hx hf) fun v σ H Q => by
  rintro ⟨p, d, rfl, r, h⟩
  exact h.ownSet r fun ws hw => wipe_set (hw i (by simp [Tg.slots]))
theorem gs_nil : PGs X [] (tgsW W A XW .nil) := ⟨fun pins s σ H vs us Q I r h => pgs_nil.run pins s σ H vs us Q I r (by
  obtain ⟨p, ds, rfl, rd, h⟩ := h
  cases ds with
  | nil => exact ⟨rd.inv0, h.pure fun _ _ => rfl⟩
  | cons d ds => exact h.bad.elim)⟩
theorem gs_cons {e : Expr} {es : List Expr} {t : Tg} {ts : Tgs} (h1 : PG X e (tgW W A XW t)) (h2 : PGs X es (tgsW W A XW ts)) (hs : (assignEach (e :: es) X.env).map (·.2) = assign e X.env :: (assignEach es X.env).map (·.2)) : PGs X (e :: es) (tgsW W A XW (.cons t ts)) :=
  ⟨fun pins s σ H vs us Q I r h => (pgs_cons h1 h2 hs).run pins s σ H vs us Q I r (by
    obtain ⟨p, ds, rfl, rd, h⟩ := h
    cases ds with
    | nil => exact h.bad.elim
    | cons d ds =>
      obtain ⟨v, vs', rfl, r1, r2⟩ := rd.inv
      have h := wpS.bind (show wpS W A XW σ ((asgT t d).bind fun _ => asgTs ts ds) p (fun _ σ' q => Only_ (Tgs.cons t ts).slots σ σ' → Q σ' q.H) from h)
      refine ⟨v, vs', rfl, p, d, rfl, r1, h.mono fun _ σ' q s mo h o1 => ⟨q, ds, rfl, r2.mono mo, h.mono fun _ σ2 q2 s2 mo2 h o2 => h fun ws hw => ?_⟩⟩
      rw [o2 ws fun i hi => hw i (by simp only [Tgs.slots, List.mem_append]; exact .inr hi), o1 ws fun i hi => hw i (by simp only [Tgs.slots, List.mem_append]; exact .inl hi)])⟩
theorem g_tp {es : List Expr} {k1 : Nat} {pos : Pos} {ts : Tgs} (hK : wdOf X = W) (hc : X.calm = true) (h : PGs X es (tgsW W A XW ts)) (hn : (assignEach es X.env).length = ts.len) (hst : (assignEach es X.env).findIdx? (·.1) = none) :
    PG X (.Tuple es k1 pos) (tgW W A XW (.tp ts)) := PG.imp (pg_tup hc h hn hst) fun v σ H Q => by
  subst hK
  rintro ⟨p, d, rfl, r, h⟩
  cases d with
  | tup l =>
    simp only [asgT] at h
    by_cases hl : l.length = ts.len
    · rw [if_pos hl] at h
      simp only [RD] at r
      obtain ⟨a, vs, rfl, h1, r⟩ := r
      exact ⟨a, vs, rfl, fr_sqT h1, by rw [← r.length]; exact hl, p, l, rfl, r, h⟩
    · rw [if_neg hl] at h
      exact h.bad.elim
  | _ => exact h.2.elim

/-! ### what is walked -/
/-- J walks the data l -/
structure JD (W : Wd) (l : List D) (ρ : List Addr) (Fr : Addr → Prop) (H : Hp) (J : It) : Prop where
  stop : ∀ ρ' Fr' H', Mo ρ Fr H ρ' Fr' H' → J.stop l.length H'
  go : ∀ i ρ' Fr' H', i < l.length → Mo ρ Fr H ρ' Fr' H' → J.go i H'
  yld : ∀ i x H1 H2 ρ' Fr' d, l[i]? = some d → Mo ρ Fr H ρ' Fr' H1 → J.yld i H1 x H2 → (H2 = H1 ∧ RD W ρ' Fr' H1 d x) ∨ (∃ a vs ds, d = .tup ds ∧ x = .ref a ∧ H1 a = none ∧ H2 = upd H1 a (.tup vs) ∧ RDs W ρ' Fr' H1 ds vs)
theorem JD.mono {l : List D} {ρ ρ' : List Addr} {Fr Fr' : Addr → Prop} {H H' : Hp} {J : It} (h : JD W l ρ Fr H J) (m : Mo ρ Fr H ρ' Fr' H') : JD W l ρ' Fr' H' J :=
  ⟨fun a b c m2 => h.stop a b c (m.trans m2), fun i a b c hi m2 => h.go i a b c hi (m.trans m2), fun i x H1 H2 a b d e m2 y => h.yld i x H1 H2 a b d e (m.trans m2) y⟩
theorem jd_list {l : List D} {ρ : List Addr} {Fr : Addr → Prop} {H : Hp} {a : Addr} {vs : List V} (hf : Fr a) (hl : H a = some (.lst vs)) (r : RDs W ρ Fr H l vs) : JD W l ρ Fr H (Itl W.K a) := by
  have at_ : ∀ {ρ' Fr' H'}, Mo ρ Fr H ρ' Fr' H' → SqL W.K H' a vs := fun m => SqL.of ((m.h a hf).trans hl)
  refine ⟨fun ρ' Fr' H' m => ⟨vs, at_ m, by rw [r.length]; exact Nat.le_refl _⟩, fun i ρ' Fr' H' hi m => ?_, fun i x H1 H2 ρ' Fr' d e m y => ?_⟩
  · rw [r.length] at hi
    exact ⟨vs, vs[i], at_ m, List.getElem?_eq_getElem hi⟩
  · obtain ⟨rfl, y⟩ := y
    obtain ⟨v, ev, rv⟩ := r.get e
    have := y vs (at_ m)
    rw [ev] at this
    cases this
    exact .inl ⟨rfl, RD.mono m _ _ rv⟩
theorem jd_tup {l : List D} {ρ : List Addr} {Fr : Addr → Prop} {H : Hp} {a : Addr} {vs : List V} (hl : (Fr a ∧ Rd H a (.tup vs)) ∨ WrT W.K a vs) (r : RDs W ρ Fr H l vs) : JD W l ρ Fr H (Itt W.K a) := by
  have at_ : ∀ {ρ' Fr' H'}, Mo ρ Fr H ρ' Fr' H' → SqT W.K H' a vs := fun m => by
    rcases hl with ⟨f, h⟩ | h
    · exact .inl (Rd.at h (m.h a f))
    · exact .inr h
  refine ⟨fun ρ' Fr' H' m => ⟨vs, at_ m, by rw [r.length]; exact Nat.le_refl _⟩, fun i ρ' Fr' H' hi m => ?_, fun i x H1 H2 ρ' Fr' d e m y => ?_⟩
  · rw [r.length] at hi
    exact ⟨vs, vs[i], at_ m, List.getElem?_eq_getElem hi⟩
  · obtain ⟨rfl, y⟩ := y
    obtain ⟨v, ev, rv⟩ := r.get e
    have := y vs (at_ m)
    rw [ev] at this
    cases this
    exact .inl ⟨rfl, RD.mono m _ _ rv⟩
theorem jd_str {x : Str} {ρ : List Addr} {Fr : Addr → Prop} {H : Hp} : JD W (x.cps.toList.map fun c => D.str ⟨#[c]⟩) ρ Fr H (Its x) := by
  refine ⟨fun ρ' Fr' H' m => ?_, fun i ρ' Fr' H' hi m => ?_, fun i x' H1 H2 ρ' Fr' d e m y => ?_⟩
  · show x.cps.size ≤ _
    simp
  · show i < x.cps.size
    simpa using hi
  · obtain ⟨rfl, c, ec, rfl⟩ := y
    rw [List.getElem?_map, Array.getElem?_toList, ec] at e
    cases e
    exact .inl ⟨rfl, by simp only [RD]⟩
theorem jd_rng {lo : Int} {n : Nat} {ρ : List Addr} {Fr : Addr → Prop} {H : Hp} : JD W ((List.range n).map fun (k : Nat) => D.int (lo + k)) ρ Fr H (Itr lo n) := by
  refine ⟨fun ρ' Fr' H' m => ?_, fun i ρ' Fr' H' hi m => ?_, fun i x' H1 H2 ρ' Fr' d e m y => ?_⟩
  · show n ≤ _
    simp
  · show i < n
    simpa using hi
  · obtain ⟨rfl, rfl⟩ := y
    rw [List.getElem?_map] at e
    cases hr : (List.range n)[i]? with
    | none => rw [hr] at e; cases e
    | some j =>
      rw [hr] at e
      cases e
      have : j = i := by
        rw [List.getElem?_range] at hr
        · exact (Option.some.inj hr).symm
        · by_cases hi : i < n
          · exact hi
          · rw [List.getElem?_eq_none (by simpa using hi)] at hr; cases hr
      subst this
      exact .inl ⟨rfl, by simp only [RD]⟩
theorem jd_enum {l : List D} {ρ : List Addr} {Fr : Addr → Prop} {H : Hp} {a : Addr} {vs : List V} (hf : Fr a) (hl : H a = some (.lst vs)) (r : RDs W ρ Fr H l vs) : JD W (l.zipIdx.map fun p => D.tup [.int (p.2 : Nat), p.1]) ρ Fr H (Ite W.K a) := by
  have at_ : ∀ {ρ' Fr' H'}, Mo ρ Fr H ρ' Fr' H' → SqL W.K H' a vs := fun m => SqL.of ((m.h a hf).trans hl)
  refine ⟨fun ρ' Fr' H' m => ⟨vs, at_ m, by simp [r.length]⟩, fun i ρ' Fr' H' hi m => ?_, fun i x H1 H2 ρ' Fr' d e m y => ?_⟩
  · have hi : i < vs.length := by simpa [r.length] using hi
    exact ⟨vs, vs[i], at_ m, List.getElem?_eq_getElem hi⟩
  · obtain ⟨b, x', rfl, hb, rfl, y⟩ := y
    have hx := y vs (at_ m)
    rw [List.getElem?_map, List.getElem?_zipIdx] at e
    cases el : l[i]? with
    | none => rw [el] at e; cases e
    | some d0 =>
      rw [el] at e
      cases e
      obtain ⟨v, ev, rv⟩ := r.get el
      rw [hx] at ev
      cases ev
      refine .inr ⟨b, _, _, rfl, rfl, hb, rfl, .cons (by simp only [RD, Nat.zero_add]) (.one (RD.mono m _ _ rv))⟩
def tiD (W : Wd) (A : Act) (XW : WX) (m : Ev (List D)) : TI := fun σ H R => ∃ p : Pt, p.H = H ∧ wpD W A XW σ m p fun l q => ∀ J, JD W l q.ρ q.Fr q.H J → R J q.H
theorem PI.imp {X : Cx} {tg e : Expr} {t u : TI} (h : PI X tg e t) (k : ∀ σ H R, u σ H R → t σ H R) : PI X tg e u := ⟨fun pins s σ H R I q => h.run pins s σ H R I (k σ H R q)⟩
/-- where the run is known -/
theorem wpD.known {α : Type} {m : Ev α} {R : α → Pt → Prop} {a : α} {S : List Slot} {G : List MO} (h : wpD W A XW σ m p R) (e : m p.S p.G = .ok a S G) : wpD W A XW σ m p fun b q => b = a ∧ q.S = S ∧ q.G = G ∧ R b q := by
  refine ⟨h.1, ?_⟩
  have h2 := h.2
  rw [e] at h2 ⊢
  exact fun q e1 e2 s mo => ⟨rfl, e1, e2, h2 q e1 e2 s mo⟩
theorem settle_noex {d : D} {S S2 : List Slot} {G G2 : List MO} {x : Exn} : settle d S G ≠ .ex x S2 G2 := by
  cases d with
  | slot i =>
    simp only [settle]
    cases S[i]? with
    | none => intro h; cases h
    | some t => cases t <;> (intro h; cases h)
  | _ => intro h; cases h
theorem i_seq {tg e : Expr} {m : Ev D} (hK : wdOf X = W) (he : PE X e (teD W A XW m)) : PI X tg e (tiD W A XW (m.bind seqI)) := by
  subst hK
  refine ⟨fun pins s σ H R I h => ?_⟩
  obtain ⟨p, rfl, h⟩ := h
  have h1 := wpD.bind h
  cases em : m p.S p.G with
  | bad => have := h1.2; rw [em] at this; exact this.elim
  | ex x S G =>
    refine (pi_list (tg := tg) he).run pins s σ p.H R I ⟨p, rfl, h1.1, ?_⟩
    have := h1.2
    rw [em] at this ⊢
    exact this
  | ok d S G =>
    have h1 := h1.known em
    -- the settled value's kind
    cases hk : settle d S G with
    | bad =>
      refine (pi_list (tg := tg) he).run pins s σ p.H R I ⟨p, rfl, h1.mono fun b q s mo hb v r => ?_⟩
      obtain ⟨rfl, rfl, rfl, hb⟩ := hb
      have := (wpD.bind hb).2
      rw [hk] at this
      exact this.elim
    | ex x S2 G2 => exact absurd hk settle_noex
    | ok d2 S2 G2 =>
      have step : ∀ {b : D} {q : Pt} {v : V}, b = d ∧ q.S = S ∧ q.G = G ∧ wpD (wdOf X) A XW σ (seqI b) q (fun l q => ∀ J, JD (wdOf X) l q.ρ q.Fr q.H J → R J q.H) → RO (wdOf X) q.ρ q.Fr q.H σ b v →
          ∃ q' : Pt, q'.H = q.H ∧ RD (wdOf X) q'.ρ q'.Fr q'.H d2 v ∧ wpD (wdOf X) A XW σ (match d2 with
            | .lst l => Ev.pure l
            | .tup l => Ev.pure l
            | .str x => Ev.pure (x.cps.toList.map fun c => .str ⟨#[c]⟩)
            | _ => Ev.bad) q' (fun l q => ∀ J, JD (wdOf X) l q.ρ q.Fr q.H J → R J q.H) := by
        rintro b q v ⟨rfl, rfl, rfl, hb⟩ r
        have hb := (wpD.bind hb).known hk
        obtain ⟨d', q', e1, s', mo', r', _, e2, _, _, h'⟩ := settle_ok hb r
        subst e2
        exact ⟨q', e1, r', h'⟩
      cases d2 with
      | lst l =>
        refine (pi_list (tg := tg) he).run pins s σ p.H R I ⟨p, rfl, h1.mono fun b q s mo hb v r => ?_⟩
        obtain ⟨q', e1, r', h'⟩ := step hb r
        simp only [RD] at r'
        obtain ⟨a, vs, rfl, ⟨f, hl⟩, rs⟩ := r'
        refine ⟨a, rfl, ⟨vs, by rw [← e1]; exact SqL.of hl⟩, ?_⟩
        rw [← e1]
        exact wpD.pure (a := l) h' _ (jd_list f hl rs)
      | tup l =>
        refine (pi_tup (tg := tg) he).run pins s σ p.H R I ⟨p, rfl, h1.mono fun b q s mo hb v r => ?_⟩
        obtain ⟨q', e1, r', h'⟩ := step hb r
        simp only [RD] at r'
        obtain ⟨a, vs, rfl, hl, rs⟩ := r'
        refine ⟨a, rfl, ⟨vs, by rw [← e1]; exact fr_sqT hl⟩, ?_⟩
        rw [← e1]
        exact wpD.pure (a := l) h' _ (jd_tup hl rs)
      | str x =>
        refine (pi_str (tg := tg) he).run pins s σ p.H R I ⟨p, rfl, h1.mono fun b q s mo hb v r => ?_⟩
        obtain ⟨q', e1, r', h'⟩ := step hb r
        simp only [RD] at r'
        subst r'
        refine ⟨x, rfl, ?_⟩
        rw [← e1]
        exact wpD.pure (a := x.cps.toList.map fun c => D.str ⟨#[c]⟩) h' _ jd_str
      | _ =>
        refine (pi_list (tg := tg) he).run pins s σ p.H R I ⟨p, rfl, h1.mono fun b q s mo hb v r => ?_⟩
        obtain ⟨q', e1, r', h'⟩ := step hb r
        exact h'.bad.elim

theorem i_rng (hx : XO W T Φ k C X XW) {tg e : Expr} {pp pos : Pos} {x : Str} {m : Ev D} (hxe : x = "range") (hg : Gl X x) (hm : X.mg x = none) (hst : noStar e = true) (he : PE X e (teD W A XW m)) : PI X tg (.Call (.Name x pp) [e] [] pos) (tiD W A XW (m.bind fun d => match d with
    | .int n => if -(2 ^ 62) ≤ n ∧ n < 2 ^ 62 then Ev.pure ((List.range n.toNat).map fun (k : Nat) => .int k) else Ev.bad
    | _ => Ev.bad)) := by
  subst hxe
  refine PI.imp (pi_range1 (tg := tg) hg hm (pa_cons he pa_nil (star_one hst)) (star_one hst)) fun σ H R => ?_
  rintro ⟨p, rfl, h⟩
  refine ⟨p, rfl, (wpD.bind h).mono fun d q s mo h v r => ?_⟩
  cases d with
  | int n =>
    by_cases hn : -(2 ^ 62) ≤ n ∧ n < 2 ^ 62
    · have h : wpD W A XW σ (if -(2 ^ 62) ≤ n ∧ n < 2 ^ 62 then Ev.pure ((List.range n.toNat).map fun (k : Nat) => D.int k) else Ev.bad) q _ := h
      rw [if_pos hn] at h
      refine ⟨n, by rw [r.int], hn.1, hn.2, h.pure _ ?_⟩
      have := jd_rng (W := W) (lo := 0) (n := n.toNat) (ρ := q.ρ) (Fr := q.Fr) (H := q.H)
      simpa only [Int.zero_add] using this
    · have h : wpD W A XW σ (if -(2 ^ 62) ≤ n ∧ n < 2 ^ 62 then Ev.pure ((List.range n.toNat).map fun (k : Nat) => D.int k) else Ev.bad) q _ := h
      rw [if_neg hn] at h
      exact h.bad.elim
  | _ => exact h.bad.elim
theorem i_rng2 (hx : XO W T Φ k C X XW) {tg e f : Expr} {pp pos : Pos} {x : Str} {m n : Ev D} (hxe : x = "range") (hg : Gl X x) (hm : X.mg x = none) (hst : noStar e = true) (hst2 : noStar f = true) (he : PE X e (teD W A XW m)) (hf : PE X f (teD W A XW n)) : PI X tg (.Call (.Name x pp) [e, f] [] pos) (tiD W A XW (m.bind fun x => n.bind fun y => match x, y with
    | .int m, .int n => if (-(2 ^ 62) ≤ m ∧ m < 2 ^ 62) ∧ -(2 ^ 62) ≤ n ∧ n < 2 ^ 62 then Ev.pure ((List.range (n - m).toNat).map fun (k : Nat) => .int (m + k)) else Ev.bad
    | _, _ => Ev.bad)) := by
  subst hxe
  refine PI.imp (pi_range2 (tg := tg) hg hm (pa_cons he (pa_cons hf pa_nil (star_one hst2)) (star_one hst)) (by rw [star_one hst, star_one hst2]; rfl) (star_one hst2)) fun σ H R => ?_
  rintro ⟨p, rfl, h⟩
  refine ⟨p, rfl, (wpD.bind h).mono fun d q s mo h v r => ⟨q, rfl, (wpD.bind h).mono fun d2 q2 s2 mo2 h u r2 => ?_⟩⟩
  cases d with
  | int a =>
    cases d2 with
    | int b =>
      by_cases hn : (-(2 ^ 62) ≤ a ∧ a < 2 ^ 62) ∧ -(2 ^ 62) ≤ b ∧ b < 2 ^ 62
      · have h : wpD W A XW σ (if (-(2 ^ 62) ≤ a ∧ a < 2 ^ 62) ∧ -(2 ^ 62) ≤ b ∧ b < 2 ^ 62 then Ev.pure ((List.range (b - a).toNat).map fun (k : Nat) => D.int (a + k)) else Ev.bad) q2 _ := h
        rw [if_pos hn] at h
        exact ⟨a, b, by rw [(r.mono mo2).int, r2.int], ⟨hn.1.1, hn.1.2, hn.2.1, hn.2.2⟩, h.pure _ jd_rng⟩
      · have h : wpD W A XW σ (if (-(2 ^ 62) ≤ a ∧ a < 2 ^ 62) ∧ -(2 ^ 62) ≤ b ∧ b < 2 ^ 62 then Ev.pure ((List.range (b - a).toNat).map fun (k : Nat) => D.int (a + k)) else Ev.bad) q2 _ := h
        rw [if_neg hn] at h
        exact h.bad.elim
    | _ => exact h.bad.elim
  | _ => exact h.bad.elim
theorem i_enum (hx : XO W T Φ k C X XW) {e : Expr} {pp pos tpos : Pos} {x : Str} {elts : List Expr} {kk : Nat} {m : Ev D} (hxe : x = "enumerate") (hg : Gl X x) (hm : X.mg x = none) (hst : noStar e = true) (he : PE X e (teD W A XW m)) : PI X (.Tuple elts kk tpos) (.Call (.Name x pp) [e] [] pos) (tiD W A XW (m.bind enumI)) := by
  obtain rfl : W = wdOf X := hx.wd.symm
  subst hxe
  refine PI.imp (pi_enum hg hm (pa_cons he pa_nil (star_one hst)) (star_one hst)) fun σ H R => ?_
  rintro ⟨p, rfl, h⟩
  refine ⟨p, rfl, (wpD.bind h).mono fun d q s mo h v r => ?_⟩
  obtain ⟨d', q', e1, s', mo', r', _, h'⟩ := settle_ok (wpD.bind h) r
  cases d' with
  | lst l =>
    simp only [RD] at r'
    obtain ⟨a, vs, rfl, ⟨f, hl⟩, rs⟩ := r'
    refine ⟨a, vs, rfl, by rw [← e1]; exact SqL.of hl, ?_⟩
    rw [← e1]
    exact wpD.pure (a := l.zipIdx.map fun p => D.tup [.int (p.2 : Nat), p.1]) h' _ (jd_enum f hl rs)
  | _ => exact h'.bad.elim

/-! ### loops -/
/-- an item comes -/
theorem JD.turn {l : List D} {J : It} {q : Pt} {i : Nat} {d : D} {x : V} {H2 : Hp} (j : JD W l q.ρ q.Fr q.H J) (s : SR W A σ q) (e : l[i]? = some d) (y : J.yld i q.H x H2) : ∃ q' : Pt, q'.H = H2 ∧ q'.S = q.S ∧ q'.G = q.G ∧ SR W A σ q' ∧ Mp q q' ∧ RD W q'.ρ q'.Fr q'.H d x := by
  rcases j.yld i x q.H H2 q.ρ q.Fr d e Mo.refl y with ⟨rfl, r⟩ | ⟨a, vs, ds, rfl, rfl, ha, rfl, r⟩
  · exact ⟨q, rfl, rfl, rfl, s, Mo.refl, r⟩
  · have n : NR W q a (.tup ds) (.tup vs) := ⟨vs, rfl, r⟩
    exact ⟨(q.put a (.tup vs)).frz a, rfl, rfl, rfl, s.newF ha, s.newM ha, n.rd s ha⟩
theorem s_for (hx : XO W T Φ k C X XW) {tg iter : Expr} {body : List Stmt} {pos : Pos} {mi : Ev (List D)} {t : Tg} {mb : Ev Fl} (hi : PI X tg iter (tiD W A XW mi)) (hg : PG X tg (tgW W A XW t)) (hb : PSs X body (tsD W A XW mb)) (hs : ∀ x, foldedSetIterable iter X.env x = pure x) :
    PS X (.For tg iter body [] pos) (tsD W A XW (mi.bind fun l => loopFor (asgT t) mb l)) := PS.imp (ps_for hx.po hx.calm hi hg hb hs) fun E σ H => by
  rintro ⟨p, rfl, h⟩
  refine ⟨p, rfl, (wpS.bindD h).mono fun l q0 s0 mo0 h J hJ => ?_⟩
  generalize hR : (fun (f : Fl) (σ' : Sv) (q : Pt) => match f with
    | .nx => E.nx σ' q.H
    | .bk => E.bk σ' q.H
    | .ct => E.ct σ' q.H
    | .rt d => ∀ v, RD W q.ρ q.Fr q.H d v → E.rt v q.H) = R at h
  refine ⟨fun i m σ' H' => ∃ q : Pt, q.H = H' ∧ m = l.length - i ∧ i ≤ l.length ∧ Mp q0 q ∧ wpS W A XW σ' (loopFor (asgT t) mb (l.drop i)) q R, ⟨l.length, q0, rfl, by simp, Nat.zero_le _, Mo.refl, by simpa using h⟩, ?_⟩
  rintro i m σ' H' ⟨q, rfl, rfl, hi, mo, h⟩
  by_cases hlt : i < l.length
  · have ed : l.drop i = l[i] :: l.drop (i + 1) := by rw [List.drop_eq_getElem_cons hlt]
    rw [ed] at h
    refine .inr ⟨hJ.go i q.ρ q.Fr q.H hlt mo, fun σ2 H2 => ∃ q2 : Pt, q2.H = H2 ∧ Mp q0 q2 ∧ wpS W A XW σ2 (loopFor (asgT t) mb (l.drop (i + 1))) q2 R, fun σ2 H2 ⟨q2, e2, m2, h2⟩ => ⟨l.length - (i + 1), by omega, q2, e2, rfl, hlt, m2, h2⟩, fun x H2 y => ?_⟩
    obtain ⟨q', rfl, e1, e2, s', m', r'⟩ := (hJ.mono mo).turn h.1 (List.getElem?_eq_getElem hlt) y
    have h := wpS.bind (h.at s' e1 e2 m')
    refine ⟨q', l[i], rfl, r', h.mono fun _ σ2 q2 s2 mo2 h _ => ⟨q2, rfl, (wpS.bind h).mono fun f σ3 q3 s3 mo3 h => ?_⟩⟩
    have mm : Mp q0 q3 := mo.trans (m'.trans (mo2.trans mo3))
    subst hR
    cases f with
    | nx => exact ⟨q3, rfl, mm, h⟩
    | ct => exact ⟨q3, rfl, mm, h⟩
    | bk => exact wpS.pure (a := Fl.nx) h
    | rt d => exact fun v rv => wpS.pure (a := Fl.rt d) h v rv
  · have e : i = l.length := by omega
    subst e
    rw [List.drop_length] at h
    subst hR
    exact .inl ⟨hJ.stop q.ρ q.Fr q.H mo, wpS.pure (a := Fl.nx) h⟩
theorem s_while (hx : XO W T Φ k C X XW) {c : Expr} {body : List Stmt} {pos : Pos} {mc : Ev Bool} {mb : Ev Fl} {n : Nat} (hc : PT X c (ttD W A XW mc)) (hb : PSs X body (tsD W A XW mb)) :
    PS X (.While c body [] pos) (tsD W A XW (loopWhl mc mb n)) := PS.imp (ps_while hx.po hc hb) fun E σ H => by
  rintro ⟨p, rfl, h⟩
  generalize hR : (fun (f : Fl) (σ' : Sv) (q : Pt) => match f with
    | .nx => E.nx σ' q.H
    | .bk => E.bk σ' q.H
    | .ct => E.ct σ' q.H
    | .rt d => ∀ v, RD W q.ρ q.Fr q.H d v → E.rt v q.H) = R at h
  refine ⟨fun m σ' H' => ∃ q : Pt, q.H = H' ∧ wpS W A XW σ' (loopWhl mc mb m) q R, ⟨n, p, rfl, h⟩, ?_⟩
  rintro m σ' H' ⟨q, rfl, h⟩
  cases m with
  | zero => exact h.bad.elim
  | succ m =>
    refine ⟨q, rfl, (wpS.bindD h).mono fun b q2 s2 mo2 h => ?_⟩
    cases b with
    | true =>
      rw [if_pos rfl] at h ⊢
      refine ⟨fun σ3 H3 => ∃ q3 : Pt, q3.H = H3 ∧ wpS W A XW σ3 (loopWhl mc mb m) q3 R, fun σ3 H3 ⟨q3, e3, h3⟩ => ⟨m, Nat.lt_succ_self m, q3, e3, h3⟩, q2, rfl, (wpS.bind h).mono fun f σ3 q3 s3 mo3 h => ?_⟩
      subst hR
      cases f with
      | nx => exact ⟨q3, rfl, h⟩
      | ct => exact ⟨q3, rfl, h⟩
      | bk => exact wpS.pure (a := Fl.nx) h
      | rt d => exact fun v rv => wpS.pure (a := Fl.rt d) h v rv
    | false =>
      rw [if_neg Bool.false_ne_true] at h ⊢
      subst hR
      exact wpS.pure (a := Fl.nx) h
end
end Mi

end
section
set_option Elab.async false
set_option linter.all false
set_option maxRecDepth 100000
set_option maxHeartbeats 1000000
/-! Mi16: comprehensions. -/
namespace Mi
open PySem PySem.Spec PyProof.Rows L2

theorem wipeL_len {S : List Slot} : ∀ vs : List Nat, (wipeL S vs).length = S.length
  | [] => rfl
  | v :: vs => by simp [wipeL, wipeL_len vs]
theorem wipeL_get {S : List Slot} : ∀ {vs : List Nat} {i : Nat}, (wipeL S vs)[i]? = if i ∈ vs then S[i]?.map (fun _ => Slot.no) else S[i]?
  | [], i => by simp [wipeL]
  | v :: vs, i => by
    unfold wipeL
    rw [List.getElem?_set]
    by_cases h : v = i
    · subst h
      rw [if_pos rfl, if_pos (List.mem_cons_self ..)]
      rw [wipeL_len]
      by_cases hv : v < S.length
      · rw [if_pos hv, List.getElem?_eq_getElem hv]; rfl
      · rw [if_neg hv, List.getElem?_eq_none (by omega)]; rfl
    · rw [if_neg h, wipeL_get]
      have : (i ∈ v :: vs) ↔ i ∈ vs := by
        rw [List.mem_cons]
        exact ⟨fun q => q.resolve_left fun e => h e.symm, .inr⟩
      simp only [this]
theorem restL_len {S0 S : List Slot} : ∀ vs : List Nat, (restL S0 S vs).length = S.length
  | [] => rfl
  | v :: vs => by simp [restL, restL_len vs]
theorem restL_get {S0 S : List Slot} : ∀ {vs : List Nat} {i : Nat}, (restL S0 S vs)[i]? = if i ∈ vs then S[i]?.map (fun _ => S0.getD i .no) else S[i]?
  | [], i => by simp [restL]
  | v :: vs, i => by
    unfold restL
    rw [List.getElem?_set]
    by_cases h : v = i
    · subst h
      rw [if_pos rfl, if_pos (List.mem_cons_self ..), restL_len]
      by_cases hv : v < S.length
      · rw [if_pos hv, List.getElem?_eq_getElem hv]; rfl
      · rw [if_neg hv, List.getElem?_eq_none (by omega)]; rfl
    · rw [if_neg h, restL_get]
      have : (i ∈ v :: vs) ↔ i ∈ vs := by
        rw [List.mem_cons]
        exact ⟨fun q => q.resolve_left fun e => h e.symm, .inr⟩
      simp only [this]
theorem wipe_get {σ : Sv} : ∀ {vs : List Nat} {i : Nat}, (wipe σ vs)[i]? = if i ∈ vs then σ[i]?.map (fun _ => none) else σ[i]?
  | [], i => by simp [wipe]
  | v :: vs, i => by
    unfold wipe
    rw [List.getElem?_set]
    by_cases h : v = i
    · subst h
      rw [if_pos rfl, if_pos (List.mem_cons_self ..), wipe_length]
      by_cases hv : v < σ.length
      · rw [if_pos hv, List.getElem?_eq_getElem hv]; rfl
      · rw [if_neg hv, List.getElem?_eq_none (by omega)]; rfl
    · rw [if_neg h, wipe_get]
      have : (i ∈ v :: vs) ↔ i ∈ vs := by
        rw [List.mem_cons]
        exact ⟨fun q => q.resolve_left fun e => h e.symm, .inr⟩
      simp only [this]
theorem wipe_wipe {σ : Sv} {vs : List Nat} : wipe (wipe σ vs) vs = wipe σ vs := by
  apply List.ext_getElem?
  intro i
  rw [wipe_get]
  split
  · rw [wipe_get, if_pos (by assumption)]
    cases σ[i]? <;> rfl
  · rfl
theorem wipeL_wipeL {S : List Slot} {vs : List Nat} : wipeL (wipeL S vs) vs = wipeL S vs := by
  apply List.ext_getElem?
  intro i
  rw [wipeL_get]
  split
  · rw [wipeL_get, if_pos (by assumption)]
    cases S[i]? <;> rfl
  · rfl
theorem rest_wipe {S0 S : List Slot} {vs : List Nat} : restL S0 (wipeL S vs) vs = restL S0 S vs := by
  apply List.ext_getElem?
  intro i
  rw [restL_get, restL_get]
  split
  · rw [wipeL_get, if_pos (by assumption)]
    cases S[i]? <;> rfl
  · rw [wipeL_get, if_neg (by assumption)]
/-- a block's turns begin by forgetting -/
theorem loop_wipe {vs : List Nat} {asg : D → Ev Unit} {test : Ev Bool} {elt : Ev D} {l acc res : List D} {S S1 S0 : List Slot} {G G1 : List MO} (h : loopLc vs asg test elt l acc S G = .ok res S1 G1) :
    ∃ S2, loopLc vs asg test elt l acc (wipeL S vs) G = .ok res S2 G1 ∧ restL S0 S2 vs = restL S0 S1 vs := by
  cases l with
  | nil =>
    cases h
    exact ⟨wipeL S vs, rfl, rest_wipe⟩
  | cons d r =>
    refine ⟨S1, ?_, rfl⟩
    rw [← h]
    unfold loopLc
    unfold Ev.bind wipeD
    simp only [Rs.andThen, wipeL_wipeL]

/-- one more address that is known from the beginning -/
def gd (A : Act) (a : Addr) (ho : HO) : Act := ⟨upd A.H a ho, A.ρ, A.Fr⟩
/-- an object that no data know -/
structure Junk (A : Act) (σ : Sv) (q : Pt) (a : Addr) : Prop where
  b : A.H a = none
  r : a ∉ q.ρ
  f : ¬ q.Fr a
  o : ∀ (i : Nat) (t : Slot), q.S[i]? = some t → t.own = true → σ[i]? ≠ some (some (.ref a))
section
variable {W : Wd} {A : Act} {XW : WX} {σ : Sv} {q : Pt} {a : Addr} {ho : HO}
theorem SR.putJ (s : SR W A σ q) (j : Junk A σ q a) (ho : HO) : SR W A σ (q.put a ho) ∧ Mp q (q.put a ho) := by
  have m : Mp q (q.put a ho) := mo_put j.f
  refine ⟨⟨⟨s.g.gl, s.g.nd, s.g.nf, fun n o e => ?_, fun b hf => ?_⟩, ⟨s.e.r, s.e.f, fun b o e hb => ?_, s.e.nr, s.e.nF⟩, s.sl, fun i d e => ?_, fun i t e ow => ?_, s.si⟩, m⟩
  · obtain ⟨b, o2, e1, e2, r⟩ := s.g.ob n o e
    exact ⟨b, o2, e1, (upd_ne (show b ≠ a from fun z => j.r (z ▸ List.mem_of_getElem? e1))).trans e2, r.mono m⟩
  · obtain ⟨o, e⟩ := s.g.ft b hf
    exact ⟨o, (upd_ne (show b ≠ a from fun z => j.f (z ▸ hf))).trans e⟩
  · exact (upd_ne fun z => by rw [z, j.b] at e; cases e).trans (s.e.k b o e hb)
  · obtain ⟨v, e1, r⟩ := s.sv i d e
    exact ⟨v, e1, r.mono m⟩
  · obtain ⟨b, o, e1, e2, r, f, q1, z⟩ := s.so i t e ow
    exact ⟨b, o, e1, (upd_ne (show b ≠ a from fun z => j.o i t e ow (z ▸ e1))).trans e2, r.mono m, f, q1, z⟩
theorem SR.guard (s : SR W A σ q) (j : Junk A σ q a) (e : q.H a = some ho) : SR W (gd A a ho) σ q := by
  have ne : ∀ b, b ≠ a → (gd A a ho).H b = A.H b := fun b hb => upd_ne hb
  refine ⟨s.g, ⟨s.e.r, s.e.f, fun b o e2 hb => ?_, fun b hb => ?_, fun b hb => ?_⟩, s.sl, s.sv, fun i t e2 ow => ?_, s.si⟩
  · by_cases z : b = a
    · subst z
      have : some ho = some o := (upd_same (H := A.H)).symm.trans e2
      rw [e, this]
    · rw [ne b z] at e2
      exact s.e.k b o e2 hb
  · rcases s.e.nr b hb with z | z
    · exact .inl z
    · exact .inr (by rw [ne b fun w => j.r (w ▸ hb)]; exact z)
  · rcases s.e.nF b hb with z | z
    · exact .inl z
    · exact .inr (by rw [ne b fun w => j.f (w ▸ hb)]; exact z)
  · obtain ⟨b, o, e1, e3, r, f, q1, z⟩ := s.so i t e2 ow
    exact ⟨b, o, e1, e3, r, f, q1, by rw [ne b fun w => j.o i t e2 ow (w ▸ e1)]; exact z⟩
theorem SR.unguard (s : SR W (gd A a ho) σ q) (hb : A.H a = none) (hr : a ∉ A.ρ) (hf : ¬ A.Fr a) : SR W A σ q ∧ Junk A σ q a ∧ q.H a = some ho := by
  have same : (gd A a ho).H a = some ho := upd_same
  have ne : ∀ b, b ≠ a → (gd A a ho).H b = A.H b := fun b hb => upd_ne hb
  have non : ∀ b, (gd A a ho).H b = none → A.H b = none := fun b e => by
    by_cases z : b = a
    · subst z; rw [same] at e; cases e
    · rw [← ne b z]; exact e
  have jr : a ∉ q.ρ := fun m => by
    rcases s.e.nr a m with z | z
    · exact hr z
    · rw [same] at z; cases z
  have jf : ¬ q.Fr a := fun m => by
    rcases s.e.nF a m with z | z
    · exact hf z
    · rw [same] at z; cases z
  refine ⟨⟨s.g, ⟨s.e.r, s.e.f, fun b o e hb2 => ?_, fun b m => ?_, fun b m => ?_⟩, s.sl, s.sv, fun i t e ow => ?_, s.si⟩, ⟨hb, jr, jf, fun i t e ow w => ?_⟩, s.e.k a ho same hr⟩
  · refine s.e.k b o ?_ hb2
    rw [ne b fun z => by rw [z, hb] at e; cases e]
    exact e
  · rcases s.e.nr b m with z | z
    · exact .inl z
    · exact .inr (non b z)
  · rcases s.e.nF b m with z | z
    · exact .inl z
    · exact .inr (non b z)
  · obtain ⟨b, o, e1, e3, r, f, q1, z⟩ := s.so i t e ow
    exact ⟨b, o, e1, e3, r, f, q1, non b z⟩
  · obtain ⟨b, o, e1, e3, r, f, q1, z⟩ := s.so i t e ow
    rw [w] at e1
    cases e1
    rw [same] at z; cases z
def Hp.del (H : Hp) (a : Addr) : Hp := fun b => if b = a then none else H b
theorem del_ne {H : Hp} {b : Addr} (h : b ≠ a) : Hp.del H a b = H b := if_neg h
theorem del_same {H : Hp} : Hp.del H a a = none := if_pos rfl
theorem upd_del {H : Hp} (h : H a = some ho) : upd (Hp.del H a) a ho = H := by
  funext b
  by_cases z : b = a
  · subst z; rw [upd_same, h]
  · rw [upd_ne z, del_ne z]
theorem SR.del (s : SR W A σ q) (j : Junk A σ q a) : SR W A σ { q with H := Hp.del q.H a } ∧ Mp q { q with H := Hp.del q.H a } := by
  have m : Mp q { q with H := Hp.del q.H a } := ⟨fun _ _ h => h, fun _ h => h, fun b hb => del_ne fun z => j.f (z ▸ hb)⟩
  refine ⟨⟨⟨s.g.gl, s.g.nd, s.g.nf, fun n o e => ?_, fun b hf => ?_⟩, ⟨s.e.r, s.e.f, fun b o e hb => ?_, s.e.nr, s.e.nF⟩, s.sl, fun i d e => ?_, fun i t e ow => ?_, s.si⟩, m⟩
  · obtain ⟨b, o2, e1, e2, r⟩ := s.g.ob n o e
    exact ⟨b, o2, e1, (del_ne (show b ≠ a from fun z => j.r (z ▸ List.mem_of_getElem? e1))).trans e2, r.mono m⟩
  · obtain ⟨o, e⟩ := s.g.ft b hf
    exact ⟨o, (del_ne (show b ≠ a from fun z => j.f (z ▸ hf))).trans e⟩
  · exact (del_ne fun z => by rw [z, j.b] at e; cases e).trans (s.e.k b o e hb)
  · obtain ⟨v, e1, r⟩ := s.sv i d e
    exact ⟨v, e1, r.mono m⟩
  · obtain ⟨b, o, e1, e2, r, f, q1, z⟩ := s.so i t e ow
    exact ⟨b, o, e1, (del_ne (show b ≠ a from fun z => j.o i t e ow (z ▸ e1))).trans e2, r.mono m, f, q1, z⟩
theorem SR.wipe (s : SR W A σ q) (vs : List Nat) : SR W A (L2.wipe σ vs) { q with S := wipeL q.S vs } := by
  have key : ∀ {i : Nat} {t : Slot}, (wipeL q.S vs)[i]? = some t → t ≠ .no → q.S[i]? = some t ∧ (L2.wipe σ vs)[i]? = σ[i]? := by
    intro i t e hn
    rw [wipeL_get] at e
    rw [wipe_get]
    split at e
    · cases h : q.S[i]? with
      | none => rw [h] at e; cases e
      | some u => rw [h] at e; cases e; exact absurd rfl hn
    · rw [if_neg (by assumption)]
      exact ⟨e, rfl⟩
  refine ⟨s.g, s.e, by show (wipeL q.S vs).length = _; rw [wipeL_len, wipe_length]; exact s.sl, fun i d e => ?_, fun i t e ow => ?_, fun i j b t u h1 h2 h3 h4 h5 h6 => ?_⟩
  · obtain ⟨e1, e2⟩ := key e (by simp)
    rw [e2]
    exact s.sv i d e1
  · obtain ⟨e1, e2⟩ := key e (fun z => by subst z; cases ow)
    rw [e2]
    exact s.so i t e1 ow
  · obtain ⟨e1, e2⟩ := key h1 (fun z => by subst z; cases h2)
    obtain ⟨e3, e4⟩ := key h3 (fun z => by subst z; cases h4)
    rw [e2] at h5
    rw [e4] at h6
    exact s.si i j b t u e1 h2 e3 h4 h5 h6
/-- a state whose names are forgotten has them forgotten -/
theorem SR.wiped {vs : List Nat} (s : SR W A (L2.wipe σ vs) q) : wipeL q.S vs = q.S := by
  apply List.ext_getElem?
  intro i
  rw [wipeL_get]
  split
  · rename_i hi
    cases e : q.S[i]? with
    | none => rfl
    | some t =>
      have hw : ∀ v, (L2.wipe σ vs)[i]? ≠ some (some v) := fun v h => by
        rw [wipe_get, if_pos hi] at h
        cases hs : σ[i]? with
        | none => rw [hs] at h; cases h
        | some u => rw [hs] at h; cases h
      cases t with
      | no => rfl
      | val d => obtain ⟨v, h, _⟩ := s.sv i d e; exact absurd h (hw v)
      | lst l => obtain ⟨b, o, h, _⟩ := s.so i _ e rfl; exact absurd h (hw _)
      | dic a b => obtain ⟨b, o, h, _⟩ := s.so i _ e rfl; exact absurd h (hw _)
  · rfl
end

/-- no exception is wished for -/
abbrev XF : WX := fun _ _ _ _ => False
theorem PE.any {X : Cx} {e : Expr} {ι : Type} {t : ι → TE} (h : ∀ i, PE X e (t i)) : PE X e (fun σ H Q => ∃ i, t i σ H Q) := ⟨fun pins s σ H Q I ⟨i, q⟩ => (h i).run pins s σ H Q I q⟩
theorem PTs.any {X : Cx} {e : List Expr} {ι : Type} {t : ι → TT} (h : ∀ i, PTs X e (t i)) : PTs X e (fun σ H Q => ∃ i, t i σ H Q) := ⟨fun pins s σ H Q I ⟨i, q⟩ => (h i).run pins s σ H Q I q⟩
theorem PG.any {X : Cx} {e : Expr} {ι : Type} {t : ι → TG} (h : ∀ i, PG X e (t i)) : PG X e (fun v σ H Q => ∃ i, t i v σ H Q) := ⟨fun pins s σ H v w Q I r ⟨i, q⟩ => (h i).run pins s σ H v w Q I r q⟩
section
variable {W : Wd} {T : Tb} {Φ : Fns} {k : Nat} {C : Cf} {X : Cx} {XW : WX} {A : Act} {σ : Sv}
/-- names as they were ahead of a block -/
theorem SR.rest {q0 q : Pt} {vs : List Nat} (s0 : SR W A σ q0) (s : SR W A (L2.wipe σ vs) q) (m : Mp q0 q) (hp : ∀ v ∈ vs, ∃ t, q0.S[v]? = some t ∧ t.plain = true) : SR W A σ { q with S := restL q0.S q.S vs } := by
  have len : q.S.length = σ.length := by rw [s.sl, wipe_length]
  have key : ∀ {i : Nat} {t : Slot}, (restL q0.S q.S vs)[i]? = some t → (i ∈ vs ∧ q0.S[i]? = some t ∧ t.plain = true) ∨ (i ∉ vs ∧ q.S[i]? = some t ∧ (L2.wipe σ vs)[i]? = σ[i]?) := by
    intro i t e
    rw [restL_get] at e
    split at e
    · rename_i hi
      obtain ⟨u, hu, hpl⟩ := hp i hi
      refine .inl ⟨hi, ?_⟩
      cases h : q.S[i]? with
      | none => rw [h] at e; cases e
      | some w =>
        rw [h] at e
        simp only [Option.map_some, Option.some.injEq] at e
        have : q0.S.getD i .no = u := by simp [List.getD, hu]
        rw [this] at e
        subst e
        exact ⟨hu, hpl⟩
    · rename_i hi
      exact .inr ⟨hi, e, by rw [wipe_get, if_neg hi]⟩
  refine ⟨s.g, s.e, by show (restL q0.S q.S vs).length = _; rw [restL_len]; exact len, fun i d e => ?_, fun i t e ow => ?_, fun i j b t u h1 h2 h3 h4 h5 h6 => ?_⟩
  · rcases key e with ⟨_, e1, _⟩ | ⟨_, e1, e2⟩
    · obtain ⟨v, h, r⟩ := s0.sv i d e1
      exact ⟨v, h, r.mono m⟩
    · rw [← e2]
      exact s.sv i d e1
  · rcases key e with ⟨_, e1, e2⟩ | ⟨_, e1, e2⟩
    · cases t with
      | no => cases ow
      | val d => cases ow
      | _ => cases e2
    · rw [← e2]
      exact s.so i t e1 ow
  · have go : ∀ {i : Nat} {t : Slot}, (restL q0.S q.S vs)[i]? = some t → t.own = true → q.S[i]? = some t ∧ (L2.wipe σ vs)[i]? = σ[i]? := by
      intro i t e ow
      rcases key e with ⟨_, e1, e2⟩ | ⟨_, e1, e2⟩
      · cases t with
        | no => cases ow
        | val d => cases ow
        | _ => cases e2
      · exact ⟨e1, e2⟩
    obtain ⟨e1, e2⟩ := go h1 h2
    obtain ⟨e3, e4⟩ := go h3 h4
    rw [← e2] at h5
    rw [← e4] at h6
    exact s.si i j b t u e1 h2 e3 h4 h5 h6
abbrev gLc (W : Wd) (t : Tg) : TG := fun v σ H Q => ∃ A, tgW W A XF t v σ H Q
abbrev tLcT (W : Wd) (m : Ev Bool) : TT := fun σ H Q => ∃ A, ttD W A XF m σ H Q
abbrev eLc (W : Wd) (m : Ev D) : TE := fun σ H Q => ∃ A, teS W A XF m σ H Q
theorem lc_read {mi : Ev (List D)} {t : Tg} {mt : Ev Bool} {me : Ev D} {vs : List Nat} {H : Hp} {Q : VK} (ht : ∀ i ∈ t.slots, i ∈ vs)
    (h : teN W A XW (mi.bind fun l => (inBlk vs (loopLc vs (asgT t) mt (me.bind settle) l [])).bind fun r => Ev.pure (.lst r)) σ H Q) : tLc (tiD W A XW mi) (gLc W t) (tLcT W mt) (eLc W me) vs σ H Q := by
  obtain ⟨p, rfl, h⟩ := h
  refine ⟨p, rfl, (wpD.bind h).mono fun l q0 s0 mo0 h J hJ z0 hD => ?_⟩
  have h := wpD.bind h
  -- the run is known
  obtain ⟨hpl, res, S1, G1, e0⟩ : (∀ v ∈ vs, ∃ t, q0.S[v]? = some t ∧ t.plain = true) ∧ ∃ res S1 G1, loopLc vs (asgT t) mt (me.bind settle) l [] q0.S q0.G = .ok res S1 G1 := by
    have hb := h.not_bad
    unfold inBlk at hb
    split at hb
    · rename_i hv
      refine ⟨fun v hm => ?_, ?_⟩
      · have := List.all_eq_true.mp hv v hm
        cases e : q0.S[v]? with
        | none => rw [e] at this; cases this
        | some t => rw [e] at this; exact ⟨t, rfl, this⟩
      · cases e : loopLc vs (asgT t) mt (me.bind settle) l [] q0.S q0.G with
        | ok r S G => exact ⟨r, S, G, rfl⟩
        | ex x S G => rw [e] at hb; exact absurd rfl hb
        | bad => rw [e] at hb; exact absurd rfl hb
    · exact absurd rfl hb
  have eB : inBlk vs (loopLc vs (asgT t) mt (me.bind settle) l []) q0.S q0.G = .ok res (restL q0.S S1 vs) G1 := by
    unfold inBlk
    rw [if_pos, e0]
    rw [List.all_eq_true]
    intro v hm
    obtain ⟨t, e1, e2⟩ := hpl v hm
    rw [e1]
    exact e2
  have h := h.known eB
  have j0 : Junk A σ q0 z0 := ⟨s0.nbase hD, s0.nro hD, s0.nfr hD, fun i t e o => s0.nown hD e o⟩
  have hr : z0 ∉ A.ρ := fun m => by
    obtain ⟨n, hn, e⟩ := List.getElem_of_mem m
    exact j0.r (List.mem_of_getElem? (s0.e.r n z0 (by rw [List.getElem?_eq_getElem hn, e])))
  have hf : ¬ A.Fr z0 := fun m => j0.f (s0.e.f z0 m)
  obtain ⟨sJ, mJ⟩ := s0.putJ j0 (.lst [])
  have jJ : Junk A σ (q0.put z0 (.lst [])) z0 := ⟨j0.b, j0.r, j0.f, j0.o⟩
  have sW := (sJ.guard jJ upd_same).wipe vs
  obtain ⟨S2, e2, e3⟩ := loop_wipe (S0 := q0.S) e0
  refine ⟨fun i m H' => ∃ (q : Pt) (ac : List D) (acc : List V), q.H = H' ∧ m = l.length - i ∧ i ≤ l.length ∧ RDs W q.ρ q.Fr q.H ac acc ∧ SR W (gd A z0 (.lst acc)) (L2.wipe σ vs) q ∧ Mp q0 q ∧ ∃ S2, loopLc vs (asgT t) mt (me.bind settle) (l.drop i) ac q.S q.G = .ok res S2 G1 ∧ restL q0.S S2 vs = restL q0.S S1 vs,
    ⟨l.length, { (q0.put z0 (.lst [])) with S := wipeL q0.S vs }, [], [], rfl, by simp, Nat.zero_le _, .nil, sW, mJ, S2, by rw [List.drop_zero]; exact e2, e3⟩, ?_⟩
  rintro i m H' ⟨q, ac, acc, rfl, rfl, hi, ra, sq, mq, S3, eL, eR⟩
  obtain ⟨su, jq, hq⟩ := sq.unguard j0.b hr hf
  by_cases hlt : i < l.length
  · have ed : l.drop i = l[i] :: l.drop (i + 1) := by rw [List.drop_eq_getElem_cons hlt]
    rw [ed] at eL
    refine .inr ⟨hJ.go i q.ρ q.Fr q.H hlt mq, fun H2 => ∃ (q2 : Pt) (ac : List D) (acc : List V), q2.H = H2 ∧ RDs W q2.ρ q2.Fr q2.H ac acc ∧ SR W (gd A z0 (.lst acc)) (L2.wipe σ vs) q2 ∧ Mp q0 q2 ∧ ∃ S2, loopLc vs (asgT t) mt (me.bind settle) (l.drop (i + 1)) ac q2.S q2.G = .ok res S2 G1 ∧ restL q0.S S2 vs = restL q0.S S1 vs,
      fun H2 ⟨q2, ac, acc, a1, a2, a3, a4, a5⟩ => ⟨l.length - (i + 1), by omega, q2, ac, acc, a1, rfl, hlt, a2, a3, a4, a5⟩, fun x H2 y => ?_⟩
    obtain ⟨q', rfl, f1, f2, s', m', r'⟩ := (hJ.mono mq).turn sq (List.getElem?_eq_getElem hlt) y
    unfold loopLc at eL
    obtain ⟨u0, Sa, Ga, w1, eL⟩ := Ev.bind_ok eL
    cases w1
    rw [sq.wiped] at eL
    obtain ⟨u1, Sb, Gb, w2, eL⟩ := Ev.bind_ok eL
    obtain ⟨b, Sc, Gc, w3, eL⟩ := Ev.bind_ok eL
    refine ⟨gd A z0 (.lst acc), q', l[i], rfl, r', s', ?_⟩
    rw [f1, f2, w2]
    intro σ2 q2 g1 g2 s2 m2 on
    refine ⟨(on vs ht).trans wipe_wipe, gd A z0 (.lst acc), q2, rfl, s2, ?_⟩
    rw [g1, g2, w3]
    intro q3 g3 g4 s3 m3
    have mq3 : Mp q q3 := m'.trans (m2.trans m3)
    cases b with
    | true =>
      rw [if_pos rfl] at eL
      dsimp only
      rw [if_pos rfl]
      obtain ⟨x', Sd, Gd, w4, eL⟩ := Ev.bind_ok eL
      refine ⟨gd A z0 (.lst acc), q3, rfl, s3, ?_⟩
      rw [g3, g4, w4]
      intro q4 g5 g6 s4 m4 v rv
      obtain ⟨su4, jq4, hq4⟩ := s4.unguard j0.b hr hf
      split at eL
      · rename_i hz
        have lac := ra.length
        refine ⟨acc, hq4, by rw [← lac]; exact hz, ?_⟩
        obtain ⟨sp, mp⟩ := su4.putJ jq4 (.lst (acc ++ [v]))
        have jp : Junk A σ2 (q4.put z0 (.lst (acc ++ [v]))) z0 := ⟨jq4.b, jq4.r, jq4.f, jq4.o⟩
        have sw := (sp.guard jp upd_same).wipe vs
        rw [(on vs ht).trans wipe_wipe] at sw
        obtain ⟨S5, e5, e6⟩ := loop_wipe (S0 := q0.S) eL
        have mm : Mp q q4 := mq3.trans m4
        refine ⟨{ (q4.put z0 (.lst (acc ++ [v]))) with S := wipeL q4.S vs }, ac ++ [x'], acc ++ [v], rfl, ((ra.mono mm).append (.one rv)).mono mp, sw, mq.trans (mm.trans mp), S5, ?_, e6.trans eR⟩
        rw [← g5, ← g6] at e5
        exact e5
      · cases eL
    | false =>
      rw [if_neg Bool.false_ne_true] at eL
      dsimp only
      rw [if_neg Bool.false_ne_true]
      have sw := s3.wipe vs
      rw [(on vs ht).trans wipe_wipe] at sw
      obtain ⟨S5, e5, e6⟩ := loop_wipe (S0 := q0.S) eL
      refine ⟨{ q3 with S := wipeL q3.S vs }, ac, acc, rfl, ra.mono mq3, sw, mq.trans mq3, S5, ?_, e6.trans eR⟩
      rw [← g3, ← g4] at e5
      exact e5
  · have e : i = l.length := by omega
    subst e
    rw [List.drop_length] at eL
    cases eL
    refine .inl ⟨hJ.stop q.ρ q.Fr q.H mq, ?_⟩
    obtain ⟨sd, md⟩ := su.del jq
    have md0 : Mp q0 { q with H := Hp.del q.H z0 } := mq.trans md
    have sf := SR.rest s0 sd md0 hpl
    have h2 := h.2
    rw [eB] at h2
    obtain ⟨_, _, _, h3⟩ := h2 { q with H := Hp.del q.H z0, S := restL q0.S q.S vs } eR rfl sf md0
    have h4 := wpD.pure (a := D.lst res) h3 (.ref z0) (upd (Hp.del q.H z0) z0 (.lst acc)) (.new del_same ⟨acc, rfl, (ra.mono md)⟩)
    rw [upd_del hq] at h4
    exact h4

/-- the block's context -/
theorem xo_blk (hx : XO W T Φ k C X XW) {s : Shared} {H : Hp} {scope : Scope} {Ca : Addr} {cl : List (Str × Addr)} {fp : List Addr} : XO W T Φ k ⟨C.N, relS scope C.sc, scope, none⟩ (X.blk s H scope (compEnvC scope cl Ca X.env) fp) XF := by
  obtain ⟨wd, nm, sc, nd, calm, rm, tk, po, tb, _, _⟩ := hx
  refine ⟨wd, nm, ?_, nd, calm, rm, fun u s' x => ?_, PassesOwn.never, tb, .inr rfl, fun _ z => (nomatch z)⟩
  · show relS scope X.env.scope = relS scope C.sc
    rw [sc]
  · obtain ⟨_, _, _, _, _, _, _, _, _, _, _, _, _, _, _, _, w⟩ := x
    exact w.elim
theorem n_lc (hx : XO W T Φ k C X XW) {elt tg iter : Expr} {ifs : List Expr} {scope : Scope} {own : List (Str × Nat)} {pos : Pos} {mi : Ev (List D)} {t : Tg} {mt : Ev Bool} {me : Ev D} (hi : PI X tg iter (tiD W A XW mi)) (ok : BlkOk C.N C.sc scope own) (ht : ∀ i ∈ t.slots, i ∈ own.map (·.2))
    (hg : ∀ A X', XO W T Φ k ⟨C.N, relS scope C.sc, scope, none⟩ X' XF → PG X' tg (tgW W A XF t)) (hif : ∀ A X', XO W T Φ k ⟨C.N, relS scope C.sc, scope, none⟩ X' XF → PTs X' ifs (ttD W A XF mt))
    (he : ∀ A X', XO W T Φ k ⟨C.N, relS scope C.sc, scope, none⟩ X' XF → PE X' elt (teD W A XF me)) (hs : ∀ x, foldedSetIterable iter X.env x = pure x) :
    PE X (.ListComp elt [⟨tg, iter, ifs, 0⟩] scope pos) (teN W A XW (mi.bind fun l => (inBlk (own.map (·.2)) (loopLc (own.map (·.2)) (asgT t) mt (me.bind settle) l [])).bind fun r => Ev.pure (.lst r))) :=
  PE.imp (pe_lc hx.calm hx.nd hi (by rw [hx.nm, hx.sc]; exact ok) (fun s H Ca cl fp => PG.any fun A => hg A _ (xo_blk hx)) (fun s H Ca cl fp => PTs.any fun A => hif A _ (xo_blk hx)) (fun s H Ca cl fp => PE.any fun A => PE.toS (he A _ (xo_blk hx))) hs) fun σ H Q => lc_read ht
end
end Mi

end
section
set_option Elab.async false
set_option linter.all false
set_option maxRecDepth 100000
set_option maxHeartbeats 1000000
/-! Mi17: statements. -/
namespace Mi
open PySem PySem.Spec PyProof.Rows L2

def noComp : Expr → Bool
  | .ListComp _ _ _ _ => false
  | .SetComp _ _ _ _ => false
  | .DictComp _ _ _ _ _ => false
  | _ => true
theorem swaps_no {e : Expr} {t : Option Expr} {l : Nat} {env : Env} (h : noComp e = true) : swapsWith e t l env = pure false := by
  cases e <;> first | rfl | cases h
section
variable {W : Wd} {T : Tb} {Φ : Fns} {k : Nat} {C : Cf} {X : Cx} {XW : WX} {A : Act} {σ : Sv}
theorem s_pass {pos : Pos} : PS X (.Pass pos) (tsD W A XW (Ev.pure .nx)) := PS.imp ps_pass fun E σ H => by
  rintro ⟨p, rfl, h⟩; exact wpS.pure (a := Fl.nx) h
theorem s_brk {pos : Pos} : PS X (.Break pos) (tsD W A XW (Ev.pure .bk)) := PS.imp ps_break fun E σ H => by
  rintro ⟨p, rfl, h⟩; exact wpS.pure (a := Fl.bk) h
theorem s_cont {pos : Pos} : PS X (.Continue pos) (tsD W A XW (Ev.pure .ct)) := PS.imp ps_continue fun E σ H => by
  rintro ⟨p, rfl, h⟩; exact wpS.pure (a := Fl.ct) h
theorem s_bad {st : Stmt} : PS X st (tsD W A XW Ev.bad) := PS.imp ps_never fun E σ H => by
  rintro ⟨p, rfl, h⟩; exact h.bad
theorem s_ret {e : Expr} {pos : Pos} {m : Ev D} (he : PE X e (teD W A XW m)) : PS X (.Return (some e) pos) (tsD W A XW (m.bind fun d => (settle d).bind fun d => Ev.pure (.rt d))) := PS.imp (ps_ret (PE.toS he)) fun E σ H => by
  rintro ⟨p, rfl, h⟩
  rw [← Ev.bind_assoc] at h
  exact ⟨p, rfl, (wpS.bindD h).mono fun d q s mo h v r => wpS.pure (a := Fl.rt d) h v r⟩
theorem s_retN {pos : Pos} : PS X (.Return none pos) (tsD W A XW (Ev.pure (.rt .non))) := PS.imp ps_retN fun E σ H => by
  rintro ⟨p, rfl, h⟩; exact wpS.pure (a := Fl.rt .non) h .non (by simp only [RD])
theorem s_ex {e : Expr} {pos : Pos} {m : Ev D} (hn : noComp e = true) (he : PE X e (teD W A XW m)) : PS X (.Expr e pos) (tsD W A XW (m.bind fun _ => Ev.pure .nx)) := PS.imp (ps_expr he (swaps_no hn)) fun E σ H => by
  rintro ⟨p, rfl, h⟩
  exact ⟨p, rfl, (wpS.bindD h).mono fun d q s mo h v r => wpS.pure (a := Fl.nx) h⟩
theorem s_if {c : Expr} {a b : List Stmt} {pos : Pos} {mc : Ev Bool} {ma mb : Ev Fl} (hc : PT X c (ttD W A XW mc)) (ha : PSs X a (tsD W A XW ma)) (hb : PSs X b (tsD W A XW mb)) : PS X (.If c a b pos) (tsD W A XW (mc.bind fun t => if t = true then ma else mb)) := PS.imp (ps_if hc ha hb) fun E σ H => by
  rintro ⟨p, rfl, h⟩
  refine ⟨p, rfl, (wpS.bindD h).mono fun c q s mo h => ?_⟩
  cases c with
  | true => exact ⟨q, rfl, h⟩
  | false => exact ⟨q, rfl, h⟩
theorem ss_nil : PSs X [] (tsD W A XW (Ev.pure .nx)) := PSs.imp pss_nil fun E σ H => by
  rintro ⟨p, rfl, h⟩; exact wpS.pure (a := Fl.nx) h
theorem ss_cons {st : Stmt} {rest : List Stmt} {m n : Ev Fl} (h1 : PS X st (tsD W A XW m)) (h2 : PSs X rest (tsD W A XW n)) : PSs X (st :: rest) (tsD W A XW (m.bind fun f => match f with
    | .nx => n
    | f => Ev.pure f)) := PSs.imp (pss_cons h1 h2) fun E σ H => by
  rintro ⟨p, rfl, h⟩
  refine ⟨p, rfl, (wpS.bind h).mono fun f σ' q s mo h => ?_⟩
  cases f with
  | nx => exact ⟨q, rfl, h⟩
  | bk => exact wpS.pure (a := Fl.bk) h
  | ct => exact wpS.pure (a := Fl.ct) h
  | rt d => exact wpS.pure (a := Fl.rt d) h
/-! ### names -/
/-- a value goes to a name: any value -/
theorem asg_old {i : Nat} {d : D} {v : V} {p : Pt} {R : Unit → Sv → Pt → Prop} (h : wpS W A XW σ ((settle d).bind fun d => ownSet i (.val d)) p R) (r : RO W p.ρ p.Fr p.H σ d v) : ∃ q : Pt, q.H = p.H ∧ R () (σ.set i (some v)) q := by
  obtain ⟨d', q, e1, s', mo', r', _, h'⟩ := settle_ok (wpS.bindD h) r
  exact ⟨{ q with S := q.S.set i (.val d') }, e1, wpS.ownSet h' r'⟩
/-- .. a new one -/
theorem asg_new {i : Nat} {d : D} {v : V} {p : Pt} {H' : Hp} {R : Unit → Sv → Pt → Prop} (h : wpS W A XW σ (asgN true i d) p R) (r : Res W σ p d v H') : ∃ q : Pt, q.H = H' ∧ R () (σ.set i (some v)) q := by
  have own : ∀ {u : Slot} {a : Addr} {ho : HO}, wpS W A XW σ (ownSet i u) p R → u.own = true → p.H a = none → OR W p.ρ p.Fr p.H a u ho → ∃ q : Pt, q.H = upd p.H a ho ∧ R () (σ.set i (some (.ref a))) q := by
    intro u a ho h ou ha o
    have h2 := h.2
    unfold Mi.ownSet at h2
    by_cases hi : i < p.S.length
    · rw [if_pos hi] at h2
      obtain ⟨s', m'⟩ := h.1.setNew hi ha ou o
      exact ⟨{ (p.put a ho) with S := p.S.set i u }, rfl, h2 _ { (p.put a ho) with S := p.S.set i u } rfl rfl s' m'⟩
    · rw [if_neg hi] at h2
      exact h2.elim
  cases r with
  | old hc ro =>
    cases d with
    | lst l => cases hc
    | dic ks xs => cases hc
    | _ =>
      obtain ⟨q, e, h⟩ := asg_old (show wpS W A XW σ ((settle _).bind fun d => ownSet i (.val d)) p R from h) ro
      exact ⟨q, e, h⟩
  | @new a ho hp n =>
    cases d with
    | lst l =>
      obtain ⟨vs, rfl, r⟩ := n
      exact own (u := .lst l) h rfl hp ⟨vs, rfl, r⟩
    | dic ks xs =>
      obtain ⟨kvs, vs, dd, r1, r2⟩ := n
      exact own (u := .dic ks xs) h rfl hp ⟨kvs, vs, dd, r1, r2⟩
    | tup l =>
      have s' := h.1.newF (ho := ho) hp
      have m' := h.1.newM (ho := ho) hp
      obtain ⟨q, e, h⟩ := asg_old (show wpS W A XW σ ((settle (.tup l)).bind fun d => ownSet i (.val d)) ((p.put a ho).frz a) R from h.at s' rfl rfl m') (RO.of (n.rd h.1 hp))
      exact ⟨q, e, h⟩
    | _ => exact n.elim
theorem asg_read {fr : Bool} {i : Nat} {m : Ev D} {E : Ends} {H : Hp} (h : tsD W A XW (m.bind fun d => (asgN fr i d).bind fun _ => Ev.pure .nx) E σ H) : tAsg (if fr = true then teN W A XW m else teD W A XW m) (gName i) E σ H := by
  obtain ⟨p, rfl, h⟩ := h
  cases fr with
  | true =>
    refine ⟨p, rfl, (wpS.bindD h).mono fun d q s mo h v H' r => ?_⟩
    obtain ⟨q', e, h⟩ := asg_new (wpS.bind h) r
    have := wpS.pure (a := Fl.nx) h
    rw [e] at this
    exact this
  | false =>
    refine ⟨p, rfl, (wpS.bindD h).mono fun d q s mo h v r => ?_⟩
    have h : wpS W A XW σ (((settle d).bind fun d => ownSet i (.val d)).bind fun _ => Ev.pure Fl.nx) q _ := h
    obtain ⟨q', e, h⟩ := asg_old (wpS.bind h) r
    have := wpS.pure (a := Fl.nx) h
    rw [e] at this
    exact this
theorem s_asg (hx : XO W T Φ k C X XW) {i : Nat} {x : Str} {e : Expr} {pos pos' : Pos} {fr : Bool} {m : Ev D} (hi : X.N[i]? = some x) (hl : Loc X.env.scope x) (hf : X.fn x = true ∨ X.env.scope.names.lookup x = some .local) (hs : swapsWith e (some (.Name x pos')) pos.line X.env = pure false)
    (he : PE X e (if fr = true then teN W A XW m else teD W A XW m)) : PS X (.Assign [.Name x pos'] e pos) (tsD W A XW (m.bind fun d => (asgN fr i d).bind fun _ => Ev.pure .nx)) := PS.imp (ps_set hx.nd hi hl he hs hf) fun E σ H => asg_read
/-- name = [.. for ..] on one line -/
theorem s_asgLc (hx : XO W T Φ k C X XW) {i : Nat} {y : Str} {py spos : Pos} {elt tg iter : Expr} {ifs : List Expr} {scope : Scope} {own : List (Str × Nat)} {pos : Pos} {mi : Ev (List D)} {t : Tg} {mt : Ev Bool} {me : Ev D} (hi : PI X tg iter (tiD W A XW mi)) (ok : BlkOk C.N C.sc scope own) (ht : ∀ i ∈ t.slots, i ∈ own.map (·.2))
    (hg : ∀ A X', XO W T Φ k ⟨C.N, relS scope C.sc, scope, none⟩ X' XF → PG X' tg (tgW W A XF t)) (hif : ∀ A X', XO W T Φ k ⟨C.N, relS scope C.sc, scope, none⟩ X' XF → PTs X' ifs (ttD W A XF mt))
    (he : ∀ A X', XO W T Φ k ⟨C.N, relS scope C.sc, scope, none⟩ X' XF → PE X' elt (teD W A XF me)) (hs : ∀ x, foldedSetIterable iter X.env x = pure x)
    (hy : X.N[i]? = some y) (hyl : X.env.scope.names.lookup y = some .local) (hsw : swapsWith (.ListComp elt [⟨tg, iter, ifs, 0⟩] scope pos) (some (.Name y py)) spos.line X.env = pure true) :
    PS X (.Assign [.Name y py] (.ListComp elt [⟨tg, iter, ifs, 0⟩] scope pos) spos) (tsD W A XW ((mi.bind fun l => (inBlk (own.map (·.2)) (loopLc (own.map (·.2)) (asgT t) mt (me.bind settle) l [])).bind fun r => Ev.pure (.lst r)).bind fun d => (asgN true i d).bind fun _ => Ev.pure .nx)) :=
  PS.imp (ps_setLc hx.calm hx.nd hy hyl hsw hi (by rw [hx.nm, hx.sc]; exact ok) (fun s H Ca cl fp => PG.any fun A => hg A _ (xo_blk hx)) (fun s H Ca cl fp => PTs.any fun A => hif A _ (xo_blk hx)) (fun s H Ca cl fp => PE.any fun A => PE.toS (he A _ (xo_blk hx))) hs) fun E σ H h => by
    have h := asg_read (fr := true) h
    exact lc_read ht h
/-- (a, b) = e -/
theorem s_tp {tg e : Expr} {pos : Pos} {t : Tg} {m : Ev D} (he : PE X e (teD W A XW m)) (hg : PG X tg (tgW W A XW t)) (hs : swapsWithSole [tg] e pos.line X.env = pure false) (hw : swappedStores [tg] e X.env = pure none)
    (h1 : (assignEach [tg] X.env).map (·.2) = [assign tg X.env]) : PS X (.Assign [tg] e pos) (tsD W A XW (m.bind fun d => ((settle d).bind fun d => asgT t d).bind fun _ => Ev.pure .nx)) := PS.imp (ps_asg he hg hs hw h1) fun E σ H => by
  rintro ⟨p, rfl, h⟩
  refine ⟨p, rfl, (wpS.bindD h).mono fun d q s mo h v r => ?_⟩
  obtain ⟨d', q', e1, s', mo', r', _, h'⟩ := settle_ok (wpS.bindD (wpS.bind h)) r
  exact ⟨q', d', e1, r', h'.mono fun _ σ' q2 s2 mo2 h _ => wpS.pure (a := Fl.nx) h⟩

/-! ### fields -/
theorem putFld_rel {ρ : List Addr} {Fr : Addr → Prop} {H : Hp} {f : Str} {x : D} {v : V} (r : RD W ρ Fr H x v) : ∀ {fs : List (Str × D)} {gs : List (Str × V)}, Flds W ρ Fr H fs gs → Flds W ρ Fr H (putFld fs f x) (putF f v gs)
  | [], gs, h => by
    have : gs = [] := by
      have := h.1
      cases gs with
      | nil => rfl
      | cons g gs => cases this
    subst this
    exact ⟨rfl, .one r⟩
  | (g, y) :: fs, gs, h => by
    cases gs with
    | nil => have := h.1; cases this
    | cons g' gs =>
      obtain ⟨h1, h2⟩ := h
      obtain ⟨gk, gv⟩ := g'
      simp only [List.map_cons, List.cons.injEq] at h1
      obtain ⟨a1, a2⟩ := h1
      obtain ⟨b, c, e, r1, r2⟩ := h2.inv
      simp only [List.map_cons, List.cons.injEq] at e
      obtain ⟨rfl, rfl⟩ := e
      have a1 : g = gk := a1
      subst a1
      unfold putFld putF
      by_cases q : g = f
      · rw [if_pos q, if_pos q]
        exact ⟨by simp only [List.map_cons, a2, q], .cons r r2⟩
      · rw [if_neg q, if_neg q]
        obtain ⟨i1, i2⟩ := putFld_rel r (show Flds W ρ Fr H fs gs from ⟨a2, r2⟩)
        exact ⟨by simp only [List.map_cons, i1], .cons r1 i2⟩
theorem flds_len {ρ : List Addr} {Fr : Addr → Prop} {H : Hp} {fs : List (Str × D)} {gs : List (Str × V)} (h : Flds W ρ Fr H fs gs) : gs.length = fs.length := by
  have := congrArg List.length h.1
  simpa using this.symm
/-- a field is stored -/
theorem setFld_ok (hx : XO W T Φ k C X XW) {d x : D} {v y : V} {f : Str} {q : Pt} {α : Type} {z : α} {R : α → Sv → Pt → Prop} (h : wpS W A XW σ ((setFld Φ.fok d f x).bind fun _ => Ev.pure z) q R) (rd : RO W q.ρ q.Fr q.H σ d v) (rx : RD W q.ρ q.Fr q.H x y) :
    ∃ (a Ca dx : Addr) (gs : List (Str × V)), v = .ref a ∧ q.H a = some (.ins Ca dx gs) ∧ Cls X.K Ca ∧ NoAttr X.K Ca f ∧ gs.length < 1000 ∧ ∃ q' : Pt, q'.H = upd q.H a (.ins Ca dx (putF f y gs)) ∧ R z σ q' := by
  obtain rfl : W = wdOf X := hx.wd.symm
  have s := h.1
  have h2 := h.2
  cases d with
  | ref n =>
    cases eg : q.G[n]? with
    | none => simp only [setFld, Ev.bind, Rs.andThen, eg] at h2
    | some o =>
      cases o with
      | ins Cn fs =>
        by_cases hok : Φ.fok Cn f = true ∧ fs.length < 1000
        · simp only [setFld, Ev.bind, Rs.andThen, eg, if_pos hok, Ev.pure] at h2
          have rd : ∃ a, q.ρ[n]? = some a ∧ v = .ref a := by simpa only [RO, RD] using rd
          obtain ⟨a, h1, rfl⟩ := rd
          obtain ⟨b, ho, e2, h3, Ca, dx, gs, h4, rfl, h5⟩ := s.g.ob n _ eg
          rw [h1] at e2
          cases e2
          obtain ⟨c1, c2⟩ := hx.tb.fld Cn f hok.1 Ca h4
          obtain ⟨s', m'⟩ := s.setG (o' := .ins Cn (putFld fs f x)) (ho := .ins Ca dx (putF f y gs)) eg h1 ⟨Ca, dx, _, h4, rfl, putFld_rel rx h5⟩
          exact ⟨a, Ca, dx, gs, rfl, h3, c1, c2, by rw [flds_len h5]; exact hok.2, { (q.put a (.ins Ca dx (putF f y gs))) with G := q.G.set n (.ins Cn (putFld fs f x)) }, rfl, h2 σ { (q.put a (.ins Ca dx (putF f y gs))) with G := q.G.set n (.ins Cn (putFld fs f x)) } rfl rfl s' m'⟩
        · simp only [setFld, Ev.bind, Rs.andThen, eg, if_neg hok] at h2
      | _ => simp only [setFld, Ev.bind, Rs.andThen, eg] at h2
  | _ => simp only [setFld, Ev.bind, Rs.andThen] at h2
theorem s_asgF (hx : XO W T Φ k C X XW) {o e : Expr} {f : Str} {pos pos' : Pos} {me mo : Ev D} (hn : noComp e = true) (ho : PE X o (teD W A XW mo)) (he : PE X e (teD W A XW me)) :
    PS X (.Assign [.Attribute o f pos'] e pos) (tsD W A XW (me.bind fun x => (settle x).bind fun x => mo.bind fun d => (setFld Φ.fok d f x).bind fun _ => Ev.pure .nx)) := PS.imp (ps_fld ho he (swaps_no hn)) fun E σ H => by
  rintro ⟨p, rfl, h⟩
  refine ⟨p, rfl, (wpS.bindD h).mono fun d q s mo h v r => ?_⟩
  obtain ⟨d', q', e1, s', mo', r', _, h'⟩ := settle_ok (wpS.bindD h) r
  refine ⟨q', e1, (wpS.bindD h').mono fun o q2 s2 mo2 h u ro => ?_⟩
  obtain ⟨a, Ca, dx, gs, rfl, h1, h2, h3, h4, q3, e3, h5⟩ := setFld_ok hx h ro (RD.mono mo2 _ _ r')
  refine ⟨a, Ca, dx, gs, rfl, h1, h2, h3, h4, ?_⟩
  rw [← e3]
  exact h5
/-- o.f op= j, of ints -/
theorem s_augF (hx : XO W T Φ k C X XW) {o : Expr} {f : Str} {op : Operator} {o2 : Op2} {g : Int → Int → Int} {pos tpos : Pos} {mo : Ev D} {j : Int} {e : Expr} (hop : InOp X op fun x y H Q => ∃ i j, x = .int i ∧ y = .int j ∧ Q (.int (g i j)) H)
    (hg : ∀ S G x z, op2 o2 S G x (.int j) = some z → ∀ i, x = .int i → z = .int (g i j)) (hg2 : ∀ S G x z, op2 o2 S G x (.int j) = some z → (∃ i, x = .int i) ∨ o2 = .mul) (hm : o2 ≠ .mul) (ho : PE X o (teD W A XW mo)) (he : PE X e (teD W A XW (Ev.pure (.int j)))) :
    PS X (.AugAssign (.Attribute o f tpos) op e pos) (tsD W A XW (mo.bind fun d => (Ev.look fun _ G => fldOf Φ.fok G d f).bind fun x => (Ev.pure (.int j)).bind fun y => (Ev.look fun σ G => op2 o2 σ G x y).bind fun z => (setFld Φ.fok d f z).bind fun _ => Ev.pure .nx)) := PS.imp (ps_fldaug ho he hop) fun E σ H => by
  obtain rfl : W = wdOf X := hx.wd.symm
  rintro ⟨p, rfl, h⟩
  refine ⟨p, rfl, (wpS.bindD h).mono fun d q s mo h v r => ?_⟩
  obtain ⟨z, e1, h⟩ := (wpS.bindD h).look
  have h := h q rfl rfl s Mo.refl
  cases d with
  | ref n =>
    simp only [fldOf] at e1
    cases eg : q.G[n]? with
    | none => rw [eg] at e1; cases e1
    | some ob =>
      rw [eg] at e1
      cases ob with
      | ins Cn fs =>
        simp only at e1
        split at e1
        · rename_i hok
          have rr : ∃ a, q.ρ[n]? = some a ∧ v = .ref a := by simpa only [RO, RD] using r
          obtain ⟨a, h1, rfl⟩ := rr
          obtain ⟨b, ho', e2, h3, Ca, dx, gs, h4, rfl, h5⟩ := s.g.ob n _ eg
          rw [h1] at e2
          cases e2
          obtain ⟨c1, c2⟩ := hx.tb.fld Cn f hok Ca h4
          obtain ⟨v', h6, h7⟩ := look_some h5.1 h5.2 e1
          have hd := (wpS.bindD h).known (show (Ev.pure (D.int j) : Ev D) q.S q.G = .ok (.int j) q.S q.G from rfl)
          refine ⟨a, Ca, dx, gs, _, rfl, h3, c1, c2, h6, q, rfl, hd.mono fun y q2 s2 mo2 h u ry => ?_⟩
          obtain ⟨rfl, eS, eG, h⟩ := h
          obtain ⟨w, e3, h⟩ := (wpS.bindD h).look
          have h := h q2 rfl rfl s2 Mo.refl
          have hzi : ∃ i, z = .int i := (hg2 _ _ _ _ e3).resolve_right hm
          obtain ⟨i, rfl⟩ := hzi
          have := hg _ _ _ _ e3 i rfl
          subst this
          simp only [RD] at h7
          subst h7
          refine ⟨i, j, rfl, ry.int, ?_⟩
          obtain ⟨a', Ca', dx', gs', ea, k1, k2, k3, k4, q3, e3, h5'⟩ := setFld_ok hx h (r.mono mo2) (y := .int (g i j)) (by simp only [RD])
          cases ea
          have hC : Ca' = Ca := by
            have eg2 : q2.G[n]? = some (.ins Cn fs) := by rw [eG]; exact eg
            obtain ⟨b, ho', e2, h3', Ca2, dx2, gs2, h4', rfl, h5⟩ := s2.g.ob n _ eg2
            have := mo2.r n a h1
            rw [this] at e2
            cases e2
            rw [k1] at h3'
            cases h3'
            rw [h4] at h4'
            cases h4'
            rfl
          subst hC
          refine ⟨dx', gs', k1, k4, ?_⟩
          rw [← e3]
          exact h5'
        · cases e1
      | _ => cases e1
  | _ => cases e1
/-! ### name op= e -/
def rAug (K : PySem.W.Frag) : R2 := fun x y H Q => rI0 (fun i j => .int (i + j)) x y H Q ∨ (∃ i j, x = .str i ∧ y = .str j ∧ i.length + j.length ≤ sizeLine ∧ Q (.str (i ++ j)) H) ∨ rExt2 x y H Q
theorem iop_aug : OpR X (inplaceOp .Add) (rAug X.K) := iop_add.or (iop_add_str.or iop_ext)
theorem var_some {i : Nat} {p : Pt} {R : D → Pt → Prop} (h : wpD W A XW σ (evVar i) p R) : ∃ v, σ[i]? = some (some v) := by
  obtain ⟨s, h⟩ := h
  unfold evVar at h
  cases e : p.S[i]? with
  | none => simp only [e] at h
  | some t =>
    simp only [e] at h
    cases t with
    | no => exact h.elim
    | val d =>
      obtain ⟨v, h1, _⟩ := s.sv i d e
      exact ⟨v, h1⟩
    | lst l =>
      obtain ⟨a, ho, h1, _⟩ := s.so i _ e rfl
      exact ⟨_, h1⟩
    | dic ks xs =>
      obtain ⟨a, ho, h1, _⟩ := s.so i _ e rfl
      exact ⟨_, h1⟩
theorem set_same {σ : Sv} {i : Nat} {x : Option V} (h : σ[i]? = some x) : σ.set i x = σ := by
  apply List.ext_getElem?
  intro j
  rw [List.getElem?_set]
  split
  · rename_i e
    subst e
    have := (List.getElem?_eq_some_iff.mp h).1
    rw [if_pos this, h]
  · rfl
theorem op_add_int {S : List Slot} {G : List MO} {d x : D} {z : Int} (e : op2 .add S G d x = some (.int z)) : ∃ i j, d = .int i ∧ x = .int j ∧ z = i + j := by
  have bad : (match ct S G d, ct S G x with
    | .str x, .str y => if x.length + y.length ≤ sizeLine then some (D.str (x ++ y)) else none
    | .tup x, .tup y => tupOk (x ++ y)
    | .lst x, .lst y => lstOk (x ++ y)
    | _, _ => none) ≠ some (.int z) := by
    intro h
    split at h
    · split at h <;> cases h
    · unfold tupOk at h; split at h <;> cases h
    · unfold lstOk at h; split at h <;> cases h
    · cases h
  cases d with
  | int i =>
    cases x with
    | int j => cases e; exact ⟨i, j, rfl, rfl, rfl⟩
    | _ => exact absurd e bad
  | _ => exact absurd e bad
theorem op_add_str {S : List Slot} {G : List MO} {d x : D} {z : Str} (e : op2 .add S G d x = some (.str z)) : ∃ a b, ct S G d = .str a ∧ ct S G x = .str b ∧ z = a ++ b ∧ a.length + b.length ≤ sizeLine := by
  have key : (match ct S G d, ct S G x with
    | .str x, .str y => if x.length + y.length ≤ sizeLine then some (D.str (x ++ y)) else none
    | .tup x, .tup y => tupOk (x ++ y)
    | .lst x, .lst y => lstOk (x ++ y)
    | _, _ => none) = some (.str z) → ∃ a b, ct S G d = .str a ∧ ct S G x = .str b ∧ z = a ++ b ∧ a.length + b.length ≤ sizeLine := by
    intro h
    split at h
    · rename_i e1 e2
      split at h
      · rename_i hz
        cases h
        exact ⟨_, _, e1, e2, rfl, hz⟩
      · cases h
    · unfold tupOk at h; split at h <;> cases h
    · unfold lstOk at h; split at h <;> cases h
    · cases h
  cases d with
  | int i =>
    cases x with
    | int j => cases e
    | _ => exact key e
  | _ => exact key e
theorem s_augAdd (hx : XO W T Φ k C X XW) {i : Nat} {x : Str} {e : Expr} {pos pos' : Pos} {m : Ev D} (hi : X.N[i]? = some x) (hl : Loc X.env.scope x) (hf : X.fn x = true ∨ X.env.scope.names.lookup x = some .local) (he : PE X e (teD W A XW m)) :
    PS X (.AugAssign (.Name x pos') .Add e pos) (tsD W A XW ((evVar i).bind fun _ => m.bind fun x => (augN i .add x).bind fun _ => Ev.pure .nx)) := PS.imp (ps_aug hx.nd hi hl he iop_aug hf) fun E σ H => by
  obtain rfl : W = wdOf X := hx.wd.symm
  rintro ⟨p, rfl, h⟩
  have h0 := wpS.bindD h
  obtain ⟨v, hv⟩ := var_some h0
  have h1 : wpS (wdOf X) A XW σ (m.bind fun x => (augN i .add x).bind fun _ => Ev.pure Fl.nx) p fun f σ' q => match f with
      | Fl.nx => E.nx σ' q.H
      | Fl.bk => E.bk σ' q.H
      | Fl.ct => E.ct σ' q.H
      | Fl.rt d => ∀ (v : V), RD (wdOf X) q.ρ q.Fr q.H d v → E.rt v q.H := by
    have h2 := h0.2
    unfold evVar at h2
    cases e : p.S[i]? with
    | none => simp only [e] at h2
    | some t =>
      simp only [e] at h2
      cases t with
      | no => exact h2.elim
      | val d => exact h2 p rfl rfl h0.1 Mo.refl
      | lst l => exact h2 p rfl rfl h0.1 Mo.refl
      | dic ks xs => exact h2 p rfl rfl h0.1 Mo.refl
  refine ⟨v, hv, p, rfl, (wpS.bindD h1).mono fun y q s mo h u ry => ?_⟩
  have h := wpS.bind h
  have h2 := h.2
  unfold augN at h2
  cases es : q.S[i]? with
  | none => simp only [es] at h2
  | some t =>
    have hi' : i < q.S.length := (List.getElem?_eq_some_iff.mp es).1
    cases t with
    | no => simp only [es] at h2
    | dic ks xs => simp only [es] at h2
    | val d =>
      simp only [es] at h2
      obtain ⟨v', hv', rd⟩ := s.sv i d es
      rw [hv] at hv'
      cases hv'
      cases eo : op2 .add q.S q.G d y with
      | none => simp only [eo] at h2
      | some z =>
        cases z with
        | int z =>
          simp only [eo] at h2
          obtain ⟨a, b, rfl, rfl, rfl⟩ := op_add_int eo
          simp only [RD] at rd
          subst rd
          have s' := s.setVal (d := .int (a + b)) (v := .int (a + b)) hi' (by simp only [RD])
          exact .inl ⟨a, b, rfl, ry.int, wpS.pure (a := Fl.nx) (h2 _ { q with S := q.S.set i (.val (.int (a + b))) } rfl rfl s' Mo.refl)⟩
        | str z =>
          simp only [eo] at h2
          obtain ⟨a, b, e1, e2, rfl, hz⟩ := op_add_str eo
          have c1 := ct_rel s (RO.of (σ := σ) rd)
          have c2 := ct_rel s ry
          rw [e1] at c1
          rw [e2] at c2
          cases c1 with
          | str ev1 =>
            cases c2 with
            | str ev2 =>
              subst ev1 ev2
              have s' := s.setVal (d := .str (a ++ b)) (v := .str (a ++ b)) hi' (by simp only [RD])
              exact .inr (.inl ⟨a, b, rfl, rfl, hz, wpS.pure (a := Fl.nx) (h2 _ { q with S := q.S.set i (.val (.str (a ++ b))) } rfl rfl s' Mo.refl)⟩)
        | _ => simp only [eo] at h2
    | lst l =>
      simp only [es] at h2
      obtain ⟨a, ho, e1, e2, o, nf, nr, z⟩ := s.so i _ es rfl
      rw [hv] at e1
      cases e1
      obtain ⟨vs, rfl, rl⟩ := o
      have c2 := ct_rel s ry
      cases ec : ct q.S q.G y with
      | lst r =>
        rw [ec] at c2
        simp only [ec] at h2
        cases c2 with
        | @lst _ b ws ev hw rw' =>
          by_cases hz : l.length + r.length ≤ sizeLine
          · rw [if_pos hz] at h2
            obtain ⟨s', m'⟩ := s.setOwn (u := .lst (l ++ r)) (ho := .lst (vs ++ ws)) es rfl hv rfl ⟨_, rfl, rl.append rw'⟩
            refine .inr (.inr ⟨a, b, vs, ws, rfl, ev, e2, hw, by rw [← rl.length, ← rw'.length]; exact hz, ?_⟩)
            dsimp only
            rw [set_same hv]
            exact wpS.pure (a := Fl.nx) (h2 σ { (q.put a (.lst (vs ++ ws))) with S := q.S.set i (.lst (l ++ r)) } rfl rfl s' m')
          · rw [if_neg hz] at h2
            exact h2.elim
      | _ => simp only [ec] at h2
theorem bind_unit {m : Ev Unit} {S : List Slot} {G : List MO} : (m.bind fun _ => Ev.pure ()) S G = m S G := by
  unfold Ev.bind Rs.andThen
  cases m S G <;> rfl
/-! ### o[i] = e -/
theorem s_asgI (hx : XO W T Φ k C X XW) {o i e : Expr} {pos pos' : Pos} {me mo mi : Ev D} (hn : noComp e = true) (ho : PE X o (teD W A XW mo)) (hi : PE X i (teD W A XW mi)) (he : PE X e (teD W A XW me)) :
    PS X (.Assign [.Subscript o i pos'] e pos) (tsD W A XW (me.bind fun x => (settle x).bind fun x => mo.bind fun d => mi.bind fun k => (setIx d k x).bind fun _ => Ev.pure .nx)) := by
  obtain rfl : W = wdOf X := hx.wd.symm
  refine ⟨fun pins s σ H E I h => ?_⟩
  obtain ⟨p, rfl, h⟩ := h
  have hu := hx.units
  refine wpAny_Assign_Subscript (thn (he.run pins s σ p.H (fun v H1 => ∃ (d : D) (q : Pt), q.H = H1 ∧ RD (wdOf X) q.ρ q.Fr q.H d v ∧ wpS (wdOf X) A XW σ (mo.bind fun o => mi.bind fun k => (setIx o k d).bind fun _ => Ev.pure Fl.nx) q fun f σ' q => match f with
    | .nx => E.nx σ' q.H
    | .bk => E.bk σ' q.H
    | .ct => E.ct σ' q.H
    | .rt d => ∀ v, RD (wdOf X) q.ρ q.Fr q.H d v → E.rt v q.H) I ⟨p, rfl, (wpS.bindD h).mono fun d q s mo h v r => ?_⟩) fun rr s1 ⟨v, H1, I1, rv, d, q, eq, rd, h⟩ => ?_) (swaps_no hn)
  · obtain ⟨d', q', e1, s', mo', r', _, h'⟩ := settle_ok (wpS.bindD h) r
    exact ⟨d', q', e1, r', h'⟩
  subst eq
  refine thn (ho.run pins s1 σ q.H (fun u H2 => ∃ (o : D) (q2 : Pt), q2.H = H2 ∧ RD (wdOf X) q2.ρ q2.Fr q2.H d v ∧ RO (wdOf X) q2.ρ q2.Fr q2.H σ o u ∧ wpS (wdOf X) A XW σ (mi.bind fun k => (setIx o k d).bind fun _ => Ev.pure Fl.nx) q2 _) I1 ⟨q, rfl, (wpS.bindD h).mono fun o q2 s2 mo2 h u ro => ⟨o, q2, rfl, RD.mono mo2 _ _ rd, ro, h⟩⟩) fun ov s2 ⟨u, H2, I2, ru, o, q2, eq, rd, ro, h⟩ => ?_
  subst eq
  refine thn (hi.run pins s2 σ q2.H (fun w H3 => ∃ (kd : D) (q3 : Pt), q3.H = H3 ∧ RD (wdOf X) q3.ρ q3.Fr q3.H d v ∧ RO (wdOf X) q3.ρ q3.Fr q3.H σ o u ∧ RO (wdOf X) q3.ρ q3.Fr q3.H σ kd w ∧ wpS (wdOf X) A XW σ ((setIx o kd d).bind fun _ => Ev.pure Fl.nx) q3 _) I2 ⟨q2, rfl, (wpS.bindD h).mono fun kd q3 s3 mo3 h w rk => ⟨kd, q3, rfl, RD.mono mo3 _ _ rd, ro.mono mo3, rk, h⟩⟩) fun iv s3 ⟨w, H3, I3, rw', kd, q3, eq, rd, ro, rk, h⟩ => ?_
  subst eq
  have h := wpS.toD (wpS.bind h)
  have c := ct_rel h.1 ro
  cases ec : ct q3.S q3.G o with
  | lst l =>
    rw [ec] at c
    cases c with
    | @lst _ a vs ev hl r =>
      subst ev
      cases ru
      cases kd with
      | int i =>
        cases ep : plc l.length i with
        | none => exact absurd (show setIx o (.int i) d q3.S q3.G = .bad by simp only [setIx, ec, ep]) h.not_bad
        | some j =>
          have e : setIx o (.int i) d q3.S q3.G = ((putL o (l.set j d)).bind fun _ => Ev.pure ()) q3.S q3.G := by
            simp only [setIx, ec, ep]
            rw [bind_unit]
          have h := h.of_eq e
          obtain ⟨q', e', s', m', hz'⟩ := putL_ok h ro rfl ec (RDs.set rd j r)
          have ei := rk.int
          subst ei
          have hix : ixN vs.length i = some j := by
            rw [r.length] at ep
            unfold plc at ep
            unfold ixN
            split at ep
            · rename_i h1
              cases ep
              rw [if_pos h1.1, if_pos h1.2]
            · split at ep
              · rename_i h0 h1
                cases ep
                rw [if_neg (by omega), if_pos (by omega)]
              · cases ep
          refine thn (set_list pins s3 σ q3.H (.ref a) (.int i) v _ iv rr (fun H' => E.nx σ H') I3 rfl rw' rv ⟨a, vs, i, j, rfl, rfl, hl, hix, ?_⟩) fun _ s4 ⟨H4, I4, q4⟩ => ⟨σ, H4, I4, q4⟩
          rw [← e']
          exact wpS.pure (a := Fl.nx) hz'
      | _ => exact absurd (show setIx o _ d q3.S q3.G = .bad by simp only [setIx, ec]) h.not_bad
  | dic ks xs =>
    rw [ec] at c
    cases c with
    | @dic _ _ a ho kvs vs ev h1 h2 h3 h4 =>
      subst ev
      cases ru
      cases ep : dPutOk ks xs kd d with
      | none => exact absurd (show setIx o kd d q3.S q3.G = .bad by simp only [setIx, ec, ep]) h.not_bad
      | some pp =>
        have e : setIx o kd d q3.S q3.G = ((putD o pp.1 pp.2).bind fun _ => Ev.pure ()) q3.S q3.G := by
          simp only [setIx, ec, ep]
          rw [bind_unit]
        have h := h.of_eq e
        unfold dPutOk at ep
        split at ep
        · rename_i hk
          cases ep
          have ns : ∀ i, kd ≠ .slot i := fun i z => by
            subst z
            have := hk.1
            unfold okKey at this
            simp [D.leaf, D.isTup] at this
          refine dput_set (by omega) I3 ⟨ho, kvs, vs, rfl, h1, h2, h3, h4, hk.1, rk.rd ns⟩ rw' rv rd hk.2 fun s4 H4 I4 hp => ?_
          obtain ⟨ho', kvs', ws', rfl, d1, d2, d3⟩ := hp
          obtain ⟨q', e', s', m', hz'⟩ := putD_ok h ro rfl ec d1 d2 d3
          refine ⟨σ, _, I4, ?_⟩
          rw [← e']
          exact wpS.pure (a := Fl.nx) hz'
        · cases ep
  | _ => exact absurd (show setIx o kd d q3.S q3.G = .bad by simp only [setIx, ec]) h.not_bad

/-! ### x, y = a, b: a no new list or dict -/
theorem par_read {i j : Nat} {fr : Bool} {ma mb : Ev D} {E : Ends} {H : Hp} (h : tsD W A XW (ma.bind fun x => (settle x).bind fun x => mb.bind fun y => (settle y).bind fun y => (asgN false i x).bind fun _ => asgNs fr j y) E σ H) :
    tPar i j (tCons (teS W A XW ma) (tCons (if fr = true then teN W A XW mb else teD W A XW mb) tNil)) E σ H := by
  obtain ⟨p, rfl, h⟩ := h
  rw [← Ev.bind_assoc] at h
  refine ⟨p, rfl, (wpS.bindD h).mono fun x q s mo h v r => ?_⟩
  -- both names
  have old : ∀ {y : D} {w : V} {q2 : Pt}, RD W q2.ρ q2.Fr q2.H x v → RD W q2.ρ q2.Fr q2.H y w → (fr = true → y.cont = false) → wpS W A XW σ ((asgN false i x).bind fun _ => asgNs fr j y) q2 (fun f σ' q => match f with
      | Fl.nx => E.nx σ' q.H
      | Fl.bk => E.bk σ' q.H
      | Fl.ct => E.ct σ' q.H
      | Fl.rt d => ∀ (v : V), RD W q.ρ q.Fr q.H d v → E.rt v q.H) → E.nx ((σ.set i (some v)).set j (some w)) q2.H := by
    intro y w q2 r1 r2 hc h
    have h := wpS.bind h
    have h' : wpS W A XW σ ((settle x).bind fun d => ownSet i (.val d)) q2 _ := h
    obtain ⟨d', q3, e1, s', mo', r', _, h''⟩ := settle_ok (wpS.bindD h') (RO.of r1)
    have h3 := wpS.ownSet h'' r'
    have h4 := wpS.bind h3
    cases fr with
    | false =>
      obtain ⟨q4, e4, h5⟩ := asg_old (show wpS W A XW _ ((settle y).bind fun d => ownSet j (.val d)) _ _ from h4) (RO.of (RD.mono mo' _ _ r2))
      have := wpS.pure (a := Fl.nx) h5
      rw [e4, show ({ q3 with S := q3.S.set i (.val d') } : Pt).H = q2.H from e1] at this
      exact this
    | true =>
      obtain ⟨q4, e4, h5⟩ := asg_new h4 (.old (hc rfl) (RO.of (RD.mono mo' _ _ r2)))
      have := wpS.pure (a := Fl.nx) h5
      rw [e4, show ({ q3 with S := q3.S.set i (.val d') } : Pt).H = q2.H from e1] at this
      exact this
  cases fr with
  | true =>
    refine ⟨q, rfl, (wpS.bindD h).mono fun y q2 s2 mo2 h w H' res => ⟨v, w, rfl, ?_⟩⟩
    cases res with
    | old hc ro =>
      have h : wpS W A XW σ ((asgN false i x).bind fun _ => asgNs true j y) q2 (fun f σ' q => match f with
        | Fl.nx => E.nx σ' q.H
        | Fl.bk => E.bk σ' q.H
        | Fl.ct => E.ct σ' q.H
        | Fl.rt d => ∀ (v : V), RD W q.ρ q.Fr q.H d v → E.rt v q.H) := by
        cases y with
        | slot m => cases hc
        | _ => exact h
      exact old (RD.mono mo2 _ _ r) (ro.rd fun m z => by subst z; cases hc) (fun _ => hc) h
    | @new a ho hp n =>
      have h : wpS W A XW σ ((asgN false i x).bind fun _ => asgNs true j y) q2 (fun f σ' q => match f with
        | Fl.nx => E.nx σ' q.H
        | Fl.bk => E.bk σ' q.H
        | Fl.ct => E.ct σ' q.H
        | Fl.rt d => ∀ (v : V), RD W q.ρ q.Fr q.H d v → E.rt v q.H) := by
        cases y with
        | lst l => exact h
        | dic ks xs => exact h
        | tup l => exact h
        | _ => exact n.elim
      have h := wpS.bind h
      have h' : wpS W A XW σ ((settle x).bind fun d => ownSet i (.val d)) q2 _ := h
      obtain ⟨d', q3, e1, s', mo', r', _, h''⟩ := settle_ok (wpS.bindD h') (RO.of (RD.mono mo2 _ _ r))
      have h3 := wpS.ownSet h'' r'
      have h4 := wpS.bind h3
      have n' : NR W { q3 with S := q3.S.set i (.val d') } a y ho := by
        cases y with
        | lst l => obtain ⟨vs, e, r⟩ := n; exact ⟨vs, e, r.mono mo'⟩
        | dic ks xs => obtain ⟨kvs, vs, d, r1, r2⟩ := n; exact ⟨kvs, vs, d, r1.mono mo', r2.mono mo'⟩
        | tup l => obtain ⟨vs, e, r⟩ := n; exact ⟨vs, e, r.mono mo'⟩
        | _ => exact n.elim
      obtain ⟨q4, e4, h5⟩ := asg_new h4 (.new (by rw [show ({ q3 with S := q3.S.set i (.val d') } : Pt).H = q2.H from e1]; exact hp) n')
      have := wpS.pure (a := Fl.nx) h5
      rw [e4, show ({ q3 with S := q3.S.set i (.val d') } : Pt).H = q2.H from e1] at this
      exact this
  | false =>
    refine ⟨q, rfl, (wpS.bindD h).mono fun y q2 s2 mo2 h w ro => ⟨v, w, rfl, ?_⟩⟩
    obtain ⟨y', q3, e3, s3, mo3, r3, ns, h3⟩ := settle_ok (wpS.bindD h) ro
    rw [← e3]
    exact old (RD.mono (mo2.trans mo3) _ _ r) r3 (fun e => by cases e) h3
end
end Mi

end
section
set_option Elab.async false
set_option linter.all false
set_option maxRecDepth 100000
set_option maxHeartbeats 1000000
/-! Mi18: texts with parts, two arguments, x, y = a, b. -/
namespace Mi
open PySem PySem.Spec PyProof.Rows L2

section
variable {W : Wd} {T : Tb} {Φ : Fns} {k : Nat} {C : Cf} {X : Cx} {XW : WX} {A : Act}
/-- {x} -/
theorem n_fv {e : Expr} {pos : Pos} {m : Ev D} (he : PE X e (teD W A XW m)) : PE X (.FormattedValue e (-1) none pos) (teD W A XW (m.bind fun x => Ev.lift (match x with
    | .str y => strOk y
    | .int i => if i.natAbs.log2 < 1920 then some (.str (toString i)) else none
    | _ => none))) := PE.imp (pe_fmt he) fun σ H Q => by
  rintro ⟨p, rfl, h⟩
  refine ⟨p, rfl, (wpD.bind h).mono fun x q s mo h v r => ?_⟩
  obtain ⟨z, e, h⟩ := h.lift
  cases x with
  | str y =>
    have e : (if y.length ≤ sizeLine then some (D.str y) else none) = some z := e
    split at e
    · rename_i hz
      cases e
      exact .inl ⟨y, r.str, hz, h _ (RO.of (by simp only [RD]))⟩
    · cases e
  | int i =>
    have e : (if i.natAbs.log2 < 1920 then some (D.str (toString i)) else none) = some z := e
    split at e
    · rename_i hz
      cases e
      exact .inr ⟨i, r.int, hz, h _ (RO.of (by simp only [RD]))⟩
    · cases e
  | _ => cases e
/-- the parts -/
inductive Pj (X : Cx) (W : Wd) (A : Act) (XW : WX) (Φ : Fns) : Es → List Expr → Prop
  | nil : Pj X W A XW Φ .nil []
  | cons {e : E} {r : Es} {x : Expr} {xs : List Expr} : PE X x (teD W A XW (evE Φ e)) → Pj X W A XW Φ r xs → Pj X W A XW Φ (.cons e r) (x :: xs)
theorem Pj.go {a : Es} {xs : List Expr} (h : Pj X W A XW Φ a xs) : ∃ ts, PJ X xs ts ∧ ∀ (acc : Str) (σ : Sv) (p : Pt) (Q : Str → Hp → Prop), wpD W A XW σ (evFs Φ a acc) p (fun d q => ∀ y, d = .str y → Q y q.H) → tJs ts acc σ p.H Q := by
  induction h with
  | nil => exact ⟨[], .nil, fun acc σ p Q h => by
    simp only [evFs] at h
    exact h.pure acc rfl⟩
  | cons he _ ih =>
    obtain ⟨ts, hj, ih⟩ := ih
    refine ⟨_ :: ts, .cons he hj, fun acc σ p Q h => ?_⟩
    simp only [evFs] at h
    refine ⟨p, rfl, (wpD.bind h).mono fun x q s mo h v r => ?_⟩
    cases x with
    | str y =>
      by_cases hz : (acc ++ y).length ≤ sizeLine
      · simp only [if_pos hz] at h
        exact ⟨y, r.str, hz, ih (acc ++ y) σ q Q h⟩
      · simp only [if_neg hz] at h
        exact h.bad.elim
    | _ => exact h.2.elim
theorem n_fs {a b : E} {r : Es} {x y : Expr} {xs : List Expr} {pos : Pos} (h : Pj X W A XW Φ (.cons a (.cons b r)) (x :: y :: xs)) : PE X (.JoinedStr (x :: y :: xs) pos) (teD W A XW (evFs Φ (.cons a (.cons b r)) Str.empty)) := by
  obtain ⟨ts, hj, k⟩ := h.go
  refine PE.imp (pe_joined hj) fun σ H Q => ?_
  rintro ⟨p, rfl, h⟩
  exact k Str.empty σ p _ (h.mono fun d q s mo h y e => by subst e; exact h _ (RO.of (by simp only [RD])))
theorem n_bi2 {b : Bi} {id : String} {g : Int → Int → Int} {x : Str} {e f : Expr} {p pos : Pos} {m n : Ev D} (hc : CallR X (.builtin id) (fun xs H Q => ∃ i j, xs = [.int i, .int j] ∧ Q (.int (g i j)) H)) (hb : ∀ d e z, bi2 b d e = some z → ∃ i j, d = .int i ∧ e = .int j ∧ z = .int (g i j)) (hg : Gl X x) (hm : X.mg x = none) (hv : bootBuiltins x = some (.builtin id))
    (hst : noStar e = true) (hst2 : noStar f = true) (he : PE X e (teD W A XW m)) (hf : PE X f (teD W A XW n))
    (hn : x ≠ "__name__") (hdb : (x == ("__debug__" : Str)) = false) : PE X (.Call (.Name x p) [e, f] [] pos) (teD W A XW (m.bind fun x => n.bind fun y => Ev.lift (bi2 b x y))) :=
  PE.imp (pe_callB hc hg hm hv (pa_cons he (pa_cons hf pa_nil (star_one hst2)) (star_one hst)) hn hdb (star_one hst) (star_any (es := [f]) (by simp [noStars, hst2]))) fun σ H Q => by
    rintro ⟨p, rfl, h⟩
    refine ⟨p, rfl, (wpD.bind h).mono fun d q s mo h v r => ⟨q, rfl, (wpD.bind h).mono fun d2 q2 s2 mo2 h u r2 => ?_⟩⟩
    obtain ⟨z, e, h⟩ := h.lift
    obtain ⟨i, j, rfl, rfl, rfl⟩ := hb _ _ _ e
    exact ⟨i, j, by rw [(r.mono mo2).int, r2.int], h _ (RO.of (by simp only [RD]))⟩
/-- x, y = a, b as the library's rule has it -/
theorem sw_par {env : Env} {x y : Str} {px py pt pt2 : Pos} {a b : Expr} {kt k2 : Nat} (hk : env.scope.kind = .function) (hx : env.scope.names.lookup x = some .local) (hy : env.scope.names.lookup y = some .local) (hl : (py.line == px.line) = true) (hne : x ≠ y)
    (ha : noStar a = true) (hb : noStar b = true) (hf : ([a, b].all (foldedForSure 8)) = false) (hc : ([a, b].all (constantsAlone 8)) = false) :
    swappedStores [.Tuple [.Name x px, .Name y py] kt pt] (.Tuple [a, b] k2 pt2) env = pure (some [x, y]) := by
  have kx : env.kindOf x = some .local := hx
  have ky : env.kindOf y = some .local := hy
  have hbk : env.blockKind = .function := by unfold Env.blockKind; rw [hk]; rfl
  have hs : ([a, b].any fun | .Starred .. => true | _ => false) = false := by
    have h1 : ∀ {e : Expr}, noStar e = true → (match e with | .Starred _ _ => true | _ => false) = false := by
      intro e h
      cases e <;> first | rfl | cases h
    simp only [List.any_cons, List.any_nil, h1 ha, h1 hb, Bool.or_false]
  have hne' : (x == y) = false := beq_eq_false_iff_ne.mpr hne
  have hl' : py.line = px.line := by simpa using hl
  unfold swappedStores
  simp only [hs, hf, hc, hbk, List.filterMap_cons, List.filterMap_nil, kx, ky, List.head?_cons, Option.map_some, Option.getD_some, Expr.pos, hl', beq_self_eq_true, Bool.and_self, if_true, List.length_cons, List.length_nil]
  have he : [x, y].eraseDups = [x, y] := by
    simp [List.eraseDups_cons, hne, Ne.symm hne]
  simp [he]
  intro h
  rcases h with h | h
  · cases a <;> first | (cases h; done) | cases ha
  · cases b <;> first | (cases h; done) | cases hb

theorem s_par (hx : XO W T Φ k C X XW) {i j : Nat} {x y : Str} {px py pt pt2 pos : Pos} {a b : Expr} {kt k2 : Nat} {fr : Bool} {ma mb : Ev D} (hi : X.N[i]? = some x) (hj : X.N[j]? = some y) (hne : x ≠ y) (hk : X.env.scope.kind = .function) (lx : X.env.scope.names.lookup x = some .local) (ly : X.env.scope.names.lookup y = some .local) (hl : (py.line == px.line) = true)
    (sa : noStar a = true) (sb : noStar b = true) (hf : ([a, b].all (foldedForSure 8)) = false) (hc : ([a, b].all (constantsAlone 8)) = false) (ha : PE X a (teD W A XW ma)) (hb : PE X b (if fr = true then teN W A XW mb else teD W A XW mb)) :
    PS X (.Assign [.Tuple [.Name x px, .Name y py] kt pt] (.Tuple [a, b] k2 pt2) pos) (tsD W A XW (ma.bind fun x => (settle x).bind fun x => mb.bind fun y => (settle y).bind fun y => (asgN false i x).bind fun _ => asgNs fr j y)) := by
  have hij : i ≠ j := fun e => by
    subst e
    rw [hi] at hj
    cases hj
    exact hne rfl
  exact PS.imp (ps_par hx.calm hx.nd hi hj hij lx ly (pa_cons (PE.toS ha) (pa_cons hb pa_nil (star_one sb)) (star_one sa)) (sw_par hk lx ly hl hne sa sb hf hc)) fun E σ H h => par_read h
end
end Mi

end
section
set_option Elab.async false
set_option linter.all false
set_option maxRecDepth 100000
set_option maxHeartbeats 4000000
/-! Mi27: < of data whose first differing places are of one sort. -/
namespace Mi
open PySem PySem.Spec PyProof.Rows PySem.SeqAt
section
open AutoSeq1 (wpAny_loadPart')
open MeetsSeq MeetsSeq2 MeetsSeq3 SeqRoads2

/-- the pairs, one after the other: equal ones are gone by, the first others decide -/
def Fl1 (A : Around) (s : Shared) (fin k : Bool) : List (Value × Value) → Prop
  | [] => k = fin
  | (y, x) :: r => (EqAt A s y x true ∧ Fl1 A s fin k r) ∨ (EqAt A s y x false ∧ RcLt A s y x k)

theorem RcLt.at {A : Around} {s : Shared} {y x : Value} {k : Bool} (h : RcLt A s y x k) {prog : Program} {w : World} {Q : Value → Shared → Prop} {E : Value → Shared → Prop} (q : Q (.bool k) s) : wpAny (model prog w) A (PySem.richCompare .Lt y x) Q E s := h prog w _ _ q
theorem tup_lt1 (a b : Addr) (xs ys : Array Value) (n m : Nat) (da db : Option Addr) (sa sb : Array (Option Value)) (k : Bool) : Meets (Builtin.«tuple.__lt__» ⟨[.ref a, .ref b], []⟩)
    (fun A R s => s.heap.get? a = some ⟨.type "tuple", da, .seq xs n, sa⟩ ∧ s.heap.get? b = some ⟨.type "tuple", db, .seq ys m, sb⟩ ∧ Fl1 A.in1 s (decide (xs.size < ys.size)) k (xs.toList.zip ys.toList) ∧ R (.ok (.ret (.bool k))) s) :=
  .of_wp fun prog w A R s h => by
    obtain ⟨hh, gg, dd, tt, oo⟩ := s
    obtain ⟨ha, hb, fl, hR⟩ := h
    have sub := AutoSeq1.sub_tuple_tuple
    wp_walk using wpAny_loadPart' ha, wpAny_loadPart' hb, wpAny_forIn_list _ (fun rest c s' => c.1 = none ∧ s' = ⟨hh, gg, dd, tt, oo⟩ ∧ Fl1 A.in1 ⟨hh, gg, dd, tt, oo⟩ (decide (xs.size < ys.size)) k rest) _
    case turn =>
      rintro ⟨y, x⟩ rest c s' ⟨hc, rfl, hf⟩
      rcases hf with ⟨e1, e2⟩ | ⟨e1, e2⟩
      · refine wpAny_bind (e1 prog w _ _ ?_)
        wp_walk
        exact ⟨rfl, rfl, e2⟩
      · refine wpAny_bind (e1 prog w _ _ ?_)
        wp_walk using RcLt.at e2
        exact ⟨_, rfl, hR⟩
    case fin =>
      rintro ⟨c1, c2⟩ s' ⟨hc, rfl, hf⟩
      have hc : c1 = none := hc
      subst hc
      have hf : k = decide (xs.size < ys.size) := hf
      rw [hf] at hR
      wp_walk
      exact ⟨_, rfl, by simpa [Builtin.Tuple.tupleCompareSizes] using hR⟩
    case h => exact ⟨rfl, rfl, fl⟩
theorem loop_lt1 (a b : Addr) (xs ys : Array Value) (n m : Nat) (da db : Option Addr) (sa sb : Array (Option Value)) (k : Bool) : ∀ (rest : List (Value × Value)) (i : Nat), (xs.toList.zip ys.toList).drop i = rest →
    Meets (Builtin.«list.__eq__.loop» ⟨[.ref a, .ref b, rawInt i, rawInt 0], []⟩)
    (fun A R s => s.heap.get? a = some ⟨.type "list", da, .seq xs n, sa⟩ ∧ s.heap.get? b = some ⟨.type "list", db, .seq ys m, sb⟩ ∧ Fl1 A.in1 s (decide (xs.size < ys.size)) k rest ∧ R (.ok (.ret (.bool k))) s)
  | [], i, hz => by
    intro prog w A R s h
    obtain ⟨hh, gg, dd, tt, oo⟩ := s
    obtain ⟨ha, hb, fl, hR⟩ := h
    have hl := congrArg List.length hz
    simp only [List.length_drop, List.length_zip, Array.length_toList, List.length_nil] at hl
    have fl : k = decide (xs.size < ys.size) := fl
    subst fl
    wp_walk using wpAny_loadPart' ha, wpAny_loadPart' hb
    by_cases q : i < xs.size
    · have o1 : xs[((i : Nat) : Int).toNat]? = some xs[i] := by simp [q]
      have o2 : ys[((i : Nat) : Int).toNat]? = none := by simp; omega
      rw [o1, o2]
      wp_walk using wpAny_loadPart' ha, wpAny_loadPart' hb
      exact hR
    · have o1 : xs[((i : Nat) : Int).toNat]? = none := by simp; omega
      rw [o1]
      wp_walk using wpAny_loadPart' ha, wpAny_loadPart' hb
      exact hR
  | (y, x) :: rest, i, hz => by
    intro prog w A R s h
    obtain ⟨hh, gg, dd, tt, oo⟩ := s
    obtain ⟨ha, hb, fl, hR⟩ := h
    have hl := congrArg List.length hz
    simp only [List.length_drop, List.length_zip, Array.length_toList, List.length_cons] at hl
    have q1 : i < xs.size := by omega
    have q2 : i < ys.size := by omega
    have hd : (xs.toList.zip ys.toList).drop i = (xs[i], ys[i]) :: (xs.toList.zip ys.toList).drop (i + 1) := by
      rw [List.drop_eq_getElem_cons (by simp; omega)]
      simp
    rw [hd] at hz
    injection hz with e1 e2
    injection e1 with ey ex
    subst ey ex
    have o1 : xs[((i : Nat) : Int).toNat]? = some xs[i] := by simp [q1]
    have o2 : ys[((i : Nat) : Int).toNat]? = some ys[i] := by simp [q2]
    have step : ((i : Int) + 1) = ((i + 1 : Nat) : Int) := by push_cast; rfl
    wp_walk using wpAny_loadPart' ha, wpAny_loadPart' hb
    rw [o1, o2]
    rcases fl with ⟨f1, f2⟩ | ⟨f1, f2⟩
    · refine wpAny_bind (f1 prog w _ _ ?_)
      wp_walk
      rw [step]
      refine ⟨plainId_quiet plain_eq_loop _, codeAny_builtin entry_eq_loop ?_⟩
      rw [Around.under_plainId plain_eq_loop _]
      exact loop_lt1 a b xs ys n m da db sa sb k rest (i + 1) e2 prog w A R _ ⟨ha, hb, f2, hR⟩
    · refine wpAny_bind (f1 prog w _ _ ?_)
      wp_walk using wpAny_loadPart' ha, wpAny_loadPart' hb
      rw [o1, o2]
      wp_walk using RcLt.at f2
      exact hR
theorem lst_lt1 (a b : Addr) (xs ys : Array Value) (n m : Nat) (da db : Option Addr) (sa sb : Array (Option Value)) (k : Bool) : Meets (Builtin.«list.__lt__» ⟨[.ref a, .ref b], []⟩)
    (fun A R s => s.heap.get? a = some ⟨.type "list", da, .seq xs n, sa⟩ ∧ s.heap.get? b = some ⟨.type "list", db, .seq ys m, sb⟩ ∧ Fl1 A.in1 s (decide (xs.size < ys.size)) k (xs.toList.zip ys.toList) ∧ R (.ok (.ret (.bool k))) s) := by
  intro prog w A R s h
  obtain ⟨hh, gg, dd, tt, oo⟩ := s
  obtain ⟨ha, hb, fl, hR⟩ := h
  have sub := AutoSeq1.sub_list_list
  wp_walk using wpAny_loadPart' ha, wpAny_loadPart' hb
  refine ⟨plainId_quiet plain_eq_loop _, codeAny_builtin entry_eq_loop ?_⟩
  rw [Around.under_plainId plain_eq_loop _]
  exact loop_lt1 a b xs ys n m da db sa sb k _ 0 rfl prog w A R _ ⟨ha, hb, by simpa using fl, hR⟩
section
variable {A : Around} {s : Shared} {a b : Addr} {xs ys : Array Value} {k : Bool}
theorem rc_tup1 (ha : s.heap.IsTuple a xs) (hb : s.heap.IsTuple b ys) (hu : A.units < cLine) (h : Fl1 A.in1 s (decide (xs.size < ys.size)) k (xs.toList.zip ys.toList)) : RcLt A s (.ref a) (.ref b) k := fun prog w E Q hq => by
  obtain ⟨⟨c1, d1, o1, s1⟩, h1, e1, n1, q1⟩ := id ha
  obtain ⟨⟨c2, d2, o2, s2⟩, h2, e2, n2, q2⟩ := id hb
  simp only at e1 q1 e2 q2
  subst e1 q1 e2 q2
  refine richCompare_meets_room (op := .Lt) ⟨_, h1, rfl⟩ ⟨_, h2, rfl⟩ F.slot_tuple_lt F.entry_tuple_lt (F.args_tuple_lt_2 _ _) (tup_lt1 a b xs ys n1 n2 d1 d2 s1 s2 k) ⟨h1, h2, h, ?_⟩ hu
  show Value.bool k ≠ Value.notImplemented ∧ Q (.bool k) s
  exact ⟨(fun z => nomatch z), hq⟩
theorem rc_lst1 (ha : s.heap.IsList a xs) (hb : s.heap.IsList b ys) (hu : A.units < cLine) (h : Fl1 A.in1 s (decide (xs.size < ys.size)) k (xs.toList.zip ys.toList)) : RcLt A s (.ref a) (.ref b) k := fun prog w E Q hq => by
  obtain ⟨⟨c1, d1, o1, s1⟩, h1, e1, n1, q1⟩ := id ha
  obtain ⟨⟨c2, d2, o2, s2⟩, h2, e2, n2, q2⟩ := id hb
  simp only at e1 q1 e2 q2
  subst e1 q1 e2 q2
  refine richCompare_meets_room (op := .Lt) ⟨_, h1, rfl⟩ ⟨_, h2, rfl⟩ F.slot_list_lt F.entry_list_lt (F.args_list_lt_2 _ _) (lst_lt1 a b xs ys n1 n2 d1 d2 s1 s2 k) ⟨h1, h2, h, ?_⟩ hu
  show Value.bool k ≠ Value.notImplemented ∧ Q (.bool k) s
  exact ⟨(fun z => nomatch z), hq⟩
end
end

/-! ### data that can be compared -/
section
open PySem.W
theorem pcmps_cons {x y : PyData} {xs ys : List PyData} (h : pcmps (x :: xs) (y :: ys) = true) : pcmp x y = true ∧ (PyData.eqv x y = true → pcmps xs ys = true) := by
  rw [pcmps, Bool.and_eq_true] at h
  refine ⟨h.1, fun e => ?_⟩
  have h2 := h.2
  rw [e] at h2
  simpa using h2
/-- what two data's signs tell -/
def Tk (e : Bool) (p q : List (Int ⊕ List Nat)) : Prop := (e = true → p = q) ∧ (e = false → ∀ l m, lexLt itemOrd (p ++ l) (q ++ m) = lexLt itemOrd p q)
theorem tk_atom {p q : Int ⊕ List Nat} {e : Bool} (h1 : e = true → p = q) (h2 : e = false → p ≠ q) : Tk e [p] [q] :=
  ⟨fun h => by rw [h1 h], fun h l m => by
    simp only [List.cons_append, List.nil_append]
    exact lex_atom (h2 h) l m⟩
theorem eqvs_cons (x y : PyData) (xs ys : List PyData) : PyData.eqvAll (x :: xs) (y :: ys) = (PyData.eqv x y && PyData.eqvAll xs ys) := by rw [PyData.eqvAll]
theorem ktoks_cons (x : PyData) (xs : List PyData) : keyToksAll (x :: xs) = .inl 1 :: (keyToks x ++ keyToksAll xs) := by rw [keyToksAll]
/-- lists: from the heads' and the tails' -/
theorem tk_cons {x y : PyData} {xs ys : List PyData} (h1 : Tk (PyData.eqv x y) (keyToks x) (keyToks y)) (h2 : PyData.eqv x y = true → Tk (PyData.eqvAll xs ys) (keyToksAll xs) (keyToksAll ys)) :
    Tk (PyData.eqvAll (x :: xs) (y :: ys)) (keyToksAll (x :: xs)) (keyToksAll (y :: ys)) := by
  rw [eqvs_cons, ktoks_cons, ktoks_cons]
  cases q : PyData.eqv x y with
  | true =>
    rw [q] at h1
    have t := h2 q
    rw [h1.1 rfl, Bool.true_and]
    refine ⟨fun e => by rw [t.1 e], fun e l m => ?_⟩
    simp only [List.cons_append, List.append_assoc]
    rw [lex_self (O := itemOrd), lex_self (O := itemOrd), lex_pre, lex_pre]
    exact t.2 e l m
  | false =>
    rw [q] at h1
    rw [Bool.false_and]
    refine ⟨(fun e => by cases e), fun _ l m => ?_⟩
    simp only [List.cons_append, List.append_assoc]
    rw [lex_self (O := itemOrd), lex_self (O := itemOrd), h1.2 rfl, h1.2 rfl]
mutual
/-- equal data have equal signs, others differ for good -/
theorem tk_cmp : ∀ (x y : PyData), pcmp x y = true → Tk (PyData.eqv x y) (keyToks x) (keyToks y)
  | .bool a, .bool b, _ => by
    simp only [keyToks, PyData.eqv]
    refine tk_atom (fun e => ?_) fun e z => ?_
    · rw [show a = b by simpa using e]
    · cases a <;> cases b <;> simp_all
  | .int a, .int b, _ => by
    simp only [keyToks, PyData.eqv]
    refine tk_atom (fun e => ?_) fun e z => ?_
    · rw [show a = b by simpa using e]
    · have z := Sum.inl.inj z
      subst z
      simp at e
  | .str a, .str b, _ => by
    simp only [keyToks, PyData.eqv]
    refine tk_atom (fun e => ?_) fun e z => ?_
    · rw [show a = b by simpa using e]
    · have z := str_of_cps (Sum.inr.inj z)
      subst z
      simp at e
  | .list xs, .list ys, h => by
    simp only [keyToks, PyData.eqv]
    exact tks_cmp xs ys (by simpa [pcmp] using h)
  | .tuple xs, .tuple ys, h => by
    simp only [keyToks, PyData.eqv]
    exact tks_cmp xs ys (by simpa [pcmp] using h)
  | .none, y, h => by cases y <;> simp [pcmp] at h
  | .dict _, y, h => by cases y <;> simp [pcmp] at h
  | .bool _, .none, h => by simp [pcmp] at h
  | .bool _, .int _, h => by simp [pcmp] at h
  | .bool _, .str _, h => by simp [pcmp] at h
  | .bool _, .list _, h => by simp [pcmp] at h
  | .bool _, .tuple _, h => by simp [pcmp] at h
  | .bool _, .dict _, h => by simp [pcmp] at h
  | .int _, .none, h => by simp [pcmp] at h
  | .int _, .bool _, h => by simp [pcmp] at h
  | .int _, .str _, h => by simp [pcmp] at h
  | .int _, .list _, h => by simp [pcmp] at h
  | .int _, .tuple _, h => by simp [pcmp] at h
  | .int _, .dict _, h => by simp [pcmp] at h
  | .str _, .none, h => by simp [pcmp] at h
  | .str _, .bool _, h => by simp [pcmp] at h
  | .str _, .int _, h => by simp [pcmp] at h
  | .str _, .list _, h => by simp [pcmp] at h
  | .str _, .tuple _, h => by simp [pcmp] at h
  | .str _, .dict _, h => by simp [pcmp] at h
  | .list _, .none, h => by simp [pcmp] at h
  | .list _, .bool _, h => by simp [pcmp] at h
  | .list _, .int _, h => by simp [pcmp] at h
  | .list _, .str _, h => by simp [pcmp] at h
  | .list _, .tuple _, h => by simp [pcmp] at h
  | .list _, .dict _, h => by simp [pcmp] at h
  | .tuple _, .none, h => by simp [pcmp] at h
  | .tuple _, .bool _, h => by simp [pcmp] at h
  | .tuple _, .int _, h => by simp [pcmp] at h
  | .tuple _, .str _, h => by simp [pcmp] at h
  | .tuple _, .list _, h => by simp [pcmp] at h
  | .tuple _, .dict _, h => by simp [pcmp] at h
theorem tks_cmp : ∀ (xs ys : List PyData), pcmps xs ys = true → Tk (PyData.eqvAll xs ys) (keyToksAll xs) (keyToksAll ys)
  | [], [], _ => by
    simp only [PyData.eqvAll]
    exact ⟨fun _ => rfl, (fun e => by cases e)⟩
  | [], y :: ys, _ => by
    rw [ktoks_cons]
    refine ⟨fun e => by simp [PyData.eqvAll] at e, fun _ l m => ?_⟩
    simp only [keyToksAll, List.cons_append, List.nil_append]
    rw [lex_diff (O := itemOrd) (by simp), lex_diff (O := itemOrd) (by simp)]
  | x :: xs, [], _ => by
    rw [ktoks_cons]
    refine ⟨fun e => by simp [PyData.eqvAll] at e, fun _ l m => ?_⟩
    simp only [keyToksAll, List.cons_append, List.nil_append]
    rw [lex_diff (O := itemOrd) (by simp), lex_diff (O := itemOrd) (by simp)]
  | x :: xs, y :: ys, h => tk_cons (tk_cmp x y (pcmps_cons h).1) fun e => tks_cmp xs ys ((pcmps_cons h).2 e)
end
/-- a step in two lists -/
theorem lex_cons (x y : PyData) (xs ys : List PyData) (h : pcmp x y = true) : lexLt itemOrd (keyToksAll (x :: xs)) (keyToksAll (y :: ys)) = if PyData.eqv x y = true then lexLt itemOrd (keyToksAll xs) (keyToksAll ys) else dataLt x y := by
  have t := tk_cmp x y h
  rw [ktoks_cons, ktoks_cons, lex_self (O := itemOrd)]
  cases q : PyData.eqv x y with
  | true =>
    rw [q] at t
    rw [t.1 rfl, lex_pre, if_pos rfl]
  | false =>
    rw [q] at t
    rw [if_neg (by simp)]
    exact t.2 rfl _ _
theorem lex_end (xs : List PyData) (y : PyData) (ys : List PyData) : lexLt itemOrd (keyToksAll []) (keyToksAll (y :: ys)) = true ∧ lexLt itemOrd (keyToksAll (y :: ys)) (keyToksAll []) = false ∧ lexLt itemOrd (keyToksAll []) (keyToksAll []) = false := by
  rw [ktoks_cons]
  simp only [keyToksAll]
  rw [lex_diff (O := itemOrd) (by simp), lex_diff (O := itemOrd) (by simp)]
  exact ⟨by simp [itemLt], by simp [itemLt], lex_irrefl _⟩
mutual
/-- a < b for such data -/
theorem rc_cmp : ∀ (da db : PyData) (A : Around) (s : Shared) (a b : Value) (as bs : List Addr), Reads s.heap a da as → Reads s.heap b db bs → pcmp da db = true → da.canLay0 = true → db.canLay0 = true → A.units + min da.depth db.depth < cLine → RcLt A s a b (dataLt da db)
  | da, db, A, s, a, b, as, bs, ra, rb, h, ca, cb, hu => by
    cases ra with
    | none => cases db <;> simp [pcmp] at h
    | dict _ _ _ _ _ => cases db <;> simp [pcmp] at h
    | bool x =>
      cases rb with
      | bool y =>
        intro prog w E Q hq
        rw [dataLt_bool] at hq
        exact lt_bool hq
      | _ => simp [pcmp] at h
    | int x _ =>
      cases rb with
      | int y _ =>
        intro prog w E Q hq
        rw [dataLt_int] at hq
        exact P.lt_int hq
      | _ => simp [pcmp] at h
    | str x _ =>
      cases rb with
      | str y _ =>
        intro prog w E Q hq
        rw [dataLt_str] at hq
        exact P.lt_str hq
      | _ => simp [pcmp] at h
    | @list l o vs n xs as1 h1 h2 h3 h4 =>
      cases rb with
      | @list l' o' vs' n' ys bs1 k1 k2 k3 k4 =>
        have hl := fls_cmp xs ys A.in1 s _ _ _ _ h4 k4 (by simpa [pcmp] using h) (by simpa [PyData.canLay0] using ca) (by simpa [PyData.canLay0] using cb) (room_in hu)
        rw [dataLt_list]
        exact rc_lst1 ⟨_, h1, h2, _, h3⟩ ⟨_, k1, k2, _, k3⟩ (room_here hu) hl
      | _ => simp [pcmp] at h
    | @tuple l o vs n xs as1 h1 h2 h3 h4 =>
      cases rb with
      | @tuple l' o' vs' n' ys bs1 k1 k2 k3 k4 =>
        have hl := fls_cmp xs ys A.in1 s _ _ _ _ h4 k4 (by simpa [pcmp] using h) (by simpa [PyData.canLay0] using ca) (by simpa [PyData.canLay0] using cb) (room_in hu)
        rw [dataLt_tuple]
        exact rc_tup1 ⟨_, h1, h2, _, h3⟩ ⟨_, k1, k2, _, k3⟩ (room_here hu) hl
      | _ => simp [pcmp] at h
theorem fls_cmp : ∀ (xs ys : List PyData) (A : Around) (s : Shared) (vs ws : Array Value) (as bs : List Addr), ReadsAll s.heap vs.toList xs as → ReadsAll s.heap ws.toList ys bs → pcmps xs ys = true → PyData.canLayAll0 xs = true → PyData.canLayAll0 ys = true →
    A.units + min (PyData.depthAll xs) (PyData.depthAll ys) < cLine → Fl1 A s (decide (vs.size < ws.size)) (lexLt itemOrd (keyToksAll xs) (keyToksAll ys)) (vs.toList.zip ws.toList)
  | xs, ys, A, s, vs, ws, as, bs, ra, rb, h, ca, cb, hu => by
    have n1 := ReadsAll.length _ _ _ ra
    have n2 := ReadsAll.length _ _ _ rb
    have e : decide (vs.size < ws.size) = decide (xs.length < ys.length) := by
      rw [← n1, ← n2]; simp
    rw [e]
    exact fl_cmp xs ys A s vs.toList ws.toList as bs ra rb h ca cb hu
theorem fl_cmp : ∀ (xs ys : List PyData) (A : Around) (s : Shared) (vs ws : List Value) (as bs : List Addr), ReadsAll s.heap vs xs as → ReadsAll s.heap ws ys bs → pcmps xs ys = true → PyData.canLayAll0 xs = true → PyData.canLayAll0 ys = true →
    A.units + min (PyData.depthAll xs) (PyData.depthAll ys) < cLine → Fl1 A s (decide (xs.length < ys.length)) (lexLt itemOrd (keyToksAll xs) (keyToksAll ys)) (vs.zip ws)
  | [], [], A, s, _, _, _, _, ra, rb, _, _, _, _ => by
    cases ra; cases rb
    exact (lex_end [] .none []).2.2
  | [], y :: ys, A, s, _, _, _, _, ra, rb, _, _, _, _ => by
    cases ra
    rw [List.zip_nil_left]
    show lexLt itemOrd _ _ = decide _
    rw [(lex_end [] y ys).1]
    simp
  | x :: xs, [], A, s, _, _, _, _, ra, rb, _, _, _, _ => by
    cases rb
    rw [List.zip_nil_right]
    show lexLt itemOrd _ _ = decide _
    rw [(lex_end [] x xs).2.1]
    simp
  | x :: xs, y :: ys, A, s, _, _, _, _, ra, rb, h, ca, cb, hu => by
    obtain ⟨h1, h2⟩ := pcmps_cons h
    rw [PyData.canLayAll0, Bool.and_eq_true] at ca cb
    cases ra with
    | cons r rs =>
      cases rb with
      | cons r' rs' =>
        rw [List.zip_cons_cons, lex_cons x y xs ys h1]
        have eq := eqAt_reads x y A s _ _ _ _ r r' ca.1 cb.1 (room_head hu)
        cases q : PyData.eqv x y with
        | true =>
          rw [q] at eq
          rw [if_pos rfl]
          refine .inl ⟨eq, ?_⟩
          have := fl_cmp xs ys A s _ _ _ _ rs rs' (h2 q) ca.2 cb.2 (room_tail hu)
          simpa only [List.length_cons, Nat.add_lt_add_iff_right] using this
        | false =>
          rw [q] at eq
          rw [if_neg (by simp)]
          exact .inr ⟨eq, rc_cmp x y A s _ _ _ _ r r' h1 ca.1 cb.1 (room_head hu)⟩
end
end
end Mi

end
section
set_option Elab.async false
set_option linter.all false
set_option maxRecDepth 100000
set_option maxHeartbeats 4000000
/-! Mi28: keys of such data can be sorted by. -/
namespace Mi
open PySem PySem.Spec PyProof.Rows PySem.SeqAt PySem.W PySem.Calls

theorem cmp_type {x y : PyData} (h : pcmp x y = true) : dataType x = dataType y ∧ x ≠ .none := by
  cases x with
  | none => cases y <;> simp [pcmp] at h
  | dict _ => cases y <;> simp [pcmp] at h
  | _ => cases y <;> first | exact ⟨rfl, by simp⟩ | simp [pcmp] at h
section
variable {prog : Program} {w : World} {A : Around} {E : Value → Shared → Prop} {s : Shared}
/-- one key against another -/
theorem one_cmp {f : Bool} {da db : PyData} {a b : Value} {as bs : List Addr} {Q : Bool → Shared → Prop} (hf : f = true → ∀ xs, da ≠ .tuple xs) (ra : Reads s.heap a da as) (rb : Reads s.heap b db bs) (h : pcmp da db = true) (ca : da.canLay0 = true) (cb : db.canLay0 = true)
    (hu : A.units + min da.depth db.depth < cLine) (hq : Q (dataLt da db) s) : wpAny (model prog w) A (oneLt' f a b) Q E s := by
  cases f with
  | false =>
    rw [oneLt'_eq]
    simp only [Bool.false_eq_true, if_false]
    refine wpAny_bind (rc_cmp da db A s a b as bs ra rb h ca cb hu prog w E _ ?_)
    exact wpAny_truthy_bool hq
  | true =>
    cases ra with
    | none => cases db <;> simp [pcmp] at h
    | dict _ _ _ _ _ => cases db <;> simp [pcmp] at h
    | bool x =>
      cases rb with
      | bool y => rw [dataLt_bool] at hq; exact oneLt_bool hq
      | _ => simp [pcmp] at h
    | int x _ =>
      cases rb with
      | int y _ => rw [dataLt_int] at hq; exact oneLt_int hq
      | _ => simp [pcmp] at h
    | str x _ =>
      cases rb with
      | str y _ => rw [dataLt_str] at hq; exact oneLt_str hq
      | _ => simp [pcmp] at h
    | @list l o vs n xs as1 h1 h2 h3 h4 =>
      cases rb with
      | @list l' o' vs' n' ys bs1 k1 k2 k3 k4 =>
        have hl := fls_cmp xs ys A.in1 s _ _ _ _ h4 k4 (by simpa [pcmp] using h) (by simpa [PyData.canLay0] using ca) (by simpa [PyData.canLay0] using cb) (room_in hu)
        rw [dataLt_list] at hq
        obtain ⟨c1, d1, o1, s1⟩ := o
        obtain ⟨c2, d2, o2, s2⟩ := o'
        simp only at h2 h3 k2 k3
        subst h2 h3 k2 k3
        rw [oneLt'_eq]
        simp only [if_true]
        refine wpAny_bind (wpAny_cRoomFor (room_here hu) ?_)
        refine wpAny_bind (wpAny_callSpecialIfBound?_slot (T := "list") ⟨_, h1, rfl⟩ F.slot_list_lt (call_meets F.slot_list_lt ⟨_, h1, rfl⟩ F.entry_list_lt (F.args_list_lt_2 _ _) (lst_lt1 l l' vs vs' n n' d1 d2 s1 s2 _) ⟨h1, k1, hl, ?_⟩))
        exact wpAny_truthy_bool hq
      | _ => simp [pcmp] at h
    | @tuple l o vs n xs as1 h1 h2 h3 h4 => exact absurd rfl (hf rfl xs)
/-- two tuples, as sorting compares them -/
theorem kat_cmp {f fin : Bool} {Q : Bool → Shared → Prop} : ∀ (xs ys : List PyData) (i : Nat) (vs ws : List Value) (as bs : List Addr), ReadsAll s.heap vs xs as → ReadsAll s.heap ws ys bs → pcmps xs ys = true → PyData.canLayAll0 xs = true → PyData.canLayAll0 ys = true →
    A.units + min (PyData.depthAll xs) (PyData.depthAll ys) < cLine → (f = true → i = 0 → ∀ x r t, xs = x :: r → x ≠ .tuple t) → fin = decide (xs.length < ys.length) → Q (lexLt itemOrd (keyToksAll xs) (keyToksAll ys)) s → KatLex prog w A f fin Q (vs.zip ws) i s
  | [], [], i, _, _, _, _, ra, rb, _, _, _, _, _, hf, hq => by
    cases ra; cases rb
    subst hf
    rw [(lex_end [] .none []).2.2] at hq
    exact kat_nil hq
  | [], y :: ys, i, _, _, _, _, ra, rb, _, _, _, _, _, hf, hq => by
    cases ra
    rw [(lex_end [] y ys).1] at hq
    rw [List.zip_nil_left]
    refine kat_nil ?_
    rw [hf]
    simpa using hq
  | x :: xs, [], i, _, _, _, _, ra, rb, _, _, _, _, _, hf, hq => by
    cases rb
    rw [(lex_end [] x xs).2.1] at hq
    rw [List.zip_nil_right]
    refine kat_nil ?_
    rw [hf]
    simpa using hq
  | x :: xs, y :: ys, i, _, _, _, _, ra, rb, h, ca, cb, hu, hb, hf, hq => by
    obtain ⟨h1, h2⟩ := pcmps_cons h
    rw [PyData.canLayAll0, Bool.and_eq_true] at ca cb
    rw [lex_cons x y xs ys h1] at hq
    cases ra with
    | cons r rs =>
      cases rb with
      | cons r' rs' =>
        rw [List.zip_cons_cons]
        refine kat_cons (eqAt_reads x y A s _ _ _ _ r r' ca.1 cb.1 (room_head hu) prog w _ _ ?_)
        cases q : PyData.eqv x y with
        | true =>
          rw [q, if_pos rfl] at hq
          refine kat_yes (kat_cmp xs ys (i + 1) _ _ _ _ rs rs' (h2 q) ca.2 cb.2 (room_tail hu) (fun _ z => absurd z (Nat.succ_ne_zero i)) ?_ hq)
          rw [hf]
          simp only [List.length_cons, Nat.add_lt_add_iff_right]
        | false =>
          rw [q, if_neg (by simp)] at hq
          refine kat_no (one_cmp (fun e t => ?_) r r' h1 ca.1 cb.1 (room_head hu) hq)
          rw [Bool.and_eq_true] at e
          exact hb e.1 (by simpa using e.2) x xs t rfl

/-- the keys' order, in the heap h -/
noncomputable def cmpKind (h : Heap) (ds : List PyData) : PyProof.Rows.KeyKind where
  toKeyOrd := listOrd itemOrd
  keyOf v := open Classical in if q : ∃ d, (d ∈ ds ∧ d.canLay0 = true) ∧ ∃ as, Reads h v d as then some (keyToks q.choose) else none
  dflt := ([] : List (Int ⊕ List Nat))
theorem ck_some {h : Heap} {ds : List PyData} {v : Value} {d : PyData} {as : List Addr} (hd : d ∈ ds) (c : d.canLay0 = true) (r : Reads h v d as) : (cmpKind h ds).keyOf v = some (keyToks d) := by
  have q : ∃ d, (d ∈ ds ∧ d.canLay0 = true) ∧ ∃ as, Reads h v d as := ⟨d, ⟨hd, c⟩, as, r⟩
  have e : (cmpKind h ds).keyOf v = some (keyToks q.choose) := dif_pos q
  obtain ⟨⟨_, c2⟩, as2, r2⟩ := q.choose_spec
  rw [e, Reads.unique _ _ _ _ _ c2 r2 r]
theorem ck_inv {h : Heap} {ds : List PyData} {v : Value} {k : List (Int ⊕ List Nat)} (e : (cmpKind h ds).keyOf v = some k) : ∃ d as, (d ∈ ds ∧ d.canLay0 = true) ∧ Reads h v d as ∧ k = keyToks d := by
  by_cases q : ∃ d, (d ∈ ds ∧ d.canLay0 = true) ∧ ∃ as, Reads h v d as
  · have e2 : (cmpKind h ds).keyOf v = some (keyToks q.choose) := dif_pos q
    obtain ⟨c, as2, r2⟩ := q.choose_spec
    rw [e2] at e
    exact ⟨_, as2, c, r2, (Option.some.inj e).symm⟩
  · have e2 : (cmpKind h ds).keyOf v = none := dif_neg q
    rw [e2] at e
    cases e
/-- such keys can be sorted by -/
theorem sorts_cmp {vs : List Value} {ds : List PyData} (e : EachIs (fun v d => ∃ as, Reads s.heap v d as) vs ds) (ok : keysOk ds = true) (hu : A.units + 64 < cLine) : SortsAt prog w A s (cmpKind s.heap ds) vs := by
  unfold keysOk at ok
  obtain ⟨o1, o2⟩ := b2 ok
  obtain ⟨o2, o3⟩ := b2 o2
  have can : ∀ {d}, d ∈ ds → d.canLay0 = true := fun {d} hd => canLay_of_shaped (List.all_eq_true.mp o1 d hd)
  have cmp : ∀ {d d'}, d ∈ ds → d' ∈ ds → pcmp d d' = true := fun {d d'} hd hd' => List.all_eq_true.mp (List.all_eq_true.mp o2 d hd) d' hd'
  have room : ∀ {d d' : PyData}, d ∈ ds → A.units + min d.depth d'.depth < cLine := fun {d d'} hd => room_of_shaped (List.all_eq_true.mp o1 d hd) hu
  refine ⟨fun v hv => ?_, ?_⟩
  · obtain ⟨d, hd, as, r⟩ := e.left v hv
    exact ⟨_, ck_some hd (can hd) r⟩
  · rcases Bool.or_eq_true _ _ ▸ o3 with ht | hn
    · have tp : ∀ d, d ∈ ds → ∃ x r, d = .tuple (x :: r) := fun d hd => by
        have := List.all_eq_true.mp ht d hd
        cases d with
        | tuple l => cases l with
          | nil => cases this
          | cons x r => exact ⟨x, r, rfl⟩
        | _ => cases this
      cases ds with
      | nil =>
        cases e
        refine ⟨general', fun E x y a b Q ha _ _ => ?_, fun h2 => absurd h2 (by simp)⟩
        obtain ⟨d, _, ⟨hd, _⟩, _⟩ := ck_inv ha
        exact absurd hd (by simp)
      | cons d0 ds0 =>
        obtain ⟨x0, r0, e0⟩ := tp d0 (List.mem_cons_self ..)
        have first : ∀ x r, PyData.tuple (x :: r) ∈ d0 :: ds0 → dataType x = dataType x0 := fun x r hm => by
          have q := cmp hm (List.mem_cons_self (a := d0) ..)
          rw [e0] at q
          exact (cmp_type (pcmps_cons (by simpa only [pcmp] using q)).1).1
        refine ⟨tuples' (dataType x0 != Value.type "tuple"), ?_, fun h2 E Q hq => ?_⟩
        · intro E x y a b Q ha hb hq
          obtain ⟨d, as, ⟨hd, cd⟩, ra, rfl⟩ := ck_inv ha
          obtain ⟨d', as', ⟨hd', cd'⟩, rb, rfl⟩ := ck_inv hb
          have hdd := cmp hd hd'
          have hroom := room (d' := d') hd
          obtain ⟨x1, r1, rfl⟩ := tp d hd
          obtain ⟨x2, r2, rfl⟩ := tp d' hd'
          have hq : Q (dataLt (.tuple (x1 :: r1)) (.tuple (x2 :: r2))) s := hq
          rw [dataLt_tuple] at hq
          cases ra with
          | @tuple l o xs n _ _ h1 h2 h3 h4 =>
            cases rb with
            | @tuple l' o' xs' n' _ _ k1 k2 k3 k4 =>
              have n1 := SeqAt.ReadsAll.length _ _ _ h4
              have n2 := SeqAt.ReadsAll.length _ _ _ k4
              rw [Array.length_toList] at n1 n2
              have hin := SeqAt.room_in hroom
              refine kat_lt h1 h3 k1 k3 (kat_cmp (x1 :: r1) (x2 :: r2) 0 _ _ _ _ h4 k4 (by simpa only [pcmp] using hdd) (by simpa only [PyData.canLay0] using cd) (by simpa only [PyData.canLay0] using cd') (by omega) (fun hb _ x r t ex => ?_) (by rw [n1, n2]) hq)
              obtain ⟨rfl, rfl⟩ := List.cons.inj ex
              rw [← first _ _ hd] at hb
              exact dataType_tuple hb t
        · obtain ⟨fs, t1, t2, t3⟩ := each_katTups e tp
          refine kat_kind (T := dataType x0) t1 (by omega) (fun f hf => ?_) (beq_self_eq_true _) hq
          obtain ⟨x, r, as, m1, m2⟩ := t3 f hf
          rw [← first x r m1]
          exact looks_reads m2
    · have nt : ∀ d, d ∈ ds → d ≠ .none ∧ ∀ xs, d ≠ .tuple xs := fun d hd => by
        have := List.all_eq_true.mp hn d hd
        cases d <;> first | (cases this; done) | exact ⟨by simp, fun _ => by simp⟩
      refine ⟨oneType', ?_, fun h2 E Q hq => ?_⟩
      · intro E x y a b Q ha hb hq
        obtain ⟨d, as, ⟨hd, cd⟩, ra, rfl⟩ := ck_inv ha
        obtain ⟨d', as', ⟨hd', cd'⟩, rb, rfl⟩ := ck_inv hb
        rw [keyLt'_oneType]
        exact one_cmp (fun _ => (nt d hd).2) ra rb (cmp hd hd') cd cd' (room hd) hq
      · cases ds with
        | nil =>
          cases e
          exact absurd h2 (by simp)
        | cons d0 ds0 =>
          refine kas_kind (T := dataType d0) h2 (fun v hv => ?_) (dataType_other (nt d0 (List.mem_cons_self ..)).2) (beq_self_eq_true _) hq
          obtain ⟨d, hd, as, r⟩ := e.left v hv
          rw [← (cmp_type (cmp hd (List.mem_cons_self (a := d0) ..))).1]
          exact looks_reads r
end
end Mi

end
section
set_option Elab.async false
set_option linter.all false
set_option maxRecDepth 100000
set_option maxHeartbeats 4000000
/-! Mi29: sorted. -/
namespace Mi
open PySem PySem.Spec PyProof.Rows L2

/-! ### the sort's end, at the heap -/
section
variable {prog : Program} {w : World} {A : Around} {E : Value → Shared → Prop} {s : Shared} {a kS : Addr} {e e1 : Nat} {keys : Array Value} {P : PySem.Fin → Shared → Prop}
abbrev outHeap (h : Heap) (kS a : Addr) (out : List Value) : Heap := (h.update kS (Obj.mapSeq fun _ => (#[] : Array Value))).update a (Obj.mapSeq fun _ => out.toArray)
theorem tail_run {st : SortSt} {out : List Value} (hk : s.heap.get? kS = some (seqObj "list" keys e)) (ha : s.heap.get? a = some (seqObj "list" #[] e1)) (ne : kS ≠ a) (k1 : keys.size ≤ sizeLine) (k2 : out.length ≤ sizeLine) (hf : failedOf st = none)
    (ho : (arrOf st).map (·.2) = out.toArray) (h : P (.done (.ret .none)) { s with heap := outHeap s.heap kS a out }) : wpAny (model prog w) A (ksk_tail a false e1 (.ref kS) st) P E s := by
  have u1 := Heap.SameBut.update s.heap kS (Obj.mapSeq fun _ => (#[] : Array Value))
  have ha1 := (u1.2 a ne.symm).trans ha
  have k3 : out.toArray.size ≤ sizeLine + 1 := by rw [List.size_toArray]; omega
  unfold ksk_tail
  dsimp only
  rw [ho]
  refine wpAny_bind (listUpdate_at hk rfl (wpAny_bind (wpAny_letGo (wpAny_bind (seqEpoch_at ha1 rfl (wpAny_bind (listUpdate_at ha1 rfl ?_ (Nat.zero_le _) k3)))))) k1 (Nat.zero_le _))
  rw [hf]
  simp only [bne_self_eq_false, Bool.false_eq_true, if_false]
  exact wpAny_pure h
theorem end_run {κ : PyProof.Rows.KeyKind} {vs : List Value} (hk : s.heap.get? kS = some (seqObj "list" keys e)) (ha : s.heap.get? a = some (seqObj "list" #[] e1)) (ne : kS ≠ a) (S : W.SortsAt prog w A s κ keys.toList) (sz : keys.size = vs.length) (hZ : vs.length ≤ sizeLine)
    (h : P (.done (.ret .none)) { s with heap := outHeap s.heap kS a (W.sortVals κ false keys.toList vs) }) : wpAny (model prog w) A (ksk_end a false vs.toArray e1 (.ref kS) keys) P E s := by
  obtain ⟨kd, lt, kk⟩ := S.kind
  have l1 : keys.toList.length = vs.length := by simpa using sz
  have ko : PyProof.Rows.KeysOf κ (keys.zip vs.toArray) := W.keysOf_zip S.keys
  have l2 : (W.sortVals κ false keys.toList vs).length ≤ sizeLine := by rw [W.sortVals_length false l1]; exact hZ
  have l3 : (keys.zip vs.toArray).size = vs.length := by rw [Array.size_zip, sz]; simp
  have l4 : keys.size ≤ sizeLine := by omega
  have out : ∀ st : SortSt, (arrOf st).Perm (keys.zip vs.toArray) → SortedToK κ (arrOf st) (keys.zip vs.toArray).size → Stable κ (arrOf st) (keys.zip vs.toArray) → (arrOf st).map (·.2) = (W.sortVals κ false keys.toList vs).toArray := fun st p1 p2 p3 => by
    have q := congrArg List.toArray (W.sort_out (rev := false) (keys := keys) (items := vs.toArray) (xs := arrOf st) (κ := κ) ko p1 p2 p3)
    rwa [Array.toArray_toList] at q
  unfold ksk_end
  dsimp only
  simp only [Bool.false_eq_true, if_false]
  by_cases two : vs.toArray.size < 2
  · rw [if_pos two, if_pos two]
    refine wpAny_bind (wpAny_pure ?_)
    rw [StateT.run_pure]
    refine wpAny_bind (wpAny_pure ?_)
    dsimp only
    refine tail_run (st := SortSt.mk' general' (keys.zip vs.toArray) #[] 7 none) hk ha ne l4 l2 rfl (out _ (Array.Perm.refl _) (fun i j ij hj => ?_) (Stable.refl _)) h
    rw [List.size_toArray] at two
    rw [l3] at hj
    obtain rfl : i = j := by omega
    exact KeyOrd.kle_refl _
  · rw [if_neg two, if_neg two]
    rw [List.size_toArray] at two
    refine wpAny_bind (kk (by omega) _ ?_)
    refine wpAny_bind (wpAny_mono (H.wpS_sortRunsSt (κ := κ) (kd := kd) (a₀ := keys.zip vs.toArray) (st := SortSt.mk' kd (keys.zip vs.toArray) #[] 7 none)
      (Q := fun _ st => failedOf st = none ∧ (arrOf st).map (·.2) = (W.sortVals κ false keys.toList vs).toArray) lt ko ⟨Array.Perm.refl _, rfl, rfl⟩ rfl (Stable.refl _) (by rw [l3]; omega) fun st p1 p2 p3 p4 => ⟨p2, out st p1 p3 p4⟩) ?_ fun _ _ z => z)
    rintro ⟨⟨⟩, st⟩ s' ⟨rfl, q1, q2⟩
    exact tail_run hk ha ne l4 l2 q1 q2 h
end

/-! ### data along with values -/
/-- one thing that is sorted: its key's value, the key, its value, seen from three sides -/
structure It where
  kv : Value
  k : PyData
  u : Value
  v : V
  d : D
def itLe (s t : It) : Bool := !W.dataLt t.k s.k
theorem sort_its {h : Heap} {T : List It} {ps : List PyData} (hT : ∀ t ∈ T, (cmpKind h ps).keyOf t.kv = some (W.keyToks t.k)) :
    W.sortVals (cmpKind h ps) false (T.map (·.kv)) (T.map (·.u)) = (T.mergeSort itLe).map (·.u) ∧ (((T.map (·.k)).zip (T.map (·.d))).mergeSort fun a b => !W.dataLt b.1 a.1).map (·.2) = (T.mergeSort itLe).map (·.d) := by
  have e1 : (T.map (·.kv)).zip (T.map (·.u)) = T.map fun t => ((t.kv, t.u) : Value × Value) := by rw [List.zip_map']
  have e2 : (T.map (·.k)).zip (T.map (·.d)) = T.map fun t => ((t.k, t.d) : PyData × D) := by rw [List.zip_map']
  constructor
  · unfold W.sortVals
    rw [e1, ← List.map_mergeSort (r := itLe), List.map_map]
    · rfl
    · intro s hs t ht
      have k1 : W.keyD (cmpKind h ps) s.kv = W.keyToks s.k := by unfold W.keyD; rw [hT s hs]; rfl
      have k2 : W.keyD (cmpKind h ps) t.kv = W.keyToks t.k := by unfold W.keyD; rw [hT t ht]; rfl
      show itLe s t = (!(cmpKind h ps).blt (W.keyD (cmpKind h ps) t.kv) (W.keyD (cmpKind h ps) s.kv))
      rw [k1, k2]
      rfl
  · rw [e2, ← List.map_mergeSort (r := itLe), List.map_map]
    · rfl
    · intro s hs t ht
      rfl
theorem mk_its {W : Wd} {ρ : List Addr} {Fr : Addr → Prop} {H : Hp} {R : Value → PyData → Prop} : ∀ {keys : List Value} {ps : List PyData} {us : List Value} {vs : List V} {ds : List D}, PySem.W.EachIs R keys ps → Vals vs us → RDs W ρ Fr H ds vs → keys.length = us.length →
    ∃ T : List It, T.map (·.kv) = keys ∧ T.map (·.k) = ps ∧ T.map (·.u) = us ∧ T.map (·.v) = vs ∧ T.map (·.d) = ds ∧ ∀ t ∈ T, R t.kv t.k ∧ RelV t.v t.u ∧ RD W ρ Fr H t.d t.v
  | _, _, _, _, ds, .nil, .nil, h, _ => by
    cases ds with
    | nil => exact ⟨[], rfl, rfl, rfl, rfl, rfl, fun t ht => by simp at ht⟩
    | cons d ds => have := h.length; simp at this
  | _, _, _, _, ds, .nil, .cons _ _, h, e => by simp at e
  | _, _, _, _, ds, .cons _ _, .nil, h, e => by simp at e
  | _, _, _, _, [], .cons _ _, .cons _ _, h, e => by have := h.length; simp at this
  | _, _, _, _, d :: ds, .cons r rs, .cons q qs, h, e => by
    obtain ⟨v, vs, ev, h1, h2⟩ := h.inv
    cases ev
    obtain ⟨T, e1, e2, e3, e4, e5, hT⟩ := mk_its rs qs h2 (by simpa using e)
    refine ⟨⟨_, _, _, _, d⟩ :: T, by rw [List.map_cons, e1], by rw [List.map_cons, e2], by rw [List.map_cons, e3], by rw [List.map_cons, e4], by rw [List.map_cons, e5], fun t ht => ?_⟩
    rcases List.mem_cons.mp ht with rfl | ht
    · exact ⟨r, q, h1⟩
    · exact hT t ht
theorem its_vals : ∀ {T : List It}, (∀ t ∈ T, RelV t.v t.u) → Vals (T.map (·.v)) (T.map (·.u))
  | [], _ => .nil
  | t :: T, h => .cons (h t (List.mem_cons_self ..)) (its_vals fun x hx => h x (List.mem_cons_of_mem _ hx))
theorem its_rds {W : Wd} {ρ : List Addr} {Fr : Addr → Prop} {H : Hp} : ∀ {T : List It}, (∀ t ∈ T, RD W ρ Fr H t.d t.v) → RDs W ρ Fr H (T.map (·.d)) (T.map (·.v))
  | [], _ => .nil
  | t :: T, h => .cons (h t (List.mem_cons_self ..)) (its_rds fun x hx => h x (List.mem_cons_of_mem _ hx))
/-- sorted values, sorted data -/
theorem sort_both {W : Wd} {ρ : List Addr} {Fr : Addr → Prop} {H : Hp} {h : Heap} {keys us : List Value} {ps : List PyData} {vs : List V} {ds : List D} (ek : PySem.W.EachIs (fun v d => ∃ as, Reads h v d as) keys ps) (ok : keysOk ps = true) (rv : Vals vs us) (rd : RDs W ρ Fr H ds vs) (el : keys.length = us.length) :
    ∃ vs', Vals vs' (PySem.W.sortVals (cmpKind h ps) false keys us) ∧ RDs W ρ Fr H (((ps.zip ds).mergeSort fun a b => !PySem.W.dataLt b.1 a.1).map (·.2)) vs' := by
  obtain ⟨T, e1, e2, e3, e4, e5, hT⟩ := mk_its (R := fun v d => ∃ as, Reads h v d as) ek rv rd el
  have can : ∀ t ∈ T, t.k.canLay0 = true := fun t ht => by
    unfold keysOk at ok
    have := List.all_eq_true.mp (b2 ok).1 t.k (by rw [← e2]; exact List.mem_map_of_mem ht)
    exact SeqAt.canLay_of_shaped this
  have hk : ∀ t ∈ T, (cmpKind h ps).keyOf t.kv = some (PySem.W.keyToks t.k) := fun t ht => by
    obtain ⟨as, r⟩ := (hT t ht).1
    exact ck_some (by rw [← e2]; exact List.mem_map_of_mem ht) (can t ht) r
  obtain ⟨s1, s2⟩ := sort_its hk
  have mem : ∀ t ∈ T.mergeSort itLe, t ∈ T := fun t ht => List.mem_mergeSort.mp ht
  refine ⟨(T.mergeSort itLe).map (·.v), ?_, ?_⟩
  · rw [← e1, ← e3, s1]
    exact its_vals fun t ht => (hT t (mem t ht)).2.1
  · rw [← e2, ← e5, s2]
    exact its_rds fun t ht => (hT t (mem t ht)).2.2
end Mi

end
section
set_option Elab.async false
set_option linter.all false
set_option maxRecDepth 100000
set_option maxHeartbeats 4000000
/-! Mi30: sorted, with a key. -/
namespace Mi
open PySem PySem.Spec PyProof.Rows L2

/-! ### states beside which objects stand that no data know -/
section
variable {W : Wd} {B : Act} {G : List MO} {H H1 H2 : Hp} {ρ ρ1 ρ2 : List Addr} {Fr Fr1 Fr2 : Addr → Prop} {a : Addr} {ho : HO}
theorem mo_out (f : ¬ Fr a) : Mo ρ Fr H ρ Fr (upd H a ho) := ⟨fun _ _ h => h, fun _ h => h, fun b hb => upd_ne fun z => f (z ▸ hb)⟩
theorem GS.put (g : GS W G H ρ Fr) (r : a ∉ ρ) (f : ¬ Fr a) : GS W G (upd H a ho) ρ Fr :=
  ⟨g.gl, g.nd, g.nf, fun n o e => by
    obtain ⟨b, o2, e1, e2, m⟩ := g.ob n o e
    exact ⟨b, o2, e1, (upd_ne (show b ≠ a from fun z => r (z ▸ List.mem_of_getElem? e1))).trans e2, m.mono (mo_out f)⟩, fun b hf => by
    obtain ⟨o, e⟩ := g.ft b hf
    exact ⟨o, (upd_ne (show b ≠ a from fun z => f (z ▸ hf))).trans e⟩⟩
theorem Ex.put (e : Ex B H ρ Fr) (h : B.H a = none) : Ex B (upd H a ho) ρ Fr :=
  ⟨e.r, e.f, fun b o q hb => (upd_ne (show b ≠ a from fun z => by rw [z, h] at q; cases q)).trans (e.k b o q hb), e.nr, e.nF⟩
theorem Ex.base {G : List MO} (e : Ex B H ρ Fr) (g : GS W G H ρ Fr) {b : Addr} (h : H b = none) : B.H b = none := by
  cases q : B.H b with
  | none => rfl
  | some o =>
    by_cases m : b ∈ B.ρ
    · obtain ⟨n, hn⟩ := List.mem_iff_getElem?.mp m
      have hn := e.r n b hn
      have hl : n < G.length := by rw [← g.gl]; exact (List.getElem?_eq_some_iff.mp hn).1
      obtain ⟨c, u, e1, e2, _⟩ := g.ob n _ (List.getElem?_eq_getElem hl)
      rw [hn] at e1
      cases e1
      rw [h] at e2
      cases e2
    · rw [e.k b o q m] at h; cases h
theorem Ex.trans (e : Ex B H1 ρ1 Fr1) (g : GS W G H1 ρ1 Fr1) (e2 : Ex ⟨H1, ρ1, Fr1⟩ H2 ρ2 Fr2) : Ex B H2 ρ2 Fr2 := by
  refine ⟨fun n b q => e2.r n b (e.r n b q), fun b q => e2.f b (e.f b q), fun b o q hb => e2.k b o (e.k b o q hb) fun z => ?_, fun b hb => ?_, fun b hb => ?_⟩
  · rcases e.nr b z with w | w
    · exact hb w
    · rw [q] at w; cases w
  · rcases e2.nr b hb with z | z
    · exact e.nr b z
    · exact .inr (e.base g z)
  · rcases e2.nF b hb with z | z
    · exact e.nF b z
    · exact .inr (e.base g z)
end

/-! ### one key -/
theorem env_at {P : Program} {w : World} {K : PySem.W.Frag} {mg : Str → Option Value} {base : Heap} {A A2 : Around} {outer : List Env} {s : Shared} {H : Hp} (e : Env0 P w K mg base A outer s H) (h : A2.frames = A.frames) : Env0 P w K mg base A2 outer s H :=
  { e with frames := h.trans e.frames }
section
variable {W : Wd} {T : Tb} {Φ : Fns} {k : Nat} {C : Cf} {X : Cx} {XW : WX} {pins : List (Addr × Obj)} {σ : Sv} {H : Hp} {s : Shared}
theorem key_once (hx : XO W T Φ k C X XW) {fd : Fd} {raw : List D → List MO → FO} {fa : Addr} (F : FnE W X.base k fd raw fa) {A2 : Around} (fr : A2.frames = X.A.frames) (rm : Rm k A2) {G G' : List MO} {ρ : List Addr} {Fr : Addr → Prop} {d d' : D} {l' : List D} {v : V} {u : Value}
    (I : Inv X pins σ H s) (g : GS W G H ρ Fr) (rd : RD W ρ Fr H d v) (rv : RelV v u) (hc : bindC fd.ps 1 [] fd.dfl.length = true) (hb : bindG fd.ps [d] [] [] fd.dfl = some l') (h : raw l' G = .ok d' G') {Q' : Value → Shared → Prop} {E : Value → Shared → Prop}
    (fin : ∀ (v' : V) (u' : Value) (s' : Shared) (H' : Hp) (ρ' : List Addr) (Fr' : Addr → Prop), Inv X pins σ H' s' → RelV v' u' → GS W G' H' ρ' Fr' → Ex ⟨H, ρ, Fr⟩ H' ρ' Fr' → RD W ρ' Fr' H' d' v' → Q' u' s') :
    wpAny (model X.prog X.w) A2 (call (.ref fa) [u] []) Q' E s := by
  obtain ⟨wd, nm, sc, nd, calm, rmX, tk, po, tb, _, _⟩ := hx
  subst wd
  obtain ⟨dat, dvs, its, hF, hd, hv, hbind⟩ := F.ex
  obtain ⟨l2, e2, rl⟩ := bind_rel (RDs.one rd).rl (RDs.nil (W := wdOf X) (ρ := ρ) (Fr := Fr) (H := H)).rl (hd ρ Fr H).rl fd.ps [] hb
  obtain ⟨l3, e3, rv3⟩ := bind_rel (Vals.rl (.cons rv .nil)) (Vals.rl .nil) (Vals.rl hv) fd.ps [] e2
  have sp : spF (wdOf X) fd.ps.length raw l2 H (fun v' H' => ∃ ρ' Fr', GS (wdOf X) G' H' ρ' Fr' ∧ Ex ⟨H, ρ, Fr⟩ H' ρ' Fr' ∧ RD (wdOf X) ρ' Fr' H' d' v') (fun _ _ _ => False) := by
    refine ⟨ρ, Fr, G, l', bind_len e2, g, rl.rds, ?_⟩
    rw [h]
    exact fun H' ρ' Fr' g' e' v' rv' => ⟨ρ', Fr', g', e', rv'⟩
  refine wpAny_call (codeAny_mono (hF.run A2 X.stack s H ⟨[u], []⟩ l3 l2 _ _ rm (env_at I.env0 fr) (hbind s [u] [] [] l3 I.kIn rfl hc e3) rv3.vals sp) fun r s' hq => ?_)
  cases r with
  | error e =>
    obtain ⟨_, _, _, _, _, _, _, _, _, _, _, _, z⟩ := hq
    exact z.elim
  | ok fl =>
    cases fl with
    | next => exact False.elim hq
    | brk => exact False.elim hq
    | cont => exact False.elim hq
    | ret u' =>
      obtain ⟨v', H', os, bare, un, hok, r', ρ', Fr', g', e', rd'⟩ := hq
      exact fin v' u' s' H' ρ' Fr' (I.call' os un hok bare fun _ z => nomatch z) r' g' e' rd'
theorem each_reads (I : Inv X pins σ H s) {ρ : List Addr} {Fr : Addr → Prop} : ∀ {ds : List D} {ps : List PyData} {vs : List V} {us : List Value}, D.pys ds = some ps → RDs (wdOf X) ρ Fr H ds vs → Vals vs us → PySem.W.EachIs (fun v d => ∃ as, Reads s.heap v d as) us ps
  | [], ps, vs, us, e, r, u => by
    simp only [D.pys] at e
    cases e
    rw [r.inv0] at u
    cases u
    exact .nil
  | d :: ds, ps, vs, us, e, r, u => by
    obtain ⟨v, vs', ev, r1, r2⟩ := r.inv
    subst ev
    cases u with
    | cons q qs =>
      simp only [D.pys] at e
      cases e1 : D.py d with
      | none => rw [e1] at e; cases e
      | some p =>
        cases e2 : D.pys ds with
        | none => rw [e1, e2] at e; cases e
        | some ps' =>
          rw [e1, e2] at e
          cases e
          exact .cons (Dp.reads I p v _ (py_dp d p v e1 r1) q) (each_reads I e2 r2 qs)
abbrev isL (a : Addr) (us : Array Value) (n : Nat) : HO := .ext fun h => h.get? a = some (seqObj "list" us n)
theorem ext_ok {P : Program} {w : World} {H : Hp} {h : Heap} {a : Addr} {us : Array Value} {n : Nat} (e : h.get? a = some (seqObj "list" us n)) : ObjOk P w H h a (isL a us n) :=
  ⟨e, ⟨_, e⟩, fun h1 h2 q z => z _ q⟩
theorem inv_isL (I : Inv X pins σ H s) {a : Addr} {us : Array Value} {n : Nat} (h : H a = some (isL a us n)) : s.heap.get? a = some (seqObj "list" us n) := (I.hok a _ h).1
/-- a list's object is written -/
theorem write_isL (I : Inv X pins σ H s) {a : Addr} {us vs : Array Value} {n : Nat} (h : H a = some (isL a us n)) (f : Array Value → Array Value) (hf : f us = vs) :
    ∃ n', Inv X pins σ (upd H a (isL a vs n')) { s with heap := s.heap.update a (Obj.mapSeq f) } ∧ (s.heap.update a (Obj.mapSeq f)).get? a = some (seqObj "list" vs n') := by
  have e := inv_isL I h
  obtain ⟨n', e2⟩ : ∃ n', (s.heap.update a (Obj.mapSeq f)).get? a = some (seqObj "list" (f us) n') := ⟨_, get?_update_seq e f⟩
  rw [hf] at e2
  have sb := Heap.SameBut.update s.heap a (Obj.mapSeq f)
  exact ⟨n', I.write (t' := s.toks) (e := a) (by rw [h]; trivial) (.inl rfl) (fun b u ne q => (sb.2 b ne).trans q) ⟨_, e2⟩ (ext_ok e2), e2⟩
theorem loop_key_step {kc : D → List MO → FO} {d : D} {r acc ks : List D} {S S' : List Slot} {G G' : List MO} (h : loopKeys (fun x σ G => fromFO (kc x G) σ) (d :: r) acc S G = .ok ks S' G') :
    ∃ k G1, kc d G = .ok k G1 ∧ loopKeys (fun x σ G => fromFO (kc x G) σ) r (acc ++ [k]) S G1 = .ok ks S' G' := by
  have h : Rs.andThen (fromFO (kc d G) S) (fun k => loopKeys (fun x σ G => fromFO (kc x G) σ) r (acc ++ [k])) = .ok ks S' G' := h
  unfold Rs.andThen at h
  cases q : kc d G with
  | ok k G1 =>
    rw [q] at h
    exact ⟨k, G1, rfl, h⟩
  | ex x G1 => rw [q] at h; cases h
  | bad => rw [q] at h; cases h
/-- what is asked of a key function -/
abbrev KeyF (W : Wd) (X : Cx) (pins : List (Addr × Obj)) (σ : Sv) (A2 : Around) (B0 : Act) (kc : D → List MO → FO) (f : Value) : Prop :=
  ∀ (s : Shared) (H : Hp) (G G' : List MO) (ρ : List Addr) (Fr : Addr → Prop) (d d' : D) (v : V) (u : Value) (Q' E : Value → Shared → Prop), Inv X pins σ H s → GS W G H ρ Fr → Ex B0 H ρ Fr → RD W ρ Fr H d v → RelV v u → kc d G = .ok d' G' →
    (∀ (v' : V) (u' : Value) (s' : Shared) (H' : Hp) (ρ' : List Addr) (Fr' : Addr → Prop), Inv X pins σ H' s' → RelV v' u' → GS W G' H' ρ' Fr' → Ex ⟨H, ρ, Fr⟩ H' ρ' Fr' → RD W ρ' Fr' H' d' v' → Q' u' s') → wpAny (model X.prog X.w) A2 (call f [u] []) Q' E s
theorem key_fn (hx : XO W T Φ k C X XW) {fd : Fd} {raw : List D → List MO → FO} {fa : Addr} (F : FnE W X.base k fd raw fa) {A2 : Around} (fr : A2.frames = X.A.frames) (rm : Rm k A2) (hc : bindC fd.ps 1 [] fd.dfl.length = true) {kc : D → List MO → FO}
    (hcall : ∀ d G, kc d G = match bindG fd.ps [d] [] [] fd.dfl with
      | some l => raw l G
      | none => .bad) {B0 : Act} : KeyF W X pins σ A2 B0 kc (.ref fa) := fun s H G G' ρ Fr d d' v u Q' E I g _ rd rv h fin => by
  rw [hcall] at h
  cases hb : bindG fd.ps [d] [] [] fd.dfl with
  | none => rw [hb] at h; cases h
  | some l' =>
    rw [hb] at h
    exact key_once hx F fr rm I g rd rv hc hb h fin
theorem sortK_run (W0 : W = wdOf X) {fa : Addr} {A2 : Around} (room : A2.units + 64 < cLine)
    {a : Addr} {n : Nat} {us : List Value} {ys : List V} {ds ks : List D} {ps : List PyData} {G G' : List MO} {ρ : List Addr} {Fr : Addr → Prop} {B0 : Act} {S S' : List Slot} {kc : D → List MO → FO} (hkey : KeyF W X pins σ A2 B0 kc (.ref fa))
    (I : Inv X pins σ H s) (ha : H a = some (isL a us.toArray n)) (g : GS W G H ρ Fr) (e : Ex B0 H ρ Fr) (ba : B0.H a = none) (ra : a ∉ ρ) (nfa : ¬ Fr a) (rd : RDs W ρ Fr H ds ys) (rv : Vals ys us) (hz : us.length ≤ sizeLine)
    (hk : loopKeys (fun x σ G => fromFO (kc x G) σ) ds [] S G = .ok ks S' G') (hp : D.pys ks = some ps) (hok : keysOk ps = true) {Q : PySem.Fin → Shared → Prop} {E : Value → Shared → Prop}
    (fin : ∀ (H' : Hp) (s' : Shared) (ρ' : List Addr) (Fr' : Addr → Prop) (vs' : List V), Inv X pins σ H' s' → H' a = some (.lst vs') → GS W G' H' ρ' Fr' → Ex B0 H' ρ' Fr' → a ∉ ρ' → ¬ Fr' a →
      RDs W ρ' Fr' H' (((ps.zip ds).mergeSort fun a b => !PySem.W.dataLt b.1 a.1).map (·.2)) vs' → S' = S → Q (.done (.ret .none)) s') :
    wpAny (model X.prog X.w) A2 (ksk_tree a (.ref fa) false) Q E s := by
  have lenD : ds.length = us.length := by rw [rd.length, rv.length]
  have lt_a : a < s.heap.objs.size := I.hok.lt ha
  unfold ksk_tree
  refine wpAny_bind (listItems_at (inv_isL I ha) rfl ?_)
  refine wpAny_bind (listUpdate_at (inv_isL I ha) rfl ?_ (by rw [List.size_toArray]; exact hz) (Nat.zero_le _))
  obtain ⟨e1, I1, ha1⟩ := write_isL I ha (fun _ => #[]) rfl
  refine wpAny_bind (seqEpoch_at ha1 rfl ?_)
  refine wpAny_bind (wpAny_newTuple ?_ (by simpa using hz))
  have I2 := I1.kept (t' := s.toks) (h' := (s.heap.update a (Obj.mapSeq fun _ => (#[] : Array Value))).push { cls := .type "tuple", data := .seq us.toArray.toList.toArray }) fun b u q => Heap.get?_push_of_some _ q
  refine wpAny_bind (wpAny_newList ?_ (Nat.zero_le _))
  obtain ⟨kS, hkS⟩ : ∃ kS, kS = ((s.heap.update a (Obj.mapSeq fun _ => (#[] : Array Value))).push { cls := .type "tuple", data := .seq us.toArray.toList.toArray }).objs.size := ⟨_, rfl⟩
  have e2 := Heap.get?_push_size (((s.heap.update a (Obj.mapSeq fun _ => (#[] : Array Value))).push { cls := .type "tuple", data := .seq us.toArray.toList.toArray })) (o := { cls := .type "list", data := .seq ([] : List Value).toArray }) rfl
  have kfree : (upd H a (isL a #[] e1)) kS = none := by
    rw [hkS]
    exact I2.hok.fresh (Nat.le_refl _)
  have ne : kS ≠ a := fun z => by rw [z, upd_same] at kfree; cases kfree
  have kfree0 : H kS = none := by rw [upd_ne ne] at kfree; exact kfree
  have I3 := I2.laid (a := kS) (o := isL kS #[] 0) (t' := s.toks) (h' := ((s.heap.update a (Obj.mapSeq fun _ => (#[] : Array Value))).push { cls := .type "tuple", data := .seq us.toArray.toList.toArray }).push { cls := .type "list", data := .seq ([] : List Value).toArray }) (fun b u q => Heap.get?_push_of_some _ q) (Nat.le_of_eq hkS.symm) (ext_ok (by rw [hkS]; exact e2))
  have bk : B0.H kS = none := e.base g kfree0
  have rk : kS ∉ ρ := fun z => by
    obtain ⟨m, hm⟩ := List.mem_iff_getElem?.mp z
    have hl : m < G.length := by rw [← g.gl]; exact (List.getElem?_eq_some_iff.mp hm).1
    obtain ⟨c, u, q1, q2, _⟩ := g.ob m _ (List.getElem?_eq_getElem hl)
    rw [hm] at q1
    cases q1
    rw [kfree0] at q2
    cases q2
  have nfk : ¬ Fr kS := fun z => by
    obtain ⟨o, q⟩ := g.ft kS z
    rw [kfree0] at q
    cases q
  refine wpAny_holding ?_
  rw [← hkS]
  unfold ksk_rest
  refine wpAny_bind (wpAny_rule ?_)
  rw [List.forIn_toArray]
  refine wpAny_bind (ksk_fold (fun i s' => ∃ (Hi : Hp) (ρi : List Addr) (Fri : Addr → Prop) (Gi : List MO) (acc : List D) (kvs : List V) (kA : Array Value) (ek : Nat), Inv X pins σ Hi s' ∧ GS W Gi Hi ρi Fri ∧ Ex B0 Hi ρi Fri ∧ Hi a = some (isL a #[] e1) ∧ Hi kS = some (isL kS kA ek) ∧
      (a ∉ ρi ∧ ¬ Fri a ∧ kS ∉ ρi ∧ ¬ Fri kS) ∧ RDs W ρi Fri Hi acc kvs ∧ Vals kvs kA.toList ∧ acc.length = i ∧ RDs W ρi Fri Hi ds ys ∧ loopKeys (fun x σ G => fromFO (kc x G) σ) (ds.drop i) acc S Gi = .ok ks S' G') us 0 _ ?init ?step ?done)
  case init =>
    refine ⟨_, ρ, Fr, G, [], [], #[], 0, I3, (g.put ra nfa).put rk nfk, (e.put ba).put bk, ?_, upd_same, ⟨ra, nfa, rk, nfk⟩, .nil, .nil, rfl, ?_, hk⟩
    · rw [upd_ne ne.symm]; exact upd_same
    · exact RDs.mono (mo_out nfk) _ _ (RDs.mono (mo_out nfa) _ _ rd)
  case step =>
    rintro j x s' hxj ⟨Hi, ρi, Fri, Gi, acc, kvs, kA, ek, Ii, gi, ei, hai, hki, ⟨o1, o2, o3, o4⟩, ri, vi, li, rdi, hki2⟩
    rw [Nat.zero_add] at li hki2 ⊢
    have lj : j < us.length := (List.getElem?_eq_some_iff.mp hxj).1
    obtain ⟨d, hd⟩ : ∃ d, ds[j]? = some d := ⟨_, List.getElem?_eq_getElem (by omega)⟩
    obtain ⟨v, hv, rdv⟩ := rdi.get hd
    obtain ⟨u, hu, rvu⟩ := rv.get hv
    rw [hxj] at hu
    cases hu
    have hdrop : ds.drop j = d :: ds.drop (j + 1) := by
      rw [List.drop_eq_getElem_cons (by omega)]
      rw [List.getElem?_eq_getElem (by omega)] at hd
      cases hd
      rfl
    rw [hdrop] at hki2
    obtain ⟨kd, G1, hcall1, hrest⟩ := loop_key_step hki2
    refine wpAny_bind (wpAny_attempt ?_)
    refine hkey _ _ _ _ _ _ _ _ _ _ _ _ Ii gi ei rdv rvu hcall1 fun v' u' s2 H2 ρ2 Fr2 I2 rv2 g2 e2 rd2 => ?_
    have h2a : H2 a = some (isL a #[] e1) := e2.k a _ hai o1
    have h2k : H2 kS = some (isL kS kA ek) := e2.k kS _ hki o3
    have n1 : a ∉ ρ2 := fun z => by
      rcases e2.nr a z with q | q
      · exact o1 q
      · have q : Hi a = none := q
        rw [hai] at q; cases q
    have n2 : ¬ Fr2 a := fun z => by
      rcases e2.nF a z with q | q
      · exact o2 q
      · have q : Hi a = none := q
        rw [hai] at q; cases q
    have n3 : kS ∉ ρ2 := fun z => by
      rcases e2.nr kS z with q | q
      · exact o3 q
      · have q : Hi kS = none := q
        rw [hki] at q; cases q
    have n4 : ¬ Fr2 kS := fun z => by
      rcases e2.nF kS z with q | q
      · exact o4 q
      · have q : Hi kS = none := q
        rw [hki] at q; cases q
    have mo2 : Mo ρi Fri Hi ρ2 Fr2 H2 := Ex.mo (B := ⟨Hi, ρi, Fri⟩) gi e2
    have lk : kA.size = j := by rw [← li, ri.length, vi.length]; simp
    obtain ⟨e3, I3, h3⟩ := write_isL I2 h2k (fun z => z.push u') rfl
    refine wpAny_bind (listUpdate_at (inv_isL I2 h2k) rfl ?_ (by omega) (by rw [Array.size_push]; omega))
    refine wpAny_pure ⟨rfl, _, ρ2, Fr2, G1, acc ++ [kd], kvs ++ [v'], kA.push u', e3, I3, g2.put n3 n4, (ei.trans gi e2).put bk, ?_, upd_same, ⟨n1, n2, n3, n4⟩, ?_, ?_, by simp [li], ?_, hrest⟩
    · rw [upd_ne ne.symm]; exact h2a
    · exact RDs.mono (mo_out n4) _ _ ((RDs.mono mo2 _ _ ri).append (.one rd2))
    · rw [Array.toList_push]; exact vi.append (.cons rv2 .nil)
    · exact RDs.mono (mo_out n4) _ _ (RDs.mono mo2 _ _ rdi)
  case done =>
    rintro s' ⟨Hi, ρi, Fri, Gi, acc, kvs, kA, ek, Ii, gi, ei, hai, hki, ⟨o1, o2, o3, o4⟩, ri, vi, li, rdi, hki2⟩
    rw [Nat.zero_add] at li hki2
    rw [List.drop_of_length_le (by omega)] at hki2
    have hki2 : Rs.ok acc S Gi = .ok ks S' G' := hki2
    cases hki2
    have lk : kA.size = us.length := by rw [← li, ri.length, vi.length]; simp
    refine wpAny_bind (listItems_at (inv_isL Ii hki) rfl ?_)
    have ek2 := each_reads Ii hp (by rw [← W0]; exact ri) vi
    obtain ⟨vs', rv', rd'⟩ := sort_both ek2 hok rv rdi (by simpa using lk)
    refine end_run (inv_isL Ii hki) (inv_isL Ii hai) ne (sorts_cmp (s := s') ek2 hok room) lk hz ?_
    obtain ⟨e4, I4, h4⟩ := write_isL Ii hki (fun _ => #[]) rfl
    have h4a : (upd Hi kS (isL kS #[] e4)) a = some (isL a #[] e1) := by rw [upd_ne ne.symm]; exact hai
    obtain ⟨e5, I5, h5⟩ := write_isL I4 h4a (fun _ => (PySem.W.sortVals (cmpKind s'.heap ps) false kA.toList us).toArray) rfl
    have lenV : vs'.length ≤ sizeLine := by
      have := rd'.length
      rw [List.length_map, List.length_mergeSort, List.length_zip] at this
      omega
    have I6 := I5.write (x := a) (e := a) (o := .lst vs') (t' := s'.toks) (by rw [upd_same]; trivial) (.inl rfl) (fun b u _ q => q) ⟨_, h5⟩ ⟨lenV, _, e5, rv', h5⟩
    rw [upd_upd] at I6
    refine fin _ _ ρi Fri vs' I6 upd_same ((gi.put o3 o4).put o1 o2) ((ei.put bk).put ba) o1 o2 ?_ rfl
    exact RDs.mono (mo_out o2) _ _ (RDs.mono (mo_out o4) _ _ rd')
end
end Mi

end
section
set_option Elab.async false
set_option linter.all false
set_option maxRecDepth 100000
set_option maxHeartbeats 4000000
/-! Mi31: sorted(..). -/
namespace Mi
open PySem PySem.Spec PyProof.Rows L2

section
variable {W : Wd} {T : Tb} {Φ : Fns} {k : Nat} {C : Cf} {X : Cx} {XW : WX} {A : Act} {pins : List (Addr × Obj)} {σ : Sv} {H : Hp} {s : Shared} {q : Pt}
/-- a list, a dict: its items -/
structure Coll (X : Cx) (ρ : List Addr) (Fr : Addr → Prop) (H : Hp) (v : V) (l : List D) (ys : List V) : Prop where
  ex : ∃ a, v = .ref a ∧ RDs (wdOf X) ρ Fr H l ys ∧ (H a = some (.lst ys) ∨ ∃ xs, DA X ρ Fr H a l xs ys)
theorem coll_of (sr : SR (wdOf X) A σ q) {x : D} {v : V} {l : List D} (r : RO (wdOf X) q.ρ q.Fr q.H σ x v) (e : srcOf q.S q.G x = some l) : ∃ ys, Coll X q.ρ q.Fr q.H v l ys := by
  have c := ct_rel sr r
  unfold srcOf at e
  cases ec : ct q.S q.G x with
  | lst l' =>
    rw [ec] at c e
    cases e
    cases c with
    | @lst _ a vs ev hl rd => exact ⟨vs, ⟨⟨a, ev, rd, .inl hl⟩⟩⟩
  | dic ks xs =>
    rw [ec] at c e
    cases e
    cases c with
    | @dic _ _ a ho kvs vs ev hd dd r1 r2 => exact ⟨kvs, ⟨⟨a, ev, r1, .inr ⟨xs, ⟨⟨ho, vs, hd, dd, r1, r2⟩⟩⟩⟩⟩⟩
  | _ => rw [ec] at e; cases e
/-- the items, collected -/
theorem coll_run {A2 : Around} (hh : A2.handled = none) {v : V} {u : Value} {l : List D} {ys : List V} {ρ : List Addr} {Fr : Addr → Prop} (I : Inv X pins σ H s) (c : Coll X ρ Fr H v l ys) (rv : RelV v u) {Q : List Value → Shared → Prop} {E : Value → Shared → Prop}
    (fin : ∀ (h' : Heap) (tk : Nat) (acc : List Value), (∀ b o, s.heap.get? b = some o → h'.get? b = some o) → Vals ys acc → acc.length ≤ sizeLine → Q acc { s with heap := h', toks := tk }) :
    wpAny (model X.prog X.w) A2 (collect u) Q E s := by
  obtain ⟨a, ev, rd, c2⟩ := c.ex
  subst ev
  obtain rfl : u = Value.ref a := rv
  rcases c2 with hl | ⟨xs, da⟩
  · obtain ⟨z, its, n, rits, ho⟩ := (show ObjOk X.prog X.w H s.heap a (.lst ys) from I.hok a _ hl)
    refine collect_list (vs := its) ⟨_, ho, rfl, n, rfl⟩ ?_ (by rw [← rits.length]; exact z)
    exact fin _ s.toks its (fun b o h => by
      have lt := Heap.lt_size h
      rw [Heap.get?_update_other _ _ (Nat.ne_of_gt lt)]
      exact Heap.get?_push_of_some _ h) rits (by rw [← rits.length]; exact z)
  · rcases da_view I da with ⟨kv, e, lr, rfl⟩ | ⟨kv, us, n, dh, hs, hl, rfl⟩
    · obtain ⟨z, lo, ws, rk, hdd⟩ := (show ObjOk X.prog X.w H s.heap a (.dK kv) from I.hok a _ e)
      obtain ⟨ep, hat⟩ := hdd.dictAt
      have hln : kv.length = ws.length := Paired.length rk
      refine PySem.W.kdu_collect (PySem.W.kdl_dict (knd := mixKind X.prog X.w) (kvs := ws) (ep := ep) lo) hh hat (by omega) fun h' tk acc hk hacc => ?_
      have el : acc.toList.length = acc.size := by simp
      refine fin h' tk acc.toList hk (vals_of_at (by rw [List.length_map, el, hacc.1, hln]) fun j x w h1 h2 => ?_) (by rw [Array.length_toList, hacc.1]; omega)
      obtain ⟨key, y, hky, hi⟩ := hacc.2 j w (by rw [← Array.getElem?_toList]; exact h2)
      have e1 : (kv.map (·.1))[j]? = some key := by
        rw [KV.keys rk, List.getElem?_map, hky]; rfl
      have e2 : (kv.map fun p => kV p.1)[j]? = some (kV key) := by
        rw [show (kv.map fun p => kV p.1) = (kv.map (·.1)).map kV by rw [List.map_map]; rfl, List.getElem?_map, e1]; rfl
      rw [e2] at h1
      cases h1
      exact keyIs_rel hi
    · obtain ⟨o, es, ep, ho, hx, hdt, he, _, hn⟩ := dh
      have l1 : es.size = kv.length := size_of_entries he
      refine PySem.W.kdu_collect (kdl_raw hs hx hdt) hh ho (by omega) fun h' tk acc hk hacc => ?_
      have ea : acc.toList = (kv.map fun x => x.2.1).map Value.ref := by
        have hl2 : acc.toList.length = kv.length := by rw [Array.length_toList, hacc.1]; exact l1
        apply List.ext_getElem?
        intro j
        rw [List.getElem?_map, List.getElem?_map]
        cases hj : acc.toList[j]? with
        | none =>
          have h1 := List.getElem?_eq_none_iff.mp hj
          rw [List.getElem?_eq_none (by omega)]
          rfl
        | some v =>
          obtain ⟨en, hen, hv⟩ := hacc.2 j v (by rw [← Array.getElem?_toList]; exact hj)
          have qe := entry_at he j
          rw [hen] at qe
          cases hb : kv[j]? with
          | none => rw [hb] at qe; cases qe
          | some b =>
            rw [hb] at qe
            cases qe
            rw [hv]
            rfl
      refine fin h' tk acc.toList hk ?_ (by rw [Array.length_toList, hacc.1]; omega)
      rw [ea]
      have := vals_refs (kv.map fun x => x.2.1)
      rw [List.map_map] at this
      exact this
theorem deep2 {A : Around} (rm : Rm (k + 1) A) : Rm k A.in1.in1 := ⟨⟨rm.r.hd, by have := rm.r.dp; show A.depth + 3 * k + 5 < _; omega, by have := rm.r.un; show A.units + 1 + 1 + 16 * k + 200 < _; omega⟩, rm.g⟩
/-- the end of a sorted(..): the result is a new list -/
theorem new_end (sr : SR W A σ q) {a : Addr} {G' : List MO} {H' : Hp} {ρ' : List Addr} {Fr' : Addr → Prop} {ds : List D} {vs : List V} (hq : q.H a = none) (g : GS W G' H' ρ' Fr') (e : Ex ⟨q.H, q.ρ, q.Fr⟩ H' ρ' Fr') (h : H' a = some (.lst vs)) (ra : a ∉ ρ') (fa : ¬ Fr' a) (rd : RDs W ρ' Fr' H' ds vs) :
    ∃ q' : Pt, q'.S = q.S ∧ q'.G = G' ∧ SR W A σ q' ∧ Mp q q' ∧ Res W σ q' (.lst ds) (.ref a) H' := by
  obtain ⟨s1, m1⟩ := sr.call g e
  have j : Junk A σ ⟨q.S, G', H', ρ', Fr'⟩ a := ⟨sr.nbase hq, ra, fa, fun i t e o => sr.nown hq e o⟩
  obtain ⟨s2, m2⟩ := s1.del j
  refine ⟨⟨q.S, G', Hp.del H' a, ρ', Fr'⟩, rfl, rfl, s2, m1.trans m2, ?_⟩
  have key : Res W σ ⟨q.S, G', Hp.del H' a, ρ', Fr'⟩ (.lst ds) (.ref a) (upd (Hp.del H' a) a (.lst vs)) := .new (q := ⟨q.S, G', Hp.del H' a, ρ', Fr'⟩) (d := .lst ds) (a := a) (ho := .lst vs) del_same ⟨vs, rfl, RDs.mono m2 _ _ rd⟩
  rwa [upd_del h] at key
/-- sorted(x), as a reading -/
def rSortA (X : Cx) : List V → Hp → VK → Prop := fun vs H Q => ∃ ρ Fr v l ys ps, vs = [v] ∧ Coll X ρ Fr H v l ys ∧ (∀ b, Fr b → H b ≠ none) ∧ D.pys l = some ps ∧ keysOk ps = true ∧
  ∀ p ys', H p = none → RDs (wdOf X) ρ Fr H (((ps.zip l).mergeSort fun a b => !PySem.W.dataLt b.1 a.1).map (·.2)) ys' → Q (.ref p) (upd H p (.lst ys'))
theorem call_sortA (hx : XO W T Φ k C X XW) : CallR X (.builtin "sorted") (rSortA X) := by
  intro pins s σ H vs us Q I r h
  obtain ⟨ρ, Fr, v, l, ys, ps, rfl, c, hfr, hp, hok, fin⟩ := h
  obtain ⟨u, rfl, rv⟩ := vals1 r
  have hu := hx.units
  refine Calls.call_function_entry PyProof.Rows.kind_sorted PyProof.Rows.plain_sorted PyProof.Rows.entry_sorted (PyProof.Rows.args_sorted1 _) ?_
  unfold Builtin.«sorted»
  refine wpAny_bind (m := checkCount "sorted" 1 1 _) (wpAny_pure ?_)
  refine wpAny_bind (coll_run (A2 := X.A.in1) hx.rm.r.hd I c rv fun h' tk acc hk racc hz => ?_)
  have I1 : Inv X pins σ H { s with heap := h', toks := tk } := I.kept hk
  refine wpAny_bind (wpAny_newList ?_ hz)
  have ho : (h'.push (seqObj "list" acc.toArray 0)).get? h'.objs.size = some (seqObj "list" acc.toArray 0) := Heap.get?_push_size _ rfl
  have hn : H h'.objs.size = none := I1.hok.fresh (Nat.le_refl _)
  have I2 := I1.laid (a := h'.objs.size) (o := isL h'.objs.size acc.toArray 0) (t' := tk) (h' := h'.push (seqObj "list" acc.toArray 0)) (fun b u q => Heap.get?_push_of_some _ q) (Nat.le_refl _) (ext_ok ho)
  obtain ⟨a, _, rd, _⟩ := c.ex
  -- the heap while it is sorted
  obtain ⟨e1, I3, h3⟩ := write_isL I2 upd_same (fun _ => #[]) rfl
  have I4 := (I3.kept (t' := tk) (h' := PySem.W.sortingHeap (h'.push (seqObj "list" acc.toArray 0)) h'.objs.size acc) fun b u q => Heap.get?_push_of_some _ (Heap.get?_push_of_some _ q))
  have nf : ¬ Fr h'.objs.size := fun z => hfr _ z hn
  have er := each_reads I4 hp (RDs.mono (mo_out nf) _ _ (RDs.mono (mo_out nf) _ _ rd)) racc
  obtain ⟨ys', rv', rd'⟩ := sort_both er hok racc rd rfl
  have S := sorts_cmp (prog := X.prog) (w := X.w) (A := X.A.in1.in1) (s := { s with heap := PySem.W.sortingHeap (h'.push (seqObj "list" acc.toArray 0)) h'.objs.size acc, toks := tk }) er hok (by show X.A.units + 1 + 1 + 64 < cLine; omega)
  refine wpAny_bind (wpAny_holding (wpAny_call_entry PyProof.Rows.slot_list_sort ⟨_, ho, rfl⟩ PyProof.Rows.entry_list_sort
    (PySem.W.list_sort_vals (s := { s with heap := h'.push (seqObj "list" acc.toArray 0), toks := tk }) (a := h'.objs.size) ho S hz ⟨_, rfl, ?_⟩) (PyProof.Rows.args_list_sort _)))
  obtain ⟨ep, he⟩ := PyProof.Rows.sortedHeap_at (vs := acc) (out := (PySem.W.sortVals (cmpKind (PySem.W.sortingHeap (h'.push (seqObj "list" acc.toArray 0)) h'.objs.size acc) ps) false acc acc).toArray) ho
  have lenV : ys'.length ≤ sizeLine := by
    have := rd'.length
    have h2 := rd.length
    have h3 := racc.length
    rw [List.length_map, List.length_mergeSort, List.length_zip] at this
    omega
  have I5 := I2.write (x := h'.objs.size) (e := h'.objs.size) (o := .lst ys') (t' := tk) (h' := PyProof.Rows.sortedHeap (h'.push (seqObj "list" acc.toArray 0)) h'.objs.size acc (PySem.W.sortVals (cmpKind (PySem.W.sortingHeap (h'.push (seqObj "list" acc.toArray 0)) h'.objs.size acc) ps) false acc acc).toArray)
    (by rw [upd_same]; trivial) (.inl rfl) (fun b u ne q => (PyProof.Rows.sortedHeap_old ne (Heap.lt_size q)).trans q) ⟨_, he⟩ ⟨lenV, _, ep, rv', he⟩
  rw [upd_upd] at I5
  exact wpAny_pure ⟨_, rfl, .ref h'.objs.size, _, I5, rfl, fin _ _ hn rd'⟩
theorem serb_sorted : SerB (wdOf X) .sorted (rSortA X) := by
  intro A σ q x z v Q sr r e h
  have e : (srcOf q.S q.G x).bind (fun l => (sortBy l l).map .lst) = some z := e
  cases el : srcOf q.S q.G x with
  | none => rw [el] at e; cases e
  | some l =>
    rw [el] at e
    have e : (sortBy l l).map .lst = some z := e
    unfold sortBy at e
    cases ep : D.pys l with
    | none => rw [ep] at e; cases e
    | some ps =>
      rw [ep] at e
      simp only at e
      split at e
      · rename_i hok
        cases e
        obtain ⟨ys, c⟩ := coll_of sr r el
        exact ⟨q.ρ, q.Fr, v, l, ys, ps, rfl, c, (fun b hb => by obtain ⟨o, ho⟩ := sr.g.ft b hb; rw [ho]; simp), ep, hok, fun p ys' hp rd => h _ _ (.new hp ⟨_, rfl, rd⟩)⟩
      · cases e
/-- sorted(x, key=f), run -/
theorem run_sortK (hx : XO W T Φ k C X XW) (sr : SR W A σ q) {x : D} {v : V} {u : Value} {l ks : List D} {ps : List PyData} {fa : Addr} {G' : List MO} {S' : List Slot} {kc : D → List MO → FO} (I : Inv X pins σ q.H s) (r : RO W q.ρ q.Fr q.H σ x v) (rv : RelV v u) (e : srcOf q.S q.G x = some l)
    (hkey : KeyF W X pins σ X.A.in1.in1 ⟨q.H, q.ρ, q.Fr⟩ kc (.ref fa)) (hk : loopKeys (fun x σ G => fromFO (kc x G) σ) l [] q.S q.G = .ok ks S' G') (hp : D.pys ks = some ps) (hok : keysOk ps = true) {Q : Value → Shared → Prop} {E : Value → Shared → Prop}
    (fin : ∀ (q' : Pt) (w : V) (H' : Hp), q'.S = S' → q'.G = G' → SR W A σ q' → Mp q q' → Res W σ q' (.lst (((ps.zip l).mergeSort fun a b => !PySem.W.dataLt b.1 a.1).map (·.2))) w H' → ∀ u' s', Inv X pins σ H' s' → RelV w u' → Q u' s') :
    wpAny (model X.prog X.w) X.A (call (.builtin "sorted") [u] [(Str.ofString "key", .ref fa)]) Q E s := by
  obtain rfl : W = wdOf X := hx.wd.symm
  have hu := hx.units
  obtain ⟨ys, c⟩ := coll_of sr r e
  refine call_function_entry_kw PyProof.Rows.kind_sorted PyProof.Rows.plain_sorted PyProof.Rows.entry_sorted (ksk_s1 _ _) ?_
  unfold Builtin.«sorted»
  refine wpAny_bind (m := checkCount "sorted" 1 1 _) (wpAny_pure ?_)
  refine wpAny_bind (coll_run (A2 := X.A.in1) hx.rm.r.hd I c rv fun h' tk acc hk' racc hz => ?_)
  have I1 : Inv X pins σ q.H { s with heap := h', toks := tk } := I.kept hk'
  refine wpAny_bind (wpAny_newList ?_ hz)
  have ho : (h'.push (seqObj "list" acc.toArray 0)).get? h'.objs.size = some (seqObj "list" acc.toArray 0) := Heap.get?_push_size _ rfl
  have hn : q.H h'.objs.size = none := I1.hok.fresh (Nat.le_refl _)
  have I2 := I1.laid (a := h'.objs.size) (o := isL h'.objs.size acc.toArray 0) (t' := tk) (h' := h'.push (seqObj "list" acc.toArray 0)) (fun b u q => Heap.get?_push_of_some _ q) (Nat.le_refl _) (ext_ok ho)
  obtain ⟨a, _, rd, _⟩ := c.ex
  refine wpAny_bind (wpAny_holding (wpAny_call_entry_kw PyProof.Rows.slot_list_sort ⟨_, ho, rfl⟩ PyProof.Rows.entry_list_sort ?_ (ksk_l1 _ _)))
  rw [ksk_t1]
  refine wpAny_mono (sortK_run (W := wdOf X) rfl (A2 := X.A.in1.in1) (by show X.A.units + 1 + 1 + 64 < cLine; omega) (B0 := ⟨q.H, q.ρ, q.Fr⟩) hkey I2 upd_same (sr.g.put (sr.nro hn) (sr.nfr hn)) (Ex.put Ex.refl hn) hn (sr.nro hn) (sr.nfr hn)
    (RDs.mono (mo_out (sr.nfr hn)) _ _ rd) racc hz hk hp hok (Q := fun f s' => f = .done (.ret .none) ∧ Q (.ref h'.objs.size) s') (E := E) fun H' s' ρ' Fr' vs' I' ha g' e' ra fa' rd' eS => ⟨rfl, ?_⟩) (fun f s' hf => ?_) fun _ _ z => z
  · obtain ⟨q', q1, q2, q3, q4, q5⟩ := new_end sr hn g' e' ha ra fa' rd'
    exact fin q' _ H' (q1.trans eS.symm) q2 q3 q4 q5 _ s' I' rfl
  · obtain ⟨rfl, hq⟩ := hf
    exact ⟨_, rfl, wpAny_pure ⟨_, rfl, hq⟩⟩
end
end Mi

end
section
set_option Elab.async false
set_option linter.all false
set_option maxRecDepth 100000
set_option maxHeartbeats 4000000
/-! Mi32: sorted(.., key=f). -/
namespace Mi
open PySem PySem.Spec PyProof.Rows L2

section
variable {W : Wd} {T : Tb} {Φ : Fns} {k : Nat} {C : Cf} {X : Cx} {XW : WX} {A : Act} {pins : List (Addr × Obj)} {σ : Sv} {H : Hp} {s : Shared} {q p : Pt}
theorem wpD.noEx {α : Type} {m : Ev α} {R : α → Pt → Prop} (h : wpD W A XW σ (noEx m) p R) : ∃ z S' G', m p.S p.G = .ok z S' G' ∧ ∀ q : Pt, q.S = S' → q.G = G' → SR W A σ q → Mp p q → R z q := by
  have h2 := h.2
  unfold Mi.noEx at h2
  revert h2
  cases e : m p.S p.G with
  | ok z S' G' => exact fun h => ⟨z, S', G', rfl, h⟩
  | ex x S' G' => exact False.elim
  | bad => exact False.elim
/-- the interpreter's sorted(.., key=) -/
def srtE (kc : D → List MO → FO) (m : Ev D) : Ev D := m.bind fun d => (Ev.look fun σ G => srcOf σ G d).bind fun l => Mi.noEx ((loopKeys (fun x σ G => fromFO (kc x G) σ) l []).bind fun ks => Ev.lift ((sortBy ks l).map .lst))
/-- .. where something is asked of the shared objects -/
def srtP (pre : List MO → Option Unit) (kc : D → List MO → FO) (m : Ev D) : Ev D := m.bind fun d => (Ev.look fun _ G => pre G).bind fun _ => (Ev.look fun σ G => srcOf σ G d).bind fun l => Mi.noEx ((loopKeys (fun x σ G => fromFO (kc x G) σ) l []).bind fun ks => Ev.lift ((sortBy ks l).map .lst))
theorem srtP_some (kc : D → List MO → FO) (m : Ev D) : srtE kc m = srtP (fun _ => some ()) kc m := rfl
/-- a key function's expression -/
def teK (W : Wd) (A : Act) (X : Cx) (pre : List MO → Option Unit) (kc : D → List MO → FO) : TE := fun σ H Q => ∃ q : Pt, q.H = H ∧ SR W A σ q ∧ pre q.G = some () ∧ ∀ (f : Addr) (q' : Pt), q'.S = q.S → q'.G = q.G → SR W A σ q' → Mp q q' → (∀ pins, KeyF W X pins σ X.A.in1.in1 ⟨q'.H, q'.ρ, q'.Fr⟩ kc (.ref f)) → Q (.ref f) q'.H
/-- sorted(e, key=..): the key's expression gives f -/
theorem n_srtG (hx : XO W T Φ k C X XW) {x : Str} {e ke : Expr} {ps pos kp : Pos} {m : Ev D} {pre : List MO → Option Unit} {kc : D → List MO → FO} (hg : Gl X x) (hm : X.mg x = none) (hv : bootBuiltins x = some (.builtin "sorted")) (hn : x ≠ "__name__") (hdb : (x == ("__debug__" : Str)) = false) (hst : noStar e = true)
    (he : PE X e (teD W A XW m)) (hke : PE X ke (teK W A X pre kc)) : PE X (.Call (.Name x ps) [e] [⟨some (Str.ofString "key"), ke, kp⟩] pos) (teN W A XW (srtP pre kc m)) := by
  refine ⟨fun pins s σ H Q I h => ?_⟩
  obtain ⟨pt, rfl, h⟩ := h
  refine wpAny_Call_Name_kw (ld_blt I hg hm hv ?_ hn hdb)
  have ha : PA X [e] (tCons (teD W A XW m) tNil) := pa_cons he pa_nil (star_one hst)
  have hk : PK X [⟨some (Str.ofString "key"), ke, kp⟩] (tCons (teK W A X pre kc) tNil) := pk_cons hke pk_nil
  have h0 : tCons (teD W A XW m) tNil σ pt.H fun vs H1 => ∃ (v : V) (d : D) (q : Pt), vs = [v] ∧ q.H = H1 ∧ RO W q.ρ q.Fr q.H σ d v ∧ wpD W A XW σ ((Ev.look fun _ G => pre G).bind fun _ => (Ev.look fun σ G => srcOf σ G d).bind fun l => Mi.noEx ((loopKeys (fun x σ G => fromFO (kc x G) σ) l []).bind fun ks => Ev.lift ((sortBy ks l).map .lst))) q fun z q => ∀ w H', Res W σ q z w H' → Q w H' :=
    ⟨pt, rfl, (wpD.bind h).mono fun d q s mo h v rv => ⟨v, d, q, rfl, rfl, rv, h⟩⟩
  refine PyProof.Rows.callWith_kw (thn (ha.run pos pins s σ _ _ I h0) fun us s1 ⟨vs, H1, I1, r1, v, d, q, ev, eq, ro, h⟩ => ?_) (by rw [star_one hst]; rfl) (star_any (es := [e]) (by unfold noStars; rw [List.all_cons, hst]; rfl))
  subst ev eq
  obtain ⟨u, rfl, rv⟩ := vals1 r1
  have sr := h.1
  obtain ⟨⟨⟩, epre, h⟩ := (wpD.bind h).look
  have h := h q rfl rfl sr Mo.refl
  obtain ⟨l, el, h⟩ := (wpD.bind h).look
  have h1 : tCons (teK W A X pre kc) tNil σ q.H fun zs H2 => ∃ (f : Addr) (q' : Pt), zs = [.ref f] ∧ q'.H = H2 ∧ q'.S = q.S ∧ q'.G = q.G ∧ SR W A σ q' ∧ Mp q q' ∧ ∀ pins, KeyF W X pins σ X.A.in1.in1 ⟨q'.H, q'.ρ, q'.Fr⟩ kc (.ref f) :=
    ⟨q, rfl, sr, epre, fun f q' e1 e2 s' mo hkf => ⟨f, q', rfl, rfl, e1, e2, s', mo, hkf⟩⟩
  refine thn (hk.run pos pins s1 σ _ _ I1 h1) fun ws s2 ⟨zs, H2, I2, r2, f, q', ez, eq2, e1, e2, s', mo, hkf⟩ => ?_
  subst ez eq2
  obtain ⟨w, rfl, rw2⟩ := vals1 r2
  obtain rfl : w = Value.ref f := rw2
  have h2 := h q' e1 e2 s' mo
  obtain ⟨z, S', G', ez, h2⟩ := h2.noEx
  obtain ⟨ks, S1, G1, ek, el2⟩ := Ev.bind_ok ez
  unfold Ev.lift at el2
  cases eb : sortBy ks l with
  | none => rw [eb] at el2; cases el2
  | some ds =>
    rw [eb] at el2
    cases el2
    unfold sortBy at eb
    cases ep : D.pys ks with
    | none => rw [ep] at eb; cases eb
    | some ps' =>
      rw [ep] at eb
      simp only at eb
      split at eb
      · rename_i hok
        cases eb
        have el' : srcOf q'.S q'.G d = some l := by rw [e1, e2]; exact el
        exact run_sortK hx s' I2 (ro.mono mo) rv el' (hkf pins) ek ep hok fun q2 w2 H2 b1 b2 b3 b4 b5 u' s3 I3 r3 => ⟨w2, H2, I3, r3, h2 q2 b1 b2 b3 b4 w2 H2 b5⟩
      · cases eb
/-- a def as a key -/
theorem key_def (hx : XO W T Φ k C X XW) {f : Str} {fd : Fd} {pf : Pos} (hf : f ∈ T.glob) (hd : T.P.fd f = some fd) (hg : Gl X f) (hdb : (f == ("__debug__" : Str)) = false) (hc : bindC fd.ps 1 [] fd.dfl.length = true) :
    PE X (.Name f pf) (teK W A X (fun _ => some ()) fun d G => Φ.call f [d] G) := by
  obtain rfl : W = wdOf X := hx.wd.symm
  obtain ⟨raw, c1, _, c3, _⟩ := hx.tb.fns
  obtain ⟨a, hm, F⟩ := c3 f hf fd hd
  refine PE.imp (pe_glob hg hm (v := .ref a) rfl hdb) fun σ H Q => ?_
  rintro ⟨q, rfl, sr, _, h⟩
  refine h a q rfl rfl sr Mo.refl fun pins => key_fn (A2 := X.A.in1.in1) hx F rfl (deep2 hx.rm) hc fun d G => ?_
  rw [c1, hd] <;> rfl
end
end Mi

end
section
set_option Elab.async false
set_option linter.all false
set_option maxRecDepth 100000
set_option maxHeartbeats 4000000
/-! Mi33: dict(pairs). -/
namespace Mi
open PySem PySem.Spec PyProof.Rows L2

theorem leaf_tup {k : D} (h : k.leaf = true) : k.isTup = false := by
  cases q : k.isTup with
  | false => rfl
  | true => rw [isTup_leaf q] at h; cases h
theorem put_keys (ks xs : List D) (k x : D) : (dPut ks xs k x).1 = ks ∨ (dPut ks xs k x).1 = ks ++ [k] := by
  unfold dPut
  split
  · exact .inl rfl
  · exact .inr rfl
theorem put_leaf {ks xs : List D} {k x : D} (h : ks.all D.leaf = true) (hk : k.leaf = true) : (dPut ks xs k x).1.all D.leaf = true ∧ (dPut ks xs k x).1 ≠ [] := by
  unfold dPut
  split
  · rename_i q
    exact ⟨h, fun e => by subst e; simp [dHas] at q⟩
  · refine ⟨?_, by simp⟩
    show (ks ++ [k]).all D.leaf = true
    rw [List.all_append, h]
    simp [hk]
theorem put_tup {ks xs : List D} {k x : D} (h : ks.all D.isTup = true) (hk : k.isTup = true) : (dPut ks xs k x).1.all D.isTup = true ∧ (dPut ks xs k x).1 ≠ [] := by
  unfold dPut
  split
  · rename_i q
    exact ⟨h, fun e => by subst e; simp [dHas] at q⟩
  · refine ⟨?_, by simp⟩
    show (ks ++ [k]).all D.isTup = true
    rw [List.all_append, h]
    simp [hk]
theorem puts_cons {k x : D} {r : List (D × D)} {ks xs : List D} {p : List D × List D} (h : dPutsOk ((k, x) :: r) ks xs = some p) : okKey ks k = true ∧ ks.length < sizeLine ∧ dPutsOk r (dPut ks xs k x).1 (dPut ks xs k x).2 = some p := by
  unfold dPutsOk dPutOk at h
  by_cases c : okKey ks k = true ∧ ks.length < sizeLine
  · rw [if_pos c] at h
    exact ⟨c.1, c.2, h⟩
  · rw [if_neg c] at h
    cases h
theorem puts_leaf : ∀ {prs : List (D × D)} {ks xs : List D} {p : List D × List D}, dPutsOk prs ks xs = some p → ks.all D.leaf = true → ks ≠ [] → ∀ pr ∈ prs, pr.1.leaf = true
  | [], _, _, _, _, _, _, pr, hm => by simp at hm
  | (k, x) :: r, ks, xs, p, h, hl, hn, pr, hm => by
    obtain ⟨ok, _, h⟩ := puts_cons h
    have hk : k.leaf = true := by
      unfold okKey at ok
      cases ks with
      | nil => exact absurd rfl hn
      | cons a t =>
        have ha : a.leaf = true := by simp only [List.all_cons, Bool.and_eq_true] at hl; exact hl.1
        rw [List.all_cons (f := D.isTup), leaf_tup ha] at ok
        simp at ok
        exact ok.1
    rcases List.mem_cons.mp hm with e | hm
    · rw [e]; exact hk
    · exact puts_leaf h (put_leaf hl hk).1 (put_leaf (xs := xs) (x := x) hl hk).2 pr hm
theorem puts_tup : ∀ {prs : List (D × D)} {ks xs : List D} {p : List D × List D}, dPutsOk prs ks xs = some p → ks.all D.isTup = true → ks ≠ [] → ∀ pr ∈ prs, pr.1.isTup = true
  | [], _, _, _, _, _, _, pr, hm => by simp at hm
  | (k, x) :: r, ks, xs, p, h, hl, hn, pr, hm => by
    obtain ⟨ok, _, h⟩ := puts_cons h
    have hk : k.isTup = true := by
      unfold okKey at ok
      cases ks with
      | nil => exact absurd rfl hn
      | cons a t =>
        have ha : a.isTup = true := by simp only [List.all_cons, Bool.and_eq_true] at hl; exact hl.1
        rw [List.all_cons (f := D.leaf), isTup_leaf ha] at ok
        simp at ok
        exact ok.1
    rcases List.mem_cons.mp hm with e | hm
    · rw [e]; exact hk
    · exact puts_tup h (put_tup hl hk).1 (put_tup (xs := xs) (x := x) hl hk).2 pr hm
/-- the keys are of one sort -/
theorem puts_kind {prs : List (D × D)} {p : List D × List D} (h : dPutsOk prs [] [] = some p) : (∀ pr ∈ prs, pr.1.leaf = true) ∨ ∀ pr ∈ prs, pr.1.isTup = true := by
  cases prs with
  | nil => exact .inl fun pr hm => by simp at hm
  | cons kx r =>
    obtain ⟨k, x⟩ := kx
    obtain ⟨ok, _, h⟩ := puts_cons h
    unfold okKey at ok
    simp only [List.all_nil, Bool.and_true, Bool.or_eq_true] at ok
    rcases ok with q | q
    · refine .inl fun pr hm => ?_
      rcases List.mem_cons.mp hm with e | hm
      · rw [e]; exact q
      · exact puts_leaf h (put_leaf (by rfl) q).1 (put_leaf (xs := []) (x := x) (by rfl) q).2 pr hm
    · refine .inr fun pr hm => ?_
      rcases List.mem_cons.mp hm with e | hm
      · rw [e]; exact q
      · exact puts_tup h (put_tup (by rfl) q).1 (put_tup (xs := []) (x := x) (by rfl) q).2 pr hm
theorem pairs_cons {d : D} {r : List D} {prs : List (D × D)} (h : pairsOf (d :: r) = some prs) : ∃ a b t, d = .tup [a, b] ∧ pairsOf r = some t ∧ prs = (a, b) :: t := by
  unfold pairsOf at h
  cases e1 : pairOf d with
  | none => rw [e1] at h; cases h
  | some p =>
    cases e2 : pairsOf r with
    | none => rw [e1, e2] at h; cases h
    | some t =>
      rw [e1, e2] at h
      cases h
      unfold pairOf at e1
      split at e1
      · cases e1; exact ⟨_, _, t, rfl, rfl, rfl⟩
      · cases e1

section
variable {W : Wd} {T : Tb} {Φ : Fns} {k : Nat} {C : Cf} {X : Cx} {XW : WX} {A : Act} {pins : List (Addr × Obj)} {σ : Sv} {H : Hp} {s : Shared} {q : Pt} {ρ : List Addr} {Fr : Addr → Prop}
theorem rd_pair {a b : D} {v : V} (r : RD W ρ Fr H (.tup [a, b]) v) : ∃ t x y, v = .ref t ∧ SqT W.K H t [x, y] ∧ RD W ρ Fr H a x ∧ RD W ρ Fr H b y := by
  simp only [RD] at r
  obtain ⟨t, vs, e, h, r⟩ := r
  obtain ⟨x, r1, e1, h1, r⟩ := r.inv
  obtain ⟨y, r2, e2, h2, r⟩ := r.inv
  rw [r.inv0] at e2
  subst e1 e2
  exact ⟨t, x, y, e, fr_sqT h, h1, h2⟩
/-- pairs with leaf keys -/
theorem pairs_leaf : ∀ {l : List D} {prs : List (D × D)} {ys : List V}, pairsOf l = some prs → RDs W ρ Fr H l ys → (∀ pr ∈ prs, pr.1.leaf = true) →
    ∃ (as : List Addr) (kvs : List (Key × V)), ys = as.map V.ref ∧ Paired (fun p kv => SqT W.K H p [kV kv.1, kv.2]) as kvs ∧ Rl (fun (pr : D × D) (kv : Key × V) => pr.1 = kD kv.1 ∧ RD W ρ Fr H pr.2 kv.2) prs kvs
  | [], prs, ys, h, r, _ => by
    cases h
    rw [r.inv0]
    exact ⟨[], [], rfl, .nil, .nil⟩
  | d :: l, prs, ys, h, r, hl => by
    obtain ⟨a, b, t, rfl, h2, rfl⟩ := pairs_cons h
    obtain ⟨v, r1, ey, rv, r2⟩ := r.inv
    subst ey
    obtain ⟨as, kvs, e1, e2, e3⟩ := pairs_leaf h2 r2 fun pr hm => hl pr (List.mem_cons_of_mem _ hm)
    subst e1
    obtain ⟨p, x, y, rfl, sq, ra, rb⟩ := rd_pair rv
    obtain ⟨key, rfl⟩ := leaf_kD (hl (a, b) (List.mem_cons_self ..))
    have ex := RD.kD ra
    subst ex
    exact ⟨p :: as, (key, y) :: kvs, rfl, .cons sq e2, .cons ⟨rfl, rb⟩ e3⟩
theorem LeafR.merge : ∀ {prs : List (D × D)} {kvs : List (Key × V)} {ks xs : List D} {l : List (Key × V)} {p : List D × List D}, Rl (fun (pr : D × D) (kv : Key × V) => pr.1 = kD kv.1 ∧ RD W ρ Fr H pr.2 kv.2) prs kvs → LeafR W ρ Fr H ks xs l → dPutsOk prs ks xs = some p →
    LeafR W ρ Fr H p.1 p.2 (mergeK l kvs)
  | _, _, ks, xs, l, p, .nil, lr, h => by cases h; exact lr
  | _, _, ks, xs, l, p, .cons (a := (k, x)) (b := (key, v)) ⟨e, r⟩ t, lr, h => by
    have e : k = kD key := e
    subst e
    obtain ⟨_, _, h⟩ := puts_cons h
    exact LeafR.merge (l := putK l key v) t (lr.put key r) h
/-- .. with tuples -/
structure PN (X : Cx) (ρ : List Addr) (Fr : Addr → Prop) (H : Hp) (h : Heap) (t : Addr) (pr : D × D) (e : NestedKey × Addr × Value) : Prop where
  tp : h.IsTuple t #[.ref e.2.1, e.2.2]
  kt : pr.1.isTup = true
  nk : pr.1.nk = some e.1
  rk : RD (wdOf X) ρ Fr H pr.1 (.ref e.2.1)
  rx : ∃ v, RD (wdOf X) ρ Fr H pr.2 v ∧ RelV v e.2.2
theorem pairs_nest (I : Inv X pins σ H s) : ∀ {l : List D} {prs : List (D × D)} {ys : List V}, pairsOf l = some prs → RDs (wdOf X) ρ Fr H l ys → (∀ pr ∈ prs, pr.1.isTup = true) →
    ∃ (as : List Addr) (es : List (NestedKey × Addr × Value)), ys = as.map V.ref ∧ as.length = es.length ∧ prs.length = es.length ∧ ∀ (j : Nat) e, es[j]? = some e → ∃ t pr, as[j]? = some t ∧ prs[j]? = some pr ∧ PN X ρ Fr H s.heap t pr e
  | [], prs, ys, h, r, _ => by
    cases h
    rw [r.inv0]
    exact ⟨[], [], rfl, rfl, rfl, fun j e h => by simp at h⟩
  | d :: l, prs, ys, h, r, hl => by
    obtain ⟨a, b, t, rfl, h2, rfl⟩ := pairs_cons h
    obtain ⟨v, r1, ey, rv, r2⟩ := r.inv
    subst ey
    obtain ⟨as, es, e1, e2, e3, e4⟩ := pairs_nest I h2 r2 fun pr hm => hl pr (List.mem_cons_of_mem _ hm)
    subst e1
    obtain ⟨p, x, y, rfl, sq, ra, rb⟩ := rd_pair rv
    have ht := hl (a, b) (List.mem_cons_self ..)
    obtain ⟨c, rfl⟩ := isTup_ref ht ra
    obtain ⟨nk, hnk, _⟩ := isTup_nk ht
    obtain ⟨its, rits, tup, _⟩ := I.tuple sq
    obtain ⟨u1, u2, ei, ru1, ru2⟩ := vals2 rits
    subst ei
    obtain rfl : u1 = Value.ref c := ru1
    refine ⟨p :: as, (nk, c, u2) :: es, rfl, by simp [e2], by simp [e3], fun j e he => ?_⟩
    cases j with
    | zero =>
      simp only [List.getElem?_cons_zero, Option.some.injEq] at he
      subst he
      obtain ⟨o, ho, hc, n, hd⟩ := tup
      exact ⟨p, (a, b), rfl, rfl, ⟨⟨o, ho, hc, n, hd⟩, ht, hnk, ra, y, rb, ru2⟩⟩
    | succ j =>
      obtain ⟨t', pr, q1, q2, q3⟩ := e4 j e (by simpa using he)
      exact ⟨t', pr, by simpa using q1, by simpa using q2, q3⟩
theorem NestR.merge {h : Heap} : ∀ {prs : List (D × D)} {es : List (NestedKey × Addr × Value)} {ks xs : List D} {l : List (NestedKey × Addr × Value)} {us : List V} {p : List D × List D}, Rl (fun (pr : D × D) (e : NestedKey × Addr × Value) => ∃ t, PN X ρ Fr H h t pr e) prs es → NestR (wdOf X) ρ Fr H ks xs l us → dPutsOk prs ks xs = some p →
    ∃ us', NestR (wdOf X) ρ Fr H p.1 p.2 (storedAllH l es) us'
  | _, _, ks, xs, l, us, p, .nil, nr, h => by cases h; exact ⟨us, nr⟩
  | _, _, ks, xs, l, us, p, .cons (a := (k, x)) (b := (nk, b, u)) ⟨t, pn⟩ r, nr, h => by
    obtain ⟨_, _, h⟩ := puts_cons h
    obtain ⟨v, rx, ru⟩ := pn.rx
    obtain ⟨us', n'⟩ := nr.put pn.kt pn.nk pn.rk rx ru
    exact NestR.merge (l := storedH l nk b u) r n' h
theorem stored_len : ∀ (es l : List (NestedKey × Addr × Value)), (storedAllH l es).length ≤ l.length + es.length
  | [], l => Nat.le_refl _
  | e :: es, l => by
    have h1 := stored_len es (storedH l e.1 e.2.1 e.2.2)
    have h2 := storedH_length l e.1 e.2.1 e.2.2
    show (storedAllH (storedH l e.1 e.2.1 e.2.2) es).length ≤ _
    rw [List.length_cons]
    omega
theorem rl_of_at {α β : Type} {R : α → β → Prop} : ∀ {l : List α} {m : List β}, l.length = m.length → (∀ (j : Nat) b, m[j]? = some b → ∃ a, l[j]? = some a ∧ R a b) → Rl R l m
  | [], [], _, _ => .nil
  | [], _ :: _, e, _ => by simp at e
  | _ :: _, [], e, _ => by simp at e
  | a :: l, b :: m, e, h => by
    obtain ⟨a', h1, h2⟩ := h 0 b rfl
    cases h1
    exact .cons h2 (rl_of_at (by simpa using e) fun j b hb => by simpa using h (j + 1) b (by simpa using hb))
/-- dict(pairs) -/
def rDictA (X : Cx) : List V → Hp → VK → Prop := fun vs H Q => ∃ ρ Fr a l ys prs p, vs = [.ref a] ∧ H a = some (.lst ys) ∧ RDs (wdOf X) ρ Fr H l ys ∧ pairsOf l = some prs ∧ dPutsOk prs [] [] = some p ∧
  ∀ b ho kvs us, H b = none → DicO (wdOf X) b p.1 kvs us ho → RDs (wdOf X) ρ Fr H p.1 kvs → RDs (wdOf X) ρ Fr H p.2 us → Q (.ref b) (upd H b ho)
theorem call_dictA (hx : XO W T Φ k C X XW) : CallR X (.type "dict") (rDictA X) := by
  intro pins s σ H vs us Q I r h
  obtain ⟨ρ, Fr, a, l, ys, prs, p, rfl, ha, rd, hp, hq, fin⟩ := h
  have hu := hx.units
  rcases puts_kind hq with hl | ht
  · obtain ⟨as, kvs, rfl, hpair, hr⟩ := pairs_leaf hp rd hl
    have lr := LeafR.merge hr (.nil (W := wdOf X) (ρ := ρ) (Fr := Fr) (H := H)) hq
    refine call_dictP hx.calm pins s σ H [.ref a] us Q I r ⟨a, as, kvs, rfl, .inl (.inl ha), hpair, fun b hb => ?_⟩
    obtain ⟨l1, l2, l3⟩ := lr.to
    exact fin b _ _ _ hb (.inl ⟨l1, _, rfl, rfl, rfl⟩) l2 l3
  · obtain ⟨u, rfl, rx⟩ := vals1 r
    obtain rfl : u = Value.ref a := rx
    obtain ⟨as, es, rfl, e2, e3, e4⟩ := pairs_nest I hp rd ht
    obtain ⟨z, its, n, rits, ho⟩ := (show ObjOk X.prog X.w H s.heap a (.lst (as.map V.ref)) from I.hok a _ ha)
    have ei := refs_at rits
    subst ei
    have hz : es.length ≤ sizeLine := by rw [← e2]; simpa using z
    have ok : PlainSeq "list" s.heap a (as.map Value.ref).toArray ∧ PairItems s.heap (as.map Value.ref).toArray (fun j => as.getD j 0) (es.map fun e => (Value.ref e.2.1, e.2.2)) := by
      refine ⟨⟨_, n, ho, rfl, rfl, rfl⟩, by simp [e2], fun j key v hj => ?_⟩
      rw [List.getElem?_map] at hj
      cases he : es[j]? with
      | none => rw [he] at hj; cases hj
      | some e =>
        rw [he] at hj
        cases hj
        obtain ⟨t, pr, q1, q2, q3⟩ := e4 j e he
        refine ⟨by simp [q1], ?_⟩
        show PairAt s.heap (as.getD j 0) _ _
        rw [List.getD_eq_getElem?_getD, q1]
        exact .inl q3.tp
    have hi : ∀ x ∈ es, (nestedKind X.prog X.w).is s.heap x.1 x.2.1 := fun x hm => by
      obtain ⟨j, hj⟩ := List.mem_iff_getElem?.mp hm
      obtain ⟨t, pr, _, _, q3⟩ := e4 j x hj
      exact knd_is I q3.kt q3.nk q3.rk
    have P := PairArg.list (prog := X.prog) (w := X.w) a (as.map Value.ref).toArray (fun j => as.getD j 0) (es.map fun e => (Value.ref e.2.1, e.2.2))
    refine call_dict_pairsH (knd := nestedKind X.prog X.w) (ps := es) P (I.ok.hd hx.calm) (nroom (A := X.A.in1) (by show X.A.units + 1 + 10 < cLine; omega)) ok ⟨by simp, fun i key v hr => ?_⟩ (fun h' hk x hm => ?_) (by simpa using hz) fun h' tk dd hk => ?_
    · have hr : (es.map fun e => (Value.ref e.2.1, e.2.2))[i]? = some (key, v) := hr
      rw [List.getElem?_map] at hr
      cases he : es[i]? with
      | none => rw [he] at hr; cases hr
      | some e =>
        rw [he] at hr
        cases hr
        exact ⟨e.1, e.2.1, rfl, rfl⟩
    · exact nestedKind_stays.stays (fun b o vs m e _ => hk b o (Nat.ne_of_lt (Heap.lt_size e)) (by simp) e) (hi x hm)
    · have keep : ∀ b o, s.heap.get? b = some o → h'.get? b = some o := fun b o e => hk b o (by simp) e
      have hr : Rl (fun (pr : D × D) (e : NestedKey × Addr × Value) => ∃ t, PN X ρ Fr H s.heap t pr e) prs es := rl_of_at e3 fun j e he => by
        obtain ⟨t, pr, _, q2, q3⟩ := e4 j e he
        exact ⟨pr, q2, t, q3⟩
      obtain ⟨us', nr⟩ := NestR.merge hr (.nil (W := wdOf X) (ρ := ρ) (Fr := Fr) (H := H)) hq
      have hm : (s.heap.objs.size == sysModules) = false := beq_eq_false_iff_ne.mpr (Nat.ne_of_gt I.big)
      obtain ⟨ho', kvs', o1, o2, o3, o4⟩ := nest_lie nr dd hm (Nat.le_trans (stored_len es []) (by simpa using hz))
      exact ⟨.ref s.heap.objs.size, _, I.laid (t' := tk) keep (Nat.le_refl _) (o1 _), rfl, fin _ _ _ _ (I.hok.fresh (Nat.le_refl _)) o2 o3 o4⟩
theorem serb_dict : SerB (wdOf X) .dict (rDictA X) := by
  intro A σ q x z v Q sr r e h
  have c := ct_rel sr r
  have e : (match ct q.S q.G x with
    | .lst l => (pairsOf l).bind fun ps => (dPutsOk ps [] []).map fun p => D.dic p.1 p.2
    | _ => none) = some z := e
  cases ec : ct q.S q.G x with
  | lst l =>
    rw [ec] at c e
    have e : ((pairsOf l).bind fun ps => (dPutsOk ps [] []).map fun p => D.dic p.1 p.2) = some z := e
    cases ep : pairsOf l with
    | none => rw [ep] at e; cases e
    | some prs =>
      rw [ep] at e
      have e : ((dPutsOk prs [] []).map fun p => D.dic p.1 p.2) = some z := e
      cases eq : dPutsOk prs [] [] with
      | none => rw [eq] at e; cases e
      | some p =>
        rw [eq] at e
        cases e
        cases c with
        | @lst _ a vs ev hl rd =>
          exact ⟨q.ρ, q.Fr, a, l, vs, prs, p, by rw [ev], hl, rd, ep, eq, fun b ho kvs us hb d r1 r2 => h _ _ (.new hb ⟨kvs, us, d, r1, r2⟩)⟩
  | _ => rw [ec] at e; cases e
end
end Mi

end
section
set_option Elab.async false
set_option linter.all false
set_option maxRecDepth 100000
set_option maxHeartbeats 4000000
/-! Mi34: update, displays of dicts. -/
namespace Mi
open PySem PySem.Spec PyProof.Rows L2

/-! ### d.update(..) -/
section
variable {W : Wd} {T : Tb} {Φ : Fns} {k : Nat} {C : Cf} {X : Cx} {XW : WX} {A : Act} {pins : List (Addr × Obj)} {σ : Sv} {H : Hp} {s : Shared} {q p : Pt} {ρ : List Addr} {Fr : Addr → Prop}
/-- a pair with a leaf key, raw -/
structure PL (W : Wd) (ρ : List Addr) (Fr : Addr → Prop) (H : Hp) (h : Heap) (t : Addr) (pr : D × D) (e : Key × Value × Value × V) : Prop where
  tp : h.IsTuple t #[e.2.1, e.2.2.1]
  ke : pr.1 = kD e.1
  ki : keyIs e.1 e.2.1 = true
  rx : RD W ρ Fr H pr.2 e.2.2.2
  rv : RelV e.2.2.2 e.2.2.1
theorem pairs_raw (I : Inv X pins σ H s) : ∀ {l : List D} {prs : List (D × D)} {ys : List V}, pairsOf l = some prs → RDs (wdOf X) ρ Fr H l ys → (∀ pr ∈ prs, pr.1.leaf = true) →
    ∃ (as : List Addr) (es : List (Key × Value × Value × V)), ys = as.map V.ref ∧ as.length = es.length ∧ prs.length = es.length ∧ ∀ (j : Nat) e, es[j]? = some e → ∃ t pr, as[j]? = some t ∧ prs[j]? = some pr ∧ PL (wdOf X) ρ Fr H s.heap t pr e
  | [], prs, ys, h, r, _ => by
    cases h
    rw [r.inv0]
    exact ⟨[], [], rfl, rfl, rfl, fun j e h => by simp at h⟩
  | d :: l, prs, ys, h, r, hl => by
    obtain ⟨a, b, t, rfl, h2, rfl⟩ := pairs_cons h
    obtain ⟨v, r1, ey, rv, r2⟩ := r.inv
    subst ey
    obtain ⟨as, es, e1, e2, e3, e4⟩ := pairs_raw I h2 r2 fun pr hm => hl pr (List.mem_cons_of_mem _ hm)
    subst e1
    obtain ⟨p, x, y, rfl, sq, ra, rb⟩ := rd_pair rv
    obtain ⟨key, rfl⟩ := leaf_kD (hl (a, b) (List.mem_cons_self ..))
    have ex := RD.kD ra
    subst ex
    obtain ⟨its, rits, tup, _⟩ := I.tuple sq
    obtain ⟨u1, u2, ei, ru1, ru2⟩ := vals2 rits
    subst ei
    refine ⟨p :: as, (key, u1, u2, y) :: es, rfl, by simp [e2], by simp [e3], fun j e he => ?_⟩
    cases j with
    | zero =>
      simp only [List.getElem?_cons_zero, Option.some.injEq] at he
      subst he
      obtain ⟨o, ho, hc, n, hd⟩ := tup
      exact ⟨p, (kD key, b), rfl, rfl, ⟨⟨o, ho, hc, n, hd⟩, rfl, kV_is (P := X.prog) (w := X.w) ru1, rb, ru2⟩⟩
    | succ j =>
      obtain ⟨t', pr, q1, q2, q3⟩ := e4 j e (by simpa using he)
      exact ⟨t', pr, by simpa using q1, by simpa using q2, q3⟩
theorem kv_of : ∀ {es : List (Key × Value × Value × V)}, (∀ e ∈ es, RelV e.2.2.2 e.2.2.1) → KV (es.map fun e => (e.1, e.2.2.2)) (es.map fun e => (e.1, e.2.2.1))
  | [], _ => .nil
  | e :: es, h => .cons ⟨rfl, h e (List.mem_cons_self ..)⟩ (kv_of fun x hx => h x (List.mem_cons_of_mem _ hx))
/-- the dict is written -/
theorem upd_done {a : Addr} {l kvs : List (Key × V)} {vs0 rs : List (Key × Value)} {h' : Heap} {tk : Nat} (I : Inv X pins σ H s) (ha : H a = some (.dK l)) (hm : (a == sysModules) = false) (rel0 : KV l vs0) (hz : l.length + kvs.length ≤ sizeLine) (hk : KV kvs rs)
    (hd : h'.DictOf (mixKind X.prog X.w) a (merged vs0 rs)) (keep : ∀ c o, c ≠ a → s.heap.get? c = some o → h'.get? c = some o) : Inv X pins σ (upd H a (.dK (mergeK l kvs))) { s with heap := h', toks := tk } := by
  have hlen : (mergeK l kvs).length ≤ sizeLine := Nat.le_trans (length_mergeK kvs l) hz
  have ex : ∃ o, h'.get? a = some o := let ⟨o, _, _, ho, _⟩ := hd; ⟨o, ho⟩
  exact I.write (x := a) (e := a) (t' := tk) (by rw [ha]; trivial) (.inl rfl) keep ex ⟨hlen, hm, _, hk.merge rel0, hd⟩
/-- d.update(x), leaf keys -/
theorem upd_run {a b : Addr} {x : D} {ps : List (D × D)} {l : List (Key × V)} (I : Inv X pins σ H s) (hh : X.calm = true) (ha : H a = some (.dK l)) (nfa : ¬ Fr a) (rx : RD (wdOf X) ρ Fr H x (.ref b)) (e : updPs x = some ps) (hl : ∀ pr ∈ ps, pr.1.leaf = true) (hz : l.length + ps.length ≤ sizeLine) {Q : Value → Shared → Prop} {E : Value → Shared → Prop}
    (fin : ∀ kvs, Rl (fun (pr : D × D) (kv : Key × V) => pr.1 = kD kv.1 ∧ RD (wdOf X) ρ Fr H pr.2 kv.2) ps kvs → ∀ s', Inv X pins σ (upd H a (.dK (mergeK l kvs))) s' → Q .none s') :
    wpAny (model X.prog X.w) X.A (call (.builtin "dict.update") [.ref a, .ref b]) Q E s := by
  obtain ⟨zl, hm, vs0, rel0, dd0⟩ := (show ObjOk X.prog X.w H s.heap a (.dK l) from I.hok a _ ha)
  have l0 : vs0.length = l.length := (Paired.length rel0).symm
  cases x with
  | lst l2 =>
    have e : pairsOf l2 = some ps := e
    simp only [RD] at rx
    obtain ⟨b', ws, eb, ⟨fb, hb⟩, rd⟩ := rx
    cases eb
    have ne : b ≠ a := fun z => nfa (z ▸ fb)
    obtain ⟨as, es, rfl, e2, e3, e4⟩ := pairs_raw I e rd hl
    obtain ⟨z, its, n, rits, ho⟩ := (show ObjOk X.prog X.w H s.heap b (.lst (as.map V.ref)) from I.hok b _ hb)
    have ei := refs_at rits
    subst ei
    have P := PairArg.list (prog := X.prog) (w := X.w) b (as.map Value.ref).toArray (fun j => as.getD j 0) (es.map fun e => (e.2.1, e.2.2.1))
    have ok : PlainSeq "list" s.heap b (as.map Value.ref).toArray ∧ PairItems s.heap (as.map Value.ref).toArray (fun j => as.getD j 0) (es.map fun e => (e.2.1, e.2.2.1)) := by
      refine ⟨⟨_, n, ho, rfl, rfl, rfl⟩, by simp [e2], fun j key v hj => ?_⟩
      rw [List.getElem?_map] at hj
      cases he : es[j]? with
      | none => rw [he] at hj; cases hj
      | some e =>
        rw [he] at hj
        cases hj
        obtain ⟨t, pr, q1, q2, q3⟩ := e4 j e he
        refine ⟨by simp [q1], ?_⟩
        show PairAt s.heap (as.getD j 0) _ _
        rw [List.getD_eq_getElem?_getD, q1]
        exact .inl q3.tp
    have isdict : s.TypeIs (.ref a) "dict" := dd0.typeIs
    have nfp : a ∉ b :: (List.range (es.map fun e => (e.2.1, e.2.2.1)).length).map (fun j => as.getD j 0) := fun hmem => by
      rcases List.mem_cons.mp hmem with q | q
      · exact ne q.symm
      · obtain ⟨j, hj, ej⟩ := List.mem_map.mp q
        have hj : j < es.length := by simpa using hj
        obtain ⟨t, pr, q1, _, q3⟩ := e4 j _ (List.getElem?_eq_getElem hj)
        have ej : as.getD j 0 = a := ej
        rw [List.getD_eq_getElem?_getD, q1] at ej
        have ej : t = a := ej
        obtain ⟨o, ho2, hc, _⟩ := q3.tp
        rw [ej] at ho2
        obtain ⟨o3, ho3, hc3⟩ := isdict
        rw [ho2] at ho3
        cases ho3
        exact absurd (hc.symm.trans hc3) (by simp)
    refine PySem.call_update_pairs (knd := mixKind X.prog X.w) (kvs := es.map fun e => (e.1, e.2.2.1)) P (I.ok.hd hh) ok nfp ⟨by simp, fun i key v hr => ?_⟩ dd0 (by simp only [List.length_map]; omega) fun h' tk hd keep => ?_
    · have hr : (es.map fun e => (e.2.1, e.2.2.1))[i]? = some (key, v) := hr
      rw [List.getElem?_map] at hr
      cases he : es[i]? with
      | none => rw [he] at hr; cases hr
      | some e =>
        rw [he] at hr
        cases hr
        obtain ⟨t, pr, _, _, q3⟩ := e4 i e he
        exact ⟨e.1, by rw [List.getElem?_map, he]; rfl, q3.ki⟩
    · have rels : ∀ e ∈ es, RelV e.2.2.2 e.2.2.1 := fun e hm2 => by
        obtain ⟨j, hj⟩ := List.mem_iff_getElem?.mp hm2
        obtain ⟨t, pr, _, _, q3⟩ := e4 j e hj
        exact q3.rv
      refine fin (es.map fun e => (e.1, e.2.2.2)) (rl_of_at (by simpa using e3) fun j kv hkv => ?_) _ (upd_done I ha hm rel0 (by simp only [List.length_map]; omega) (kv_of rels) hd fun c o hc ho2 => keep c o hc (by simp) ho2)
      rw [List.getElem?_map] at hkv
      cases he : es[j]? with
      | none => rw [he] at hkv; cases hkv
      | some e =>
        rw [he] at hkv
        cases hkv
        obtain ⟨t, pr, _, q2, q3⟩ := e4 j e he
        exact ⟨pr, q2, q3.ke, q3.rx⟩
  | dic k2 x2 =>
    have e : some (k2.zip x2) = some ps := e
    cases e
    simp only [RD] at rx
    obtain ⟨b', ho, kvs, ws, eb, ⟨fb, hb⟩, dd, r1, r2⟩ := rx
    cases eb
    have ne : b ≠ a := fun z => nfa (z ▸ fb)
    have lens : k2.length = x2.length := by
      rcases dd with ⟨_, l2, _, e1, e2⟩ | ⟨_, _, xs, _, _, _, _, _, _, _, _, e1, e2, _⟩
      · have := r1.length
        have := r2.length
        rw [← e1] at *
        rw [← e2] at *
        simp_all
      · have := r1.length
        have := r2.length
        have := e2.length
        rw [e1] at *
        simp_all
    rcases dd with ⟨hleaf, l2, rfl, rfl, rfl⟩ | ⟨ht, hn, _⟩
    · obtain ⟨z2, hm2, vs2, rel2, dd2⟩ := (show ObjOk X.prog X.w H s.heap b (.dK l2) from I.hok b _ hb)
      have lr := LeafR.of hleaf r1 r2
      have ll := lr.length
      have hz2 : l.length + l2.length ≤ sizeLine := by
        rw [List.length_zip] at hz
        omega
      have l2l : vs2.length = l2.length := (Paired.length rel2).symm
      refine call_meetsIn PySem.F.slot_dict_update dd0.typeIs PySem.F.entry_dict_update (PySem.F.args_dict_update_2 _ _) (meets_dict_update (mixKind X.prog X.w) a b ne.symm hm2) ⟨vs0, vs2, dd0, dd2, by omega, fun h' hd _ sb => ?_⟩
      refine fin l2 ?_ _ (upd_done (tk := s.toks) I ha hm rel0 hz2 rel2 hd fun c o hc ho2 => (sb.2 c hc).trans ho2)
      clear hz hz2 e fin hl lens ll r1 r2 hleaf z2 rel2 hb l2l
      induction lr with
      | nil => exact .nil
      | cons r _ ih => exact .cons ⟨rfl, r⟩ ih
    · exfalso
      cases k2 with
      | nil => exact hn rfl
      | cons c r =>
        cases x2 with
        | nil => simp at lens
        | cons y t =>
          have h1 := hl (c, y) (by simp)
          have h2 : c.isTup = true := by simp only [List.all_cons, Bool.and_eq_true] at ht; exact ht.1
          have h1 : c.leaf = true := h1
          rw [leaf_tup h1] at h2
          cases h2
  | _ => cases e
end
end Mi

end
section
set_option Elab.async false
set_option linter.all false
set_option maxRecDepth 100000
set_option maxHeartbeats 4000000
/-! Mi35: update as a method, displays of dicts. -/
namespace Mi
open PySem PySem.Spec PyProof.Rows L2

section
variable {W : Wd} {T : Tb} {Φ : Fns} {k : Nat} {C : Cf} {X : Cx} {XW : WX} {A : Act} {pins : List (Addr × Obj)} {σ : Sv} {H : Hp} {s : Shared} {q p : Pt} {ρ : List Addr} {Fr : Addr → Prop}
/-- what can be written to is not frozen -/
theorem put_nfr (sr : SR W A σ q) {d : D} {a : Addr} {ks xs : List D} {z : D} (ro : RO W q.ρ q.Fr q.H σ d (.ref a)) (ec : ct q.S q.G d = .dic ks xs) (p : List D × List D) (hb : (putD d p.1 p.2).bind (fun _ => Ev.pure z) q.S q.G ≠ .bad) : ¬ q.Fr a := by
  cases d with
  | slot i =>
    intro hf
    cases e : q.S[i]? with
    | none => simp only [ct, e] at ec; cases ec
    | some t =>
      cases t with
      | dic k2 x2 =>
        obtain ⟨b, ho, h1, h2, _, nf, _⟩ := sr.so i _ e rfl
        have ro : σ[i]? = some (some (.ref a)) := ro
        rw [ro] at h1
        cases h1
        exact nf hf
      | _ => simp only [ct, e] at ec; cases ec
  | ref n =>
    intro hf
    simp only [RO, RD] at ro
    obtain ⟨b, h1, h2⟩ := ro
    cases h2
    exact sr.g.nf a (List.mem_of_getElem? h1) hf
  | _ => exact absurd rfl hb
theorem md_update (hc : X.calm = true) : MtD X .update "dict.update" := by
  intro A XW pins s σ q d l v vs u us R Q I rd rl rv rs h hR
  have hb := h.not_bad
  have c := ct_rel h.1 rd
  cases l with
  | nil => exact absurd rfl hb
  | cons x t =>
    cases t with
    | cons y t => exact absurd rfl hb
    | nil =>
      cases ec : ct q.S q.G d with
      | dic ks xs =>
        rw [ec] at c
        cases c with
        | @dic _ _ a ho kvs ws ev h1 h2 h3 h4 =>
          subst ev
          obtain ⟨y, t, rfl, r1, r2⟩ := rl.inv
          have := r2.inv0
          subst this
          obtain ⟨w, rfl, rw1⟩ := vals1 rs
          cases eu : updPs x with
          | none => exact absurd (show evBm .update d [x] q.S q.G = .bad by simp only [evBm, ec, eu]) hb
          | some ps =>
            by_cases ok : updOk ks ps = true
            · cases ep : dPutsOk ps ks xs with
              | none => exact absurd (show evBm .update d [x] q.S q.G = .bad by simp only [evBm, ec, eu, if_pos ok, ep]) hb
              | some p =>
                have e : evBm .update d [x] q.S q.G = (putD d p.1 p.2).bind (fun _ => Ev.pure .non) q.S q.G := by simp only [evBm, ec, eu, if_pos ok, ep]
                have h := h.of_eq e
                have nf := put_nfr h.1 rd ec p (by rw [e] at hb; exact hb)
                unfold updOk at ok
                obtain ⟨o1, ok⟩ := b2 ok
                obtain ⟨o2, o3⟩ := b2 ok
                have o3 := of_dec o3
                rcases h2 with ⟨_, l0, rfl, rfl, rfl⟩ | ⟨ht, hn, _⟩
                · have lr := LeafR.of o1 h3 h4
                  have lln := lr.length
                  obtain ⟨b, rfl⟩ : ∃ b, y = V.ref b := by
                    cases x with
                    | lst l2 => simp only [RD] at r1; obtain ⟨b, _, e, _⟩ := r1; exact ⟨b, e⟩
                    | dic k2 x2 => simp only [RD] at r1; obtain ⟨b, _, _, _, e, _⟩ := r1; exact ⟨b, e⟩
                    | _ => cases eu
                  obtain rfl : w = Value.ref b := rw1
                  obtain rfl : u = Value.ref a := rv
                  refine upd_run I hc h1 nf r1 eu (fun pr hm => List.all_eq_true.mp o2 pr hm) (by omega) fun kvs hr s' I' => ?_
                  have lr' := LeafR.merge hr lr ep
                  obtain ⟨t1, t2, t3⟩ := lr'.to
                  obtain ⟨q', e', s2, m', hz'⟩ := putD_ok (p := p) (ho := .dK (mergeK l0 kvs)) h rd rfl ec (.inl ⟨t1, _, rfl, rfl, rfl⟩) t2 t3
                  rw [← e'] at I'
                  exact ⟨.non, q'.H, I', rfl, hR .non q' s2 m' hz' .non q'.H ⟨RO.of (by simp only [RD]), rfl⟩⟩
                · exfalso
                  cases ks with
                  | nil => exact hn rfl
                  | cons c r =>
                    simp only [List.all_cons, Bool.and_eq_true] at ht o1
                    rw [leaf_tup o1.1] at ht
                    exact absurd ht.1 (by simp)
            · exact absurd (show evBm .update d [x] q.S q.G = .bad by simp only [evBm, ec, eu, if_neg ok]) hb
      | _ => simp only [evBm, ec, ne_eq, not_true] at hb

/-! ### {k: x, ..} -/
/-- the same context, where nothing is raised -/
theorem XO.xf (hx : XO W T Φ k C X XW) : XO W T Φ k C X XF := by
  obtain ⟨wd, nm, sc, nd, calm, rm, tk, po, tb, fn, me⟩ := hx
  refine ⟨wd, nm, sc, nd, calm, rm, fun u s' x => ?_, po, tb, fn, me⟩
  obtain ⟨_, _, _, _, _, _, _, _, _, _, _, _, _, _, _, _, w⟩ := x
  exact w.elim
/-- a value of a display -/
abbrev eDc (W : Wd) (m : Ev D) : TE := fun σ H Q => ∃ A, teS W A XF m σ H Q
def trsOf (W : Wd) (Φ : Fns) : List Key → Es → List (TE × TE)
  | key :: kl, .cons e r => (tC (kV key), eDc W (evE Φ e)) :: trsOf W Φ kl r
  | _, _ => []
theorem tp_read : ∀ (kl : List Key) (es : Es) (A : Act) (p : Pt) (R : List D → Pt → Prop) (Qf : List (V × V) → Hp → Prop), kl.length = es.len → wpD W A XF σ (evEs Φ es) p R →
    (∀ (l : List D) (vs : List V) (q : Pt), vs.length = kl.length → RDs W q.ρ q.Fr q.H l vs → SR W A σ q → Mp p q → R l q → Qf ((kl.map kV).zip vs) q.H) → tPairs (trsOf W Φ kl es) σ p.H Qf
  | [], .nil, A, p, R, Qf, _, h, fin => by
    have h : wpD W A XF σ (Ev.pure []) p R := by simpa only [evEs] using h
    exact fin [] [] p rfl .nil h.1 Mo.refl h.pure
  | [], .cons _ _, _, _, _, _, e, _, _ => by simp [Es.len] at e
  | _ :: _, .nil, _, _, _, _, e, _, _ => by simp [Es.len] at e
  | key :: kl, .cons e r, A, p, R, Qf, el, h, fin => by
    have h : wpD W A XF σ (((evE Φ e).bind settle).bind fun d => (evEs Φ r).bind fun l => Ev.pure (d :: l)) p R := by simpa only [evEs] using h
    show tC (kV key) σ p.H fun x H1 => eDc W (evE Φ e) σ H1 fun y H2 => tPairs (trsOf W Φ kl r) σ H2 fun ps H3 => Qf ((x, y) :: ps) H3
    refine ⟨A, p, rfl, (wpD.bind h).mono fun d q s mo h v rv => ?_⟩
    refine tp_read kl r A q (fun l q2 => R (d :: l) q2) _ (by simpa [Es.len] using el) ((wpD.bind h).mono fun l q2 s2 mo2 h2 => h2.pure) fun l vs q2 e1 r2 s2 m2 hR => ?_
    exact fin (d :: l) (v :: vs) q2 (by simp [e1]) (.cons (RD.mono m2 _ _ rv) r2) s2 (mo.trans m2) hR
theorem rl_zip : ∀ {kl : List Key} {l : List D} {vs : List V}, vs.length = kl.length → RDs W ρ Fr H l vs → Rl (fun (pr : D × D) (kv : Key × V) => pr.1 = kD kv.1 ∧ RD W ρ Fr H pr.2 kv.2) ((kl.map kD).zip l) (kl.zip vs)
  | [], l, vs, _, _ => .nil
  | key :: kl, [], vs, e, r => by rw [r.inv0] at e; simp at e
  | key :: kl, d :: l, vs, e, r => by
    obtain ⟨v, r1, ev, h1, h2⟩ := r.inv
    subst ev
    exact .cons ⟨rfl, h1⟩ (rl_zip (by simpa using e) h2)
theorem zip_kv : ∀ (kl : List Key) (vs : List V), (kl.map kV).zip vs = (kl.zip vs).map fun kv => (kV kv.1, kv.2)
  | [], vs => rfl
  | _ :: _, [] => rfl
  | key :: kl, v :: vs => by simp only [List.map_cons, List.zip_cons_cons, zip_kv kl vs]
/-- a display whose keys are written -/
theorem n_dicK {keys : List (Option Expr)} {values : List Expr} {pos : Pos} {kl : List Key} {es : Es} (hp : PPs X pos keys values (trsOf W Φ kl es)) (hl : kl.length = es.len) (h1 : keys.all (·.isSome) = true) (h2 : keys.length = values.length) (h3 : keys ≠ []) (h4 : keys.length ≤ 15) (h5 : kl.length ≤ 15) :
    PE X (.Dict keys values pos) (teN W A XW ((Mi.noEx (evEs Φ es)).bind fun xs => Ev.lift ((dPutsOk ((kl.map kD).zip xs) [] []).map fun p => .dic p.1 p.2))) := PE.imp (pe_disp hp h1 h2 h3 h4) fun σ H Q => by
  rintro ⟨p, rfl, h⟩ z0 hD
  have s0 := h.1
  have h := wpD.bind h
  obtain ⟨xs, S1, G1, e0, h⟩ := h.noEx
  have j0 : Junk A σ p z0 := ⟨s0.nbase hD, s0.nro hD, s0.nfr hD, fun i t e o => s0.nown hD e o⟩
  have hr : z0 ∉ A.ρ := fun m => by
    obtain ⟨n, hn, e⟩ := List.getElem_of_mem m
    exact j0.r (List.mem_of_getElem? (s0.e.r n z0 (by rw [List.getElem?_eq_getElem hn, e])))
  have hf : ¬ A.Fr z0 := fun m => j0.f (s0.e.f z0 m)
  obtain ⟨sJ, mJ⟩ := s0.putJ j0 (.dK [])
  have sW := sJ.guard (⟨j0.b, j0.r, j0.f, j0.o⟩ : Junk A σ (p.put z0 (.dK [])) z0) upd_same
  have hw : wpD W (gd A z0 (.dK [])) XF σ (evEs Φ es) (p.put z0 (.dK [])) fun l q => l = xs ∧ q.S = S1 ∧ q.G = G1 := by
    refine ⟨sW, ?_⟩
    have e0' : evEs Φ es (p.put z0 (.dK [])).S (p.put z0 (.dK [])).G = .ok xs S1 G1 := e0
    rw [e0']
    exact fun q b1 b2 _ _ => ⟨rfl, b1, b2⟩
  refine tp_read kl es _ (p.put z0 (.dK [])) _ _ hl hw fun l vs q ev rv sq mq hq => ?_
  obtain ⟨rfl, b1, b2⟩ := hq
  obtain ⟨su, jq, hz⟩ := sq.unguard j0.b hr hf
  refine ⟨hz, kl.zip vs, zip_kv kl vs, by rw [List.length_zip]; omega, ?_⟩
  obtain ⟨sd, md⟩ := su.del jq
  have h2 := h { q with H := Hp.del q.H z0 } b1 b2 sd ((mJ.trans mq).trans md)
  obtain ⟨d, ed, h2⟩ := h2.lift
  cases eq : dPutsOk ((kl.map kD).zip l) [] [] with
  | none => rw [eq] at ed; cases ed
  | some pp =>
    rw [eq] at ed
    cases ed
    have lr := LeafR.merge (rl_zip ev (RDs.mono md _ _ rv)) (.nil (W := W) (ρ := q.ρ) (Fr := q.Fr) (H := Hp.del q.H z0)) eq
    obtain ⟨t1, t2, t3⟩ := lr.to
    have key : Res W σ { q with H := Hp.del q.H z0 } (.dic pp.1 pp.2) (.ref z0) (upd (Hp.del q.H z0) z0 (.dK (mergeK [] (kl.zip vs)))) := .new (q := { q with H := Hp.del q.H z0 }) del_same ⟨_, _, .inl ⟨t1, _, rfl, rfl, rfl⟩, t2, t3⟩
    have e2 : upd (Hp.del q.H z0) z0 (.dK (mergeK [] (kl.zip vs))) = upd q.H z0 (.dK (mergeK [] (kl.zip vs))) := by
      funext b
      by_cases z : b = z0
      · subst z; rw [upd_same, upd_same]
      · rw [upd_ne z, upd_ne z, del_ne z]
    rw [e2] at key
    exact h2 _ _ key
end
end Mi

end
section
set_option Elab.async false
set_option linter.all false
set_option maxRecDepth 100000
set_option maxHeartbeats 4000000
/-! Mi36: lambdas as keys. -/
namespace Mi
open PySem PySem.Spec PyProof.Rows L2

theorem look_det {K : PySem.W.Frag} {g : Str × Option Str} {c c' a a' : Addr} {q q' : Str} (h : TabL K g c a q) (h' : TabL K g c' a' q') : c = c' ∧ a = a' ∧ q = q' := by
  obtain ⟨oc, od, fd, osl, e1, e2, e3, e4⟩ := h
  obtain ⟨oc', od', fd', osl', f1, f2, f3, f4⟩ := h'
  rw [e1] at f1
  cases f1
  rw [e2] at f2
  cases f2
  refine ⟨rfl, ?_, e3.symm.trans f3⟩
  unfold PySem.W.codeHdIn at e4 f4
  split at e4
  · rename_i vs _ hk
    rw [hk] at f4
    simp only [Bool.and_eq_true] at e4 f4
    have h1 := e4.1.1.1.1.1
    have h2 := f4.1.1.1.1.1
    split at h1
    · rename_i P' hv
      rw [hv] at h2
      have h1 : P' = a := by simpa using h1
      have h2 : P' = a' := by simpa using h2
      rw [← h1, h2]
    · cases h1
  · cases e4
section
variable {W : Wd} {T : Tb} {Φ : Fns} {k : Nat} {C : Cf} {X : Cx} {XW : WX} {A : Act} {pins : List (Addr × Obj)} {σ : Sv} {H : Hp} {s : Shared} {p : Pt}
/-- a table grows by a new code object -/
theorem SR.grow (sr : SR W A σ p) {n : Nat} {g : Str × Option Str} {P c' : Addr} {ps more : Array Value} {c : Addr} {q : Str} (hn : p.ρ[n]? = some P) (hg : p.G[n]? = some (.tab g)) (hP : p.H P = some (.tbl ps)) (hl : TabL W.K g c P q) (hc : p.H c' = none) (ht : TriplesOk (ps ++ more).toList)
    (hm : ∀ pos cv, codeAmong pos (ps ++ more).toList = some cv → codeAmong pos ps.toList = some cv ∨ cv = .ref c') : ∃ p' : Pt, p'.S = p.S ∧ p'.G = p.G ∧ p'.H = upd (upd p.H P (.tbl (ps ++ more))) c' (LamX.CodeO c' (q ++ ".<locals>." ++ "<lambda>")) ∧ SR W A σ p' ∧ Mp p p' ∧ p'.Fr c' := by
  have nPc : P ≠ c' := ne_of_none hP hc
  have nfP : ¬ p.Fr P := sr.g.nf P (List.mem_of_getElem? hn)
  have at_ : ∀ b, b ≠ P → b ≠ c' → upd (upd p.H P (.tbl (ps ++ more))) c' (LamX.CodeO c' (q ++ ".<locals>." ++ "<lambda>")) b = p.H b := fun b h1 h2 => by rw [upd_ne h2, upd_ne h1]
  have nfc : ¬ p.Fr c' := sr.nfr hc
  have nrc : c' ∉ p.ρ := sr.nro hc
  have m : Mp p ⟨p.S, p.G, upd (upd p.H P (.tbl (ps ++ more))) c' (LamX.CodeO c' (q ++ ".<locals>." ++ "<lambda>")), p.ρ, fun b => b = c' ∨ p.Fr b⟩ := ⟨fun _ _ h => h, fun _ h => .inr h, fun b hb => at_ b (fun z => nfP (z ▸ hb)) fun z => nfc (z ▸ hb)⟩
  refine ⟨⟨p.S, p.G, upd (upd p.H P (.tbl (ps ++ more))) c' (LamX.CodeO c' (q ++ ".<locals>." ++ "<lambda>")), p.ρ, fun b => b = c' ∨ p.Fr b⟩, rfl, rfl, rfl, ⟨⟨sr.g.gl, sr.g.nd, fun b hb hf => ?_, fun i o e => ?_, fun b hb => ?_⟩, ⟨sr.e.r, fun b hb => .inr (sr.e.f b hb), fun b o e hb => ?_, sr.e.nr, fun b hb => ?_⟩, sr.sl, fun i d e => ?_, fun i t e ow => ?_, sr.si⟩, m, .inl rfl⟩
  · rcases hf with rfl | hf
    · exact nrc hb
    · exact sr.g.nf b hb hf
  · obtain ⟨b, ho, e1, e2, r⟩ := sr.g.ob i o e
    by_cases hb : b = P
    · subst hb
      -- the table itself
      have hin : i = n := by
        exact (List.getElem?_inj (List.getElem?_eq_some_iff.mp e1).1 sr.g.nd).mp (e1.trans hn.symm)
      subst hin
      rw [hg] at e
      cases e
      rw [hP] at e2
      cases e2
      obtain ⟨ps', c2, q2, z1, z2, z3, z4⟩ := r
      cases z1
      obtain ⟨d1, d2, d3⟩ := look_det z3 hl
      subst d1 d3
      refine ⟨b, .tbl (ps ++ more), e1, (upd_ne nPc).trans upd_same, ps ++ more, c2, q2, rfl, ht, hl, fun pos cv hcv => ?_⟩
      rcases hm pos cv hcv with w | w
      · obtain ⟨x, y1, y2, y3⟩ := z4 pos cv w
        exact ⟨x, y1, .inr y2, (m.h x y2).trans y3⟩
      · exact ⟨c', w, .inl rfl, upd_same⟩
    · have hb2 : b ≠ c' := fun z => nrc (z ▸ List.mem_of_getElem? e1)
      exact ⟨b, ho, e1, (at_ b hb hb2).trans e2, r.mono m⟩
  · rcases hb with rfl | hb
    · exact ⟨_, upd_same⟩
    · obtain ⟨o, e⟩ := sr.g.ft b hb
      exact ⟨o, (m.h b hb).trans e⟩
  · by_cases hbP : b = P
    · subst hbP
      exfalso
      rcases sr.e.nr b (List.mem_of_getElem? hn) with z | z
      · exact hb z
      · rw [z] at e; cases e
    · refine (at_ b hbP fun z => ?_).trans (sr.e.k b o e hb)
      rw [z, sr.nbase hc] at e
      cases e
  · rcases hb with rfl | hb
    · exact .inr (sr.nbase hc)
    · exact sr.e.nF b hb
  · obtain ⟨v, e1, r⟩ := sr.sv i d e
    exact ⟨v, e1, r.mono m⟩
  · obtain ⟨b, o, e1, e2, r, f, q1, z⟩ := sr.so i t e ow
    have hbP : b ≠ P := fun z => q1 (z ▸ List.mem_of_getElem? hn)
    have hbc : b ≠ c' := fun z => by rw [z, hc] at e2; cases e2
    exact ⟨b, o, e1, (at_ b hbP hbc).trans e2, r.mono m, (fun w => by rcases w with w | w; exact hbc w; exact f w), q1, z⟩
/-- an object that never changes -/
abbrev fO (f : Addr) (o : Obj) : HO := .ext fun h => h.get? f = some o
theorem fO_ok {P : Program} {w : World} {H : Hp} {h : Heap} {f : Addr} {o : Obj} (e : h.get? f = some o) : ObjOk P w H h f (fO f o) := ⟨e, ⟨_, e⟩, fun h1 h2 q z => z _ q⟩
/-- the lambda's function object, made -/
theorem lam_mk (hx : XO W T Φ k C X XW) {g : Str × Option Str} (hme : C.me = some g) {n : Nat} {params : Arguments} {body : Expr} {scope : Scope} {pos : Pos} (hdef : defaultsOf params X.env = ([], [])) (hfree : ∀ y ∈ scope.names, y.2 ≠ .free) (I : Inv X pins σ p.H s) (sr : SR W A σ p) (hg : p.G[n]? = some (.tab g)) {Q E : Value → Shared → Prop}
    (fin : ∀ (f c' : Addr) (pm ctv : Value) (p' : Pt) (s' : Shared), p'.S = p.S → p'.G = p.G → SR W A σ p' → Mp p p' → Inv X pins σ p'.H s' → p'.H f = some (fO f (PySem.W.kla_obj "<lambda>" (X.env.qual ++ "<lambda>") params body scope [] pm c' ctv)) → f ∉ p'.ρ → ¬ p'.Fr f →
      p'.Fr c' → p'.H c' = some (LamX.CodeO c' (X.env.qual ++ "<lambda>")) → Q (.ref f) s') :
    wpAny (model X.prog X.w) X.A (eval (.Lambda params body scope pos) X.env) Q E s := by
  obtain rfl : W = wdOf X := hx.wd.symm
  obtain ⟨_, c, a, q, hl, hcode, hq, TB⟩ := hx.me g hme
  obtain ⟨P, ho, hn, hP, ps, c2, q2, rfl, ht, hl2, ha⟩ := sr.g.ob n _ hg
  obtain ⟨rfl, rfl, rfl⟩ := look_det hl hl2
  refine PySem.W.kla_eval hdef ?_
  have clo : cloFrom X.env.cells scope.names [] = [] := by
    have key : ∀ (l : List (Str × NameKind)) (acc : List (Str × Addr)), (∀ y ∈ l, y.2 ≠ .free) → cloFrom X.env.cells l acc = acc := by
      intro l
      induction l with
      | nil => intro acc _; rfl
      | cons y r ih =>
        intro acc h
        obtain ⟨x, kd⟩ := y
        have hk : kd ≠ .free := h (x, kd) (List.mem_cons_self ..)
        have := ih acc fun z hz => h z (List.mem_cons_of_mem _ hz)
        cases kd <;> first | exact absurd rfl hk | (unfold cloFrom; exact this)
    exact key _ _ hfree
  have bP : s.heap.BuiltinsAt X.mg a := TB.bm.keeps I.bk
  have hP' : s.heap.get? a = some { cls := .none, data := .fields ps } := I.hok a _ hP
  have cok : closureFor scope X.env = pure [] := by
    have := closure_ok (scope := scope) (env := X.env) fun y hy e => absurd e (hfree y hy)
    rwa [clo] at this
  have nofr : ∀ f, s.heap.objs.size ≤ f → f ∉ frs X.stack := fun f hf z => by
    rcases List.mem_cons.mp (I.stkSub _ z) with e | e
    · exact absurd I.lt (by rw [← e]; exact Nat.not_lt.mpr hf)
    · exact I.nofs hf e
  cases hc : codeAmong pos ps.toList with
  | none =>
    refine PySem.W.kla_makeFunction (mg := X.mg) (c := c) (P := a) (ps := ps) cok I.ok.glob (I.mod.glob.keeps I.bk) hcode (TB.code.keeps I.bk) hP' ht hc TB.gP bP fun c' ctv h' tk hxb hge hlt hrec htb => ?_
    obtain ⟨c3, oc, vs, t, e2, hoc, hd, hv⟩ := hrec
    cases e2
    have nC : p.H c' = none := I.hok.fresh hge
    have eL : (ps ++ #[rawInt pos.line, rawInt pos.col, .ref c']).toList = ps.toList ++ [rawInt pos.line, rawInt pos.col, .ref c'] := by simp
    obtain ⟨p', e1, e2, e3, s', m', fc⟩ := sr.grow (more := #[rawInt pos.line, rawInt pos.col, .ref c']) hn hg hP hl nC (by rw [eL]; exact PySem.TriplesOk_snoc _ _ _ _ ht) fun p2 cv hcv => by
      rw [eL] at hcv
      exact LamX.among_app _ ht hcv
    have I1 := LamX.inv_table (t' := tk) (more := #[rawInt pos.line, rawInt pos.col, .ref c']) (q := X.env.qual ++ "<lambda>") (h' := h') I hP (fun b o hb e => hxb b o hb e) htb hge ⟨oc, vs, t, hoc, hd, hv⟩
    rw [hq] at I1
    rw [← e3] at I1
    have nf : p'.H h'.objs.size = none := I1.hok.fresh (Nat.le_refl _)
    have I2 := I1.laid (a := h'.objs.size) (o := fO h'.objs.size (PySem.W.kla_obj "<lambda>" (X.env.qual ++ "<lambda>") params body scope [] ((X.mg "__name__").getD .none) c' ctv)) (t' := tk) (h' := h'.push (PySem.W.kla_obj "<lambda>" (X.env.qual ++ "<lambda>") params body scope [] ((X.mg "__name__").getD .none) c' ctv)) (fun b u q => Heap.get?_push_of_some _ q) (Nat.le_refl _) (fO_ok (Heap.get?_push_size _ rfl))
    obtain ⟨s2, m2⟩ := s'.junk (ho := fO h'.objs.size (PySem.W.kla_obj "<lambda>" (X.env.qual ++ "<lambda>") params body scope [] ((X.mg "__name__").getD .none) c' ctv)) nf
    have hne : c' ≠ h'.objs.size := Nat.ne_of_lt hlt
    refine fin h'.objs.size c' ((X.mg "__name__").getD .none) ctv (p'.put h'.objs.size _) _ e1 e2 s2 (m'.trans m2) I2 upd_same (s'.nro nf) (s'.nfr nf) fc ((upd_ne hne).trans ?_)
    rw [e3, hq]
    exact upd_same
  | some cv =>
    obtain ⟨c', e, fc, hco⟩ := ha pos cv hc
    subst e
    refine PySem.W.kla_makeFunctionHit (mg := X.mg) (c := c) (P := a) (ps := ps) (cv := .ref c') (clos := []) (params := params) (body := body) cok I.ok.glob (I.mod.glob.keeps I.bk) hcode (TB.code.keeps I.bk) hP' ht hc bP fun ctv h' tk hxb hsz => ?_
    have I1 : Inv X pins σ p.H { s with heap := h', toks := tk } := I.kept hxb
    have nf : p.H h'.objs.size = none := I1.hok.fresh (Nat.le_refl _)
    have I2 := I1.laid (a := h'.objs.size) (o := fO h'.objs.size (PySem.W.kla_obj "<lambda>" (X.env.qual ++ "<lambda>") params body scope [] ((X.mg "__name__").getD .none) c' ctv)) (t' := tk) (h' := h'.push (PySem.W.kla_obj "<lambda>" (X.env.qual ++ "<lambda>") params body scope [] ((X.mg "__name__").getD .none) c' ctv)) (fun b u q => Heap.get?_push_of_some _ q) (Nat.le_refl _) (fO_ok (Heap.get?_push_size _ rfl))
    obtain ⟨s2, m2⟩ := sr.junk (ho := fO h'.objs.size (PySem.W.kla_obj "<lambda>" (X.env.qual ++ "<lambda>") params body scope [] ((X.mg "__name__").getD .none) c' ctv)) nf
    have hne : c' ≠ h'.objs.size := fun z => by rw [z, nf] at hco; cases hco
    refine fin h'.objs.size c' ((X.mg "__name__").getD .none) ctv (p.put h'.objs.size _) _ rfl rfl s2 m2 I2 upd_same (sr.nro nf) (sr.nfr nf) fc ((upd_ne hne).trans ?_)
    rw [hq]
    exact hco
/-- a lambda as a key function -/
theorem key_lam (hx : XO W T Φ k C X XW) (rm3 : Rm (k + 3) X.A) {f c' : Addr} {pm ctv : Value} {x : Str} {as : List Arg} {d1 : List (Option Expr)} {bodyE : Expr} {body : E} {scope : Scope} {N : List Str} {m : Nat} {B0 : Act} (ha : as.map (·.arg) = [x]) (S : FnScope N [x] scope) (hm : m = N.length - 1)
    (hf : B0.H f = some (fO f (PySem.W.kla_obj "<lambda>" (X.env.qual ++ "<lambda>") ⟨[], as, none, [], d1, none, []⟩ bodyE scope [] pm c' ctv))) (nr : f ∉ B0.ρ) (hc : B0.H c' = some (LamX.CodeO c' (X.env.qual ++ "<lambda>"))) (nc : c' ∉ B0.ρ)
    (hb : ∀ A' X' XW', XO W T Φ k ⟨N, scope, scope, none⟩ X' XW' → PE X' bodyE (teD W A' XW' (evE Φ body))) : KeyF W X pins σ X.A.in1.in1 B0 (lamF (evE Φ body) m) (.ref f) := by
  intro s H G G' ρ Fr d d' v u Q' E I g e rd rv hk fin
  have hx0 := hx
  obtain ⟨wd, nm, sc, nd, calm, rm, tk, po, tb, _, _⟩ := hx
  subst wd
  have hf1 := e.k f _ hf nr
  have hc1 := e.k c' _ hc nc
  have of1 : s.heap.get? f = some (PySem.W.kla_obj "<lambda>" (X.env.qual ++ "<lambda>") ⟨[], as, none, [], d1, none, []⟩ bodyE scope [] pm c' ctv) := (I.hok f _ hf1).1
  obtain ⟨oc, vs, t, hoc, hdc, hvc⟩ := (I.hok c' _ hc1).1
  obtain ⟨S', hrun⟩ : ∃ S', ((evE Φ body).bind settle) (.val d :: List.replicate m .no) G = .ok d' S' G' := by
    unfold lamF at hk
    cases q : ((evE Φ body).bind settle) (.val d :: List.replicate m .no) G with
    | ok a S1 G1 => rw [q] at hk; cases hk; exact ⟨S1, rfl⟩
    | ex _ _ _ => rw [q] at hk; cases hk
    | bad => rw [q] at hk; cases hk
  have e0 := env_at (A2 := X.A.in1.in1) I.env0 rfl
  have rd2 : Rm (k + 1) (X.A.in1.in1.deeper (envOfC (X.env.qual ++ "<lambda>") scope s.heap.objs.size f (.ref c'))) :=
    ⟨⟨rm3.r.hd, by have := rm3.r.dp; show X.A.depth + 1 + 3 * (k + 1) + 5 < _; omega, by have := rm3.r.un; show X.A.units + 1 + 1 + 3 + 16 * (k + 1) + 200 < _; omega⟩, rm3.g⟩
  refine wpAny_call ?_
  refine PySem.W.kla_callFunE (by have := rm3.r.dp; show X.A.depth < _; omega) of1 rfl S.co S.gen rfl ⟨c', oc, vs, t, rfl, hoc, hdc, hvc⟩ ?_
  have hbind : bindArgs (PySem.W.kla_fn "<lambda>" (X.env.qual ++ "<lambda>") ⟨[], as, none, [], d1, none, []⟩ bodyE scope [] pm (.ref c') ctv) ⟨[u], []⟩ = pure [(x, u)] := by
    obtain ⟨kk, k1, _, k3⟩ := bind_args (x := "<lambda>") (qual := X.env.qual ++ "<lambda>") (as := as) (ps := [x]) (d1 := d1) (d2 := []) (body := []) (scope := scope) (dV := .none) (kV := .none) (doc := .none) (pm := pm) (an := none) (cdv := .ref c') (ct := ctv) (us := [u]) (ws := []) (its := []) (ks := []) (r := [u]) ha rfl (by simp [bindC])
      (by simp only [bindG, List.zip_cons_cons, List.zip_nil_right, List.zip_nil_left, List.append_nil, List.length_cons, List.length_nil, List.zipIdx_cons, List.zipIdx_nil, allG, oneG, List.lookup_cons, beq_self_eq_true])
    have k2 : bindArgs (PySem.W.fnOf "<lambda>" (X.env.qual ++ "<lambda>") ⟨[], as, none, [], d1, none, []⟩ [] scope .none .none .none pm none (.ref c') ctv) ⟨[u], []⟩ = pure [(x, u)] := by
      have k4 : bindArgs (PySem.W.fnOf "<lambda>" (X.env.qual ++ "<lambda>") ⟨[], as, none, [], d1, none, []⟩ [] scope .none .none .none pm none (.ref c') ctv) ⟨[u], []⟩ = seqItems? .none >>= kk := k1
      rw [k4]
      exact k3 rfl
    exact k2
  rw [hbind]
  refine wpAny_pure ?_
  refine wpAny_newFunctionEnv_cells S.kind (fun ⟨n, v⟩ hy => ?_) fun env he s1 y => ?_
  · have hy : (n, v) = (x, u) := by simpa using hy
    cases hy
    rcases S.par x (List.mem_singleton.mpr rfl) with q | q
    · exact .inl q
    · exact .inr ⟨q, PySem.W.cellsFrom_some _ _ _ (.inl q)⟩
  subst he
  have lim : s.heap.NoLimit := I.nolimit
  refine ⟨lim.keeps y.toInCall.keep, ?_⟩
  have st := start_sr (N := N) g (RDs.one rd)
  rw [show N.length - [d].length = m by rw [hm]; rfl] at st
  have hread : teS (wdOf X) ⟨H, ρ, Fr⟩ XF (evE Φ body) (L2.start N [v]) H fun v' H' => ∃ ρ' Fr', GS (wdOf X) G' H' ρ' Fr' ∧ Ex ⟨H, ρ, Fr⟩ H' ρ' Fr' ∧ RD (wdOf X) ρ' Fr' H' d' v' := by
    refine ⟨_, rfl, st, ?_⟩
    have hrun' : ((evE Φ body).bind settle) (⟨List.map Slot.val [d] ++ List.replicate m Slot.no, G, H, ρ, Fr⟩ : Pt).S (⟨List.map Slot.val [d] ++ List.replicate m Slot.no, G, H, ρ, Fr⟩ : Pt).G = .ok d' S' G' := hrun
    rw [hrun']
    intro q e1 e2 s' _ v' rv'
    exact ⟨q.ρ, q.Fr, by rw [← e2]; exact s'.g, s'.e, rv'⟩
  have hxo : XO (wdOf X) T Φ k ⟨N, scope, scope, none⟩ (cxOf (L2.CX X.prog X.w) X.prog X.w X.K X.mg X.base N (X.env.qual ++ "<lambda>") scope f (.ref c') X.A.in1.in1 X.stack s H fun _ _ _ => False) XF :=
    ⟨rfl, rfl, rfl, S.nd, rfl, rd2, takes_of rfl rfl rfl rfl, passes_of rfl, tb, .inl rfl, fun _ z => (nomatch z)⟩
  have hrun2 := (PE.toS (hb ⟨H, ρ, Fr⟩ _ _ hxo)).run [] s1 (L2.start N [v]) H _ (inv_start S hx0.rm.r.hd e0 rfl (.cons rv .nil) y) hread
  refine PySem.W.kla_codeExpr (wpAny_mono hrun2 (fun u' s' hq => ?_) fun e s' hq => ?_)
  · obtain ⟨w', H', J, rv', ρ', Fr', g', e', rd'⟩ := hq
    exact fin w' u' s' H' ρ' Fr' (I.call' J.os J.base J.hok J.bare fun _ z => nomatch z) rv' g' e' rd'
  · exact wpAny_mono hq (fun _ s'' z => by obtain ⟨_, _, _, _, _, _, _, _, _, _, _, _, z⟩ := z; exact z.elim) fun _ s'' z => by obtain ⟨_, _, _, _, _, _, _, _, _, _, _, _, z⟩ := z; exact z.elim
/-- lambda x: body, as a key -/
theorem key_lambda (hx : XO W T Φ k C X XW) {g : Str × Option Str} (hme : C.me = some g) {n m : Nat} {x : Str} {as : List Arg} {d1 : List (Option Expr)} {bodyE : Expr} {body : E} {scope : Scope} {N : List Str} {pos : Pos} (ha : as.map (·.arg) = [x]) (S : FnScope N [x] scope) (hm : m = N.length - 1)
    (hdef : defaultsOf ⟨[], as, none, [], d1, none, []⟩ X.env = ([], [])) (hb : ∀ A' X' XW', XO W T Φ k ⟨N, scope, scope, none⟩ X' XW' → PE X' bodyE (teD W A' XW' (evE Φ body))) :
    PE X (.Lambda ⟨[], as, none, [], d1, none, []⟩ bodyE scope pos) (teK W A X (fun G => tabOk G n g) (lamF (evE Φ body) m)) := by
  refine ⟨fun pins s σ H Q I h => ?_⟩
  obtain ⟨q, rfl, sr, hpre, h⟩ := h
  have hpre : tabOk q.G n g = some () := hpre
  have hg : q.G[n]? = some (.tab g) := by
    unfold tabOk at hpre
    split at hpre
    · rename_i g' e
      split at hpre
      · rename_i eg
        rw [e, eg]
      · cases hpre
    · cases hpre
  refine lam_mk hx hme hdef S.nofree I sr hg fun f c' pm ctv p' s' e1 e2 sr' mo I' hf nr nfr fc hc => ?_
  have nc : c' ∉ p'.ρ := fun z => sr'.g.nf c' z fc
  exact ⟨.ref f, p'.H, I', rfl, h f p' e1 e2 sr' mo fun pins' => key_lam hx (hx.me g hme).1 (B0 := ⟨p'.H, p'.ρ, p'.Fr⟩) ha S hm hf nr hc nc hb⟩
end
end Mi

end
section
set_option Elab.async false
set_option linter.all false
set_option maxRecDepth 100000
set_option maxHeartbeats 1000000
/-! Mi19: every operation, every comparison; the check of an expression. -/
namespace Mi
open PySem PySem.Spec PyProof.Rows L2

section
variable {W : Wd} {T : Tb} {Φ : Fns} {k : Nat} {C : Cf} {X : Cx} {XW : WX} {A : Act}
def opE : Op2 → Operator → Bool
  | .add, .Add => true
  | .sub, .Sub => true
  | .mul, .Mult => true
  | .mod, .Mod => true
  | .fdiv, .FloorDiv => true
  | .pow, .Pow => true
  | _, _ => false
theorem op_ex {o : Op2} {op : Operator} (hK : wdOf X = W) (h : opE o op = true) : ∃ r, OpR X (binaryOp op) r ∧ Ser2 W (op2 o) r := by
  subst hK
  cases o <;> cases op <;> first
    | (cases h; done)
    | exact ⟨_, op_addA, ser_add⟩
    | exact ⟨_, op_sub, ser_sub⟩
    | exact ⟨_, op_mulA, ser_mul⟩
    | exact ⟨_, op_mod, ser_mod⟩
    | exact ⟨_, op_fdiv, ser_fdiv⟩
    | exact ⟨_, op_pow, ser_pow⟩
def cmE : CmpO → CmpOp → Bool
  | .eq, .Eq => true
  | .ne, .NotEq => true
  | .lt, .Lt => true
  | .le, .LtE => true
  | .gt, .Gt => true
  | .ge, .GtE => true
  | .isN, .Is => true
  | .notN, .IsNot => true
  | .inn, .In => true
  | .nin, .NotIn => true
  | _, _ => false
theorem serc_lt : SerC W .lt (rI0 fun i j => .bl (decide (i < j))) := by
  intro A σ q x y b v u Q s rx ry e h
  cases x with
  | int i =>
    cases y with
    | int j =>
      have e : some (decide (i < j)) = some b := e
      cases e
      rw [rx.int, ry.int]
      exact ⟨i, j, rfl, rfl, h⟩
    | _ => cases e
  | _ => cases y <;> cases e
def rStrIn : R2 := fun x y H Q => ∃ i j, x = .str i ∧ y = .str j ∧ Q (.bl (!(Builtin.Str.occurrences j i 0 j.length 1).isEmpty)) H
def rStrNin : R2 := fun x y H Q => ∃ i j, x = .str i ∧ y = .str j ∧ Q (.bl (!(!(Builtin.Str.occurrences j i 0 j.length 1).isEmpty))) H
theorem py_ns {d : D} {p : PyData} (e : d.py = some p) : ∀ i, d ≠ .slot i := fun i z => by subst z; simp only [D.py] at e; cases e
theorem serc_in (neg : Bool) : SerC (wdOf X) (if neg = true then .nin else .inn) (fun x y H Q => rInA X.K neg x y H Q ∨ (if neg = true then rStrNin else rStrIn) x y H Q ∨ rDin X neg x y H Q) := by
  intro A σ q x y b v u Q s rx ry e h
  have c := ct_rel s ry
  have seq : ∀ {l : List D} {a : Addr} {vs : List V}, u = .ref a → (SqL X.K q.H a vs ∨ SqT X.K q.H a vs) → RDs (wdOf X) q.ρ q.Fr q.H l vs → (match x.py, D.pys l with
      | some p, some ps => if SeqAt.shaped p && ps.all SeqAt.shaped then some (if neg = true then !inPy p ps else inPy p ps) else none
      | _, _ => none) = some b → rInA X.K neg v u q.H Q := by
    intro l a vs eu hs r e
    cases e1 : x.py with
    | none => rw [e1] at e; cases e
    | some p =>
      cases e2 : D.pys l with
      | none => rw [e1, e2] at e; cases e
      | some ps =>
        rw [e1, e2] at e
        simp only at e
        split at e
        · rename_i hsh
          rw [Bool.and_eq_true] at hsh
          cases e
          exact ⟨a, p, ps, vs, py_dp (W := wdOf X) (ρ := q.ρ) (Fr := q.Fr) x p v e1 (rx.rd (py_ns e1)), eu, hs, py_dps (W := wdOf X) (ρ := q.ρ) (Fr := q.Fr) l ps vs e2 r, hsh.1, hsh.2, h⟩
        · cases e
  have dic : ∀ {ks xs : List D}, CtR (wdOf X) σ q u (.dic ks xs) → okKey ks x = true → b = (if neg = true then !dHas ks x else dHas ks x) → rDin X neg v u q.H Q := by
    intro ks xs c hk eb
    cases c with
    | @dic _ _ a ho kvs vs ev h1 h2 h3 h4 =>
      have ns : ∀ i, x ≠ .slot i := fun i z => by
        subst z
        unfold okKey at hk
        simp [D.leaf, D.isTup] at hk
      subst eb
      exact ⟨q.ρ, q.Fr, a, ks, xs, x, ⟨ho, kvs, vs, ev, h1, h2, h3, h4, hk, rx.rd ns⟩, h⟩
  cases neg with
  | true =>
    simp only [if_true] at e ⊢
    simp only [cmp2] at e
    cases ec : ct q.S q.G y with
    | str z =>
      rw [ec] at c e
      simp only at e
      cases x with
      | str a =>
        cases e
        cases c with
        | str ev => exact .inr (.inl ⟨a, z, rx.str, ev, by rw [Bool.not_not]; exact h⟩)
      | _ => cases e
    | dic ks xs =>
      rw [ec] at c e
      simp only at e
      split at e
      · rename_i hk
        cases e
        exact .inr (.inr (dic c hk rfl))
      · cases e
    | lst l =>
      rw [ec] at c e
      cases c with
      | lst ev hl r => exact .inl (seq ev (.inl (SqL.of hl)) r e)
    | tup l =>
      rw [ec] at c e
      cases c with
      | tup ev hl r => exact .inl (seq ev (.inr hl) r e)
    | _ => rw [ec] at e; cases e
  | false =>
    simp only [Bool.false_eq_true, if_false] at e ⊢
    simp only [cmp2] at e
    cases ec : ct q.S q.G y with
    | str z =>
      rw [ec] at c e
      simp only at e
      cases x with
      | str a =>
        cases e
        cases c with
        | str ev => exact .inr (.inl ⟨a, z, rx.str, ev, h⟩)
      | _ => cases e
    | dic ks xs =>
      rw [ec] at c e
      simp only at e
      split at e
      · rename_i hk
        cases e
        exact .inr (.inr (dic c hk rfl))
      · cases e
    | lst l =>
      rw [ec] at c e
      cases c with
      | lst ev hl r => exact .inl (seq ev (.inl (SqL.of hl)) r e)
    | tup l =>
      rw [ec] at c e
      cases c with
      | tup ev hl r => exact .inl (seq ev (.inr hl) r e)
    | _ => rw [ec] at e; cases e
theorem cm_ex {o : CmpO} {op : CmpOp} (hx : XO W T Φ k C X XW) (h : cmE o op = true) : ∃ r, OpR X (compareOp op) r ∧ SerC W o r := by
  obtain rfl : W = wdOf X := hx.wd.symm
  have hu := hx.units
  cases o <;> cases op <;> first
    | (cases h; done)
    | exact ⟨_, op_eqD (by omega), serc_eq⟩
    | exact ⟨_, op_neD (by omega), serc_ne⟩
    | exact ⟨_, op_lt, serc_lt⟩
    | exact ⟨_, op_le, serc_le⟩
    | exact ⟨_, op_gt, serc_gt⟩
    | exact ⟨_, op_ge, serc_ge⟩
    | exact ⟨_, op_isN, serc_isN⟩
    | exact ⟨_, op_notN, serc_notN⟩
    | exact ⟨_, (op_inA (by omega)).or (op_in_str.or (op_din (by omega))), serc_in false⟩
    | exact ⟨_, (op_ninA (by omega)).or (op_notin_str.or (op_dnin (by omega))), serc_in true⟩
end

/-! ### the check -/
def visB (sc : Scope) (x : Str) : Bool := match sc.names.lookup x with
  | some .local => true
  | some .cell => true
  | some .free => true
  | _ => false
def locB (sc : Scope) (x : Str) : Bool := match sc.names.lookup x with
  | some .local => true
  | some .cell => true
  | _ => false
def lclB (sc : Scope) (x : Str) : Bool := match sc.names.lookup x with
  | some .local => true
  | _ => false
def glB (sc : Scope) (x : Str) : Bool := match sc.names.lookup x with
  | some .globalImplicit => true
  | _ => false
def okN (x : Str) : Bool := !(x == ("__debug__" : Str)) && !(x == ("__classdict__" : Str)) && decide (x ≠ "__name__")
/-- a name that the module leaves to the built-in one -/
def bltB (T : Tb) (C : Cf) (nm : Str) (x : Str) : Bool := decide (x = nm) && (glB C.sc x && T.free.contains x)
def chC : D → Expr → Bool
  | .non, .Constant .none _ _ => true
  | .bl b, .Constant (.bool c) _ _ => b == c
  | .int i, .Constant (.int j) _ _ => decide (i = j)
  | .int i, .UnaryOp .USub (.Constant (.int j) _ _) _ => decide (i = -j)
  | .str x, .Constant (.str y) _ _ => decide (x = y)
  | _, _ => false
def bmId : Bm → Option (Str × String)
  | .append => some ("append", "list.append")
  | .pop => some ("pop", "list.pop")
  | .popAt => some ("pop", "list.pop")
  | .setdefault => some ("setdefault", "dict.setdefault")
  | .join => some ("join", "str.join")
  | .split => some ("split", "str.split")
  | .lines => some ("splitlines", "str.splitlines")
  | .update => some ("update", "dict.update")
  | _ => none
def nameOf : Expr → Option Str
  | .Name x _ => some x
  | _ => none
theorem nameOf_ok {e : Expr} {x : Str} (h : nameOf e = some x) : ∃ p, e = .Name x p := by
  unfold nameOf at h
  split at h
  · cases h; exact ⟨_, rfl⟩
  · cases h
/-- x(..), no keywords -/
def callNm : Expr → Option (Str × List Expr)
  | .Call (.Name x _) es [] _ => some (x, es)
  | _ => none
theorem callNm_ok {e : Expr} {q : Str × List Expr} (h : callNm e = some q) : ∃ p p2, e = .Call (.Name q.1 p) q.2 [] p2 := by
  unfold callNm at h
  split at h
  · cases h; exact ⟨_, _, rfl⟩
  · cases h
def bi1Ok (T : Tb) (C : Cf) (b : Bi) (x : Str) : Bool := match b with
  | .len => bltB T C "len" x
  | .tuple => bltB T C "tuple" x
  | .list => bltB T C "list" x
  | .all => bltB T C "all" x
  | .int => bltB T C "int" x
  | .str => bltB T C "str" x
  | .repr => bltB T C "repr" x
  | .sorted => bltB T C "sorted" x
  | .dict => bltB T C "dict" x
  | _ => false
def bi2Ok (T : Tb) (C : Cf) (b : Bi) (x : Str) : Bool := match b with
  | .max2 => bltB T C "max" x
  | .min2 => bltB T C "min" x
  | _ => false
/-- displays of dicts -/
def dictOf : Expr → Option (List (Option Expr) × List Expr)
  | .Dict ks vs _ => some (ks, vs)
  | _ => none
theorem dictOf_ok {e : Expr} {q : List (Option Expr) × List Expr} (h : dictOf e = some q) : ∃ p, e = .Dict q.1 q.2 p := by
  unfold dictOf at h
  split at h
  · cases h; exact ⟨_, rfl⟩
  · cases h
def keysK : Es → Option (List Str)
  | .nil => some []
  | .cons (.c (.str x)) r => (keysK r).map (x :: ·)
  | _ => none
def keyEx : List Str → List (Option Expr) → Bool
  | [], [] => true
  | x :: xs, some (.Constant (.str y) _ _) :: ks => decide (x = y) && keyEx xs ks
  | _, _ => false
def dic0 : Es → Es → List (Option Expr) → List Expr → Bool
  | .nil, .nil, [], [] => true
  | _, _, _, _ => false
def dicB (a b : Es) (ks : List (Option Expr)) (vs : List Expr) : Bool := match keysK a with
  | some xs => keyEx xs ks && (decide (xs.length = b.len) && (decide (ks.length = vs.length) && (decide (ks.length ≤ 15) && !ks.isEmpty)))
  | none => false
/-- sorted(e, key=k) -/
def srtOf : Expr → Option (Str × Expr × Expr)
  | .Call (.Name x _) [e] [⟨some k, ke, _⟩] _ => if k = Str.ofString "key" then some (x, e, ke) else none
  | _ => none
theorem srtOf_ok {e : Expr} {q : Str × Expr × Expr} (h : srtOf e = some q) : ∃ p kp p2, e = .Call (.Name q.1 p) [q.2.1] [⟨some (Str.ofString "key"), q.2.2, kp⟩] p2 := by
  unfold srtOf at h
  split at h
  · split at h
    · rename_i hk
      cases h
      subst hk
      exact ⟨_, _, _, rfl⟩
    · cases h
  · cases h
def keyB (T : Tb) (C : Cf) (f : Str) (ke : Expr) : Bool := match nameOf ke with
  | some g => decide (g = f) && (T.glob.contains f && (glB C.sc f && (okN f && (match T.P.fd f with
    | some fd => bindC fd.ps 1 [] fd.dfl.length
    | none => false))))
  | none => false
def nodB : List Str → Bool
  | [] => true
  | x :: r => !r.contains x && nodB r
theorem nodB_ok : ∀ {l : List Str}, nodB l = true → l.Nodup
  | [], _ => .nil
  | x :: r, h => by
    obtain ⟨h1, h2⟩ := b2 (show (!r.contains x && nodB r) = true from h)
    refine List.nodup_cons.mpr ⟨fun hm => ?_, nodB_ok h2⟩
    rw [List.contains_iff_mem.mpr hm] at h1
    cases h1
def scB (sc : Scope) (ns ps : List Str) : Bool := (sc.kind == .function) && (!sc.isCoroutine && (!sc.isGenerator && (nodB ns && (decide (ns.take ps.length = ps) && (ps.all (fun x => match sc.names.lookup x with
  | some .local => true
  | some .cell => true
  | _ => false) && sc.names.all fun y => match y.2 with
  | .free => false
  | _ => true)))))
theorem scB_ok {sc : Scope} {ns ps : List Str} (h : scB sc ns ps = true) : FnScope ns ps sc := by
  obtain ⟨h1, h⟩ := b2 h
  obtain ⟨h2, h⟩ := b2 h
  obtain ⟨h3, h⟩ := b2 h
  obtain ⟨h4, h⟩ := b2 h
  obtain ⟨h5, h⟩ := b2 h
  obtain ⟨h6, h7⟩ := b2 h
  refine ⟨?_, ?_, ?_, nodB_ok h4, of_dec h5, fun x hx => ?_, fun y hy e => ?_⟩
  · simpa using h1
  · simpa using h2
  · simpa using h3
  · have q := List.all_eq_true.mp h6 x hx
    revert q
    split
    · rename_i e; intro _; exact .inl e
    · rename_i e; intro _; exact .inr e
    · intro q; cases q
  · have q := List.all_eq_true.mp h7 y hy
    rw [e] at q
    cases q
/-- lambda x: b -/
def lamOf : Expr → Option (Str × Scope × Expr)
  | .Lambda ⟨[], [a], none, [], [], none, []⟩ b sc _ => some (a.arg, sc, b)
  | _ => none
theorem lamOf_ok {e : Expr} {q : Str × Scope × Expr} (h : lamOf e = some q) : ∃ a p, a.arg = q.1 ∧ e = .Lambda ⟨[], [a], none, [], [], none, []⟩ q.2.2 q.2.1 p := by
  unfold lamOf at h
  split at h
  · cases h; exact ⟨_, _, rfl, rfl⟩
  · cases h
def meB (me : Option (Str × Option Str)) (g : Str × Option Str) : Bool := match me with
  | some f => decide (f = g)
  | none => false
theorem meB_ok {me : Option (Str × Option Str)} {g : Str × Option Str} (h : meB me g = true) : me = some g := by
  unfold meB at h
  split at h
  · rw [of_dec h]
  · cases h
mutual
/-- the expression e is what m says -/
def chE (T : Tb) : E → Cf → Expr → Bool
  | .c d, _, e => chC d e
  | .v i, C, .Name x _ => decide (C.N[i]? = some x) && (visB C.sc x && okN x)
  | .g x, C, .Name y _ => decide (x = y) && (glB C.sc y && okN y)
  | .tup a, C, .Tuple es _ _ => chEs T a C es
  | .lst a, C, .List es _ => chEs T a C es
  | .dic a b, C, e => (match dictOf e with
      | some q => dic0 a b q.1 q.2 || (dicB a b q.1 q.2 && chEs T b C q.2)
      | none => false)
  | .srt a f, C, e => (match srtOf e with
      | some q => bltB T C "sorted" q.1 && (noStar q.2.1 && (chE T a C q.2.1 && keyB T C f q.2.2))
      | none => false)
  | .srl a n g ns body, C, e => (match srtOf e with
      | some q => bltB T C "sorted" q.1 && (noStar q.2.1 && (chE T a C q.2.1 && (meB C.me g && (match lamOf q.2.2 with
        | some r => scB r.2.1 ns [r.1] && chE T body ⟨ns, r.2.1, r.2.1, none⟩ r.2.2
        | none => false))))
      | none => false)
  | .gl m, C, e => m.fresh && chE T m C e
  | .bin o a b, C, .BinOp x op y _ => opE o op && (chE T a C x && chE T b C y)
  | .nt a, C, .UnaryOp .Not x _ => chE T a C x
  | .and a b, C, .BoolOp .And [x, y] _ => chE T a C x && chE T b C y
  | .and a b, C, .BoolOp .And (x :: y :: z :: r) p => chE T a C x && chE T b C (.BoolOp .And (y :: z :: r) p)
  | .or a b, C, .BoolOp .Or [x, y] _ => chE T a C x && chE T b C y
  | .or a b, C, .BoolOp .Or (x :: y :: z :: r) p => chE T a C x && chE T b C (.BoolOp .Or (y :: z :: r) p)
  | .ife c a b, C, .IfExp x y z _ => chE T c C x && (chE T a C y && chE T b C z)
  | .cmp o a b, C, .Compare x [op] [y] _ => cmE o op && (!behindInMarks op y && (chE T a C x && chE T b C y))
  | .chn o p a b c, C, .Compare x [op, oq] [y, z] _ => cmE o op && (cmE p oq && (!lastMarks [op, oq] [y, z] && (chE T a C x && (chE T b C y && chE T c C z))))
  | .ix a i, C, .Subscript x y _ => noSlice y && (chE T a C x && chE T i C y)
  | .sl a hl lo hh hi, C, .Subscript x (.Slice l h none _) _ => chE T a C x && ((match hl, l with
      | false, none => (match lo with
        | .c .non => true
        | _ => false)
      | true, some e => chE T lo C e
      | _, _ => false) && (match hh, h with
      | false, none => (match hi with
        | .c .non => true
        | _ => false)
      | true, some e => chE T hi C e
      | _, _ => false))
  | .rev a, C, .Subscript x (.Slice none none (some (.UnaryOp .USub (.Constant (.int 1) _ _) _)) _) _ => chE T a C x
  | .fld a f, C, .Attribute x g _ => decide (f = g) && (plainRecv x && chE T a C x)
  | .call f a, C, .Call (.Name x _) es [] _ => decide (f = x) && (T.glob.contains x && (glB C.sc x && (okN x && (noStars es && ((match T.P.fd x with
      | some fd => bindC fd.ps a.len [] fd.dfl.length
      | none => false) && chEs T a C es)))))
  | .callk f a ks kw, C, .Call (.Name x _) es kws _ => decide (f = x) && (T.glob.contains x && (glB C.sc x && (okN x && (noStars es && (allNm kws && (decide (nmsOf kws = ks) && ((match T.P.fd x with
      | some fd => bindC fd.ps a.len ks fd.dfl.length
      | none => false) && (decide (kw.len = ks.length) && (chEs T a C es && chEs T kw C (kws.map (·.value)))))))))))
  | .mk f a, C, .Call (.Name x _) es [] _ => decide (f = x) && (T.mks.contains x && (glB C.sc x && (okN x && (noStars es && ((match T.P.fd (initName x) with
      | some fd => bindC fd.ps (a.len + 1) [] fd.dfl.length
      | none => false) && chEs T a C es)))))
  | .meth Cn m o a, C, .Call (.Attribute x y ap) es [] p => decide (m = y) && (T.mths.contains (Cn, m) && (plainRecv x && (noStars es && (decide (es.length < 29) && ((ap.endLine == p.line) && ((match T.P.fd (methName Cn m) with
      | some fd => bindC fd.ps (a.len + 1) [] fd.dfl.length
      | none => false) && (chE T o C x && chEs T a C es)))))))
  | .methk Cn m o a ks kw, C, .Call (.Attribute x y ap) es kws p => decide (m = y) && (T.mths.contains (Cn, m) && (plainRecv x && (noStars es && (allNm kws && (decide (nmsOf kws = ks) && (decide (es.length + kws.length < 29) && ((ap.endLine == p.line) && ((match T.P.fd (methName Cn m) with
      | some fd => bindC fd.ps (a.len + 1) ks fd.dfl.length
      | none => false) && (decide (kw.len = ks.length) && (chE T o C x && (chEs T a C es && chEs T kw C (kws.map (·.value)))))))))))))
  | .bi b a, C, e => (match callNm e with
      | some q => (match b with
        | .isi t => (match q.2 with
          | [e, y] => (match nameOf y with
            | some y => bltB T C "isinstance" q.1 && (decide (y = Str.ofString t) && (isiTypes.contains t && (glB C.sc y && (T.free.contains y && (noStar e && chE T a C e)))))
            | none => false)
          | _ => false)
        | b => (match q.2 with
          | [e] => noStar e && (chE T a C e && bi1Ok T C b q.1)
          | _ => false))
      | none => false)
  | .bi2 b a c, C, e => (match callNm e with
      | some q => (match q.2 with
        | [e, f] => noStar e && (noStar f && (chE T a C e && (chE T c C f && bi2Ok T C b q.1)))
        | _ => false)
      | none => false)
  | .bm m o a, C, .Call (.Attribute x y ap) es [] p => (match bmId m with
      | some q => decide (y = q.1)
      | none => false) && (plainRecv x && (noStars es && (decide (es.length < 29) && ((ap.endLine == p.line) && (chE T o C x && chEs T a C es)))))
  | .lc elt t it hi c vs, C, .ListComp x [⟨tg, iter, ifs, 0⟩] sc _ => (sc.kind == .function) && ((match iter with
      | .Set _ _ _ => false
      | _ => true) && (blkC C.N C.sc sc (vs.filterMap fun v => (C.N[v]?).map fun n => (n, v)) && (decide ((vs.filterMap fun v => (C.N[v]?).map fun n => (n, v)).map (·.2) = vs) && ((t.slots.all fun i => vs.contains i) &&
      (chI T it C tg iter && (chT t ⟨C.N, relS sc C.sc, sc, none⟩ tg && (chE T elt ⟨C.N, relS sc C.sc, sc, none⟩ x && (match hi, ifs with
      | false, [] => true
      | true, [y] => chE T c ⟨C.N, relS sc C.sc, sc, none⟩ y
      | _, _ => false))))))))
  | .fs (.cons a (.cons b r)), C, .JoinedStr (x :: y :: xs) _ => chE T a C x && (chE T b C y && chEs T r C xs)
  | .fv a, C, .FormattedValue x i none _ => (i == -1) && chE T a C x
  | _, _, _ => false
def chEs (T : Tb) : Es → Cf → List Expr → Bool
  | .nil, _, [] => true
  | .cons a r, C, x :: xs => noStar x && (chE T a C x && chEs T r C xs)
  | _, _, _ => false
def chI (T : Tb) : I → Cf → Expr → Expr → Bool
  | .seq a, C, _, e => (match e with
      | .Set _ _ _ => false
      | _ => true) && chE T a C e
  | .rng a, C, _, e => (match callNm e with
      | some q => (match q.2 with
        | [e] => bltB T C "range" q.1 && (noStar e && chE T a C e)
        | _ => false)
      | none => false)
  | .rng2 a b, C, _, e => (match callNm e with
      | some q => (match q.2 with
        | [e, f] => bltB T C "range" q.1 && (noStar e && (noStar f && (chE T a C e && chE T b C f)))
        | _ => false)
      | none => false)
  | .enum a, C, tg, e => (match tg with
      | .Tuple _ _ _ => true
      | _ => false) && (match callNm e with
      | some q => (match q.2 with
        | [e] => bltB T C "enumerate" q.1 && (noStar e && chE T a C e)
        | _ => false)
      | none => false)
  | .zip _ _, _, _, _ => false
def chT : Tg → Cf → Expr → Bool
  | .nm i, C, .Name x _ => decide (C.N[i]? = some x) && ((lclB C.sc x || (locB C.sc x && (match C.os.names.lookup x with
      | some .cell => true
      | _ => false))))
  | .tp l, C, .Tuple es _ _ => chTs l C es
  | _, _, _ => false
def chTs : Tgs → Cf → List Expr → Bool
  | .nil, _, [] => true
  | .cons t r, C, x :: xs => noStar x && (chT t C x && chTs r C xs)
  | _, _, _ => false
end
end Mi

end
section
set_option Elab.async false
set_option linter.all false
set_option maxRecDepth 100000
set_option maxHeartbeats 4000000
/-! Mi20: the check of an expression is right. -/
namespace Mi
open PySem PySem.Spec PyProof.Rows L2

/-- e is what m says, in every context that fits -/
structure Sd (W : Wd) (T : Tb) (Φ : Fns) (k : Nat) (m : E) (C : Cf) (e : Expr) : Prop where
  pe : ∀ A X XW, XO W T Φ k C X XW → PE X e (teD W A XW (evE Φ m))
  pt : ∀ A X XW, XO W T Φ k C X XW → PT X e (ttD W A XW ((evE Φ m).bind truth))
  pn : m.fresh = true → ∀ A X XW, XO W T Φ k C X XW → PE X e (teN W A XW (evE Φ m))
  pw : (∃ op es p, e = .BoolOp op es p) → ∀ A X XW, XO W T Φ k C X XW → PW X e (ttD W A XW ((evE Φ m).bind truth))
inductive Sds (W : Wd) (T : Tb) (Φ : Fns) (k : Nat) (C : Cf) : Es → List Expr → Prop
  | nil : Sds W T Φ k C .nil []
  | cons {a : E} {r : Es} {e : Expr} {es : List Expr} : noStar e = true → Sd W T Φ k a C e → Sds W T Φ k C r es → Sds W T Φ k C (.cons a r) (e :: es)
section
variable {W : Wd} {T : Tb} {Φ : Fns} {k : Nat} {C : Cf} {X : Cx} {XW : WX} {A : Act}
theorem XO.gl (hx : XO W T Φ k C X XW) {x : Str} (h : glB C.sc x = true) : Gl X x := by
  unfold glB at h
  show X.env.scope.names.lookup x = some .globalImplicit
  rw [hx.sc]
  split at h
  · assumption
  · cases h
theorem XO.vis (hx : XO W T Φ k C X XW) {x : Str} (h : visB C.sc x = true) : Vis X.env.scope x := by
  unfold visB at h
  rw [hx.sc]
  split at h
  · exact .inl (by assumption)
  · exact .inr (.inl (by assumption))
  · exact .inr (.inr (by assumption))
  · cases h
theorem okN_ok {x : Str} (h : okN x = true) : (x == ("__debug__" : Str)) = false ∧ (x == ("__classdict__" : Str)) = false ∧ x ≠ "__name__" := by
  unfold okN at h
  obtain ⟨h, h3⟩ := b2 h
  obtain ⟨h1, h2⟩ := b2 h
  exact ⟨nt_ok h1, nt_ok h2, of_dec h3⟩
theorem XO.blt (hx : XO W T Φ k C X XW) {x nm : Str} (h : bltB T C nm x = true) : x = nm ∧ Gl X x ∧ X.mg x = none := by
  unfold bltB at h
  obtain ⟨h1, h⟩ := b2 h
  obtain ⟨h2, h3⟩ := b2 h
  refine ⟨of_dec h1, hx.gl h2, ?_⟩
  have := hx.tb.free x (List.contains_iff_mem.mp h3)
  rw [← hx.wd] at this
  exact this
/-- a value that is no test of its own -/
theorem Sd.of {m : E} {e : Expr} (hf : m.fresh = false) (hb : ∀ op es p, e ≠ .BoolOp op es p) (pe : ∀ A X XW, XO W T Φ k C X XW → PE X e (teD W A XW (evE Φ m))) (pt : ∀ A X XW, XO W T Φ k C X XW → PT X e (ttD W A XW ((evE Φ m).bind truth))) : Sd W T Φ k m C e :=
  ⟨pe, pt, fun h => (by rw [hf] at h; cases h), fun ⟨op, es, p, h⟩ => absurd h (hb op es p)⟩
theorem Sd.val {m : E} {e : Expr} (hf : m.fresh = false) (hb : ∀ op es p, e ≠ .BoolOp op es p) (he : ∀ (env : Env) whole, isTrue e env whole = (do let v ← whole; standAt e.pos; holding [v] (truthy v))) (pe : ∀ A X XW, XO W T Φ k C X XW → PE X e (teD W A XW (evE Φ m))) : Sd W T Φ k m C e :=
  .of hf hb pe fun A X XW hx => n_val (pe A X XW hx) (he X.env)
theorem Sd.new {m : E} {e : Expr} (hb : ∀ op es p, e ≠ .BoolOp op es p) (he : ∀ (env : Env) whole, isTrue e env whole = (do let v ← whole; standAt e.pos; holding [v] (truthy v))) (pn : ∀ A X XW, XO W T Φ k C X XW → PE X e (teN W A XW (evE Φ m))) : Sd W T Φ k m C e :=
  ⟨fun A X XW hx => PE.ofN (pn A X XW hx), fun A X XW hx => n_val (PE.ofN (pn A X XW hx)) (he X.env), fun _ => pn, fun ⟨op, es, p, h⟩ => absurd h (hb op es p)⟩
theorem Sds.pa {a : Es} {es : List Expr} (h : Sds W T Φ k C a es) (hx : XO W T Φ k C X XW) : PA X es (taD W A XW (evEs Φ a)) := by
  induction h with
  | nil => simp only [evEs]; exact pa_nilD
  | cons hn h _ ih => simp only [evEs]; exact pa_consD (h.pe A X XW hx) ih (star_one hn)
theorem Sds.star {a : Es} {es : List Expr} (h : Sds W T Φ k C a es) : noStars es = true := by
  induction h with
  | nil => rfl
  | cons hn _ _ ih => unfold noStars at ih ⊢; rw [List.all_cons, hn, ih]; rfl
theorem Sds.len {a : Es} {es : List Expr} (h : Sds W T Φ k C a es) : a.len = es.length := by
  induction h with
  | nil => rfl
  | cons _ _ _ ih => simp [Es.len, ih]
theorem Sds.nil_ {a : Es} {es : List Expr} (h : Sds W T Φ k C a es) (e : es = []) : evEs Φ a = Ev.pure [] := by
  subst e
  cases h
  simp only [evEs]
theorem Sds.pk (hx : XO W T Φ k C X XW) : ∀ {a : Es} {kws : List Keyword}, Sds W T Φ k C a (kws.map (·.value)) → PK X kws (taD W A XW (evEs Φ a))
  | _, [], h => by
    cases h
    simp only [evEs]
    exact pk_nilD
  | _, ⟨nm, ke, kp⟩ :: kws, h => by
    cases h with
    | cons hn h1 h2 =>
      simp only [evEs]
      exact pk_consD (h1.pe A X XW hx) (Sds.pk hx h2)
end
/-- built-in functions of one argument -/
theorem sd_bi {W : Wd} {T : Tb} {Φ : Fns} {k : Nat} {C : Cf} {b : Bi} {m : E} {x : Str} {e : Expr} {p pos : Pos} (hst : noStar e = true) (h : Sd W T Φ k m C e) (hb : bi1Ok T C b x = true) : Sd W T Φ k (.bi b m) C (.Call (.Name x p) [e] [] pos) := by
  refine .new (fun _ _ _ => by simp) (fun _ _ => rfl) fun A X XW hx => ?_
  obtain rfl : W = wdOf X := hx.wd.symm
  simp only [evE]
  have hu := hx.units
  cases b with
  | len =>
    obtain ⟨rfl, hg, hm⟩ := hx.blt hb
    exact n_biB (call_len.or call_lenDA) serb_len hg hm (by decide +kernel) hst (h.pe A X XW hx) (by decide) (by decide)
  | tuple =>
    obtain ⟨rfl, hg, hm⟩ := hx.blt hb
    exact n_biT call_tuple_of serb_tuple hg hm (by decide +kernel) hst (h.pe A X XW hx) (by decide) (by decide)
  | list =>
    obtain ⟨rfl, hg, hm⟩ := hx.blt hb
    exact n_biT (call_list_of.or (call_listDA hx.calm)) serb_list hg hm (by decide +kernel) hst (h.pe A X XW hx) (by decide) (by decide)
  | all =>
    obtain ⟨rfl, hg, hm⟩ := hx.blt hb
    exact n_biB (cr_all hx.calm) serb_all hg hm (by decide +kernel) hst (h.pe A X XW hx) (by decide) (by decide)
  | int =>
    obtain ⟨rfl, hg, hm⟩ := hx.blt hb
    exact n_biT call_intA serb_int hg hm (by decide +kernel) hst (h.pe A X XW hx) (by decide) (by decide)
  | str =>
    obtain ⟨rfl, hg, hm⟩ := hx.blt hb
    exact n_biT call_strA serb_str hg hm (by decide +kernel) hst (h.pe A X XW hx) (by decide) (by decide)
  | sorted =>
    obtain ⟨rfl, hg, hm⟩ := hx.blt hb
    exact n_biB (call_sortA hx) serb_sorted hg hm (by decide +kernel) hst (h.pe A X XW hx) (by decide) (by decide)
  | dict =>
    obtain ⟨rfl, hg, hm⟩ := hx.blt hb
    exact n_biT (call_dictA hx) serb_dict hg hm (by decide +kernel) hst (h.pe A X XW hx) (by decide) (by decide)
  | repr =>
    obtain ⟨rfl, hg, hm⟩ := hx.blt hb
    exact n_biB (call_reprA hx.rm.g (by omega)) serb_repr hg hm (by decide +kernel) hst (h.pe A X XW hx) (by decide) (by decide)
  | _ => cases hb
/-- methods of built-in types -/
theorem sd_bm {W : Wd} {T : Tb} {Φ : Fns} {k : Nat} {C : Cf} {m : Bm} {o : E} {a : Es} {x : Expr} {y : Str} {es : List Expr} {ap pos : Pos} (hb : (match bmId m with
      | some q => decide (y = q.1)
      | none => false) = true) (h1 : plainRecv x = true) (h2 : es.length < 29) (h3 : (ap.endLine == pos.line) = true) (ho : Sd W T Φ k o C x) (ha : Sds W T Φ k C a es) : Sd W T Φ k (.bm m o a) C (.Call (.Attribute x y ap) es [] pos) := by
  have hs := ha.star
  -- one that makes nothing new
  have old : ∀ (id : String), (E.bm m o a).fresh = false → bmId m = some (y, id) → PlainAttrs m.ty → PySem.Slot m.ty y id → typeOf (.builtin id) = pure (.type "method_descriptor") → (∀ X : Cx, X.A.units + 200 < cLine → X.calm = true → MtD X m id) → m.ty ≠ "" → m.ty ≠ "tuple" → Sd W T Φ k (.bm m o a) C (.Call (.Attribute x y ap) es [] pos) :=
    fun id hf _ pa sl ty hm n1 n2 => .val hf (fun _ _ _ => by simp) (fun _ _ => rfl) fun A X XW hx => by
      obtain rfl : W = wdOf X := hx.wd.symm
      simp only [evE]
      exact PE.of1 (n_bmF hx pa sl ty (hm X hx.units hx.calm) (ho.pe A X XW hx) (ha.pa hx) (fun e => ha.nil_ e) h1 hs h2 h3 n1 n2)
  have new : ∀ (id : String), PlainAttrs m.ty → PySem.Slot m.ty y id → typeOf (.builtin id) = pure (.type "method_descriptor") → (∀ X : Cx, X.A.units + 200 < cLine → MtN X m id) → m.ty ≠ "" → m.ty ≠ "tuple" → Sd W T Φ k (.bm m o a) C (.Call (.Attribute x y ap) es [] pos) :=
    fun id pa sl ty hm n1 n2 => .new (fun _ _ _ => by simp) (fun _ _ => rfl) fun A X XW hx => by
      obtain rfl : W = wdOf X := hx.wd.symm
      simp only [evE]
      exact n_bmF hx pa sl ty (hm X hx.units) (ho.pe A X XW hx) (ha.pa hx) (fun e => ha.nil_ e) h1 hs h2 h3 n1 n2
  cases m with
  | append =>
    have := of_dec hb
    subst this
    exact old "list.append" rfl rfl PySem.F.plainAttrs_list PySem.F.slot_list_append PySem.F.type_list_append (fun X _ _ => md_append) (by decide) (by decide)
  | pop =>
    have := of_dec hb
    subst this
    exact old "list.pop" rfl rfl PySem.F.plainAttrs_list PySem.F.slot_list_pop PySem.F.type_list_pop (fun X _ _ => md_pop) (by decide) (by decide)
  | popAt =>
    have := of_dec hb
    subst this
    exact old "list.pop" rfl rfl PySem.F.plainAttrs_list PySem.F.slot_list_pop PySem.F.type_list_pop (fun X _ _ => md_popAt) (by decide) (by decide)
  | setdefault =>
    have := of_dec hb
    subst this
    exact old "dict.setdefault" rfl rfl PySem.F.plainAttrs_dict PySem.F.slot_dict_setdefault PySem.F.type_dict_setdefault (fun X hu _ => md_setdefault (by omega)) (by decide) (by decide)
  | update =>
    have := of_dec hb
    subst this
    exact old "dict.update" rfl rfl PySem.F.plainAttrs_dict PySem.F.slot_dict_update PySem.F.type_dict_update (fun X _ hc => md_update hc) (by decide) (by decide)
  | join =>
    have := of_dec hb
    subst this
    exact old "str.join" rfl rfl PySem.F.plainAttrs_str PySem.F.slot_str_join PySem.F.type_str_join (fun X _ _ => md_join) (by decide) (by decide)
  | split =>
    have := of_dec hb
    subst this
    exact new "str.split" PySem.F.plainAttrs_str PySem.F.slot_str_split PySem.F.type_str_split (fun X _ => md_split) (by decide) (by decide)
  | lines =>
    have := of_dec hb
    subst this
    exact new "str.splitlines" PySem.F.plainAttrs_str PySem.F.slot_str_splitlines PySem.F.type_str_splitlines (fun X _ => md_lines) (by decide) (by decide)
  | _ => cases hb
end Mi

end
section
set_option Elab.async false
set_option linter.all false
set_option maxRecDepth 100000
set_option maxHeartbeats 4000000
/-! Mi21: the check of an expression is right, by the expression. -/
namespace Mi
open PySem PySem.Spec PyProof.Rows L2
section
variable {W : Wd} {T : Tb} {Φ : Fns} {k : Nat}
theorem sd_c {C : Cf} {d : D} {e : Expr} (h : chC d e = true) : Sd W T Φ k (.c d) C e := by
  cases d with
  | non =>
    cases e with
    | Constant c j p =>
      cases c with
      | none => exact .val rfl (fun _ _ _ => by simp) (fun _ _ => rfl) fun A X XW hx => by simp only [evE]; exact n_non
      | _ => exact no_ h
    | _ => exact no_ h
  | bl b =>
    cases e with
    | Constant c j p =>
      cases c with
      | bool b' =>
        have : b = b' := by simpa using (show (b == b') = true from h)
        subst this
        exact .val rfl (fun _ _ _ => by simp) (fun _ _ => rfl) fun A X XW hx => by simp only [evE]; exact n_bl
      | _ => exact no_ h
    | _ => exact no_ h
  | int i =>
    cases e with
    | Constant c j p =>
      cases c with
      | int i' =>
        have : i = i' := of_dec h
        subst this
        exact .val rfl (fun _ _ _ => by simp) (fun _ _ => rfl) fun A X XW hx => by simp only [evE]; exact n_int
      | _ => exact no_ h
    | UnaryOp op x p =>
      cases op with
      | USub =>
        cases x with
        | Constant c j p2 =>
          cases c with
          | int i' =>
            have : i = -i' := of_dec h
            subst this
            exact .val rfl (fun _ _ _ => by simp) (fun _ _ => rfl) fun A X XW hx => by simp only [evE]; exact n_negc
          | _ => exact no_ h
        | _ => exact no_ h
      | _ => exact no_ h
    | _ => exact no_ h
  | str x =>
    cases e with
    | Constant c j p =>
      cases c with
      | str y =>
        have : x = y := of_dec h
        subst this
        exact .val rfl (fun _ _ _ => by simp) (fun _ _ => rfl) fun A X XW hx => by simp only [evE]; exact n_str
      | _ => exact no_ h
    | _ => exact no_ h
  | _ => exact no_ h
/-- a target -/
theorem loc_ok {C : Cf} {X : Cx} {XW : WX} {x : Str} (hx : XO W T Φ k C X XW) (h : (lclB C.sc x || (locB C.sc x && (match C.os.names.lookup x with
      | some .cell => true
      | _ => false))) = true) : Loc X.env.scope x ∧ (X.fn x = true ∨ X.env.scope.names.lookup x = some .local) := by
  rw [hx.sc]
  rw [Bool.or_eq_true] at h
  rcases h with h | h
  · unfold lclB at h
    split at h
    · rename_i e
      exact ⟨.inl e, .inr e⟩
    · cases h
  · obtain ⟨h1, h2⟩ := b2 h
    have hl : Loc C.sc x := by
      unfold locB at h1
      split at h1
      · exact .inl (by assumption)
      · exact .inr (by assumption)
      · cases h1
    refine ⟨hl, .inl ?_⟩
    rcases hx.fn with e | e
    · rw [e]
    · rw [e]
      split at h2
      · rename_i e2
        simp [e2]
      · cases h2
theorem assign_one {x : Expr} {es : List Expr} {env : Env} (h : noStar x = true) : (assignEach (x :: es) env).map (·.2) = assign x env :: (assignEach es env).map (·.2) ∧ (assignEach (x :: es) env).length = (assignEach es env).length + 1 ∧ ((assignEach es env).findIdx? (·.1) = none → (assignEach (x :: es) env).findIdx? (·.1) = none) := by
  have e : assignEach (x :: es) env = (false, assign x env) :: assignEach es env := by
    cases x <;> first | rfl | cases h
  rw [e]
  refine ⟨rfl, rfl, fun h => ?_⟩
  rw [List.findIdx?_cons]
  simp [h]
mutual
theorem sd_t : ∀ (t : Tg) (C : Cf) (e : Expr), chT t C e = true → ∀ A X XW, XO W T Φ k C X XW → PG X e (tgW W A XW t)
  | .nm i, C, e, h => by
    cases e with
    | Name x p =>
      obtain ⟨h1, h2⟩ := b2 (show (decide (C.N[i]? = some x) && ((lclB C.sc x || (locB C.sc x && (match C.os.names.lookup x with
      | some .cell => true
      | _ => false))))) = true from h)
      intro A X XW hx
      obtain ⟨l1, l2⟩ := loc_ok hx h2
      exact g_nm hx.nd (by rw [hx.nm]; exact of_dec h1) l1 l2
    | _ => exact no_ h
  | .tp l, C, e, h => by
    cases e with
    | Tuple es k1 p =>
      intro A X XW hx
      obtain ⟨h1, h2, h3⟩ := sd_ts l C es h A X XW hx
      exact g_tp hx.wd hx.calm h1 h2 h3
    | _ => exact no_ h
theorem sd_ts : ∀ (t : Tgs) (C : Cf) (es : List Expr), chTs t C es = true → ∀ A X XW, XO W T Φ k C X XW → PGs X es (tgsW W A XW t) ∧ (assignEach es X.env).length = t.len ∧ (assignEach es X.env).findIdx? (·.1) = none
  | .nil, C, es, h => by
    cases es with
    | nil => exact fun A X XW hx => ⟨gs_nil, rfl, rfl⟩
    | cons x r => exact no_ h
  | .cons t r, C, es, h => by
    cases es with
    | nil => exact no_ h
    | cons x xs =>
      obtain ⟨h1, h⟩ := b2 (show (noStar x && (chT t C x && chTs r C xs)) = true from h)
      obtain ⟨h2, h3⟩ := b2 h
      intro A X XW hx
      obtain ⟨a1, a2, a3⟩ := assign_one (es := xs) (env := X.env) h1
      obtain ⟨b1, b2, b3⟩ := sd_ts r C xs h3 A X XW hx
      exact ⟨gs_cons (sd_t t C x h2 A X XW hx) b1 a1, by rw [a2, b2]; rfl, a3 b3⟩
end
end
end Mi

end
section
set_option Elab.async false
set_option linter.all false
set_option maxRecDepth 100000
set_option maxHeartbeats 8000000
/-! Mi22: the check of an expression is right (all of it). -/
namespace Mi
open PySem PySem.Spec PyProof.Rows L2
section
variable {W : Wd} {T : Tb} {Φ : Fns} {k : Nat}
theorem no_foldset {e : Expr} {env : Env} (h : (match e with
      | .Set _ _ _ => false
      | _ => true) = true) : ∀ x, foldedSetIterable e env x = pure x := by
  intro x
  cases e <;> first | rfl | cases h
theorem fd_ok {o : Option Fd} {f : Fd → Bool} (h : (match o with
      | some fd => f fd
      | none => false) = true) : ∃ fd, o = some fd ∧ f fd = true := by
  cases o with
  | none => cases h
  | some fd => exact ⟨fd, rfl, h⟩
theorem Sds.pj {C : Cf} {X : Cx} {XW : WX} {A : Act} (hx : XO W T Φ k C X XW) {a : Es} {es : List Expr} (h : Sds W T Φ k C a es) : Pj X W A XW Φ a es := by
  induction h with
  | nil => exact .nil
  | cons _ h _ ih => exact .cons (h.pe A X XW hx) ih
theorem part_ok {C : Cf} {X : Cx} {XW : WX} {A : Act} (hx : XO W T Φ k C X XW) {b : Bool} {o : Option Expr} {m : E} (h : (b = false ∧ o = none ∧ m = .c .non) ∨ (b = true ∧ ∃ e, o = some e ∧ Sd W T Φ k m C e)) : PartOk X W A XW b o (evE Φ m) := by
  rcases h with ⟨h1, h2, rfl⟩ | ⟨h1, e, h2, h3⟩
  · exact .inl ⟨h1, h2, by simp only [evE]⟩
  · exact .inr ⟨h1, e, h2, h3.pe A X XW hx⟩
theorem tt_gl {A : Act} {XW : WX} {m : Ev D} {σ : Sv} {H : Hp} {Q : Bool → Hp → Prop} (h : ttD W A XW ((m.bind evGl).bind truth) σ H Q) : ttD W A XW (m.bind truth) σ H Q := by
  obtain ⟨p, rfl, s, h⟩ := h
  refine ⟨p, rfl, s, ?_⟩
  unfold Ev.bind at h ⊢
  revert h
  cases m p.S p.G with
  | bad => exact id
  | ex x S G => exact id
  | ok d S G => cases d <;> exact False.elim
/-- a part of a slice, checked -/
def chPart (T : Tb) (C : Cf) (b : Bool) (m : E) (o : Option Expr) (c : Bool) : Bool := match b, o with
  | false, none => (match m with
    | .c .non => true
    | _ => false)
  | true, some _ => c
  | _, _ => false
section
variable {W : Wd} {T : Tb} {Φ : Fns} {k : Nat} {C : Cf} {X : Cx} {XW : WX} {A : Act}
theorem keys_ev : ∀ {a : Es} {xs : List Str}, keysK a = some xs → evEs Φ a = Ev.pure (xs.map D.str)
  | .nil, xs, h => by cases h; funext S G; simp only [evEs]; rfl
  | .cons (.c (.str x)) r, xs, h => by
    simp only [keysK, Option.map_eq_some_iff] at h
    obtain ⟨t, h, rfl⟩ := h
    funext S G
    simp only [evEs, evE]
    rw [keys_ev h]
    rfl
theorem keyEx_cons {x : Str} {xs : List Str} {ks : List (Option Expr)} (h : keyEx (x :: xs) ks = true) : ∃ p q t, ks = some (.Constant (.str x) p q) :: t ∧ keyEx xs t = true := by
  cases ks with
  | nil => cases h
  | cons o t =>
    cases o with
    | none => cases h
    | some e =>
      cases e with
      | Constant c p q =>
        cases c with
        | str y =>
          obtain ⟨h1, h2⟩ := b2 (show (decide (x = y) && keyEx xs t) = true from h)
          have h1 := of_dec h1
          subst h1
          exact ⟨p, q, t, rfl, h2⟩
        | _ => cases h
      | _ => cases h
theorem keyEx_len : ∀ {xs : List Str} {ks : List (Option Expr)}, keyEx xs ks = true → xs.length = ks.length ∧ ks.all (·.isSome) = true
  | [], [], _ => ⟨rfl, rfl⟩
  | [], _ :: _, h => by cases h
  | x :: xs, ks, h => by
    obtain ⟨p, q, t, rfl, hh⟩ := keyEx_cons h
    obtain ⟨h1, h2⟩ := keyEx_len hh
    exact ⟨by simp [h1], by rw [List.all_cons, h2]; rfl⟩
theorem disp_pps {W : Wd} {T : Tb} {Φ : Fns} {k : Nat} {C : Cf} {X : Cx} {XW : WX} {pos : Pos} (hx : XO W T Φ k C X XW) : ∀ {xs : List Str} {b : Es} {ks : List (Option Expr)} {vs : List Expr}, keyEx xs ks = true → Sds W T Φ k C b vs → xs.length = b.len → ks.length = vs.length → PPs X pos ks vs (trsOf W Φ (xs.map Sum.inr) b)
  | [], b, ks, vs, h, hb, e1, e2 => by
    cases ks with
    | cons _ _ => cases h
    | nil =>
      cases vs with
      | cons _ _ => simp at e2
      | nil => exact pps_nil
  | x :: xs, b, ks, vs, h, hb, e1, e2 => by
    cases hb with
    | nil => simp [Es.len] at e1
    | cons hn hv hr =>
      obtain ⟨p, q, t, rfl, hh⟩ := keyEx_cons h
      exact pps_cons pe_str (PE.any fun A => PE.toS (hv.pe A X XF hx.xf)) (disp_pps hx hh hr (by simpa [Es.len] using e1) (by simpa using e2))
theorem dic0_sd {a b : Es} {ks : List (Option Expr)} {vs : List Expr} {p : Pos} (h : dic0 a b ks vs = true) : PE X (.Dict ks vs p) (teN W A XW (evE Φ (.dic a b))) := by
  unfold dic0 at h
  split at h
  · simp only [evE, evEs]
    exact n_dic0
  · cases h
theorem dicK_sd (hx : XO W T Φ k C X XW) {a b : Es} {ks : List (Option Expr)} {vs : List Expr} {p : Pos} (h : dicB a b ks vs = true) (hb : Sds W T Φ k C b vs) : PE X (.Dict ks vs p) (teN W A XW (evE Φ (.dic a b))) := by
  unfold dicB at h
  cases ek : keysK a with
  | none => rw [ek] at h; cases h
  | some xs =>
    rw [ek] at h
    obtain ⟨h1, h⟩ := b2 h
    obtain ⟨h2, h⟩ := b2 h
    obtain ⟨h3, h⟩ := b2 h
    obtain ⟨h4, h5⟩ := b2 h
    have h2 := of_dec h2
    have h3 := of_dec h3
    have h4 := of_dec h4
    obtain ⟨l1, l2⟩ := keyEx_len h1
    have q := n_dicK (W := W) (Φ := Φ) (X := X) (XW := XW) (A := A) (pos := p) (kl := xs.map Sum.inr) (es := b) (disp_pps hx h1 hb h2 h3) (by simpa using h2) l2 h3 (fun e => by subst e; simp at h5) h4 (by simpa [l1] using h4)
    have e : evE Φ (.dic a b) = (Mi.noEx (evEs Φ b)).bind fun vs => Ev.lift ((dPutsOk (((xs.map Sum.inr).map kD).zip vs) [] []).map fun p => .dic p.1 p.2) := by
      simp only [evE]
      rw [keys_ev ek]
      funext S G
      have em : (xs.map Sum.inr).map kD = xs.map D.str := by rw [List.map_map]; rfl
      rw [em]
      rfl
    rw [e]
    exact q
theorem srl_sd (hx : XO W T Φ k C X XW) {x : Str} {g : Str × Option Str} {n : Nat} {ns : List Str} {e ke : Expr} {m : Ev D} {body : E} {r : Str × Scope × Expr} {ar : Arg} {p kp p2 pl : Pos} (h1 : bltB T C "sorted" x = true) (h2 : noStar e = true) (he : PE X e (teD W A XW m)) (hme : C.me = some g) (S : FnScope ns [r.1] r.2.1) (ea : ar.arg = r.1)
    (ek : ke = .Lambda ⟨[], [ar], none, [], [], none, []⟩ r.2.2 r.2.1 pl) (hb : ∀ A' X' XW', XO W T Φ k ⟨ns, r.2.1, r.2.1, none⟩ X' XW' → PE X' r.2.2 (teD W A' XW' (evE Φ body))) :
    PE X (.Call (.Name x p) [e] [⟨some (Str.ofString "key"), ke, kp⟩] p2) (teN W A XW (srtP (fun G => tabOk G n g) (lamF (evE Φ body) (ns.length - 1)) m)) := by
  obtain ⟨rfl, hg, hm⟩ := hx.blt h1
  subst ek
  exact n_srtG hx hg hm (by decide +kernel) (by decide) (by decide) h2 he (key_lambda hx hme (by simp [ea]) S rfl rfl hb)
theorem srt_sd (hx : XO W T Φ k C X XW) {f x : Str} {e ke : Expr} {m : Ev D} {p kp p2 : Pos} (h1 : bltB T C "sorted" x = true) (h2 : noStar e = true) (he : PE X e (teD W A XW m)) (h4 : keyB T C f ke = true) :
    PE X (.Call (.Name x p) [e] [⟨some (Str.ofString "key"), ke, kp⟩] p2) (teN W A XW (srtE (fun d G => Φ.call f [d] G) m)) := by
  obtain ⟨rfl, hg, hm⟩ := hx.blt h1
  unfold keyB at h4
  cases en : nameOf ke with
  | none => rw [en] at h4; cases h4
  | some g =>
    rw [en] at h4
    obtain ⟨pp, rfl⟩ := nameOf_ok en
    obtain ⟨k1, h⟩ := b2 h4
    obtain ⟨k2, h⟩ := b2 h
    obtain ⟨k3, h⟩ := b2 h
    obtain ⟨k4, k5⟩ := b2 h
    have k1 := of_dec k1
    subst k1
    cases ef : T.P.fd g with
    | none => rw [ef] at k5; cases k5
    | some fd =>
      rw [ef] at k5
      rw [srtP_some]
      exact n_srtG hx hg hm (by decide +kernel) (by decide) (by decide) h2 he (key_def hx (List.contains_iff_mem.mp k2) ef (hx.gl k3) (okN_ok k4).1 k5)
end
mutual
theorem sd_e : ∀ (m : E) (C : Cf) (e : Expr), chE T m C e = true → Sd W T Φ k m C e
  | .c d, C, e, h => sd_c (show chC d e = true from h)
  | .v i, C, e, h => by
    cases e with
    | Name x p =>
      obtain ⟨h1, h⟩ := b2 (show (decide (C.N[i]? = some x) && (visB C.sc x && okN x)) = true from h)
      obtain ⟨h2, h3⟩ := b2 h
      obtain ⟨o1, o2, _⟩ := okN_ok h3
      exact .val rfl (fun _ _ _ => by simp) (fun _ _ => rfl) fun A X XW hx => by
        simp only [evE]
        exact n_var i (by rw [hx.nm]; exact of_dec h1) (hx.vis h2) o1 o2
    | _ => exact no_ h
  | .g x, C, e, h => by
    cases e with
    | Name y p =>
      obtain ⟨h1, h⟩ := b2 (show (decide (x = y) && (glB C.sc y && okN y)) = true from h)
      obtain ⟨h2, h3⟩ := b2 h
      have := of_dec h1
      subst this
      exact .val rfl (fun _ _ _ => by simp) (fun _ _ => rfl) fun A X XW hx => by
        simp only [evE]
        exact n_glob hx (hx.gl h2) (okN_ok h3).1
    | _ => exact no_ h
  | .tup a, C, e, h => by
    cases e with
    | Tuple es k1 p =>
      have ha := sd_es a C es h
      refine .of rfl (fun _ _ _ => by simp) (fun A X XW hx => ?_) (fun A X XW hx => ?_)
      · simp only [evE]; exact PE.ofN (n_tup (ha.pa hx))
      · simp only [evE]; exact n_val (PE.ofN (n_tup (ha.pa hx))) (fun _ => rfl)
    | _ => exact no_ h
  | .lst a, C, e, h => by
    cases e with
    | List es p =>
      have ha := sd_es a C es h
      exact .new (fun _ _ _ => by simp) (fun _ _ => rfl) fun A X XW hx => by simp only [evE]; exact n_lst (ha.pa hx)
    | _ => exact no_ h
  | .dic a b, C, e, h => by
    have hh : (match dictOf e with
      | some q => dic0 a b q.1 q.2 || (dicB a b q.1 q.2 && chEs T b C q.2)
      | none => false) = true := by cases e <;> exact h
    cases eq : dictOf e with
    | none => rw [eq] at hh; cases hh
    | some q =>
      rw [eq] at hh
      obtain ⟨p, rfl⟩ := dictOf_ok eq
      rcases (show dic0 a b q.1 q.2 = true ∨ (dicB a b q.1 q.2 = true ∧ chEs T b C q.2 = true) by simpa using hh) with h | ⟨h1, h2⟩
      · exact .new (fun _ _ _ => by simp) (fun _ _ => rfl) fun A X XW hx => dic0_sd h
      · have hb := sd_es b C q.2 h2
        exact .new (fun _ _ _ => by simp) (fun _ _ => rfl) fun A X XW hx => dicK_sd hx h1 hb
  | .gl m, C, e, h => by
    obtain ⟨h1, h2⟩ := b2 (show (m.fresh && chE T m C e) = true from by cases e <;> exact h)
    have hs := sd_e m C e h2
    have pe : ∀ A X XW, XO W T Φ k C X XW → PE X e (teD W A XW (evE Φ (.gl m))) := fun A X XW hx => by simp only [evE]; exact n_gl (hs.pn h1 A X XW hx)
    exact ⟨pe, fun A X XW hx => by simp only [evE]; exact PT.imp (hs.pt A X XW hx) fun _ _ _ => tt_gl, fun h => no_ h, fun hb A X XW hx => by
      have := hs.pw hb A X XW hx
      exact ⟨fun wh pins s σ H Q I h => this.run wh pins s σ H Q I (tt_gl (by simpa only [evE] using h))⟩⟩
  | .bin o a b, C, e, h => by
    cases e with
    | BinOp x op y p =>
      obtain ⟨h1, h⟩ := b2 (show (opE o op && (chE T a C x && chE T b C y)) = true from h)
      obtain ⟨h2, h3⟩ := b2 h
      have ha := sd_e a C x h2
      have hb := sd_e b C y h3
      refine .new (fun _ _ _ => by simp) (fun _ _ => rfl) fun A X XW hx => ?_
      obtain ⟨r, q1, q2⟩ := op_ex hx.wd h1
      simp only [evE]
      exact n_bin q1 q2 (ha.pe A X XW hx) (hb.pe A X XW hx)
    | _ => exact no_ h
  | .nt a, C, e, h => by
    cases e with
    | UnaryOp op x p =>
      cases op with
      | Not =>
        have ha := sd_e a C x h
        refine .of rfl (fun _ _ _ => by simp) (fun A X XW hx => ?_) (fun A X XW hx => ?_)
        · simp only [evE]; exact n_not (ha.pe A X XW hx)
        · simp only [evE]; exact n_notT (ha.pt A X XW hx)
      | _ => exact no_ h
    | _ => exact no_ h
  | .and a b, C, e, h => by
    cases e with
    | BoolOp op es p =>
      cases op with
      | Or => cases es with
        | nil => exact no_ h
        | cons x r => cases r with
          | nil => exact no_ h
          | cons y r => cases r <;> exact no_ h
      | And =>
        cases es with
        | nil => exact no_ h
        | cons x r =>
          cases r with
          | nil => exact no_ h
          | cons y r =>
            cases r with
            | nil =>
              obtain ⟨h1, h2⟩ := b2 (show (chE T a C x && chE T b C y) = true from h)
              have ha := sd_e a C x h1
              have hb := sd_e b C y h2
              have pw : ∀ A X XW, XO W T Φ k C X XW → PW X (.BoolOp .And [x, y] p) (ttD W A XW ((evE Φ (.and a b)).bind truth)) := fun A X XW hx => by
                have := pw_and (pos := p) (ha.pt A X XW hx) (pw_and1 (pos := p) (hb.pt A X XW hx))
                exact ⟨fun wh pins s σ H Q I h => this.run wh pins s σ H Q I (tt_and (by simpa only [evE] using h))⟩
              exact ⟨fun A X XW hx => by simp only [evE]; exact PE.imp (pe_and (ha.pe A X XW hx) (pe_one (hb.pe A X XW hx))) fun _ _ _ => te_and, fun A X XW hx => (pw A X XW hx).pt, fun h => no_ h, fun _ => pw⟩
            | cons z r =>
              obtain ⟨h1, h2⟩ := b2 (show (chE T a C x && chE T b C (.BoolOp .And (y :: z :: r) p)) = true from h)
              have ha := sd_e a C x h1
              have hb := sd_e b C (.BoolOp .And (y :: z :: r) p) h2
              have pw : ∀ A X XW, XO W T Φ k C X XW → PW X (.BoolOp .And (x :: y :: z :: r) p) (ttD W A XW ((evE Φ (.and a b)).bind truth)) := fun A X XW hx => by
                have := pw_and (pos := p) (ha.pt A X XW hx) (hb.pw ⟨_, _, _, rfl⟩ A X XW hx)
                exact ⟨fun wh pins s σ H Q I h => this.run wh pins s σ H Q I (tt_and (by simpa only [evE] using h))⟩
              exact ⟨fun A X XW hx => by simp only [evE]; exact PE.imp (pe_and (ha.pe A X XW hx) (hb.pe A X XW hx)) fun _ _ _ => te_and, fun A X XW hx => (pw A X XW hx).pt, fun h => no_ h, fun _ => pw⟩
    | _ => exact no_ h
  | .or a b, C, e, h => by
    cases e with
    | BoolOp op es p =>
      cases op with
      | And => cases es with
        | nil => exact no_ h
        | cons x r => cases r with
          | nil => exact no_ h
          | cons y r => cases r <;> exact no_ h
      | Or =>
        cases es with
        | nil => exact no_ h
        | cons x r =>
          cases r with
          | nil => exact no_ h
          | cons y r =>
            cases r with
            | nil =>
              obtain ⟨h1, h2⟩ := b2 (show (chE T a C x && chE T b C y) = true from h)
              have ha := sd_e a C x h1
              have hb := sd_e b C y h2
              have pw : ∀ A X XW, XO W T Φ k C X XW → PW X (.BoolOp .Or [x, y] p) (ttD W A XW ((evE Φ (.or a b)).bind truth)) := fun A X XW hx => by
                have := pw_or (pos := p) (ha.pt A X XW hx) (pw_or1 (pos := p) (hb.pt A X XW hx))
                exact ⟨fun wh pins s σ H Q I h => this.run wh pins s σ H Q I (tt_or (by simpa only [evE] using h))⟩
              exact ⟨fun A X XW hx => by simp only [evE]; exact PE.imp (pe_or (ha.pe A X XW hx) (pe_one (hb.pe A X XW hx))) fun _ _ _ => te_or, fun A X XW hx => (pw A X XW hx).pt, fun h => no_ h, fun _ => pw⟩
            | cons z r =>
              obtain ⟨h1, h2⟩ := b2 (show (chE T a C x && chE T b C (.BoolOp .Or (y :: z :: r) p)) = true from h)
              have ha := sd_e a C x h1
              have hb := sd_e b C (.BoolOp .Or (y :: z :: r) p) h2
              have pw : ∀ A X XW, XO W T Φ k C X XW → PW X (.BoolOp .Or (x :: y :: z :: r) p) (ttD W A XW ((evE Φ (.or a b)).bind truth)) := fun A X XW hx => by
                have := pw_or (pos := p) (ha.pt A X XW hx) (hb.pw ⟨_, _, _, rfl⟩ A X XW hx)
                exact ⟨fun wh pins s σ H Q I h => this.run wh pins s σ H Q I (tt_or (by simpa only [evE] using h))⟩
              exact ⟨fun A X XW hx => by simp only [evE]; exact PE.imp (pe_or (ha.pe A X XW hx) (hb.pe A X XW hx)) fun _ _ _ => te_or, fun A X XW hx => (pw A X XW hx).pt, fun h => no_ h, fun _ => pw⟩
    | _ => exact no_ h
  | .ife c a b, C, e, h => by
    cases e with
    | IfExp x y z p =>
      obtain ⟨h1, h⟩ := b2 (show (chE T c C x && (chE T a C y && chE T b C z)) = true from h)
      obtain ⟨h2, h3⟩ := b2 h
      have hc := sd_e c C x h1
      have ha := sd_e a C y h2
      have hb := sd_e b C z h3
      refine .of rfl (fun _ _ _ => by simp) (fun A X XW hx => ?_) (fun A X XW hx => ?_)
      · simp only [evE]; exact n_ife (hc.pt A X XW hx) (ha.pe A X XW hx) (hb.pe A X XW hx)
      · simp only [evE]; exact n_ifeT (hc.pt A X XW hx) (ha.pt A X XW hx) (hb.pt A X XW hx)
    | _ => exact no_ h
  | .cmp o a b, C, e, h => by
    cases e with
    | Compare x ops ys p =>
      cases ops with
      | nil => exact no_ h
      | cons op r =>
        cases r with
        | nil =>
          cases ys with
          | nil => exact no_ h
          | cons y r =>
            cases r with
            | cons z r => exact no_ h
            | nil =>
              obtain ⟨h1, h⟩ := b2 (show (cmE o op && (!behindInMarks op y && (chE T a C x && chE T b C y))) = true from h)
              obtain ⟨h2, h⟩ := b2 h
              obtain ⟨h3, h4⟩ := b2 h
              have ha := sd_e a C x h3
              have hb := sd_e b C y h4
              refine .of rfl (fun _ _ _ => by simp) (fun A X XW hx => ?_) (fun A X XW hx => ?_)
              · obtain ⟨r, q1, q2⟩ := cm_ex hx h1
                simp only [evE]; exact n_cmp q1 q2 (nt_ok h2) (ha.pe A X XW hx) (hb.pe A X XW hx)
              · obtain ⟨r, q1, q2⟩ := cm_ex hx h1
                simp only [evE]; exact n_cmpT q1 q2 (nt_ok h2) (ha.pe A X XW hx) (hb.pe A X XW hx)
        | cons oq r => cases r with
          | nil => cases ys with
            | nil => exact no_ h
            | cons y r => cases r with
              | nil => exact no_ h
              | cons z r => cases r <;> exact no_ h
          | cons _ _ => exact no_ h
    | _ => exact no_ h
  | .chn o o2 a b c, C, e, h => by
    cases e with
    | Compare x ops ys p =>
      cases ops with
      | nil => exact no_ h
      | cons op r =>
        cases r with
        | nil => cases ys with
          | nil => exact no_ h
          | cons y r => cases r <;> exact no_ h
        | cons oq r =>
          cases r with
          | cons _ _ => exact no_ h
          | nil =>
            cases ys with
            | nil => exact no_ h
            | cons y r =>
              cases r with
              | nil => exact no_ h
              | cons z r =>
                cases r with
                | cons _ _ => exact no_ h
                | nil =>
                  obtain ⟨h1, h⟩ := b2 (show (cmE o op && (cmE o2 oq && (!lastMarks [op, oq] [y, z] && (chE T a C x && (chE T b C y && chE T c C z))))) = true from h)
                  obtain ⟨h2, h⟩ := b2 h
                  obtain ⟨h3, h⟩ := b2 h
                  obtain ⟨h4, h⟩ := b2 h
                  obtain ⟨h5, h6⟩ := b2 h
                  have ha := sd_e a C x h4
                  have hb := sd_e b C y h5
                  have hc := sd_e c C z h6
                  refine .of rfl (fun _ _ _ => by simp) (fun A X XW hx => ?_) (fun A X XW hx => ?_)
                  · obtain ⟨r, q1, q2⟩ := cm_ex hx h1
                    obtain ⟨r', q3, q4⟩ := cm_ex hx h2
                    simp only [evE]; exact n_chn q1 q2 q3 q4 (nt_ok h3) (ha.pe A X XW hx) (hb.pe A X XW hx) (hc.pe A X XW hx)
                  · obtain ⟨r, q1, q2⟩ := cm_ex hx h1
                    obtain ⟨r', q3, q4⟩ := cm_ex hx h2
                    simp only [evE]; exact n_chnT q1 q2 q3 q4 (nt_ok h3) (ha.pe A X XW hx) (hb.pe A X XW hx) (hc.pe A X XW hx)
    | _ => exact no_ h
  | .ix a i, C, e, h => by
    cases e with
    | Subscript x y p =>
      obtain ⟨h1, h⟩ := b2 (show (noSlice y && (chE T a C x && chE T i C y)) = true from h)
      obtain ⟨h2, h3⟩ := b2 h
      have ha := sd_e a C x h2
      have hi := sd_e i C y h3
      exact .val rfl (fun _ _ _ => by simp) (fun _ _ => rfl) fun A X XW hx => by
        simp only [evE]; exact n_ix hx h1 (ha.pe A X XW hx) (hi.pe A X XW hx)
    | _ => exact no_ h
  | .fld a f, C, e, h => by
    cases e with
    | Attribute x g p =>
      obtain ⟨h1, h⟩ := b2 (show (decide (f = g) && (plainRecv x && chE T a C x)) = true from h)
      obtain ⟨h2, h3⟩ := b2 h
      have := of_dec h1
      subst this
      have ha := sd_e a C x h3
      exact .val rfl (fun _ _ _ => by simp) (fun _ _ => rfl) fun A X XW hx => by
        simp only [evE]; exact n_fld hx h2 (ha.pe A X XW hx)
    | _ => exact no_ h
  | .call f a, C, e, h => by
    cases e with
    | Call fn es kws p =>
      cases fn with
      | Name x q =>
        cases kws with
        | cons _ _ => exact no_ h
        | nil =>
          obtain ⟨h1, h⟩ := b2 (show (decide (f = x) && (T.glob.contains x && (glB C.sc x && (okN x && (noStars es && ((match T.P.fd x with
            | some fd => bindC fd.ps a.len [] fd.dfl.length
            | none => false) && chEs T a C es)))))) = true from h)
          obtain ⟨h2, h⟩ := b2 h
          obtain ⟨h3, h⟩ := b2 h
          obtain ⟨h4, h⟩ := b2 h
          obtain ⟨h5, h⟩ := b2 h
          obtain ⟨h6, h7⟩ := b2 h
          have := of_dec h1
          subst this
          have ha := sd_es a C es h7
          obtain ⟨fd, e1, e2⟩ := fd_ok h6
          exact .val rfl (fun _ _ _ => by simp) (fun _ _ => rfl) fun A X XW hx => by
            simp only [evE]; exact n_call hx (List.contains_iff_mem.mp h2) e1 (hx.gl h3) (okN_ok h4).1 (ha.pa hx) (fun e => ha.nil_ e) (evEs_len Φ a) h5 e2
      | _ => cases kws <;> exact no_ h
    | _ => exact no_ h
  | .callk f a ks kw, C, e, h => by
    cases e with
    | Call fn es kws p =>
      cases fn with
      | Name x q =>
        obtain ⟨h1, h⟩ := b2 (show (decide (f = x) && (T.glob.contains x && (glB C.sc x && (okN x && (noStars es && (allNm kws && (decide (nmsOf kws = ks) && ((match T.P.fd x with
          | some fd => bindC fd.ps a.len ks fd.dfl.length
          | none => false) && (decide (kw.len = ks.length) && (chEs T a C es && chEs T kw C (kws.map (·.value)))))))))))) = true from h)
        obtain ⟨h2, h⟩ := b2 h
        obtain ⟨h3, h⟩ := b2 h
        obtain ⟨h4, h⟩ := b2 h
        obtain ⟨h5, h⟩ := b2 h
        obtain ⟨h6, h⟩ := b2 h
        obtain ⟨h7, h⟩ := b2 h
        obtain ⟨h8, h⟩ := b2 h
        obtain ⟨h9, h⟩ := b2 h
        obtain ⟨h10, h11⟩ := b2 h
        have := of_dec h1
        subst this
        have hk := of_dec h7
        subst hk
        have ha := sd_es a C es h10
        have hkw := sd_es kw C _ h11
        have h9 := of_dec h9
        obtain ⟨fd, e1, e2⟩ := fd_ok h8
        exact .val rfl (fun _ _ _ => by simp) (fun _ _ => rfl) fun A X XW hx => by
          simp only [evE]; exact n_callk hx (List.contains_iff_mem.mp h2) e1 (hx.gl h3) (okN_ok h4).1 (ha.pa hx) (hkw.pk hx) (fun e => ha.nil_ e) (evEs_len Φ a) (fun S G l S' G' q => (evEs_len Φ kw S G l S' G' q).trans h9) h5 h6 e2
      | _ => exact no_ h
    | _ => exact no_ h
  | .mk f a, C, e, h => by
    cases e with
    | Call fn es kws p =>
      cases fn with
      | Name x q =>
        cases kws with
        | cons _ _ => exact no_ h
        | nil =>
          obtain ⟨h1, h⟩ := b2 (show (decide (f = x) && (T.mks.contains x && (glB C.sc x && (okN x && (noStars es && ((match T.P.fd (initName x) with
            | some fd => bindC fd.ps (a.len + 1) [] fd.dfl.length
            | none => false) && chEs T a C es)))))) = true from h)
          obtain ⟨h2, h⟩ := b2 h
          obtain ⟨h3, h⟩ := b2 h
          obtain ⟨h4, h⟩ := b2 h
          obtain ⟨h5, h⟩ := b2 h
          obtain ⟨h6, h7⟩ := b2 h
          have := of_dec h1
          subst this
          have ha := sd_es a C es h7
          obtain ⟨fd, e1, e2⟩ := fd_ok h6
          exact .val rfl (fun _ _ _ => by simp) (fun _ _ => rfl) fun A X XW hx => by
            simp only [evE]; exact n_mk hx (List.contains_iff_mem.mp h2) e1 (hx.gl h3) (okN_ok h4).1 (ha.pa hx) (fun e => ha.nil_ e) (evEs_len Φ a) h5 e2
      | _ => cases kws <;> exact no_ h
    | _ => exact no_ h
  | .meth Cn m o a, C, e, h => by
    cases e with
    | Call fn es kws p =>
      cases fn with
      | Attribute x y ap =>
        cases kws with
        | cons _ _ => exact no_ h
        | nil =>
          obtain ⟨h1, h⟩ := b2 (show (decide (m = y) && (T.mths.contains (Cn, m) && (plainRecv x && (noStars es && (decide (es.length < 29) && ((ap.endLine == p.line) && ((match T.P.fd (methName Cn m) with
            | some fd => bindC fd.ps (a.len + 1) [] fd.dfl.length
            | none => false) && (chE T o C x && chEs T a C es)))))))) = true from h)
          obtain ⟨h2, h⟩ := b2 h
          obtain ⟨h3, h⟩ := b2 h
          obtain ⟨h4, h⟩ := b2 h
          obtain ⟨h5, h⟩ := b2 h
          obtain ⟨h6, h⟩ := b2 h
          obtain ⟨h7, h⟩ := b2 h
          obtain ⟨h8, h9⟩ := b2 h
          have := of_dec h1
          subst this
          have ho := sd_e o C x h8
          have ha := sd_es a C es h9
          obtain ⟨fd, e1, e2⟩ := fd_ok h7
          exact .val rfl (fun _ _ _ => by simp) (fun _ _ => rfl) fun A X XW hx => by
            simp only [evE]; exact n_meth hx (List.contains_iff_mem.mp h2) e1 (ho.pe A X XW hx) (ha.pa hx) (fun e => ha.nil_ e) (evEs_len Φ a) h3 h4 (of_dec h5) h6 e2
      | _ => cases kws <;> exact no_ h
    | _ => exact no_ h
  | .methk Cn m o a ks kw, C, e, h => by
    cases e with
    | Call fn es kws p =>
      cases fn with
      | Attribute x y ap =>
        obtain ⟨h1, h⟩ := b2 (show (decide (m = y) && (T.mths.contains (Cn, m) && (plainRecv x && (noStars es && (allNm kws && (decide (nmsOf kws = ks) && (decide (es.length + kws.length < 29) && ((ap.endLine == p.line) && ((match T.P.fd (methName Cn m) with
          | some fd => bindC fd.ps (a.len + 1) ks fd.dfl.length
          | none => false) && (decide (kw.len = ks.length) && (chE T o C x && (chEs T a C es && chEs T kw C (kws.map (·.value)))))))))))))) = true from h)
        obtain ⟨h2, h⟩ := b2 h
        obtain ⟨h3, h⟩ := b2 h
        obtain ⟨h4, h⟩ := b2 h
        obtain ⟨h5, h⟩ := b2 h
        obtain ⟨h6, h⟩ := b2 h
        obtain ⟨h7, h⟩ := b2 h
        obtain ⟨h8, h⟩ := b2 h
        obtain ⟨h9, h⟩ := b2 h
        obtain ⟨h10, h⟩ := b2 h
        obtain ⟨h11, h⟩ := b2 h
        obtain ⟨h12, h13⟩ := b2 h
        have := of_dec h1
        subst this
        have hk := of_dec h6
        subst hk
        have ho := sd_e o C x h11
        have ha := sd_es a C es h12
        have hkw := sd_es kw C _ h13
        have h10 := of_dec h10
        obtain ⟨fd, e1, e2⟩ := fd_ok h9
        exact .val rfl (fun _ _ _ => by simp) (fun _ _ => rfl) fun A X XW hx => by
          simp only [evE]; exact n_methk hx (List.contains_iff_mem.mp h2) e1 (ho.pe A X XW hx) (ha.pa hx) (hkw.pk hx) (fun e => ha.nil_ e) (evEs_len Φ a) (fun S G l S' G' q => (evEs_len Φ kw S G l S' G' q).trans h10) h3 h4 h5 (of_dec h7) h8 e2
      | _ => exact no_ h
    | _ => exact no_ h
  | .bm m o a, C, e, h => by
    cases e with
    | Call fn es kws p =>
      cases fn with
      | Attribute x y ap =>
        cases kws with
        | cons _ _ => exact no_ h
        | nil =>
          obtain ⟨h1, h⟩ := b2 (show ((match bmId m with
            | some q => decide (y = q.1)
            | none => false) && (plainRecv x && (noStars es && (decide (es.length < 29) && ((ap.endLine == p.line) && (chE T o C x && chEs T a C es)))))) = true from h)
          obtain ⟨h2, h⟩ := b2 h
          obtain ⟨h3, h⟩ := b2 h
          obtain ⟨h4, h⟩ := b2 h
          obtain ⟨h5, h⟩ := b2 h
          obtain ⟨h6, h7⟩ := b2 h
          exact sd_bm h1 h2 (of_dec h4) h5 (sd_e o C x h6) (sd_es a C es h7)
      | _ => cases kws <;> exact no_ h
    | _ => exact no_ h
  | .fv a, C, e, h => by
    cases e with
    | FormattedValue x i sp p =>
      cases sp with
      | some _ => exact no_ h
      | none =>
        obtain ⟨h1, h2⟩ := b2 (show ((i == -1) && chE T a C x) = true from h)
        have : i = -1 := by simpa using h1
        subst this
        have ha := sd_e a C x h2
        exact .val rfl (fun _ _ _ => by simp) (fun _ _ => rfl) fun A X XW hx => by
          simp only [evE]; exact n_fv (ha.pe A X XW hx)
    | _ => exact no_ h
  | .sl a hl lo hh hi, C, e, h => by
    cases e with
    | Subscript x y p =>
      cases y with
      | Slice l hh' st p2 =>
        cases st with
        | some _ => exact no_ h
        | none =>
          obtain ⟨h1, h⟩ := b2 (show (chE T a C x && ((match (generalizing := false) hl, l with
            | false, none => (match (generalizing := false) lo with
              | .c .non => true
              | _ => false)
            | true, some e => chE T lo C e
            | _, _ => false) && (match (generalizing := false) hh, hh' with
            | false, none => (match (generalizing := false) hi with
              | .c .non => true
              | _ => false)
            | true, some e => chE T hi C e
            | _, _ => false))) = true from h)
          obtain ⟨h2, h3⟩ := b2 h
          have ha := sd_e a C x h1
          have q2 : (hl = false ∧ l = none ∧ lo = .c .non) ∨ (hl = true ∧ ∃ e, l = some e ∧ Sd W T Φ k lo C e) := by
            cases hl with
            | false =>
              cases l with
              | none =>
                refine .inl ⟨rfl, rfl, ?_⟩
                cases lo with
                | c d => cases d <;> first | rfl | exact no_ h2
                | _ => exact no_ h2
              | some e => exact no_ h2
            | true =>
              cases l with
              | none => exact no_ h2
              | some e => exact .inr ⟨rfl, e, rfl, sd_e lo C e h2⟩
          have q3 : (hh = false ∧ hh' = none ∧ hi = .c .non) ∨ (hh = true ∧ ∃ e, hh' = some e ∧ Sd W T Φ k hi C e) := by
            cases hh with
            | false =>
              cases hh' with
              | none =>
                refine .inl ⟨rfl, rfl, ?_⟩
                cases hi with
                | c d => cases d <;> first | rfl | exact no_ h3
                | _ => exact no_ h3
              | some e => exact no_ h3
            | true =>
              cases hh' with
              | none => exact no_ h3
              | some e => exact .inr ⟨rfl, e, rfl, sd_e hi C e h3⟩
          exact .new (fun _ _ _ => by simp) (fun _ _ => rfl) fun A X XW hx => by
            simp only [evE]; exact n_sl hx (ha.pe A X XW hx) (part_ok hx q2) (part_ok hx q3)
      | _ => exact no_ h
    | _ => exact no_ h
  | .rev a, C, e, h => by
    cases e with
    | Subscript x y p =>
      cases y with
      | Slice l u st p2 =>
        cases l with
        | some _ => exact no_ h
        | none =>
          cases u with
          | some _ => exact no_ h
          | none =>
            cases st with
            | none => exact no_ h
            | some s =>
              cases s with
              | UnaryOp op c p3 =>
                cases op with
                | USub =>
                  cases c with
                  | Constant v j p4 =>
                    cases v with
                    | int i =>
                      by_cases hi : i = 1
                      · subst hi
                        have ha := sd_e a C x h
                        exact .new (fun _ _ _ => by simp) (fun _ _ => rfl) fun A X XW hx => by
                          simp only [evE]; exact n_rev hx (ha.pe A X XW hx)
                      · exfalso
                        unfold chE at h
                        split at h <;> simp_all
                    | _ => exact no_ h
                  | _ => exact no_ h
                | _ => exact no_ h
              | _ => exact no_ h
      | _ => exact no_ h
    | _ => exact no_ h
  | .bi b a, C, e, h => by
    cases hc : callNm e with
    | none => exact no_ (show false = true by unfold chE at h; rw [hc] at h; exact h)
    | some q =>
      obtain ⟨p, p2, rfl⟩ := callNm_ok hc
      obtain ⟨x, es⟩ := q
      by_cases hb : ∃ t, b = .isi t
      · obtain ⟨t, rfl⟩ := hb
        cases es with
        | nil => exact no_ h
        | cons e r =>
          cases r with
          | nil => exact no_ h
          | cons f r =>
            cases r with
            | cons _ _ => exact no_ h
            | nil =>
              cases hf : nameOf f with
              | none => exact no_ (show false = true by unfold chE at h; simp only [callNm, hf] at h; exact h)
              | some y =>
                obtain ⟨q2, rfl⟩ := nameOf_ok hf
                obtain ⟨h1, h⟩ := b2 (show (bltB T C "isinstance" x && (decide (y = Str.ofString t) && (isiTypes.contains t && (glB C.sc y && (T.free.contains y && (noStar e && chE T a C e)))))) = true from h)
                obtain ⟨h2, h⟩ := b2 h
                obtain ⟨h3, h⟩ := b2 h
                obtain ⟨h4, h⟩ := b2 h
                obtain ⟨h5, h⟩ := b2 h
                obtain ⟨h6, h7⟩ := b2 h
                have := of_dec h2
                subst this
                have ha := sd_e a C e h7
                have ht : t ∈ isiTypes := List.contains_iff_mem.mp h3
                have hbt : bootBuiltins (Str.ofString t) = some (.type t) ∧ Str.ofString t ≠ "__name__" ∧ (Str.ofString t == ("__debug__" : Str)) = false := by
                  simp only [isiTypes, List.mem_cons, List.not_mem_nil, or_false] at ht
                  rcases ht with rfl | rfl | rfl | rfl | rfl | rfl <;> exact ⟨by decide +kernel, by decide, by decide⟩
                refine .val rfl (fun _ _ _ => by simp) (fun _ _ => rfl) fun A X XW hx => ?_
                obtain ⟨rfl, hg, hm⟩ := hx.blt h1
                have hm2 : X.mg (Str.ofString t) = none := by
                  have := hx.tb.free _ (List.contains_iff_mem.mp h5)
                  rw [← hx.wd] at this
                  exact this
                simp only [evE]
                exact n_isi hx ht hg hm (by decide +kernel) h6 (ha.pe A X XW hx) (by decide) (by decide) (hx.gl h4) hm2 hbt.1 hbt.2.1 hbt.2.2
      · cases es with
        | nil => exact no_ (show false = true by revert h; cases b <;> exact id)
        | cons e r =>
          cases r with
          | cons _ _ =>
            exact no_ (show false = true by
              cases b with
              | isi t => exact absurd ⟨t, rfl⟩ hb
              | _ => exact h)
          | nil =>
            obtain ⟨h1, h⟩ := b2 (show (noStar e && (chE T a C e && bi1Ok T C b x)) = true by
              cases b with
              | isi t => exact absurd ⟨t, rfl⟩ hb
              | _ => exact h)
            obtain ⟨h2, h3⟩ := b2 h
            exact sd_bi h1 (sd_e a C e h2) h3
  | .bi2 b a c, C, e, h => by
    cases hc : callNm e with
    | none => exact no_ (show false = true by unfold chE at h; rw [hc] at h; exact h)
    | some q =>
      obtain ⟨p, p2, rfl⟩ := callNm_ok hc
      obtain ⟨x, es⟩ := q
      cases es with
      | nil => exact no_ h
      | cons e r =>
        cases r with
        | nil => exact no_ h
        | cons f r =>
          cases r with
          | cons _ _ => exact no_ h
          | nil =>
            obtain ⟨h1, h⟩ := b2 (show (noStar e && (noStar f && (chE T a C e && (chE T c C f && bi2Ok T C b x)))) = true from h)
            obtain ⟨h2, h⟩ := b2 h
            obtain ⟨h3, h⟩ := b2 h
            obtain ⟨h4, h5⟩ := b2 h
            have ha := sd_e a C e h3
            have hcc := sd_e c C f h4
            refine .val rfl (fun _ _ _ => by simp) (fun _ _ => rfl) fun A X XW hx => ?_
            simp only [evE]
            cases b with
            | max2 =>
              obtain ⟨rfl, hg, hm⟩ := hx.blt h5
              refine n_bi2 (call_max2 hx.calm) (fun d e z q => ?_) hg hm (by decide +kernel) h1 h2 (ha.pe A X XW hx) (hcc.pe A X XW hx) (by decide) (by decide)
              cases d with
              | int i => cases e with
                | int j => cases q; exact ⟨i, j, rfl, rfl, rfl⟩
                | _ => cases q
              | _ => cases q
            | min2 =>
              obtain ⟨rfl, hg, hm⟩ := hx.blt h5
              refine n_bi2 (call_min2 hx.calm) (fun d e z q => ?_) hg hm (by decide +kernel) h1 h2 (ha.pe A X XW hx) (hcc.pe A X XW hx) (by decide) (by decide)
              cases d with
              | int i => cases e with
                | int j => cases q; exact ⟨i, j, rfl, rfl, rfl⟩
                | _ => cases q
              | _ => cases q
            | _ => cases h5
  | .fs a, C, e, h => by
    cases a with
    | nil => cases e <;> exact no_ h
    | cons a r =>
      cases r with
      | nil => cases e <;> exact no_ h
      | cons b r =>
        cases e with
        | JoinedStr es p =>
          cases es with
          | nil => exact no_ h
          | cons x es =>
            cases es with
            | nil => exact no_ h
            | cons y es =>
              obtain ⟨h1, h⟩ := b2 (show (chE T a C x && (chE T b C y && chEs T r C es)) = true from h)
              obtain ⟨h2, h3⟩ := b2 h
              have ha := sd_e a C x h1
              have hb := sd_e b C y h2
              have hr := sd_es r C es h3
              exact .val rfl (fun _ _ _ => by simp) (fun _ _ => rfl) fun A X XW hx => by
                simp only [evE]
                exact n_fs (.cons (ha.pe A X XW hx) (.cons (hb.pe A X XW hx) (hr.pj hx)))
        | _ => exact no_ h
  | .lc elt t it hi c vs, C, e, h => by
    cases e with
    | ListComp x gens sc p =>
      cases gens with
      | nil => exact no_ h
      | cons g r =>
        obtain ⟨tg, iter, ifs, as⟩ := g
        cases as with
        | negSucc n => cases r <;> exact no_ h
        | ofNat n =>
          cases n with
          | succ n => cases r <;> exact no_ h
          | zero =>
           cases r with
           | cons _ _ => exact no_ h
           | nil =>
            obtain ⟨h1, h⟩ := b2 (show ((sc.kind == .function) && ((match (generalizing := false) iter with
              | .Set _ _ _ => false
              | _ => true) && (blkC C.N C.sc sc (vs.filterMap fun v => (C.N[v]?).map fun n => (n, v)) && (decide ((vs.filterMap fun v => (C.N[v]?).map fun n => (n, v)).map (·.2) = vs) && ((t.slots.all fun i => vs.contains i) &&
              (chI T it C tg iter && (chT t ⟨C.N, relS sc C.sc, sc, none⟩ tg && (chE T elt ⟨C.N, relS sc C.sc, sc, none⟩ x && (match (generalizing := false) hi, ifs with
              | false, [] => true
              | true, [y] => chE T c ⟨C.N, relS sc C.sc, sc, none⟩ y
              | _, _ => false))))))))) = true from h)
            obtain ⟨h2, h⟩ := b2 h
            obtain ⟨h3, h⟩ := b2 h
            obtain ⟨h4, h⟩ := b2 h
            obtain ⟨h5, h⟩ := b2 h
            obtain ⟨h6, h⟩ := b2 h
            obtain ⟨h7, h⟩ := b2 h
            obtain ⟨h8, h9⟩ := b2 h
            have h4 := of_dec h4
            have he := sd_e elt ⟨C.N, relS sc C.sc, sc, none⟩ x h8
            have hi' := sd_i it C tg iter h6
            have hif : ∀ A X', XO W T Φ k ⟨C.N, relS sc C.sc, sc, none⟩ X' XF → PTs X' ifs (ttD W A XF (if hi = true then (evE Φ c).bind truth else Ev.pure true)) := by
              cases hi with
              | false =>
                cases ifs with
                | nil =>
                  intro A X' hx'
                  refine ⟨fun pins s σ H Q I q => pts_nil.run pins s σ H Q I ?_⟩
                  obtain ⟨pt, rfl, q⟩ := q
                  exact wpD.pure (a := true) q
                | cons _ _ => exact no_ h9
              | true =>
                cases ifs with
                | nil => exact no_ h9
                | cons y r =>
                  cases r with
                  | cons _ _ => exact no_ h9
                  | nil =>
                    have hc := sd_e c ⟨C.N, relS sc C.sc, sc, none⟩ y h9
                    exact fun A X' hx' => pts_one (hc.pt A X' XF hx')
            refine .new (fun _ _ _ => by simp) (fun _ _ => rfl) fun A X XW hx => ?_
            have q := n_lc (own := vs.filterMap fun v => (C.N[v]?).map fun n => (n, v)) (pos := p) (me := evE Φ elt) hx (hi' A X XW hx) (blkOk_by h3) (by
              rw [h4]
              intro i hm
              have := List.all_eq_true.mp h5 i hm
              exact List.contains_iff_mem.mp this) (fun A X' hx' => sd_t t _ tg h7 A X' XF hx') hif (fun A X' hx' => he.pe A X' XF hx') (no_foldset h2)
            rw [h4] at q
            simp only [evE]
            exact q
    | _ => exact no_ h
  | .neg a, C, e, h => no_ (show false = true by revert h; cases e <;> exact id)
  | .gix a b, C, e, h => no_ (show false = true by revert h; cases e <;> exact id)
  | .gin a b, C, e, h => no_ (show false = true by revert h; cases e <;> exact id)
  | .callv a b, C, e, h => no_ (show false = true by revert h; cases e <;> exact id)
  | .srl a n g ns body, C, e, h => by
    have hh : (match srtOf e with
      | some q => bltB T C "sorted" q.1 && (noStar q.2.1 && (chE T a C q.2.1 && (meB C.me g && (match lamOf q.2.2 with
        | some r => scB r.2.1 ns [r.1] && chE T body ⟨ns, r.2.1, r.2.1, none⟩ r.2.2
        | none => false))))
      | none => false) = true := by cases e <;> exact h
    cases eq : srtOf e with
    | none => rw [eq] at hh; cases hh
    | some q =>
      rw [eq] at hh
      obtain ⟨p, kp, p2, rfl⟩ := srtOf_ok eq
      obtain ⟨h1, h⟩ := b2 hh
      obtain ⟨h2, h⟩ := b2 h
      obtain ⟨h3, h⟩ := b2 h
      obtain ⟨h4, h5⟩ := b2 h
      have ha := sd_e a C q.2.1 h3
      cases el : lamOf q.2.2 with
      | none => rw [el] at h5; cases h5
      | some r =>
        rw [el] at h5
        obtain ⟨h5, h6⟩ := b2 h5
        obtain ⟨ar, pl, ea, el2⟩ := lamOf_ok el
        have hb := sd_e body ⟨ns, r.2.1, r.2.1, none⟩ r.2.2 h6
        exact .new (fun _ _ _ => by simp) (fun _ _ => rfl) fun A X XW hx => by
          simp only [evE]
          exact srl_sd hx h1 h2 (ha.pe A X XW hx) (meB_ok h4) (scB_ok h5) ea el2 fun A' X' XW' hx' => hb.pe A' X' XW' hx'
  | .srt a f, C, e, h => by
    have hh : (match srtOf e with
      | some q => bltB T C "sorted" q.1 && (noStar q.2.1 && (chE T a C q.2.1 && keyB T C f q.2.2))
      | none => false) = true := by cases e <;> exact h
    cases eq : srtOf e with
    | none => rw [eq] at hh; cases hh
    | some q =>
      rw [eq] at hh
      obtain ⟨p, kp, p2, rfl⟩ := srtOf_ok eq
      obtain ⟨h1, h⟩ := b2 hh
      obtain ⟨h2, h⟩ := b2 h
      obtain ⟨h3, h4⟩ := b2 h
      have ha := sd_e a C q.2.1 h3
      exact .new (fun _ _ _ => by simp) (fun _ _ => rfl) fun A X XW hx => by
        simp only [evE]
        exact srt_sd hx h1 h2 (ha.pe A X XW hx) h4
termination_by structural m => m
theorem sd_es : ∀ (a : Es) (C : Cf) (es : List Expr), chEs T a C es = true → Sds W T Φ k C a es
  | .nil, C, es, h => by
    cases es with
    | nil => exact .nil
    | cons x r => exact no_ h
  | .cons a r, C, es, h => by
    cases es with
    | nil => exact no_ h
    | cons x xs =>
      obtain ⟨h1, h⟩ := b2 (show (noStar x && (chE T a C x && chEs T r C xs)) = true from h)
      obtain ⟨h2, h3⟩ := b2 h
      exact .cons h1 (sd_e a C x h2) (sd_es r C xs h3)
termination_by structural a => a
theorem sd_i : ∀ (it : I) (C : Cf) (tg e : Expr), chI T it C tg e = true → ∀ A X XW, XO W T Φ k C X XW → PI X tg e (tiD W A XW (evI Φ it))
  | .seq a, C, tg, e, h => by
    obtain ⟨h1, h2⟩ := b2 (show ((match (generalizing := false) e with
      | .Set _ _ _ => false
      | _ => true) && chE T a C e) = true from h)
    have ha := sd_e a C e h2
    intro A X XW hx
    simp only [evI]
    exact i_seq hx.wd (ha.pe A X XW hx)
  | .rng a, C, tg, e, h => by
    cases hc : callNm e with
    | none => exact no_ (show false = true by unfold chI at h; rw [hc] at h; exact h)
    | some q =>
      obtain ⟨p, p2, rfl⟩ := callNm_ok hc
      obtain ⟨x, es⟩ := q
      cases es with
      | nil => exact no_ h
      | cons e r =>
        cases r with
        | cons _ _ => exact no_ h
        | nil =>
          obtain ⟨h1, h⟩ := b2 (show (bltB T C "range" x && (noStar e && chE T a C e)) = true from h)
          obtain ⟨h2, h3⟩ := b2 h
          have ha := sd_e a C e h3
          intro A X XW hx
          obtain ⟨ex, hg, hm⟩ := hx.blt h1
          simp only [evI]
          exact i_rng hx ex hg hm h2 (ha.pe A X XW hx)
  | .rng2 a b, C, tg, e, h => by
    cases hc : callNm e with
    | none => exact no_ (show false = true by unfold chI at h; rw [hc] at h; exact h)
    | some q =>
      obtain ⟨p, p2, rfl⟩ := callNm_ok hc
      obtain ⟨x, es⟩ := q
      cases es with
      | nil => exact no_ h
      | cons e r =>
        cases r with
        | nil => exact no_ h
        | cons f r =>
          cases r with
          | cons _ _ => exact no_ h
          | nil =>
            obtain ⟨h1, h⟩ := b2 (show (bltB T C "range" x && (noStar e && (noStar f && (chE T a C e && chE T b C f)))) = true from h)
            obtain ⟨h2, h⟩ := b2 h
            obtain ⟨h3, h⟩ := b2 h
            obtain ⟨h4, h5⟩ := b2 h
            have ha := sd_e a C e h4
            have hb := sd_e b C f h5
            intro A X XW hx
            obtain ⟨ex, hg, hm⟩ := hx.blt h1
            simp only [evI]
            exact i_rng2 hx ex hg hm h2 h3 (ha.pe A X XW hx) (hb.pe A X XW hx)
  | .enum a, C, tg, e, h => by
    cases tg with
    | Tuple elts kk tp =>
      cases hc : callNm e with
      | none => exact no_ (show false = true by unfold chI at h; rw [hc] at h; exact h)
      | some q =>
        obtain ⟨p, p2, rfl⟩ := callNm_ok hc
        obtain ⟨x, es⟩ := q
        cases es with
        | nil => exact no_ h
        | cons e r =>
          cases r with
          | cons _ _ => exact no_ h
          | nil =>
            obtain ⟨h1, h⟩ := b2 (show (bltB T C "enumerate" x && (noStar e && chE T a C e)) = true from h)
            obtain ⟨h2, h3⟩ := b2 h
            have ha := sd_e a C e h3
            intro A X XW hx
            obtain ⟨ex, hg, hm⟩ := hx.blt h1
            simp only [evI]
            exact i_enum hx ex hg hm h2 (ha.pe A X XW hx)
    | _ => exact no_ h
  | .zip a b, C, tg, e, h => no_ h
termination_by structural it => it
end
end
end Mi

end
section
set_option Elab.async false
set_option linter.all false
set_option maxRecDepth 100000
set_option maxHeartbeats 4000000
/-! Mi23: statements: the check, and that it is right. -/
namespace Mi
open PySem PySem.Spec PyProof.Rows L2

/-- a name one may store to -/
def stoB (C : Cf) (x : Str) : Bool := lclB C.sc x || (locB C.sc x && (match C.os.names.lookup x with
      | some .cell => true
      | _ => false))
/-- name = [.. for ..] -/
def isLc : E → Bool
  | .lc _ _ _ _ _ _ => true
  | _ => false
def lcOn (C : Cf) (y : Str) (py : Pos) (v : Expr) : Bool := match v with
  | .ListComp x [⟨tg, iter, ifs, 0⟩] sc p => (C.sc.kind == .function) && (lclB C.sc y && ((py.line == p.line) && !(sc.names.any fun (n, k) => n == y && (k == .local || k == .cell))))
  | _ => false
def augOp : Op2 → Operator → Bool
  | .add, .Add => true
  | .sub, .Sub => true
  | _, _ => false
def isInt : E → Option Int
  | .c (.int j) => some j
  | _ => none
theorem isInt_ok {e : E} {j : Int} (h : isInt e = some j) : e = .c (.int j) := by
  unfold isInt at h
  split at h
  · cases h; rfl
  · cases h
theorem op_int_l {o : Op2} (ho : o = .add ∨ o = .sub) {S : List Slot} {G : List MO} {x z : D} {j : Int} (e : op2 o S G x (.int j) = some z) : ∃ i, x = .int i := by
  cases x with
  | int i => exact ⟨i, rfl⟩
  | _ =>
    exfalso
    rcases ho with rfl | rfl
    · revert e
      simp only [op2]
      have : ct S G (.int j) = .no := rfl
      rw [this]
      split <;> simp_all
    · cases e
/-- x, y = u, v -/
def parOf : Stmt → Option (Str × Pos × Str × Pos × Expr × Expr)
  | .Assign [.Tuple [.Name x px, .Name y py] _ _] (.Tuple [u, v] _ _) _ => some (x, px, y, py, u, v)
  | _ => none
theorem parOf_ok {st : Stmt} {x y : Str} {px py : Pos} {u v : Expr} (h : parOf st = some (x, px, y, py, u, v)) : ∃ k1 p1 k2 p2 p, st = .Assign [.Tuple [.Name x px, .Name y py] k1 p1] (.Tuple [u, v] k2 p2) p := by
  unfold parOf at h
  split at h
  · cases h; exact ⟨_, _, _, _, _, rfl⟩
  · cases h
def parB (C : Cf) (i j : Nat) (q : Str × Pos × Str × Pos × Expr × Expr) : Bool := match q with
  | (x, px, y, py, u, v) => decide (C.N[i]? = some x) && (decide (C.N[j]? = some y) && (decide (x ≠ y) && ((C.sc.kind == .function) && (lclB C.sc x && (lclB C.sc y && ((py.line == px.line) &&
      (noStar u && (noStar v && (!([u, v].all (foldedForSure 8)) && !([u, v].all (constantsAlone 8)))))))))))
theorem lclB_ok {sc : Scope} {x : Str} (h : lclB sc x = true) : sc.names.lookup x = some .local := by
  unfold lclB at h
  split at h
  · assumption
  · cases h
mutual
def chS (T : Tb) : S → Cf → Stmt → Bool
  | .pass, _, .Pass _ => true
  | .brk, _, .Break _ => true
  | .cont, _, .Continue _ => true
  | .rais _ _, _, _ => true
  | .tryS _ _, _, _ => true
  | .retN, _, .Return none _ => true
  | .ret e, C, .Return (some x) _ => chE T e C x
  | .ex e, C, .Expr x _ => noComp x && chE T e C x
  | .asg (.nm i) e, C, .Assign [.Name x px] v _ => decide (C.N[i]? = some x) && (stoB C x && (chE T e C v && (noComp v || (isLc e && lcOn C x px v))))
  | .asg (.tp l) e, C, .Assign [.Tuple ts _ _] v _ => noComp v && ((match v with
      | .Tuple _ _ _ => false
      | _ => true) && (chTs l C ts && chE T e C v))
  | .asgF o f e, C, .Assign [.Attribute x g _] v _ => decide (f = g) && (noComp v && (chE T o C x && chE T e C v))
  | .asgI o i e, C, .Assign [.Subscript x y _] v _ => noComp v && (chE T o C x && (chE T i C y && chE T e C v))
  | .aug i .add e, C, .AugAssign (.Name x _) .Add v _ => decide (C.N[i]? = some x) && (stoB C x && chE T e C v)
  | .augF o f p e, C, .AugAssign (.Attribute x g _) op v _ => decide (f = g) && (augOp p op && ((isInt e).isSome && (chE T o C x && chE T e C v)))
  | .ifs c a b, C, .If x y z _ => chE T c C x && (chSs T a C y && chSs T b C z)
  | .for_ t it b, C, .For tg iter body [] _ => (match iter with
      | .Set _ _ _ => false
      | _ => true) && (chI T it C tg iter && (chT t C tg && chSs T b C body))
  | .whl c b, C, .While x body [] _ => chE T c C x && chSs T b C body
  | .par i a j b, C, st => (match parOf st with
    | some q => parB C i j q && (!a.fresh && (chE T a C q.2.2.2.2.1 && chE T b C q.2.2.2.2.2))
    | none => false)
  | _, _, _ => false
def chSs (T : Tb) : Ss → Cf → List Stmt → Bool
  | .nil, _, [] => true
  | .cons s r, C, x :: xs => chS T s C x && chSs T r C xs
  | _, _, _ => false
end
section
variable {W : Wd} {T : Tb} {Φ : Fns} {k : Nat}
/-- st is what s says, in every context that fits -/
def Ss1 (W : Wd) (T : Tb) (Φ : Fns) (k : Nat) (s : S) (C : Cf) (st : Stmt) : Prop := ∀ A X XW, XO W T Φ k C X XW → PS X st (tsD W A XW (evS Φ s))
def Ss2 (W : Wd) (T : Tb) (Φ : Fns) (k : Nat) (s : Ss) (C : Cf) (st : List Stmt) : Prop := ∀ A X XW, XO W T Φ k C X XW → PSs X st (tsD W A XW (evSs Φ s))
mutual
theorem sd_s : ∀ (s : S) (C : Cf) (st : Stmt), chS T s C st = true → Ss1 W T Φ k s C st
  | .pass, C, st, h => by
    cases st with
    | Pass p => intro A X XW hx; simp only [evS]; exact s_pass
    | _ => exact no_ h
  | .brk, C, st, h => by
    cases st with
    | Break p => intro A X XW hx; simp only [evS]; exact s_brk
    | _ => exact no_ h
  | .cont, C, st, h => by
    cases st with
    | Continue p => intro A X XW hx; simp only [evS]; exact s_cont
    | _ => exact no_ h
  | .rais _ _, C, st, h => by intro A X XW hx; simp only [evS]; exact s_bad
  | .tryS _ _, C, st, h => by intro A X XW hx; simp only [evS]; exact s_bad
  | .retN, C, st, h => by
    cases st with
    | Return v p =>
      cases v with
      | none => intro A X XW hx; simp only [evS]; exact s_retN
      | some _ => exact no_ h
    | _ => exact no_ h
  | .ret e, C, st, h => by
    cases st with
    | Return v p =>
      cases v with
      | none => exact no_ h
      | some x =>
        have hv := sd_e (W := W) (Φ := Φ) (k := k) e C x h
        intro A X XW hx
        simp only [evS]
        exact s_ret (hv.pe A X XW hx)
    | _ => exact no_ h
  | .ex e, C, st, h => by
    cases st with
    | Expr x p =>
      obtain ⟨h1, h2⟩ := b2 (show (noComp x && chE T e C x) = true from h)
      have hv := sd_e (W := W) (Φ := Φ) (k := k) e C x h2
      intro A X XW hx
      simp only [evS]
      exact s_ex h1 (hv.pe A X XW hx)
    | _ => exact no_ h
  | .ifs c a b, C, st, h => by
    cases st with
    | If x y z p =>
      obtain ⟨h1, h⟩ := b2 (show (chE T c C x && (chSs T a C y && chSs T b C z)) = true from h)
      obtain ⟨h2, h3⟩ := b2 h
      have hc := sd_e (W := W) (Φ := Φ) (k := k) c C x h1
      have ha := sd_ss a C y h2
      have hb := sd_ss b C z h3
      intro A X XW hx
      simp only [evS]
      exact s_if (hc.pt A X XW hx) (ha A X XW hx) (hb A X XW hx)
    | _ => exact no_ h
  | .whl c b, C, st, h => by
    cases st with
    | While x body els p =>
      cases els with
      | cons _ _ => exact no_ h
      | nil =>
        obtain ⟨h1, h2⟩ := b2 (show (chE T c C x && chSs T b C body) = true from h)
        have hc := sd_e (W := W) (Φ := Φ) (k := k) c C x h1
        have hb := sd_ss b C body h2
        intro A X XW hx
        simp only [evS]
        exact s_while hx (hc.pt A X XW hx) (hb A X XW hx)
    | _ => exact no_ h
  | .for_ t it b, C, st, h => by
    cases st with
    | For tg iter body els p =>
      cases els with
      | cons _ _ => exact no_ h
      | nil =>
        obtain ⟨h1, h⟩ := b2 (show ((match (generalizing := false) iter with
          | .Set _ _ _ => false
          | _ => true) && (chI T it C tg iter && (chT t C tg && chSs T b C body))) = true from h)
        obtain ⟨h2, h⟩ := b2 h
        obtain ⟨h3, h4⟩ := b2 h
        have hb := sd_ss b C body h4
        intro A X XW hx
        simp only [evS]
        exact s_for hx (sd_i it C tg iter h2 A X XW hx) (sd_t t C tg h3 A X XW hx) (hb A X XW hx) (no_foldset h1)
    | _ => exact no_ h
  | .asgF o f e, C, st, h => by
    cases st with
    | Assign ts v p =>
      cases ts with
      | nil => exact no_ h
      | cons t r =>
        cases r with
        | cons _ _ => cases t <;> exact no_ h
        | nil =>
          cases t with
          | Attribute x g q =>
            obtain ⟨h1, h⟩ := b2 (show (decide (f = g) && (noComp v && (chE T o C x && chE T e C v))) = true from h)
            obtain ⟨h2, h⟩ := b2 h
            obtain ⟨h3, h4⟩ := b2 h
            have h1 := of_dec h1
            subst h1
            have ho := sd_e (W := W) (Φ := Φ) (k := k) o C x h3
            have he := sd_e (W := W) (Φ := Φ) (k := k) e C v h4
            intro A X XW hx
            simp only [evS]
            exact s_asgF hx h2 (ho.pe A X XW hx) (he.pe A X XW hx)
          | _ => exact no_ h
    | _ => exact no_ h
  | .asgI o i e, C, st, h => by
    cases st with
    | Assign ts v p =>
      cases ts with
      | nil => exact no_ h
      | cons t r =>
        cases r with
        | cons _ _ => cases t <;> exact no_ h
        | nil =>
          cases t with
          | Subscript x y q =>
            obtain ⟨h1, h⟩ := b2 (show (noComp v && (chE T o C x && (chE T i C y && chE T e C v))) = true from h)
            obtain ⟨h2, h⟩ := b2 h
            obtain ⟨h3, h4⟩ := b2 h
            have ho := sd_e (W := W) (Φ := Φ) (k := k) o C x h2
            have hi := sd_e (W := W) (Φ := Φ) (k := k) i C y h3
            have he := sd_e (W := W) (Φ := Φ) (k := k) e C v h4
            intro A X XW hx
            simp only [evS]
            exact s_asgI hx h1 (ho.pe A X XW hx) (hi.pe A X XW hx) (he.pe A X XW hx)
          | _ => exact no_ h
    | _ => exact no_ h
  | .aug i o e, C, st, h => by
    cases st with
    | AugAssign t op v p =>
      cases t with
      | Name x q =>
        cases o <;> try exact no_ h
        cases op <;> try exact no_ h
        obtain ⟨h1, h⟩ := b2 (show (decide (C.N[i]? = some x) && (stoB C x && chE T e C v)) = true from h)
        obtain ⟨h2, h3⟩ := b2 h
        have he := sd_e (W := W) (Φ := Φ) (k := k) e C v h3
        intro A X XW hx
        simp only [evS]
        obtain ⟨l1, l2⟩ := loc_ok hx h2
        exact s_augAdd hx (by rw [hx.nm]; exact of_dec h1) l1 l2 (he.pe A X XW hx)
      | _ => cases o <;> exact no_ h
    | _ => cases o <;> exact no_ h
  | .augF o f p e, C, st, h => by
    cases st with
    | AugAssign t op v pos =>
      cases t with
      | Attribute x g q =>
        obtain ⟨h1, h⟩ := b2 (show (decide (f = g) && (augOp p op && ((isInt e).isSome && (chE T o C x && chE T e C v)))) = true from h)
        obtain ⟨h2, h⟩ := b2 h
        obtain ⟨h3, h⟩ := b2 h
        obtain ⟨h4, h5⟩ := b2 h
        have h1 := of_dec h1
        subst h1
        have ho := sd_e (W := W) (Φ := Φ) (k := k) o C x h4
        have he := sd_e (W := W) (Φ := Φ) (k := k) e C v h5
        obtain ⟨j, hj⟩ := Option.isSome_iff_exists.mp h3
        have hj := isInt_ok hj
        intro A X XW hx
        simp only [evS]
        have he := he.pe A X XW hx
        rw [hj] at he ⊢
        simp only [evE] at he ⊢
        unfold augOp at h2
        split at h2
        · exact s_augF (g := fun i j => i + j) hx in_add (fun S G x z e i hi => by subst hi; cases e; rfl) (fun S G x z e => .inl (op_int_l (.inl rfl) e)) (by decide) (ho.pe A X XW hx) he
        · exact s_augF (g := fun i j => i - j) hx in_sub (fun S G x z e i hi => by subst hi; cases e; rfl) (fun S G x z e => .inl (op_int_l (.inr rfl) e)) (by decide) (ho.pe A X XW hx) he
        · cases h2
      | _ => exact no_ h
    | _ => exact no_ h
  | .asg t e, C, st, h => by
    cases st with
    | Assign ts v p =>
      cases ts with
      | nil => cases t <;> exact no_ h
      | cons tg r =>
        cases r with
        | cons _ _ => cases t <;> cases tg <;> exact no_ h
        | nil =>
          cases t with
          | nm i =>
            cases tg with
            | Name x px =>
              obtain ⟨h1, h⟩ := b2 (show (decide (C.N[i]? = some x) && (stoB C x && (chE T e C v && (noComp v || (isLc e && lcOn C x px v))))) = true from h)
              obtain ⟨h2, h⟩ := b2 h
              obtain ⟨h3, h4⟩ := b2 h
              have hv := sd_e (W := W) (Φ := Φ) (k := k) e C v h3
              intro A X XW hx
              simp only [evS]
              obtain ⟨l1, l2⟩ := loc_ok hx h2
              have hi : X.N[i]? = some x := by rw [hx.nm]; exact of_dec h1
              have he : PE X v (if e.fresh = true then teN W A XW (evE Φ e) else teD W A XW (evE Φ e)) := by
                by_cases q : e.fresh = true
                · rw [if_pos q]; exact hv.pn q A X XW hx
                · rw [if_neg q]; exact hv.pe A X XW hx
              rw [Bool.or_eq_true] at h4
              rcases h4 with h4 | h4
              · exact s_asg hx hi l1 l2 (swaps_no h4) he
              · obtain ⟨hf, h4⟩ := b2 h4
                cases v with
                | ListComp elt gens sc lp =>
                  cases gens with
                  | nil => exact no_ h4
                  | cons gg r =>
                    obtain ⟨tg, iter, ifs, as⟩ := gg
                    cases as with
                    | negSucc n => cases r <;> exact no_ h4
                    | ofNat n =>
                      cases n with
                      | succ n => cases r <;> exact no_ h4
                      | zero =>
                        cases r with
                        | cons _ _ => exact no_ h4
                        | nil =>
                          obtain ⟨g1, h4⟩ := b2 (show ((C.sc.kind == .function) && (lclB C.sc x && ((px.line == lp.line) && !(sc.names.any fun (n, k) => n == x && (k == .local || k == .cell))))) = true from h4)
                          obtain ⟨g2, h4⟩ := b2 h4
                          obtain ⟨g3, g4⟩ := b2 h4
                          cases e with
                          | lc elt' t it hi c vs =>
                            obtain ⟨q1, q⟩ := b2 (show ((sc.kind == .function) && ((match (generalizing := false) iter with
                              | .Set _ _ _ => false
                              | _ => true) && (blkC C.N C.sc sc (vs.filterMap fun v => (C.N[v]?).map fun n => (n, v)) && (decide ((vs.filterMap fun v => (C.N[v]?).map fun n => (n, v)).map (·.2) = vs) && ((t.slots.all fun i => vs.contains i) &&
                              (chI T it C tg iter && (chT t ⟨C.N, relS sc C.sc, sc, none⟩ tg && (chE T elt' ⟨C.N, relS sc C.sc, sc, none⟩ elt && (match (generalizing := false) hi, ifs with
                              | false, [] => true
                              | true, [y] => chE T c ⟨C.N, relS sc C.sc, sc, none⟩ y
                              | _, _ => false))))))))) = true from h3)
                            obtain ⟨q2, q⟩ := b2 q
                            obtain ⟨q3, q⟩ := b2 q
                            obtain ⟨q4, q⟩ := b2 q
                            obtain ⟨q5, q⟩ := b2 q
                            obtain ⟨q6, q⟩ := b2 q
                            obtain ⟨q7, q⟩ := b2 q
                            obtain ⟨q8, q9⟩ := b2 q
                            have q4 := of_dec q4
                            have he := sd_e (W := W) (Φ := Φ) (k := k) elt' ⟨C.N, relS sc C.sc, sc, none⟩ elt q8
                            have hi' := sd_i (W := W) (Φ := Φ) (k := k) it C tg iter q6
                            have hif : ∀ A X', XO W T Φ k ⟨C.N, relS sc C.sc, sc, none⟩ X' XF → PTs X' ifs (ttD W A XF (if hi = true then (evE Φ c).bind truth else Ev.pure true)) := by
                              cases hi with
                              | false =>
                                cases ifs with
                                | nil =>
                                  intro A X' hx'
                                  refine ⟨fun pins s σ H Q I q => pts_nil.run pins s σ H Q I ?_⟩
                                  obtain ⟨pt, rfl, q⟩ := q
                                  exact wpD.pure (a := true) q
                                | cons _ _ => exact no_ q9
                              | true =>
                                cases ifs with
                                | nil => exact no_ q9
                                | cons y r =>
                                  cases r with
                                  | cons _ _ => exact no_ q9
                                  | nil =>
                                    have hc := sd_e (W := W) (Φ := Φ) (k := k) c ⟨C.N, relS sc C.sc, sc, none⟩ y q9
                                    exact fun A X' hx' => pts_one (hc.pt A X' XF hx')
                            have q := s_asgLc (own := vs.filterMap fun v => (C.N[v]?).map fun n => (n, v)) (pos := lp) (py := px) (spos := p) (y := x) (i := i) (me := evE Φ elt') hx (hi' A X XW hx) (blkOk_by q3) (by
                              rw [q4]
                              intro i hm
                              have := List.all_eq_true.mp q5 i hm
                              exact List.contains_iff_mem.mp this) (fun A X' hx' => sd_t t _ tg q7 A X' XF hx') hif (fun A X' hx' => he.pe A X' XF hx') (no_foldset q2) (by rw [hx.nm]; exact of_dec h1) (by rw [hx.sc]; exact lclB_ok g2) (sw_true (by rw [hx.sc]; exact eq_of_beq g1) (by rw [hx.sc]; exact lclB_ok g2) g3 (nt_ok g4))
                            rw [q4] at q
                            simp only [evE]
                            exact q
                          | _ => exact no_ hf
                | _ => exact no_ h4
            | _ => exact no_ h
          | tp l =>
            cases tg with
            | Tuple ts kk tp =>
              obtain ⟨h1, h⟩ := b2 (show (noComp v && ((match (generalizing := false) v with
                | .Tuple _ _ _ => false
                | _ => true) && (chTs l C ts && chE T e C v))) = true from h)
              obtain ⟨h2, h⟩ := b2 h
              obtain ⟨h3, h4⟩ := b2 h
              have hv := sd_e (W := W) (Φ := Φ) (k := k) e C v h4
              intro A X XW hx
              have hg := sd_t (W := W) (T := T) (Φ := Φ) (k := k) (.tp l) C (.Tuple ts kk tp) h3 A X XW hx
              simp only [evS, asgE]
              exact s_tp (hv.pe A X XW hx) hg (by simp only [swapsWithSole]; exact swaps_no h1) (by
                unfold swappedStores
                cases v <;> first | rfl | cases h2) (assign_one (es := []) rfl).1
            | _ => exact no_ h
    | _ => cases t <;> exact no_ h
  | .par i a j b, C, st, h => by
    cases hq : parOf st with
    | none => exact no_ (show false = true by unfold chS at h; rw [hq] at h; exact h)
    | some q =>
      obtain ⟨x, px, y, py, u, v⟩ := q
      have h : (parB C i j (x, px, y, py, u, v) && (!a.fresh && (chE T a C u && chE T b C v))) = true := by
        unfold chS at h; rw [hq] at h; exact h
      obtain ⟨k1, p1, k2, p2, p, rfl⟩ := parOf_ok hq
      obtain ⟨h0, h⟩ := b2 h
      obtain ⟨h12, h⟩ := b2 h
      obtain ⟨h13, h14⟩ := b2 h
      have ha := sd_e (W := W) (Φ := Φ) (k := k) a C u h13
      have hb := sd_e (W := W) (Φ := Φ) (k := k) b C v h14
      unfold parB at h0
      obtain ⟨h1, h0⟩ := b2 h0
      obtain ⟨h2, h0⟩ := b2 h0
      obtain ⟨h3, h0⟩ := b2 h0
      obtain ⟨h4, h0⟩ := b2 h0
      obtain ⟨h5, h0⟩ := b2 h0
      obtain ⟨h6, h0⟩ := b2 h0
      obtain ⟨h7, h0⟩ := b2 h0
      obtain ⟨h8, h0⟩ := b2 h0
      obtain ⟨h9, h0⟩ := b2 h0
      obtain ⟨h10, h11⟩ := b2 h0
      intro A X XW hx
      have hbb : PE X v (if b.fresh = true then teN W A XW (evE Φ b) else teD W A XW (evE Φ b)) := by
        by_cases q : b.fresh = true
        · rw [if_pos q]; exact hb.pn q A X XW hx
        · rw [if_neg q]; exact hb.pe A X XW hx
      simp only [evS]
      rw [nt_ok h12]
      exact s_par hx (by rw [hx.nm]; exact of_dec h1) (by rw [hx.nm]; exact of_dec h2) (of_dec h3) (by rw [hx.sc]; exact eq_of_beq h4) (by rw [hx.sc]; exact lclB_ok h5) (by rw [hx.sc]; exact lclB_ok h6) h7 h8 h9 (nt_ok h10) (nt_ok h11) (ha.pe A X XW hx) hbb
termination_by structural s => s
theorem sd_ss : ∀ (s : Ss) (C : Cf) (st : List Stmt), chSs T s C st = true → Ss2 W T Φ k s C st
  | .nil, C, st, h => by
    cases st with
    | nil => intro A X XW hx; simp only [evSs]; exact ss_nil
    | cons _ _ => exact no_ h
  | .cons s r, C, st, h => by
    cases st with
    | nil => exact no_ h
    | cons x xs =>
      obtain ⟨h1, h2⟩ := b2 (show (chS T s C x && chSs T r C xs) = true from h)
      have hs := sd_s s C x h1
      have hr := sd_ss r C xs h2
      intro A X XW hx
      simp only [evSs]
      exact ss_cons (hs A X XW hx) (hr A X XW hx)
termination_by structural s => s
end
end
end Mi

end
section
set_option Elab.async false
set_option linter.all false
set_option maxRecDepth 100000
set_option maxHeartbeats 1000000
/-! Mi24: functions, level by level. -/
namespace Mi
open PySem PySem.Spec PyProof.Rows L2

/-- a def at an address, looked through by the check -/
structure FuD (W : Wd) (T : Tb) (fd : Fd) (a : Addr) : Prop where
  ex : ∃ (me : Option (Str × Option Str)) (x qual : Str) (as : List Arg) (d1 : List (Option Expr)) (d2 : List Expr) (body : List Stmt) (scope : Scope) (dvs : List V) (kws : List (Str × V)) (dat : FuncData),
    FunD W.K x qual ⟨[], as, none, [], d1, none, d2⟩ body scope dvs kws a dat ∧ as.map (·.arg) = fd.ps ∧ FnScope fd.ns fd.ps scope ∧ chSs T fd.body ⟨fd.ns, scope, scope, me⟩ body = true ∧ (∀ ρ Fr H, RDs W ρ Fr H fd.dfl dvs) ∧ ∀ g, me = some g → g ∈ T.lams ∧ a = He.fAd W.K g
/-- what the module gives, once for all -/
structure TbS (W : Wd) (T : Tb) : Prop where
  free : ∀ x ∈ T.free, W.mg x = none
  val : ∀ x d, T.P.gval.lookup x = some d → ∃ u v, W.mg x = some u ∧ RelV v u ∧ ∀ ρ Fr H, RD W ρ Fr H d v
  fld : ∀ C f, T.P.flds.contains (C, f) = true → ∀ Ca, W.mg C = some (.ref Ca) → Cls W.K Ca ∧ NoAttr W.K Ca f
  glob : ∀ f ∈ T.glob, ∀ fd, T.P.fd f = some fd → ∃ a, W.mg f = some (.ref a) ∧ FuD W T fd a
  mths : ∀ p ∈ T.mths, ∀ fd, T.P.fd (methName p.1 p.2) = some fd → ∃ C a, W.mg p.1 = some (.ref C) ∧ Cls W.K C ∧ Meth W.K C p.2 a ∧ FuD W T fd a
  mks : ∀ c ∈ T.mks, ∀ fd, T.P.fd (initName c) = some fd → ∃ C a, W.mg c = some (.ref C) ∧ Mk W.K C a ∧ FuD W T fd a

section
variable {W : Wd} {T : Tb} {base : Heap} {n : Nat}
theorem FnE.mono {k j : Nat} {fd : Fd} {raw : List D → List MO → FO} {a : Addr} (F : FnE W base k fd raw a) (h : k ≤ j) : FnE W base j fd raw a := by
  obtain ⟨dat, dvs, its, hF, r⟩ := F.ex
  exact ⟨⟨dat, dvs, its, hF.mono h, r⟩, F.kp⟩
/-- a def whose body is never run well -/
theorem FuD.bad {fd : Fd} {a : Addr} (F : FuD W T fd a) (k : Nat) : FnE W base k fd (fun _ _ => .bad) a := by
  obtain ⟨me, x, qual, as, d1, d2, body, scope, dvs, kws, dat, hF, ha, hS, hch, hd, hme⟩ := F.ex
  obtain ⟨its, r, hb⟩ := Mi.FunD.bindsG hF ha
  refine ⟨⟨dat, dvs, its, ⟨fun vs H Q E h => (spF_bad h).elim, fun A outer s H args us vs Q E _ _ _ _ h => (spF_bad h).elim⟩, hd, r, fun s us ws ks t X hw hc hg => ?_⟩, hF.kp⟩
  refine hb s us ws ks t X hw ?_ hg
  rw [← (hd [] (fun _ => True) (fun _ => none)).length]
  exact hc
/-- .. by its body -/
theorem FuD.lev {fd : Fd} {a : Addr} {f : Str} {j : Nat} (F : FuD W T fd a) (hf : T.P.fd f = some fd) (hT : TbOk W T base (4 * j) (fnsF T.P n j)) : FnE W base (4 * (j + 1)) fd (rawF T.P n (j + 1) f) a := by
  obtain ⟨me, x, qual, as, d1, d2, body, scope, dvs, kws, dat, hF, ha, hS, hch, hd, hme⟩ := F.ex
  obtain ⟨its, r, hb⟩ := Mi.FunD.bindsG hF ha
  refine ⟨⟨dat, dvs, its, ?_, hd, r, fun s us ws ks t X hw hc hg => ?_⟩, hF.kp⟩
  · refine Mi.FunD.okx hF (k := 4 * j + 3) hS (fun vs H Q E h => spF_len h) fun cdv A outer s H vs Q E hlk hr hsp => ?_
    obtain ⟨ρ, Fr, G, ds, hl, g, rd, hfo⟩ := hsp
    refine ⟨tsD W ⟨H, ρ, Fr⟩ (fun cls d _ H => E cls d H) (evSs (fnsF T.P n j) fd.body), ?_, ?_⟩
    · refine sd_ss fd.body ⟨fd.ns, scope, scope, me⟩ body hch ⟨H, ρ, Fr⟩ _ _ ⟨rfl, rfl, rfl, hS.nd, rfl, hr.mono (by omega), takes_of rfl rfl rfl rfl, passes_of rfl, hT, .inl rfl, fun g hg => ⟨hr, ?_⟩⟩
      obtain ⟨hl, hag⟩ := hme g hg
      obtain ⟨c, t, q, hTab, hTB⟩ := hT.lams g hl
      obtain ⟨oc, od, osl, lk, e1, e2⟩ := hlk
      obtain ⟨oc', od', fd', osl', lk', f1, f2, f3⟩ := hTab
      have lk2 := lk'
      rw [← hag, lk] at lk2
      cases lk2
      refine ⟨c, t, q, ⟨_, _, _, _, lk', f1, f2, f3⟩, e1.symm.trans f1, ?_, hTB⟩
      show qual ++ ".<locals>." = q ++ ".<locals>."
      rw [← e2, f2]
    · refine body_end (start_sr g rd) ?_
      have e : rawF T.P n (j + 1) f ds G = endF (evSs (fnsF T.P n j) fd.body ((ds.map Slot.val) ++ List.replicate (fd.ns.length - ds.length) Slot.no) G) := by
        rw [rawF, hf]
        rfl
      rw [e] at hfo
      exact hfo
  · refine hb s us ws ks t X hw ?_ hg
    rw [← (hd [] (fun _ => True) (fun _ => none)).length]
    exact hc
theorem tb_mono {Φ : Fns} {k j : Nat} (h : TbOk W T base k Φ) (hk : k ≤ j) : TbOk W T base j Φ := by
  obtain ⟨raw, c1, c2, g, m, i⟩ := h.fns
  refine ⟨h.free, h.val, h.fld, ⟨raw, c1, c2, fun f hf fd e => ?_, fun p hp fd e => ?_, fun c hc fd e => ?_⟩, h.lams⟩
  · obtain ⟨a, x, F⟩ := g f hf fd e
    exact ⟨a, x, F.mono hk⟩
  · obtain ⟨C, a, x, y, z, F⟩ := m p hp fd e
    exact ⟨C, a, x, y, z, F.mono hk⟩
  · obtain ⟨C, a, x, y, F⟩ := i c hc fd e
    exact ⟨C, a, x, y, F.mono hk⟩
/-- ALL LEVELS -/
theorem levels (S : TbS W T) (L : ∀ g ∈ T.lams, ∃ c a q, TabL W.K g c a q ∧ LamX.TabB base W.mg c a) : ∀ j : Nat, (∀ f fd a, T.P.fd f = some fd → FuD W T fd a → FnE W base (4 * j) fd (rawF T.P n j f) a) ∧ TbOk W T base (4 * j) (fnsF T.P n j)
  | 0 => by
    refine ⟨fun f fd a hf F => ?_, S.free, S.val, S.fld, ⟨fun _ _ _ => .bad, fun f l G => ?_, fun f l ks w G => ?_, fun f hf fd e => ?_, fun p hp fd e => ?_, fun c hc fd e => ?_⟩, L⟩
    · have e : rawF T.P n 0 f = fun _ _ => FO.bad := by funext l G; rw [rawF]
      rw [e]
      exact F.bad _
    · show FO.bad = _
      cases T.P.fd f with
      | none => rfl
      | some d =>
        show FO.bad = match bindG d.ps l [] [] d.dfl with
          | some _ => FO.bad
          | none => FO.bad
        cases bindG d.ps l [] [] d.dfl <;> rfl
    · show FO.bad = _
      cases T.P.fd f with
      | none => rfl
      | some d =>
        show FO.bad = match bindG d.ps l ks w d.dfl with
          | some _ => FO.bad
          | none => FO.bad
        cases bindG d.ps l ks w d.dfl <;> rfl
    · obtain ⟨a, x, F⟩ := S.glob f hf fd e
      exact ⟨a, x, F.bad _⟩
    · obtain ⟨C, a, x, y, z, F⟩ := S.mths p hp fd e
      exact ⟨C, a, x, y, z, F.bad _⟩
    · obtain ⟨C, a, x, y, F⟩ := S.mks c hc fd e
      exact ⟨C, a, x, y, F.bad _⟩
  | j + 1 => by
    obtain ⟨A, B⟩ := levels S L j
    refine ⟨fun f fd a hf F => F.lev hf B, S.free, S.val, S.fld, ⟨rawF T.P n j, fun f l G => ?_, fun f l ks w G => ?_, fun f hf fd e => ?_, fun p hp fd e => ?_, fun c hc fd e => ?_⟩, L⟩
    · rw [fnsF] <;> rfl
    · rw [fnsF] <;> rfl
    · obtain ⟨a, x, F⟩ := S.glob f hf fd e
      exact ⟨a, x, (A f fd a e F).mono (by omega)⟩
    · obtain ⟨C, a, x, y, z, F⟩ := S.mths p hp fd e
      exact ⟨C, a, x, y, z, (A _ fd a e F).mono (by omega)⟩
    · obtain ⟨C, a, x, y, F⟩ := S.mks c hc fd e
      exact ⟨C, a, x, y, (A _ fd a e F).mono (by omega)⟩
end
end Mi

end
section
set_option Elab.async false
set_option linter.all false
set_option maxRecDepth 100000
set_option maxHeartbeats 1000000
/-! Mi25: the law is called. -/
namespace Mi
open PySem PySem.Spec PyProof.Rows L2

section
variable {P : Program} {w : World} {K : PySem.W.Frag} {mg mb : Str → Option Value} {k : Nat} {fa a : Addr} {st : Shared} {us : List Value} {ns : List Int} {T : Tb}
/-- what the interpreter is given: the script -/
def scrD (ns : List Int) : D := .scr (ns.map D.int)
theorem rds_ints {W : Wd} {ρ : List Addr} {Fr : Addr → Prop} {H : Hp} : ∀ ns : List Int, RDs W ρ Fr H (ns.map D.int) (ns.map V.int)
  | [] => .nil
  | n :: r => .cons (by simp only [RD]) (rds_ints r)
abbrev emptyT : Obj := { cls := .none, data := .fields #[] }
/-- a def's table, as the head knows it -/
def TabAt (K : PySem.W.Frag) (h : Heap) (g : Str × Option Str) (t : Addr) : Prop := (∃ c q, TabL K g c t q) ∧ h.get? t = some emptyT ∧ K.lookup t = none
/-- what a base must give for the tables -/
def TabsB (K : PySem.W.Frag) (mg : Str → Option Value) (b : Heap) (gs : List (Str × Option Str)) : Prop := ∀ g ∈ gs, ∃ c t q, TabL K g c t q ∧ LamX.TabB b mg c t
/-- the call of the law, where the interpreter's run tells True -/
theorem top_call (kin : K.In st.heap) (gl : st.heap.Ns mainGlobals mg) (bl : st.heap.Ns builtinsNs mb) (boot : ∀ y : Str, y ≠ "__name__" → mb y = bootBuiltins y) (nl : st.heap.NoLimit) (gn : st.gens = #[])
    {gs : List (Str × Option Str)} {ts : List Addr} (tabs : Rl (TabAt K st.heap) gs ts) (tnd : ts.Nodup)
    (hbm : ∃ (bm : Addr) (ob : Obj), mg "__builtins__" = some (.ref bm) ∧ bm ≠ builtinsNs ∧ st.heap.get? bm = some ob ∧ ob.cls = .type "module" ∧ ob.dict = some builtinsNs ∧ ob.data = .plain)
    (obj : st.heap.get? a = some { cls := .type "list", data := .seq us.toArray }) (isn : IntsAre us ns) (small : ns.length ≤ sizeLine) (rm : Rm k callerA) {fd : Fd} {raw : List D → List MO → FO} (one : fd.ps.length = 1) (nod : fd.dfl = [])
    (F : ∀ b : Heap, K.In b → b.Ns mainGlobals mg → TabsB K mg b gs → FnE ⟨P, w, K, mg⟩ b k fd raw fa) {G' : List MO} (law : raw [scrD ns] (gs.map MO.tab) = .ok (.bl true) G') :
    codeAny (model P w) callerA (.call (.ref fa) ⟨[.ref a], []⟩) (fun r s' => r = .ok (.ret (.bool true)) ∧ OldK st.heap s'.heap ∧ s'.os = st.os ∧ AllBare s'.gens) st := by
  have isv : Vals (ns.map V.int) us := vals_ints isn
  have lenU : us.length = ns.length := isn.length
  have tab_of : ∀ t ∈ ts, ∃ g, g ∈ gs ∧ TabAt K st.heap g t := fun t ht => by
    clear law F tnd
    induction tabs with
    | nil => simp at ht
    | @cons g t' gs' ts' r _ ih =>
      rcases List.mem_cons.mp ht with rfl | ht
      · exact ⟨g, List.mem_cons_self .., r⟩
      · obtain ⟨g', h1, h2⟩ := ih ht
        exact ⟨g', List.mem_cons_of_mem _ h1, h2⟩
  have tobj : ∀ t ∈ ts, st.heap.get? t = some emptyT := fun t ht => by
    obtain ⟨g, _, _, h, _⟩ := tab_of t ht
    exact h
  have aT : a ∉ ts := fun z => by
    have q := tobj a z
    rw [obj] at q
    have z' : Data.seq us.toArray _ = Data.fields #[] := congrArg Obj.data (Option.some.inj q)
    cases z'
  have go : ∀ T0 : Hp, (∀ t ∈ ts, T0 t = some (.tbl #[])) → (∀ b, T0 b = none ∨ b ∈ ts ∨ ∃ o xs, T0 b = some (.frz o (.lst xs))) → SqL K T0 a (ns.map V.int) → HOk P w T0 st.heap → (∀ b, T0 b ≠ none → b ∈ ts ∨ (b = a ∧ K.lookup a = none)) →
      codeAny (model P w) callerA (.call (.ref fa) ⟨[.ref a], []⟩) (fun r s' => r = .ok (.ret (.bool true)) ∧ OldK st.heap s'.heap ∧ s'.os = st.os ∧ AllBare s'.gens) st := by
    intro T0 isT only isL hok here
    -- the rest of the heap
    have free : ∀ b o, st.heap.get? b = some o → (∀ xs n, o.data ≠ .seq xs n) → o.data ≠ .fields #[] → T0 b = none := fun b o e h1 h2 => by
      cases q : T0 b with
      | none => rfl
      | some z =>
        rcases here b (by rw [q]; simp) with y | ⟨y, _⟩
        · rw [tobj b y] at e
          cases e
          exact absurd rfl h2
        · rw [y, obj] at e
          cases e
          exact absurd rfl (h1 _ _)
    have rest : ∀ b o, st.heap.get? b = some o → (∀ xs n, o.data ≠ .seq xs n) → o.data ≠ .fields #[] → (hidT st.heap T0).get? b = some o := fun b o e h1 h2 => hidT_get e (free b o e h1 h2)
    have spaces : ∀ b (m : Str → Option Value), st.heap.Ns b m → (hidT st.heap T0).Ns b m := by
      rintro b m ⟨o, es, ep, e, dt, r⟩
      exact ⟨o, es, ep, rest b o e (fun xs n z => by rw [dt] at z; cases z) (fun z => by rw [dt] at z; cases z), dt, r⟩
    have kb : K.In (hidT st.heap T0) := fun b o e => hidT_get (kin b o e) (by
      cases q : T0 b with
      | none => rfl
      | some z =>
        rcases here b (by rw [q]; simp) with y | ⟨z1, z2⟩
        · obtain ⟨g, _, _, _, h3⟩ := tab_of b y
          rw [h3] at e
          cases e
        · rw [z1, z2] at e
          cases e)
    have noL : (hidT st.heap T0).NoLimit := by
      obtain ⟨mc, q1, q2⟩ := nl
      exact ⟨mc, spaces _ _ q1, q2⟩
    have modul : L2.Mod K mg (hidT st.heap T0) := ⟨kb, spaces _ _ gl, ⟨mb, spaces _ _ bl, boot⟩, noL⟩
    have none_in : ∀ (b : Addr) {C : Prop}, b ∈ frs ([] : List Env) → C := fun b C z => absurd (show b ∈ ([] : List Addr) from z) (by simp)
    have env : Env0 P w K mg (hidT st.heap T0) callerA [] st T0 :=
      { frames := rfl, mod := modul, bs := fun _ _ e => of_hidT e, bsz := Nat.le_of_eq (hidT_size _ _), funs := trivial, frf := fun b z => none_in b z, hok := hok, bare := .of_eq gn }
    have tb : ∀ (R : List (Str × Option Str)) (us : List Addr), Rl (TabAt K st.heap) R us → TabsB K mg (hidT st.heap T0) R := fun R us r => by
      induction r with
      | nil => intro g hg; simp at hg
      | @cons g t gs' ts' r _ ih =>
        intro g' hg
        rcases List.mem_cons.mp hg with rfl | hg
        · obtain ⟨⟨c, q, hl⟩, ht, _⟩ := r
          refine ⟨c, t, q, hl, ⟨PySem.W.codeHd_of_K kb ?_, ?_, fun z => ?_⟩⟩
          · obtain ⟨_, _, _, _, _, _, _, h⟩ := hl
            exact h
          · obtain ⟨bm, ob, b1, b2, b3, b4, b5, b6⟩ := hbm
            refine ⟨bm, ob, b1, b2, fun q => ?_, fun q => ?_, rest bm ob b3 (fun xs n z => by rw [b6] at z; cases z) (fun z => by rw [b6] at z; cases z), b4, b5, b6⟩
            · obtain ⟨o, es, ep, e, dt, _⟩ := gl
              rw [q, e] at b3
              cases b3
              rw [dt] at b6
              cases b6
            · rw [q, ht] at b3
              cases b3
              cases b6
          · obtain ⟨o, es, ep, e, dt, _⟩ := gl
            rw [z, ht] at e
            cases e
            cases dt
        · exact ih g' hg
    obtain ⟨dat, dvs, its, hF, hd, hv, hb⟩ := (F _ kb (spaces _ _ gl) (tb gs ts tabs)).ex
    obtain ⟨x, hx⟩ := List.length_eq_one_iff.mp one
    have dv0 : dvs = [] := by
      have q := hd [] (fun _ => True) (fun _ => none)
      rw [nod] at q
      exact q.inv0
    subst dv0
    cases hv
    have bind : BindsTo st dat ⟨[.ref a], []⟩ (fd.ps.zip [.ref a]) := by
      refine hb st [.ref a] [] [] [.ref a] kin rfl ?_ ?_
      · rw [hx, nod]; simp [bindC]
      · rw [hx]
        simp only [bindG, List.zip_cons_cons, List.zip_nil_right, List.zip_nil_left, List.append_nil, List.length_cons, List.length_nil, List.zipIdx_cons, List.zipIdx_nil, allG, oneG, List.lookup_cons, beq_self_eq_true]
    have gs0 : GS ⟨P, w, K, mg⟩ (gs.map MO.tab) T0 ts fun b => T0 b ≠ none ∧ b ∉ ts := by
      refine ⟨by rw [List.length_map]; exact tabs.length.symm, tnd, fun b h1 h2 => h2.2 h1, fun n o e => ?_, fun b h => Option.ne_none_iff_exists'.mp h.1⟩
      rw [List.getElem?_map] at e
      cases eg : gs[n]? with
      | none => rw [eg] at e; cases e
      | some g =>
        rw [eg] at e
        cases e
        obtain ⟨t, ht, ⟨c, q, hl⟩, _, _⟩ := tabs.get eg
        exact ⟨t, .tbl #[], ht, isT t (List.mem_of_getElem? ht), #[], c, q, rfl, True.intro, hl, fun pos cv h => by
          have z : codeAmong pos [] = some cv := h
          simp [codeAmong] at z⟩
    have sp : spF ⟨P, w, K, mg⟩ fd.ps.length raw [.ref a] T0 (fun v _ => v = .bl true) (fun _ _ _ => False) := by
      refine ⟨ts, fun b => T0 b ≠ none ∧ b ∉ ts, gs.map MO.tab, [scrD ns], by rw [one]; rfl, gs0, .one ?_, ?_⟩
      · unfold scrD
        simp only [RD]
        refine ⟨a, ns.map V.int, rfl, ?_, rds_ints ns⟩
        rcases isL with q | q
        · refine .inl ⟨⟨?_, aT⟩, q⟩
          rcases q with q | ⟨o, q⟩ <;> rw [q] <;> simp
        · exact .inr q
      · rw [law]
        intro H ρ Fr _ _ v rv
        simpa only [RD] using rv
    refine codeAny_mono (hF.run callerA [] st T0 ⟨[.ref a], []⟩ [.ref a] [.ref a] _ _ rm env bind (.cons rfl .nil) sp) fun r s' h => ?_
    cases r with
    | error e =>
      obtain ⟨_, _, _, _, _, _, _, _, _, _, _, _, h⟩ := h
      exact h.elim
    | ok fl =>
      cases fl with
      | next => exact False.elim h
      | brk => exact False.elim h
      | cont => exact False.elim h
      | ret u =>
        obtain ⟨v, H2, os, bare, un, hok2, rv, q⟩ := h
        have q : v = .bl true := q
        subst q
        obtain rfl : u = Value.bool true := rv
        have same : ∀ b o, b ∉ ts → st.heap.get? b = some o → s'.heap.get? b = some o := fun b o nb e => by
          cases q : T0 b with
          | none => exact un.keep b o e q (fun z => none_in b z) (by simp)
          | some z =>
            rcases only b with y | y | ⟨ob, xs, y⟩
            · rw [q] at y; cases y
            · exact absurd y nb
            · have y2 := un.frzs b ob _ y
              have c1 := (hok b _ y).1
              have c2 := (hok2 b _ y2).1
              rw [e] at c1
              cases c1
              exact c2
        have grown : ∀ t ∈ ts, ∃ more : Array Value, s'.heap.get? t = some { cls := .none, data := .fields more } := fun t ht => by
          obtain ⟨more, z⟩ := un.tbls t #[] (isT t ht)
          exact ⟨_, hok2 t _ z⟩
        refine ⟨rfl, ⟨fun b o e => ?_, fun b o e => ?_⟩, os, bare⟩
        · by_cases hb : b ∈ ts
          · obtain ⟨more, hm⟩ := grown b hb
            rw [tobj b hb] at e
            cases e
            obtain ⟨g, _, ⟨c, q, hl⟩, _, _⟩ := tab_of b hb
            have hc : PySem.W.CodeHd st.heap c b := by
              obtain ⟨_, _, _, _, _, _, _, h⟩ := hl
              exact PySem.W.codeHd_of_K kin h
            exact .inr (.inl ⟨(hc.tab (tobj b hb)).isCodeTable, rfl, #[], more, rfl, by rw [Array.empty_append]; exact hm⟩)
          · exact .inl (same b o hb e)
        · by_cases hb : b ∈ ts
          · obtain ⟨more, hm⟩ := grown b hb
            exact ⟨_, hm⟩
          · exact ⟨o, same b o hb e⟩
  have tabOkAt : ∀ (T0 : Hp) (t : Addr), t ∈ ts → ObjOk P w T0 st.heap t (.tbl #[]) := fun T0 t ht => tobj t ht
  cases look : K.lookup a with
  | some o =>
    have e := kin a o look
    rw [obj] at e
    cases e
    refine go (fun b => if b ∈ ts then some (.tbl #[]) else none) (fun t ht => if_pos ht) (fun b => ?_) (.inr ⟨_, us.toArray, _, look, rfl, rfl, rfl, ?_, by simpa using isv⟩) (fun b u z => ?_) fun b z => ?_
    · by_cases hb : b ∈ ts
      · exact .inr (.inl hb)
      · exact .inl (if_neg hb)
    · rw [List.size_toArray, lenU]; exact small
    · by_cases hb : b ∈ ts
      · have z : (if b ∈ ts then some (HO.tbl #[]) else none) = some u := z
        rw [if_pos hb] at z
        cases z
        exact tabOkAt _ b hb
      · exact absurd z (by show ¬ (if b ∈ ts then _ else none) = some u; rw [if_neg hb]; simp)
    · by_cases hb : b ∈ ts
      · exact .inl hb
      · exact absurd (if_neg hb) z
  | none =>
    have at_a : (fun b : Addr => if b ∈ ts then some (HO.tbl #[]) else if b = a then some (HO.frz { cls := .type "list", data := .seq us.toArray } (.lst (ns.map V.int))) else none) a = some (.frz { cls := .type "list", data := .seq us.toArray } (.lst (ns.map V.int))) := by
      show (if a ∈ ts then _ else _) = _
      rw [if_neg aT, if_pos rfl]
    refine go (fun b => if b ∈ ts then some (.tbl #[]) else if b = a then some (.frz { cls := .type "list", data := .seq us.toArray } (.lst (ns.map V.int))) else none) (fun t ht => if_pos ht) (fun b => ?_) (.inl (.inr ⟨_, at_a⟩)) (fun b u z => ?_) fun b z => ?_
    · by_cases hb : b ∈ ts
      · exact .inr (.inl hb)
      · by_cases c : b = a
        · exact .inr (.inr ⟨_, _, (if_neg hb).trans (if_pos c)⟩)
        · exact .inl ((if_neg hb).trans (if_neg c))
    · by_cases hb : b ∈ ts
      · have z : (if b ∈ ts then some (HO.tbl #[]) else _) = some u := z
        rw [if_pos hb] at z
        cases z
        exact tabOkAt _ b hb
      · by_cases c : b = a
        · subst c
          rw [at_a] at z
          cases z
          exact ⟨obj, by rw [List.length_map]; exact small, us, _, isv, obj⟩
        · exact absurd (((if_neg hb).trans (if_neg c)).symm.trans z) (by simp)
    · by_cases hb : b ∈ ts
      · exact .inl hb
      · by_cases c : b = a
        · exact .inr ⟨c, look⟩
        · exact absurd ((if_neg hb).trans (if_neg c)) z
end
/-- the goal that the head leaves -/
theorem walk_mi {l : PySem.W.OpenLaw} {n k : Nat} {q : Program} {loose : List Str} {XP : (Str → Option Value) → Heap → Prop} {YP : World → Heap → Prop} {d : DefRec} (hn : l.most = some n) (hn2 : n ≤ sizeLine) (hdf : d.params.defaults = []) (rm : Rm k callerA)
    {fd : Fd} {raw : List D → List MO → FO} {gs : List (Str × Option Str)} (one : fd.ps.length = 1) (nod : fd.dfl = [])
    (F : ∀ (w : World) (mg : Str → Option Value) (fa : Addr) (h : Heap), YP w h → h.Ns mainGlobals mg → mg d.name = some (.ref fa) → ∃ (K : PySem.W.Frag) (ts : List Addr), K.In h ∧ Rl (TabAt K h) gs ts ∧ ts.Nodup ∧ ∀ b : Heap, K.In b → b.Ns mainGlobals mg → TabsB K mg b gs → FnE ⟨l.prog, w, K, mg⟩ b k fd raw fa)
    (law : ∀ ns : List Int, ns.length ≤ n → (∀ i ∈ ns, Builtin.Int.intBits i ≤ 1048576) → ∃ G', raw [scrD ns] (gs.map MO.tab) = .ok (.bl true) G') : PySem.W.WalkO q loose XP YP l.row.toRowW d [] (fun f vs => PySem.call f vs) := by
  refine Att.attach_callB hn hdf fun w s0 s1 mg mb fa o pm cd doc a vs ns G Y ho hd hcd hmg hobj hints hlen hbits hg => ?_
  obtain ⟨K, ts, KX, ht, hnd, hF⟩ := F w mg fa _ Y G.T.g hmg
  obtain ⟨G', e⟩ := law ns hlen hbits
  exact top_call KX G.T.g G.T.b G.T.builtins G.T.nolimit hg ht hnd G.T.bmain hobj hints (Nat.le_trans hlen hn2) rm one nod hF e
end Mi

end
section
set_option Elab.async false
set_option linter.all false
set_option maxRecDepth 100000
set_option maxHeartbeats 1000000
/-! Mi26: what the head tells, looked through. -/
namespace Mi
open PySem PySem.Spec PyProof.Rows L2

def hasFree (fa : List He.Fa) (x : Str) : Bool := fa.any fun q => match q with
  | .free y => decide (y = x)
  | _ => false
def hasGlo (fa : List He.Fa) (x : Str) : Bool := fa.any fun q => match q with
  | .glo y => decide (y = x)
  | _ => false
def hasInt (fa : List He.Fa) (x : Str) (i : Int) : Bool := fa.any fun q => match q with
  | .int y j => decide (y = x) && decide (j = i)
  | _ => false
def hasStr (fa : List He.Fa) (x z : Str) : Bool := fa.any fun q => match q with
  | .str y u => decide (y = x) && decide (u = z)
  | _ => false
def hasCls (fa : List He.Fa) (x : Str) : Bool := fa.any fun q => match q with
  | .cls y => decide (y = x)
  | _ => false
def hasNoat (fa : List He.Fa) (x f : Str) : Bool := fa.any fun q => match q with
  | .noat y g => decide (y = x) && decide (g = f)
  | _ => false
def hasMeth (fa : List He.Fa) (x m : Str) : Bool := fa.any fun q => match q with
  | .meth y g => decide (y = x) && decide (g = m)
  | _ => false
def hasMkr (fa : List He.Fa) (x : Str) : Bool := fa.any fun q => match q with
  | .mkr y => decide (y = x)
  | _ => false
section
variable {fa : List He.Fa} {fn : List He.DefD} {K : PySem.W.Frag} {h : Heap} {mg : Str → Option Value} {x f z m : Str} {i : Int}
theorem free_of (c : He.SaysD fa fn K) (X : K.In h) (G : h.Ns mainGlobals mg) (e : hasFree fa x = true) : mg x = none := by
  obtain ⟨q, hq, e⟩ := List.any_eq_true.mp e
  cases q with
  | free y =>
    have e : y = x := of_decide_eq_true e
    subst e
    exact He.free_ok X G (c.facts hq)
  | _ => cases e
theorem glo_of (c : He.SaysD fa fn K) (X : K.In h) (G : h.Ns mainGlobals mg) (e : hasGlo fa x = true) : mg x = some (.ref (He.ga K x)) := by
  obtain ⟨q, hq, e⟩ := List.any_eq_true.mp e
  cases q with
  | glo y =>
    have e : y = x := of_decide_eq_true e
    subst e
    exact He.glo_ok X G (c.facts hq)
  | _ => cases e
theorem int_of (c : He.SaysD fa fn K) (X : K.In h) (G : h.Ns mainGlobals mg) (e : hasInt fa x i = true) : ∃ t, mg x = some (.int i t) := by
  obtain ⟨q, hq, e⟩ := List.any_eq_true.mp e
  cases q with
  | int y j =>
    obtain ⟨e1, e2⟩ := b2 (show (decide (y = x) && decide (j = i)) = true from e)
    have e1 := of_dec e1
    have e2 := of_dec e2
    subst e1 e2
    exact He.int_ok X G (c.facts hq)
  | _ => cases e
theorem str_of (c : He.SaysD fa fn K) (X : K.In h) (G : h.Ns mainGlobals mg) (e : hasStr fa x z = true) : ∃ t, mg x = some (.str z t) := by
  obtain ⟨q, hq, e⟩ := List.any_eq_true.mp e
  cases q with
  | str y j =>
    obtain ⟨e1, e2⟩ := b2 (show (decide (y = x) && decide (j = z)) = true from e)
    have e1 := of_dec e1
    have e2 := of_dec e2
    subst e1 e2
    exact He.str_ok X G (c.facts hq)
  | _ => cases e
theorem cls_of (c : He.SaysD fa fn K) (e : hasCls fa x = true) : Cls K (He.ga K x) := by
  obtain ⟨q, hq, e⟩ := List.any_eq_true.mp e
  cases q with
  | cls y =>
    have e : y = x := of_decide_eq_true e
    subst e
    exact He.cls_ok (c.facts hq)
  | _ => cases e
theorem noat_of (c : He.SaysD fa fn K) (e : hasNoat fa x f = true) : NoAttr K (He.ga K x) f := by
  obtain ⟨q, hq, e⟩ := List.any_eq_true.mp e
  cases q with
  | noat y j =>
    obtain ⟨e1, e2⟩ := b2 (show (decide (y = x) && decide (j = f)) = true from e)
    have e1 := of_dec e1
    have e2 := of_dec e2
    subst e1 e2
    exact He.noat_ok (c.facts hq)
  | _ => cases e
theorem meth_of (c : He.SaysD fa fn K) (e : hasMeth fa x m = true) : Meth K (He.ga K x) m (He.ma K (He.ga K x) m) := by
  obtain ⟨q, hq, e⟩ := List.any_eq_true.mp e
  cases q with
  | meth y j =>
    obtain ⟨e1, e2⟩ := b2 (show (decide (y = x) && decide (j = m)) = true from e)
    have e1 := of_dec e1
    have e2 := of_dec e2
    subst e1 e2
    exact He.meth_ok (c.facts hq)
  | _ => cases e
theorem mkr_of (c : He.SaysD fa fn K) (e : hasMkr fa x = true) : Mk K (He.ga K x) (He.ma K (He.ga K x) "__init__") := by
  obtain ⟨q, hq, e⟩ := List.any_eq_true.mp e
  cases q with
  | mkr y =>
    have e : y = x := of_decide_eq_true e
    subst e
    exact He.mkr_ok (c.facts hq)
  | _ => cases e
end

/-! ### the check -/
def dvB (fa : List He.Fa) : D → He.Dv → Bool
  | .non, .non => true
  | .bl a, .bl b => a == b
  | .int i, .int j => decide (i = j)
  | .str x, .str y => decide (x = y)
  | .fn x, .glo y => decide (x = y) && hasGlo fa x
  | _, _ => false
def dvsB (fa : List He.Fa) : List D → List He.Dv → Bool
  | [], [] => true
  | d :: r, v :: s => dvB fa d v && dvsB fa r s
  | _, _ => false
section
variable {fa : List He.Fa} {fn : List He.DefD} {K : PySem.W.Frag} {h : Heap} {mg : Str → Option Value} {P : Program} {w : World} {T : Tb}
theorem dvB_ok (c : He.SaysD fa fn K) (X : K.In h) (G : h.Ns mainGlobals mg) {ρ : List Addr} {Fr : Addr → Prop} {H : Hp} {d : D} {v : He.Dv} (e : dvB fa d v = true) : RD ⟨P, w, K, mg⟩ ρ Fr H d (v.v K) := by
  unfold dvB at e
  split at e
  · simp only [RD]; rfl
  · rename_i a b
    have e : a = b := by simpa using e
    subst e
    simp only [RD, He.Dv.v]
  · simp only [RD, He.Dv.v]; rw [of_dec e]
  · simp only [RD, He.Dv.v]; rw [of_dec e]
  · obtain ⟨e1, e2⟩ := b2 e
    have e1 := of_dec e1
    subst e1
    simp only [RD, He.Dv.v]
    exact ⟨_, glo_of c X G e2, rfl⟩
  · cases e
theorem dvsB_ok (c : He.SaysD fa fn K) (X : K.In h) (G : h.Ns mainGlobals mg) {ρ : List Addr} {Fr : Addr → Prop} {H : Hp} : ∀ {ds : List D} {vs : List He.Dv}, dvsB fa ds vs = true → RDs ⟨P, w, K, mg⟩ ρ Fr H ds (vs.map (He.Dv.v K))
  | [], [], _ => .nil
  | [], _ :: _, e => by cases e
  | _ :: _, [], e => by cases e
  | d :: r, v :: s, e => by
    obtain ⟨e1, e2⟩ := b2 (show (dvB fa d v && dvsB fa r s) = true from e)
    exact .cons (dvB_ok c X G e1) (dvsB_ok c X G e2)
end
/-- a def is what its datum says -/
def meOf (T : Tb) (p : Str × Option Str) : Option (Str × Option Str) := if T.lams.contains p then some p else none
def defB (T : Tb) (fa : List He.Fa) (fd : Fd) (d : He.DefD) : Bool := match d.params with
  | ⟨[], as, none, [], _, none, _⟩ => decide (as.map (·.arg) = fd.ps) && (scB d.scope fd.ns fd.ps && (dvsB fa fd.dfl d.dfl && chSs T fd.body ⟨fd.ns, d.scope, d.scope, meOf T d.at_⟩ d.body))
  | _ => false
def isAt (p q : Str × Option Str) : Bool := decide (p.1 = q.1) && (match p.2, q.2 with
  | none, none => true
  | some x, some y => decide (x = y)
  | _, _ => false)
theorem isAt_ok {p q : Str × Option Str} (h : isAt p q = true) : p = q := by
  obtain ⟨a, b⟩ := p
  obtain ⟨c, d⟩ := q
  obtain ⟨h1, h2⟩ := b2 h
  have h1 : a = c := of_dec h1
  subst h1
  cases b with
  | none => cases d with
    | none => rfl
    | some _ => cases h2
  | some x => cases d with
    | none => cases h2
    | some y =>
      have h2 : x = y := of_decide_eq_true h2
      rw [h2]
def fnB (T : Tb) (fa : List He.Fa) (fn : List He.DefD) (nm : Str) (p : Str × Option Str) : Bool := match T.P.fd nm with
  | some fd => (match fn.find? fun d => isAt d.at_ p with
    | some d => defB T fa fd d
    | none => false)
  | none => true
def valB (fa : List He.Fa) : Str × D → Bool
  | (x, .int i) => hasInt fa x i
  | (x, .str z) => hasStr fa x z
  | (x, .fn y) => decide (x = y) && hasGlo fa x
  | _ => false
def tbB0 (T : Tb) (fa : List He.Fa) : Bool := T.free.all (hasFree fa) && (T.P.gval.all (valB fa) && (T.P.flds.all fun p => hasGlo fa p.1 && (hasCls fa p.1 && hasNoat fa p.1 p.2)))
def tbG (T : Tb) (fa : List He.Fa) (fn : List He.DefD) : Bool := T.glob.all fun f => hasGlo fa f && fnB T fa fn f (f, none)
def tbM (T : Tb) (fa : List He.Fa) (fn : List He.DefD) : Bool := T.mths.all fun p => hasGlo fa p.1 && (hasCls fa p.1 && (hasMeth fa p.1 p.2 && fnB T fa fn (methName p.1 p.2) (p.1, some p.2)))
def tbI (T : Tb) (fa : List He.Fa) (fn : List He.DefD) : Bool := T.mks.all fun x => hasGlo fa x && (hasMkr fa x && fnB T fa fn (initName x) (x, some "__init__"))
section
variable {fa : List He.Fa} {fn : List He.DefD} {K : PySem.W.Frag} {h : Heap} {mg : Str → Option Value} {P : Program} {w : World} {T : Tb}
theorem fnB_ok (c : He.SaysD fa fn K) (X : K.In h) (G : h.Ns mainGlobals mg) {nm : Str} {p : Str × Option Str} {fd : Fd} (hf : T.P.fd nm = some fd) (e : fnB T fa fn nm p = true) : FuD ⟨P, w, K, mg⟩ T fd (He.fAd K p) := by
  unfold fnB at e
  rw [hf] at e
  simp only at e
  cases q : fn.find? fun d => isAt d.at_ p with
  | none => rw [q] at e; cases e
  | some d =>
    rw [q] at e
    have ea : d.at_ = p := isAt_ok (by have z := List.find?_some q; exact z)
    obtain ⟨dat, F⟩ := c.defs (List.mem_of_find?_eq_some q)
    rw [ea] at F
    have e : defB T fa fd d = true := e
    unfold defB at e
    split at e
    · rename_i as d1 d2 hp
      obtain ⟨e1, e⟩ := b2 e
      obtain ⟨e2, e⟩ := b2 e
      obtain ⟨e3, e4⟩ := b2 e
      rw [hp] at F
      refine ⟨meOf T d.at_, _, _, as, _, _, _, _, _, _, _, F, of_dec e1, scB_ok e2, e4, fun ρ Fr H => dvsB_ok c X G e3, fun g hg => ?_⟩
      unfold meOf at hg
      split at hg
      · rename_i hc
        cases hg
        exact ⟨List.contains_iff_mem.mp hc, by rw [ea]⟩
      · cases hg
    · cases e
theorem mem_look {α : Type} {x : Str} {d : α} : ∀ {l : List (Str × α)}, l.lookup x = some d → (x, d) ∈ l
  | [], e => by cases e
  | (k, v) :: r, e => by
    rw [List.lookup_cons] at e
    cases q : x == k with
    | true =>
      rw [q] at e
      cases e
      rw [show x = k by simpa using q]
      exact List.mem_cons_self ..
    | false =>
      rw [q] at e
      exact List.mem_cons_of_mem _ (mem_look e)
theorem tb_ok (c : He.SaysD fa fn K) (X : K.In h) (G : h.Ns mainGlobals mg) (e0 : tbB0 T fa = true) (e1 : tbG T fa fn = true) (e2 : tbM T fa fn = true) (e3 : tbI T fa fn = true) : TbS ⟨P, w, K, mg⟩ T := by
  obtain ⟨f1, f⟩ := b2 e0
  obtain ⟨f2, f3⟩ := b2 f
  refine ⟨fun x hx => free_of c X G (List.all_eq_true.mp f1 x hx), fun x d hd => ?_, fun C f hc Ca hC => ?_, fun f hf fd hd => ?_, fun p hp fd hd => ?_, fun C hC fd hd => ?_⟩
  · have q := List.all_eq_true.mp f2 (x, d) (mem_look hd)
    unfold valB at q
    split at q
    · rename_i x i ep
      cases ep
      obtain ⟨t, ht⟩ := int_of c X G q
      exact ⟨_, .int i, ht, ⟨t, rfl⟩, fun ρ Fr H => by simp only [RD]⟩
    · rename_i x i ep
      cases ep
      obtain ⟨t, ht⟩ := str_of c X G q
      exact ⟨_, .str i, ht, ⟨t, rfl⟩, fun ρ Fr H => by simp only [RD]⟩
    · rename_i x y ep
      cases ep
      obtain ⟨q1, q2⟩ := b2 q
      have q1 := of_dec q1
      subst q1
      exact ⟨_, .ref (He.ga K x), glo_of c X G q2, rfl, fun ρ Fr H => by simp only [RD]; exact ⟨_, glo_of c X G q2, rfl⟩⟩
    · cases q
  · have q := List.all_eq_true.mp f3 (C, f) (List.contains_iff_mem.mp hc)
    obtain ⟨q1, q⟩ := b2 q
    obtain ⟨q2, q3⟩ := b2 q
    have z := glo_of c X G q1
    have hC : mg C = some (.ref Ca) := hC
    have z : mg C = some (.ref (He.ga K C)) := z
    rw [z] at hC
    cases hC
    exact ⟨cls_of c q2, noat_of c q3⟩
  · obtain ⟨q1, q2⟩ := b2 (List.all_eq_true.mp e1 f hf)
    exact ⟨_, glo_of c X G q1, fnB_ok c X G hd q2⟩
  · obtain ⟨q1, q⟩ := b2 (List.all_eq_true.mp e2 p hp)
    obtain ⟨q2, q⟩ := b2 q
    obtain ⟨q3, q4⟩ := b2 q
    exact ⟨_, _, glo_of c X G q1, cls_of c q2, meth_of c q3, fnB_ok c X G hd q4⟩
  · obtain ⟨q1, q⟩ := b2 (List.all_eq_true.mp e3 C hC)
    obtain ⟨q2, q3⟩ := b2 q
    exact ⟨_, _, glo_of c X G q1, mkr_of c q2, fnB_ok c X G hd q3⟩
/-- the promise of the law's def, over every base -/
theorem law_fn (c : He.SaysD fa fn K) (X : K.In h) (G : h.Ns mainGlobals mg) {fd : Fd} (hf : T.P.fd "law" = some fd) (hl : hasGlo fa "law" = true) (e : fnB T fa fn "law" ("law", none) = true) (e0 : tbB0 T fa = true) (e1 : tbG T fa fn = true) (e2 : tbM T fa fn = true) (e3 : tbI T fa fn = true)
    {f : Addr} (hm : mg "law" = some (.ref f)) (n j : Nat) (b : Heap) (L : ∀ g ∈ T.lams, ∃ c a q, TabL K g c a q ∧ LamX.TabB b mg c a) : FnE ⟨P, w, K, mg⟩ b (4 * j) fd (rawF T.P n j "law") f := by
  have z := glo_of c X G hl
  rw [hm] at z
  cases z
  exact (levels (n := n) (tb_ok c X G e0 e1 e2 e3) L j).1 "law" fd _ hf (fnB_ok (p := ("law", none)) c X G hf e)
/-! ### tables of code objects -/
def nodA : List Addr → Bool
  | [] => true
  | a :: r => !r.contains a && nodA r
theorem nodA_ok : ∀ {l : List Addr}, nodA l = true → l.Nodup
  | [], _ => .nil
  | x :: r, h => by
    obtain ⟨h1, h2⟩ := b2 (show (!r.contains x && nodA r) = true from h)
    refine List.nodup_cons.mpr ⟨fun hm => ?_, nodA_ok h2⟩
    rw [List.contains_iff_mem.mpr hm] at h1
    cases h1
/-- the tables of the defs gs -/
def tabsOf (gs : List (Str × Option Str)) (K : PySem.W.Frag) : List Addr := gs.map fun g => (He.cT K g).2
def gsB (fn : List He.DefD) (gs : List (Str × Option Str)) : Bool := gs.all fun g => (fn.find? fun d => isAt d.at_ g).isSome
theorem tabs_at {ts : List He.Tab} {tf : List He.Defn} {ex : PySem.W.Frag → Bool} (c : He.SaysX fa fn ts tf ex w h K) : ∀ {gs : List (Str × Option Str)}, (∀ g ∈ gs, g ∈ tf) → gsB fn gs = true → Rl (TabAt K h) gs (tabsOf gs K)
  | [], _, _ => .nil
  | g :: gs, hm, hb => by
    obtain ⟨h1, h2⟩ := b2 (show ((fn.find? fun d => isAt d.at_ g).isSome && gsB fn gs) = true from hb)
    have hg := hm g (List.mem_cons_self ..)
    refine .cons ⟨?_, c.empty g hg, c.out g hg⟩ (tabs_at c (fun x hx => hm x (List.mem_cons_of_mem _ hx)) h2)
    cases q : fn.find? fun d => isAt d.at_ g with
    | none => rw [q] at h1; cases h1
    | some d =>
      have ea : d.at_ = g := isAt_ok (by have z := List.find?_some q; exact z)
      obtain ⟨dat, F⟩ := c.t.d.defs (List.mem_of_find?_eq_some q)
      rw [ea] at F
      obtain ⟨oc, od, dV, kV, doc, pm, an, cdv, ct, osl, rfl, lk, hcd, _, _⟩ := F.ex
      obtain ⟨cc, rfl⟩ := He.codeIn_ref hcd
      have e := He.codeOf_eq lk rfl
      refine ⟨cc, d.qual, oc, od, _, osl, lk, rfl, rfl, ?_⟩
      have := c.hd g hg
      show PySem.W.codeHdIn K cc (He.tabOf K (He.codeOf K g)) = true
      rw [← e]
      exact this
end
end Mi

end
section
set_option Elab.async false
set_option linter.all false
set_option maxRecDepth 100000
set_option maxHeartbeats 0
namespace K85
open PySem PySem.Spec PyProof.Rows L2 Mi
def f_shown_value : Fd := ⟨"shown_value", ["value"], ["value"], [], (.cons (.ret (.ife (.bi (.isi "str") (.v 0)) (.v 0) (.fs (.cons (.c (.str "?")) (.cons (.fv (.v 0)) .nil))))) .nil)⟩
def f_shown_term : Fd := ⟨"shown_term", ["term"], ["term"], [], (.cons (.ret (.ife (.cmp .eq (.ix (.v 0) (.c (.int 0))) (.c (.str "is"))) (.fs (.cons (.c (.str "=")) (.cons (.fv (.ix (.v 0) (.c (.int 1)))) .nil))) (.ix (.v 0) (.c (.int 1))))) .nil)⟩
def f_shown_fact : Fd := ⟨"shown_fact", ["fact"], ["fact", "value"], [], (.cons (.ret (.bm .join (.c (.str " ")) (.cons (.bin .add (.lst (.cons (.ix (.v 0) (.c (.int 0))) .nil)) (.lc (.call "shown_value" (.cons (.v 1) .nil)) (.nm 1) (.seq (.ix (.v 0) (.c (.int 1)))) false (.c .non) [1])) .nil))) .nil)⟩
def f_shown_atom : Fd := ⟨"shown_atom", ["atom"], ["atom", "term"], [], (.cons (.ret (.bm .join (.c (.str " ")) (.cons (.bin .add (.lst (.cons (.ix (.v 0) (.c (.int 0))) .nil)) (.lc (.call "shown_term" (.cons (.v 1) .nil)) (.nm 1) (.seq (.ix (.v 0) (.c (.int 1)))) false (.c .non) [1])) .nil))) .nil)⟩
def f_shown_atoms : Fd := ⟨"shown_atoms", ["atoms"], ["atoms", "atom"], [], (.cons (.ret (.bm .join (.fs (.cons (.c (.str " ")) (.cons (.fv (.g "JOINED")) (.cons (.c (.str " ")) .nil)))) (.cons (.lc (.call "shown_atom" (.cons (.v 1) .nil)) (.nm 1) (.seq (.v 0)) false (.c .non) [1]) .nil))) .nil)⟩
def f_shown_saying : Fd := ⟨"shown_saying", ["saying"], ["saying"], [], (.cons (.ifs (.cmp .eq (.ix (.v 0) (.c (.int 0))) (.c (.str "rows"))) (.cons (.ret (.bm .join (.c (.str " ")) (.cons (.lst (.cons (.call "shown_atoms" (.cons (.ix (.v 0) (.c (.int 1))) .nil)) (.cons (.g "LEADS") (.cons (.call "shown_atoms" (.cons (.ix (.v 0) (.c (.int 2))) .nil)) .nil)))) .nil))) .nil) .nil) (.cons (.ret (.bm .join (.c (.str " ")) (.cons (.lst (.cons (.call "shown_atoms" (.cons (.ix (.v 0) (.c (.int 1))) .nil)) (.cons (.g "ALIKE") (.cons (.ix (.v 0) (.c (.int 2))) (.cons (.ix (.v 0) (.c (.int 3))) .nil))))) .nil))) .nil))⟩
def f_shown_world : Fd := ⟨"shown_world", ["world"], ["world", "fact"], [], (.cons (.ret (.bm .join (.c (.str "\n")) (.cons (.lc (.call "shown_fact" (.cons (.v 1) .nil)) (.nm 1) (.seq (.v 0)) false (.c .non) [1]) .nil))) .nil)⟩
def f_shown_sayings : Fd := ⟨"shown_sayings", ["sayings"], ["sayings", "saying"], [], (.cons (.ret (.bm .join (.c (.str "\n")) (.cons (.lc (.call "shown_saying" (.cons (.v 1) .nil)) (.nm 1) (.seq (.v 0)) false (.c .non) [1]) .nil))) .nil)⟩
def f_is_word : Fd := ⟨"is_word", ["thing"], ["thing", "sign"], [], (.cons (.ifs (.or (.nt (.bi (.isi "str") (.v 0))) (.nt (.chn .le .le (.c (.int 1)) (.bi .len (.v 0)) (.g "LONGEST")))) (.cons (.ret (.c (.bl false))) .nil) .nil) (.cons (.ret (.bi .all (.lc (.cmp .inn (.v 1) (.g "LETTERS")) (.nm 1) (.seq (.v 0)) false (.c .non) [1]))) .nil))⟩
def f_value_key : Fd := ⟨"value_key", ["value"], ["value"], [], (.cons (.ret (.ife (.bi (.isi "str") (.v 0)) (.tup (.cons (.c (.int 1)) (.cons (.v 0) .nil))) (.tup (.cons (.c (.int 0)) (.cons (.v 0) .nil))))) .nil)⟩
def f_values_key : Fd := ⟨"values_key", ["values"], ["values", "part"], [], (.cons (.ret (.bi .tuple (.lc (.call "value_key" (.cons (.v 1) .nil)) (.nm 1) (.seq (.v 0)) false (.c .non) [1]))) .nil)⟩
def f_fact_key : Fd := ⟨"fact_key", ["fact"], ["fact"], [], (.cons (.ret (.tup (.cons (.ix (.v 0) (.c (.int 0))) (.cons (.call "values_key" (.cons (.ix (.v 0) (.c (.int 1))) .nil)) .nil)))) .nil)⟩
def f_world_of : Fd := ⟨"world_of", ["facts"], ["facts", "found", "fact"], [], (.cons (.asg (.nm 1) (.dic .nil .nil)) (.cons (.for_ (.nm 2) (.seq (.v 0)) (.cons (.ex (.bm .setdefault (.v 1) (.cons (.v 2) (.cons (.c (.bl true)) .nil)))) .nil)) (.cons (.ret (.bi .tuple (.srt (.v 1) "fact_key"))) .nil)))⟩
def f_figures_in : Fd := ⟨"figures_in", ["word"], ["word", "sign"], [], (.cons (.ifs (.or (.nt (.chn .le .le (.c (.int 1)) (.bi .len (.v 0)) (.g "MOST_FIGURES"))) (.nt (.bi .all (.lc (.cmp .inn (.v 1) (.g "FIGURES")) (.nm 1) (.seq (.v 0)) false (.c .non) [1])))) (.cons (.ret (.c .non)) .nil) .nil) (.cons (.ret (.ife (.or (.cmp .eq (.v 0) (.c (.str "0"))) (.cmp .ne (.ix (.v 0) (.c (.int 0))) (.c (.str "0")))) (.bi .int (.v 0)) (.c .non))) .nil))⟩
def f_value_in : Fd := ⟨"value_in", ["word"], ["word"], [], (.cons (.ifs (.cmp .eq (.sl (.v 0) false (.c .non) true (.c (.int 1))) (.c (.str "?"))) (.cons (.ret (.call "figures_in" (.cons (.sl (.v 0) true (.c (.int 1)) false (.c .non)) .nil))) .nil) .nil) (.cons (.ret (.ife (.call "is_word" (.cons (.v 0) .nil)) (.v 0) (.c .non))) .nil))⟩
def f_term_in : Fd := ⟨"term_in", ["word"], ["word"], [], (.cons (.ifs (.cmp .eq (.sl (.v 0) false (.c .non) true (.c (.int 1))) (.c (.str "="))) (.cons (.ret (.ife (.call "is_word" (.cons (.sl (.v 0) true (.c (.int 1)) false (.c .non)) .nil)) (.tup (.cons (.c (.str "is")) (.cons (.sl (.v 0) true (.c (.int 1)) false (.c .non)) .nil))) (.c .non))) .nil) .nil) (.cons (.ret (.ife (.call "is_word" (.cons (.v 0) .nil)) (.tup (.cons (.c (.str "any")) (.cons (.v 0) .nil))) (.c .non))) .nil))⟩
def f_Trail_initU : Fd := ⟨"Trail.__init__", ["self", "line", "text"], ["self", "line", "text"], [], (.cons (.asgF (.v 0) "line_at" (.v 1)) (.cons (.asgF (.v 0) "words_left" (.gl (.bm .split (.v 2) (.cons (.c (.str " ")) .nil)))) (.cons (.asgF (.v 0) "gone_by" (.c (.int 0))) .nil)))⟩
def f_Trail_refuse : Fd := ⟨"Trail.refuse", ["self", "back"], ["self", "back"], [(.int 0)], (.cons (.rais "NoText" (.cons (.fld (.v 0) "line_at") (.cons (.bin .sub (.fld (.v 0) "gone_by") (.v 1)) .nil))) .nil)⟩
def f_Trail_is_over : Fd := ⟨"Trail.is_over", ["self"], ["self"], [], (.cons (.ret (.cmp .eq (.fld (.v 0) "words_left") (.lst .nil))) .nil)⟩
def f_Trail_next_word : Fd := ⟨"Trail.next_word", ["self"], ["self"], [], (.cons (.ifs (.meth "Trail" "is_over" (.v 0) .nil) (.cons (.ex (.meth "Trail" "refuse" (.v 0) .nil)) .nil) .nil) (.cons (.augF (.v 0) "gone_by" .add (.c (.int 1))) (.cons (.ret (.bm .popAt (.fld (.v 0) "words_left") (.cons (.c (.int 0)) .nil))) .nil)))⟩
def f_Trail_claim : Fd := ⟨"Trail.claim", ["self", "thing"], ["self", "thing"], [], (.cons (.ifs (.cmp .isN (.v 1) (.c .non)) (.cons (.ex (.methk "Trail" "refuse" (.v 0) .nil ["back"] (.cons (.c (.int 1)) .nil))) .nil) .nil) (.cons (.ret (.v 1)) .nil))⟩
def f_Trail_table : Fd := ⟨"Trail.table", ["self"], ["self", "word"], [], (.cons (.asg (.nm 1) (.meth "Trail" "next_word" (.v 0) .nil)) (.cons (.ret (.meth "Trail" "claim" (.v 0) (.cons (.ife (.call "is_word" (.cons (.v 1) .nil)) (.v 1) (.c .non)) .nil))) .nil))⟩
def f_fact_from : Fd := ⟨"fact_from", ["trail"], ["trail", "table", "found"], [], (.cons (.asg (.nm 1) (.meth "Trail" "table" (.v 0) .nil)) (.cons (.asg (.nm 2) (.lst (.cons (.meth "Trail" "claim" (.v 0) (.cons (.call "value_in" (.cons (.meth "Trail" "next_word" (.v 0) .nil) .nil)) .nil)) .nil))) (.cons (.whl (.nt (.meth "Trail" "is_over" (.v 0) .nil)) (.cons (.ex (.bm .append (.v 2) (.cons (.meth "Trail" "claim" (.v 0) (.cons (.call "value_in" (.cons (.meth "Trail" "next_word" (.v 0) .nil) .nil)) .nil)) .nil))) .nil)) (.cons (.ret (.tup (.cons (.v 1) (.cons (.bi .tuple (.v 2)) .nil)))) .nil))))⟩
def f_atom_from : Fd := ⟨"atom_from", ["trail", "signs"], ["trail", "signs", "table", "found", "word"], [], (.cons (.asg (.nm 2) (.meth "Trail" "table" (.v 0) .nil)) (.cons (.asg (.nm 3) (.lst (.cons (.meth "Trail" "claim" (.v 0) (.cons (.call "term_in" (.cons (.meth "Trail" "next_word" (.v 0) .nil) .nil)) .nil)) .nil))) (.cons (.whl (.nt (.meth "Trail" "is_over" (.v 0) .nil)) (.cons (.asg (.nm 4) (.meth "Trail" "next_word" (.v 0) .nil)) (.cons (.ifs (.cmp .inn (.v 4) (.v 1)) (.cons (.ret (.tup (.cons (.tup (.cons (.v 2) (.cons (.bi .tuple (.v 3)) .nil))) (.cons (.v 4) .nil)))) .nil) .nil) (.cons (.ex (.bm .append (.v 3) (.cons (.meth "Trail" "claim" (.v 0) (.cons (.call "term_in" (.cons (.v 4) .nil)) .nil)) .nil))) .nil)))) (.cons (.ret (.tup (.cons (.tup (.cons (.v 2) (.cons (.bi .tuple (.v 3)) .nil))) (.cons (.c .non) .nil)))) .nil))))⟩
def f_atoms_from : Fd := ⟨"atoms_from", ["trail", "ends"], ["trail", "ends", "atom", "sign", "found"], [], (.cons (.asg (.tp (.cons (.nm 2) (.cons (.nm 3) .nil))) (.call "atom_from" (.cons (.v 0) (.cons (.bin .add (.tup (.cons (.g "JOINED") .nil)) (.v 1)) .nil)))) (.cons (.asg (.nm 4) (.lst (.cons (.v 2) .nil))) (.cons (.whl (.cmp .eq (.v 3) (.g "JOINED")) (.cons (.asg (.tp (.cons (.nm 2) (.cons (.nm 3) .nil))) (.call "atom_from" (.cons (.v 0) (.cons (.bin .add (.tup (.cons (.g "JOINED") .nil)) (.v 1)) .nil)))) (.cons (.ex (.bm .append (.v 4) (.cons (.v 2) .nil))) .nil))) (.cons (.ret (.tup (.cons (.bi .tuple (.v 4)) (.cons (.v 3) .nil)))) .nil))))⟩
def f_variable_from : Fd := ⟨"variable_from", ["trail", "body", "other"], ["trail", "body", "other", "word"], [], (.cons (.asg (.nm 3) (.meth "Trail" "next_word" (.v 0) .nil)) (.cons (.ret (.meth "Trail" "claim" (.v 0) (.cons (.ife (.and (.cmp .inn (.v 3) (.call "in_body" (.cons (.v 1) .nil))) (.cmp .ne (.v 3) (.v 2))) (.v 3) (.c .non)) .nil))) .nil))⟩
def f_in_body : Fd := ⟨"in_body", ["body"], ["body", "found", "table", "terms", "kind", "word"], [], (.cons (.asg (.nm 1) (.lst .nil)) (.cons (.for_ (.tp (.cons (.nm 2) (.cons (.nm 3) .nil))) (.seq (.v 0)) (.cons (.aug 1 .add (.lc (.v 5) (.tp (.cons (.nm 4) (.cons (.nm 5) .nil))) (.seq (.v 3)) true (.cmp .eq (.v 4) (.c (.str "any"))) [4, 5])) .nil)) (.cons (.ret (.v 1)) .nil)))⟩
def f_saying_from : Fd := ⟨"saying_from", ["trail"], ["trail", "body", "sign", "one", "other"], [], (.cons (.asg (.tp (.cons (.nm 1) (.cons (.nm 2) .nil))) (.call "atoms_from" (.cons (.v 0) (.cons (.tup (.cons (.g "LEADS") (.cons (.g "ALIKE") .nil))) .nil)))) (.cons (.ifs (.cmp .isN (.v 2) (.c .non)) (.cons (.ex (.meth "Trail" "refuse" (.v 0) .nil)) .nil) .nil) (.cons (.ifs (.cmp .eq (.v 2) (.g "LEADS")) (.cons (.ret (.tup (.cons (.c (.str "rows")) (.cons (.v 1) (.cons (.ix (.call "atoms_from" (.cons (.v 0) (.cons (.tup .nil) .nil))) (.c (.int 0))) .nil))))) .nil) .nil) (.cons (.asg (.nm 3) (.call "variable_from" (.cons (.v 0) (.cons (.v 1) (.cons (.c (.str "")) .nil))))) (.cons (.asg (.nm 4) (.call "variable_from" (.cons (.v 0) (.cons (.v 1) (.cons (.v 3) .nil))))) (.cons (.ifs (.nt (.meth "Trail" "is_over" (.v 0) .nil)) (.cons (.ex (.meth "Trail" "refuse" (.v 0) .nil)) .nil) .nil) (.cons (.ret (.tup (.cons (.c (.str "same")) (.cons (.v 1) (.cons (.v 3) (.cons (.v 4) .nil)))))) .nil)))))))⟩
def f_read_fact : Fd := ⟨"read_fact", ["text", "line"], ["text", "line"], [(.int 0)], (.cons (.ret (.call "fact_from" (.cons (.mk "Trail" (.cons (.v 1) (.cons (.v 0) .nil))) .nil))) .nil)⟩
def f_read_saying : Fd := ⟨"read_saying", ["text", "line"], ["text", "line"], [(.int 0)], (.cons (.ret (.call "saying_from" (.cons (.mk "Trail" (.cons (.v 1) (.cons (.v 0) .nil))) .nil))) .nil)⟩
def f_read_world : Fd := ⟨"read_world", ["text"], ["text", "at", "row"], [], (.cons (.ret (.call "world_of" (.cons (.bi .tuple (.lc (.callk "read_fact" (.cons (.v 2) .nil) ["line"] (.cons (.v 1) .nil)) (.tp (.cons (.nm 1) (.cons (.nm 2) .nil))) (.enum (.bm .lines (.v 0) .nil)) false (.c .non) [1, 2])) .nil))) .nil)⟩
def f_read_sayings : Fd := ⟨"read_sayings", ["text"], ["text", "at", "row"], [], (.cons (.ret (.bi .tuple (.lc (.callk "read_saying" (.cons (.v 2) .nil) ["line"] (.cons (.v 1) .nil)) (.tp (.cons (.nm 1) (.cons (.nm 2) .nil))) (.enum (.bm .lines (.v 0) .nil)) false (.c .non) [1, 2]))) .nil)⟩
def f_law_tape : Fd := ⟨"_law_tape", ["_law_script"], ["_law_script"], [], (.cons (.ret (.gl (.dic (.cons (.c (.str "cells")) (.cons (.c (.str "at")) (.cons (.c (.str "left")) (.cons (.c (.str "turn")) .nil)))) (.cons (.sl (.v 0) false (.c .non) true (.c (.int 63))) (.cons (.c (.int 0)) (.cons (.c (.int 0)) (.cons (.c (.int 0)) .nil))))))) .nil)⟩
def f_law_draw : Fd := ⟨"_law_draw", ["_law_tape_here", "_law_many"], ["_law_tape_here", "_law_many", "_law_found", "_law_at", "_law_cells", "_law_cell", "_law_turn", "_law_mixed"], [], (.cons (.asgI (.v 0) (.c (.str "turn")) (.bin .add (.ix (.v 0) (.c (.str "turn"))) (.c (.int 1)))) (.cons (.ifs (.cmp .gt (.ix (.v 0) (.c (.str "left"))) (.c (.int 0))) (.cons (.asg (.nm 2) (.bin .mod (.ix (.v 0) (.c (.str "left"))) (.v 1))) (.cons (.asgI (.v 0) (.c (.str "left")) (.bin .fdiv (.ix (.v 0) (.c (.str "left"))) (.v 1))) (.cons (.ret (.v 2)) .nil))) .nil) (.cons (.asg (.nm 3) (.ix (.v 0) (.c (.str "at")))) (.cons (.asgI (.v 0) (.c (.str "at")) (.bin .add (.v 3) (.c (.int 1)))) (.cons (.asg (.nm 4) (.ix (.v 0) (.c (.str "cells")))) (.cons (.asg (.nm 5) (.ife (.cmp .ne (.v 4) (.lst .nil)) (.ix (.v 4) (.bin .mod (.v 3) (.bi .len (.v 4)))) (.c (.int 5)))) (.cons (.ifs (.and (.cmp .ge (.v 5) (.bin .pow (.c (.int 10)) (.c (.int 18)))) (.cmp .lt (.v 3) (.bi .len (.v 4)))) (.cons (.asgI (.v 0) (.c (.str "left")) (.bin .fdiv (.v 5) (.v 1))) (.cons (.ret (.bin .mod (.v 5) (.v 1))) .nil)) .nil) (.cons (.asg (.nm 6) (.ix (.v 0) (.c (.str "turn")))) (.cons (.asg (.nm 7) (.bin .mod (.bin .mul (.bin .add (.bin .mod (.v 5) (.c (.int 1999999943))) (.c (.int 7))) (.bin .add (.bin .mul (.bin .mul (.v 6) (.v 6)) (.c (.int 31))) (.c (.int 40014)))) (.c (.int 2147483563)))) (.cons (.asg (.nm 7) (.bin .mod (.bin .add (.bin .mul (.v 7) (.v 7)) (.bin .mul (.c (.int 104729)) (.v 6))) (.c (.int 2147483399)))) (.cons (.ret (.bin .mod (.bin .fdiv (.bin .mod (.bin .mul (.v 7) (.c (.int 16807))) (.c (.int 2147483647))) (.c (.int 32))) (.v 1))) .nil)))))))))))⟩
def f_law_number : Fd := ⟨"_law_number", ["_law_tape_here"], ["_law_tape_here"], [], (.cons (.ifs (.cmp .gt (.call "_law_draw" (.cons (.v 0) (.cons (.c (.int 4)) .nil))) (.c (.int 0))) (.cons (.ret (.call "_law_draw" (.cons (.v 0) (.cons (.c (.int 12)) .nil)))) .nil) .nil) (.cons (.ret (.bin .add (.bin .mul (.call "_law_draw" (.cons (.v 0) (.cons (.bin .pow (.c (.int 10)) (.c (.int 6))) .nil))) (.bin .pow (.c (.int 10)) (.c (.int 6)))) (.call "_law_draw" (.cons (.v 0) (.cons (.bin .pow (.c (.int 10)) (.c (.int 6))) .nil))))) .nil))⟩
def f_law_word : Fd := ⟨"_law_word", ["_law_tape_here"], ["_law_tape_here", "_law_letters", "_law_some", "_law_k"], [], (.cons (.asg (.nm 1) (.c (.str "abcdefghijklmnopqrstuvwxyz"))) (.cons (.asg (.nm 2) (.bm .join (.c (.str "")) (.cons (.lc (.ix (.v 1) (.call "_law_draw" (.cons (.v 0) (.cons (.c (.int 26)) .nil)))) (.nm 3) (.rng (.bin .add (.c (.int 1)) (.call "_law_draw" (.cons (.v 0) (.cons (.c (.int 8)) .nil))))) false (.c .non) [3]) .nil))) (.cons (.ret (.ix (.bin .add (.lst (.cons (.c (.str "a")) (.cons (.c (.str "aa")) (.cons (.c (.str "x")) (.cons (.c (.str "y")) .nil))))) (.bin .mul (.lst (.cons (.v 2) .nil)) (.c (.int 8)))) (.call "_law_draw" (.cons (.v 0) (.cons (.c (.int 12)) .nil))))) .nil)))⟩
def f_law_fact_drawn : Fd := ⟨"_law_fact_drawn", ["_law_tape_here"], ["_law_tape_here", "_law_values", "_law_k"], [], (.cons (.asg (.nm 1) (.lst .nil)) (.cons (.for_ (.nm 2) (.rng (.bin .add (.c (.int 1)) (.call "_law_draw" (.cons (.v 0) (.cons (.c (.int 4)) .nil))))) (.cons (.ex (.bm .append (.v 1) (.cons (.ife (.cmp .eq (.call "_law_draw" (.cons (.v 0) (.cons (.c (.int 2)) .nil))) (.c (.int 0))) (.call "_law_word" (.cons (.v 0) .nil)) (.call "_law_number" (.cons (.v 0) .nil))) .nil))) .nil)) (.cons (.ret (.tup (.cons (.call "_law_word" (.cons (.v 0) .nil)) (.cons (.bi .tuple (.v 1)) .nil)))) .nil)))⟩
def f_law_key : Fd := ⟨"_law_key", ["_law_value"], ["_law_value"], [], (.cons (.ret (.tup (.cons (.bi .int (.bi (.isi "str") (.v 0))) (.cons (.v 0) .nil)))) .nil)⟩
def f_law_world_drawn : Fd := ⟨"_law_world_drawn", ["_law_tape_here"], ["_law_tape_here", "_law_found", "_law_k"], [], (.cons (.asg (.nm 1) (.bi .dict (.lc (.tup (.cons (.call "_law_fact_drawn" (.cons (.v 0) .nil)) (.cons (.c (.bl true)) .nil))) (.nm 2) (.rng (.call "_law_draw" (.cons (.v 0) (.cons (.c (.int 5)) .nil)))) false (.c .non) [2]))) (.cons (.ret (.bi .tuple (.srl (.bi .list (.v 1)) 0 ("_law_world_drawn", none) ["_law_fact_here", "_law_value"] (.tup (.cons (.ix (.v 0) (.c (.int 0))) (.cons (.lc (.call "_law_key" (.cons (.v 1) .nil)) (.nm 1) (.seq (.ix (.v 0) (.c (.int 1)))) false (.c .non) [1]) .nil)))))) .nil))⟩
def f_law_known : Fd := ⟨"_law_known", ["_law_atoms"], ["_law_atoms", "_law_found", "_law_table", "_law_terms", "_law_kind", "_law_word_here"], [], (.cons (.asg (.nm 1) (.dic .nil .nil)) (.cons (.for_ (.tp (.cons (.nm 2) (.cons (.nm 3) .nil))) (.seq (.v 0)) (.cons (.ex (.bm .update (.v 1) (.cons (.bi .dict (.lc (.tup (.cons (.v 5) (.cons (.c (.bl true)) .nil))) (.tp (.cons (.nm 4) (.cons (.nm 5) .nil))) (.seq (.v 3)) true (.cmp .eq (.v 4) (.c (.str "any"))) [4, 5])) .nil))) .nil)) (.cons (.ret (.gl (.bi .sorted (.v 1)))) .nil)))⟩
def f_law_atoms_drawn : Fd := ⟨"_law_atoms_drawn", ["_law_tape_here"], ["_law_tape_here", "_law_found", "_law_k", "_law_terms", "_law_j"], [], (.cons (.asg (.nm 1) (.lst .nil)) (.cons (.for_ (.nm 2) (.rng (.bin .add (.c (.int 1)) (.call "_law_draw" (.cons (.v 0) (.cons (.c (.int 3)) .nil))))) (.cons (.asg (.nm 3) (.lst .nil)) (.cons (.for_ (.nm 4) (.rng (.bin .add (.c (.int 1)) (.call "_law_draw" (.cons (.v 0) (.cons (.c (.int 3)) .nil))))) (.cons (.ex (.bm .append (.v 3) (.cons (.tup (.cons (.ix (.lst (.cons (.c (.str "is")) (.cons (.c (.str "any")) (.cons (.c (.str "any")) .nil)))) (.call "_law_draw" (.cons (.v 0) (.cons (.c (.int 3)) .nil)))) (.cons (.call "_law_word" (.cons (.v 0) .nil)) .nil))) .nil))) .nil)) (.cons (.ex (.bm .append (.v 1) (.cons (.tup (.cons (.call "_law_word" (.cons (.v 0) .nil)) (.cons (.bi .tuple (.v 3)) .nil))) .nil))) .nil)))) (.cons (.ret (.bi .tuple (.v 1))) .nil)))⟩
def f_law_saying_drawn : Fd := ⟨"_law_saying_drawn", ["_law_tape_here"], ["_law_tape_here", "_law_body", "_law_known_here", "_law_one"], [], (.cons (.asg (.nm 1) (.call "_law_atoms_drawn" (.cons (.v 0) .nil))) (.cons (.asg (.nm 2) (.call "_law_known" (.cons (.v 1) .nil))) (.cons (.ifs (.and (.cmp .gt (.bi .len (.v 2)) (.c (.int 1))) (.cmp .eq (.call "_law_draw" (.cons (.v 0) (.cons (.c (.int 2)) .nil))) (.c (.int 0)))) (.cons (.asg (.nm 3) (.bm .popAt (.v 2) (.cons (.call "_law_draw" (.cons (.v 0) (.cons (.bi .len (.v 2)) .nil))) .nil))) (.cons (.ret (.tup (.cons (.c (.str "same")) (.cons (.v 1) (.cons (.v 3) (.cons (.ix (.v 2) (.call "_law_draw" (.cons (.v 0) (.cons (.bi .len (.v 2)) .nil)))) .nil)))))) .nil)) .nil) (.cons (.ret (.tup (.cons (.c (.str "rows")) (.cons (.v 1) (.cons (.call "_law_atoms_drawn" (.cons (.v 0) .nil)) .nil))))) .nil))))⟩
def f_law_thing : Fd := ⟨"_law_thing", ["_law_tape_here", "_law_sort"], ["_law_tape_here", "_law_sort", "_law_k"], [], (.cons (.ifs (.cmp .eq (.v 1) (.c (.str "fact"))) (.cons (.ret (.call "_law_fact_drawn" (.cons (.v 0) .nil))) .nil) .nil) (.cons (.ifs (.cmp .eq (.v 1) (.c (.str "world"))) (.cons (.ret (.call "_law_world_drawn" (.cons (.v 0) .nil))) .nil) .nil) (.cons (.ifs (.cmp .eq (.v 1) (.c (.str "saying"))) (.cons (.ret (.call "_law_saying_drawn" (.cons (.v 0) .nil))) .nil) .nil) (.cons (.ret (.bi .tuple (.lc (.call "_law_saying_drawn" (.cons (.v 0) .nil)) (.nm 2) (.rng (.call "_law_draw" (.cons (.v 0) (.cons (.c (.int 4)) .nil)))) false (.c .non) [2]))) .nil))))⟩
def f_law_fact_text : Fd := ⟨"_law_fact_text", ["_law_fact_here"], ["_law_fact_here", "_law_words", "_law_value"], [], (.cons (.asg (.nm 1) (.lst (.cons (.ix (.v 0) (.c (.int 0))) .nil))) (.cons (.for_ (.nm 2) (.seq (.ix (.v 0) (.c (.int 1)))) (.cons (.ex (.bm .append (.v 1) (.cons (.ife (.bi (.isi "str") (.v 2)) (.v 2) (.bin .add (.c (.str "?")) (.bi .str (.v 2)))) .nil))) .nil)) (.cons (.ret (.bm .join (.c (.str " ")) (.cons (.v 1) .nil))) .nil)))⟩
def f_law_atoms_text : Fd := ⟨"_law_atoms_text", ["_law_atoms"], ["_law_atoms", "_law_found", "_law_table", "_law_terms", "_law_kind", "_law_word_here"], [], (.cons (.asg (.nm 1) (.lst .nil)) (.cons (.for_ (.tp (.cons (.nm 2) (.cons (.nm 3) .nil))) (.seq (.v 0)) (.cons (.ex (.bm .append (.v 1) (.cons (.bm .join (.c (.str " ")) (.cons (.bin .add (.lst (.cons (.v 2) .nil)) (.lc (.bin .add (.ife (.cmp .eq (.v 4) (.c (.str "is"))) (.c (.str "=")) (.c (.str ""))) (.v 5)) (.tp (.cons (.nm 4) (.cons (.nm 5) .nil))) (.seq (.v 3)) false (.c .non) [4, 5])) .nil)) .nil))) .nil)) (.cons (.ret (.bm .join (.c (.str " & ")) (.cons (.v 1) .nil))) .nil)))⟩
def f_law_saying_text : Fd := ⟨"_law_saying_text", ["_law_saying_here"], ["_law_saying_here"], [], (.cons (.ifs (.cmp .eq (.ix (.v 0) (.c (.int 0))) (.c (.str "rows"))) (.cons (.ret (.bin .add (.bin .add (.call "_law_atoms_text" (.cons (.ix (.v 0) (.c (.int 1))) .nil)) (.c (.str " => "))) (.call "_law_atoms_text" (.cons (.ix (.v 0) (.c (.int 2))) .nil)))) .nil) .nil) (.cons (.ret (.bin .add (.bin .add (.bin .add (.bin .add (.call "_law_atoms_text" (.cons (.ix (.v 0) (.c (.int 1))) .nil)) (.c (.str " ~ "))) (.ix (.v 0) (.c (.int 2)))) (.c (.str " "))) (.ix (.v 0) (.c (.int 3))))) .nil))⟩
def f_law_text : Fd := ⟨"_law_text", ["_law_sort", "_law_thing_here"], ["_law_sort", "_law_thing_here", "_law_one"], [], (.cons (.ifs (.cmp .eq (.v 0) (.c (.str "fact"))) (.cons (.ret (.call "_law_fact_text" (.cons (.v 1) .nil))) .nil) .nil) (.cons (.ifs (.cmp .eq (.v 0) (.c (.str "saying"))) (.cons (.ret (.call "_law_saying_text" (.cons (.v 1) .nil))) .nil) .nil) (.cons (.ret (.bm .join (.c (.str "\n")) (.cons (.lc (.ife (.cmp .eq (.v 0) (.c (.str "world"))) (.call "_law_fact_text" (.cons (.v 2) .nil)) (.call "_law_saying_text" (.cons (.v 2) .nil))) (.nm 2) (.seq (.v 1)) false (.c .non) [2]) .nil))) .nil)))⟩
def f_law_shown : Fd := ⟨"_law_shown", ["_law_sort", "_law_thing_here", "_law_by_name"], ["_law_sort", "_law_thing_here", "_law_by_name"], [], (.cons (.ifs (.cmp .eq (.v 0) (.c (.str "fact"))) (.cons (.ret (.ife (.v 2) (.callk "shown_fact" .nil ["fact"] (.cons (.v 1) .nil)) (.call "shown_fact" (.cons (.v 1) .nil)))) .nil) .nil) (.cons (.ifs (.cmp .eq (.v 0) (.c (.str "world"))) (.cons (.ret (.ife (.v 2) (.callk "shown_world" .nil ["world"] (.cons (.v 1) .nil)) (.call "shown_world" (.cons (.v 1) .nil)))) .nil) .nil) (.cons (.ifs (.cmp .eq (.v 0) (.c (.str "saying"))) (.cons (.ret (.ife (.v 2) (.callk "shown_saying" .nil ["saying"] (.cons (.v 1) .nil)) (.call "shown_saying" (.cons (.v 1) .nil)))) .nil) .nil) (.cons (.ret (.ife (.v 2) (.callk "shown_sayings" .nil ["sayings"] (.cons (.v 1) .nil)) (.call "shown_sayings" (.cons (.v 1) .nil)))) .nil))))⟩
def f_law_read : Fd := ⟨"_law_read", ["_law_sort", "_law_writ", "_law_by_name", "_law_at"], ["_law_sort", "_law_writ", "_law_by_name", "_law_at"], [], (.cons (.ifs (.cmp .eq (.v 0) (.c (.str "fact"))) (.cons (.ret (.ife (.v 2) (.callk "read_fact" .nil ["line", "text"] (.cons (.v 3) (.cons (.v 1) .nil))) (.call "read_fact" (.cons (.v 1) (.cons (.v 3) .nil))))) .nil) .nil) (.cons (.ifs (.cmp .eq (.v 0) (.c (.str "world"))) (.cons (.ret (.ife (.v 2) (.callk "read_world" .nil ["text"] (.cons (.v 1) .nil)) (.call "read_world" (.cons (.v 1) .nil)))) .nil) .nil) (.cons (.ifs (.cmp .eq (.v 0) (.c (.str "saying"))) (.cons (.ret (.ife (.v 2) (.callk "read_saying" .nil ["line", "text"] (.cons (.v 3) (.cons (.v 1) .nil))) (.call "read_saying" (.cons (.v 1) (.cons (.v 3) .nil))))) .nil) .nil) (.cons (.ret (.ife (.v 2) (.callk "read_sayings" .nil ["text"] (.cons (.v 1) .nil)) (.call "read_sayings" (.cons (.v 1) .nil)))) .nil))))⟩
def f_law : Fd := ⟨"law", ["_law_script"], ["_law_script", "_law_tape_here", "_law_k", "_law_sort", "_law_thing_here", "_law_by_name", "_law_kept", "_law_due", "_law_rows", "_law_fact_here"], [], (.cons (.asg (.nm 1) (.call "_law_tape" (.cons (.v 0) .nil))) (.cons (.for_ (.nm 2) (.rng (.c (.int 8))) (.cons (.asg (.nm 3) (.ix (.lst (.cons (.c (.str "fact")) (.cons (.c (.str "world")) (.cons (.c (.str "saying")) (.cons (.c (.str "sayings")) .nil))))) (.call "_law_draw" (.cons (.v 1) (.cons (.c (.int 4)) .nil))))) (.cons (.par 4 (.call "_law_thing" (.cons (.v 1) (.cons (.v 3) .nil))) 5 (.cmp .eq (.call "_law_draw" (.cons (.v 1) (.cons (.c (.int 2)) .nil))) (.c (.int 0)))) (.cons (.par 6 (.bi .repr (.v 4)) 7 (.call "_law_text" (.cons (.v 3) (.cons (.v 4) .nil)))) (.cons (.ifs (.or (.cmp .ne (.call "_law_shown" (.cons (.v 3) (.cons (.v 4) (.cons (.v 5) .nil)))) (.v 7)) (.cmp .ne (.bi .repr (.v 4)) (.v 6))) (.cons (.ret (.c (.bl false))) .nil) .nil) (.cons (.ifs (.cmp .ne (.bi .repr (.call "_law_read" (.cons (.v 3) (.cons (.v 7) (.cons (.v 5) (.cons (.call "_law_draw" (.cons (.v 1) (.cons (.c (.int 99)) .nil))) .nil)))))) (.v 6)) (.cons (.ret (.c (.bl false))) .nil) .nil) (.cons (.ifs (.and (.cmp .inn (.v 3) (.tup (.cons (.c (.str "world")) (.cons (.c (.str "sayings")) .nil)))) (.and (.cmp .ne (.v 4) (.tup .nil)) (.cmp .ne (.bi .repr (.call "_law_read" (.cons (.v 3) (.cons (.bin .add (.v 7) (.c (.str "\n"))) (.cons (.c (.bl false)) (.cons (.c (.int 0)) .nil)))))) (.v 6)))) (.cons (.ret (.c (.bl false))) .nil) .nil) (.cons (.ifs (.and (.cmp .eq (.v 3) (.c (.str "world"))) (.cmp .ne (.v 4) (.tup .nil))) (.cons (.asg (.nm 8) (.lc (.call "_law_fact_text" (.cons (.v 9) .nil)) (.nm 9) (.seq (.v 4)) false (.c .non) [9])) (.cons (.ifs (.cmp .ne (.bi .repr (.call "read_world" (.cons (.bm .join (.c (.str "\n")) (.cons (.bin .add (.rev (.v 8)) (.sl (.v 8) false (.c .non) true (.c (.int 1)))) .nil)) .nil))) (.v 6)) (.cons (.ret (.c (.bl false))) .nil) .nil) .nil)) .nil) .nil)))))))) (.cons (.ret (.c (.bl true))) .nil)))⟩
def fns0 : List Fd := [f_shown_value, f_shown_term, f_shown_fact, f_shown_atom, f_shown_atoms, f_shown_saying, f_shown_world, f_shown_sayings, f_is_word, f_value_key, f_values_key, f_fact_key, f_world_of, f_figures_in, f_value_in, f_term_in, f_Trail_initU, f_Trail_refuse, f_Trail_is_over, f_Trail_next_word, f_Trail_claim, f_Trail_table, f_fact_from, f_atom_from, f_atoms_from]
def fns1 : List Fd := [f_variable_from, f_in_body, f_saying_from, f_read_fact, f_read_saying, f_read_world, f_read_sayings, f_law_tape, f_law_draw, f_law_number, f_law_word, f_law_fact_drawn, f_law_key, f_law_world_drawn, f_law_known, f_law_atoms_drawn, f_law_saying_drawn, f_law_thing, f_law_fact_text, f_law_atoms_text, f_law_saying_text, f_law_text, f_law_shown, f_law_read, f_law]
def gvals : List (Str × D) := [("JOINED", (.str "&")), ("LEADS", (.str "=>")), ("ALIKE", (.str "~")), ("LETTERS", (.str "abcdefghijklmnopqrstuvwxyz")), ("LONGEST", (.int 8)), ("FIGURES", (.str "0123456789")), ("MOST_FIGURES", (.int 12))]
def gdics : List (Str × (List D × List D)) := []
def flds : List (Str × Str) := [("Trail", "line_at"), ("Trail", "words_left"), ("Trail", "gone_by")]
def prg : Prg := ⟨fns0 ++ fns1, gvals, gdics, flds⟩
def globs0 : List Str := ["shown_value", "shown_term", "shown_fact", "shown_atom", "shown_atoms", "shown_saying", "shown_world", "shown_sayings", "is_word", "value_key", "values_key", "fact_key", "world_of", "figures_in", "value_in", "term_in", "fact_from", "atom_from", "atoms_from", "variable_from", "in_body", "saying_from", "read_fact", "read_saying", "read_world"]
def globs1 : List Str := ["read_sayings", "_law_tape", "_law_draw", "_law_number", "_law_word", "_law_fact_drawn", "_law_key", "_law_world_drawn", "_law_known", "_law_atoms_drawn", "_law_saying_drawn", "_law_thing", "_law_fact_text", "_law_atoms_text", "_law_saying_text", "_law_text", "_law_shown", "_law_read", "law"]
def meths0 : List (Str × Str) := [("Trail", "refuse"), ("Trail", "is_over"), ("Trail", "next_word"), ("Trail", "claim"), ("Trail", "table")]
def lams : List (Str × Option Str) := [("_law_world_drawn", none)]
def tb : Tb := ⟨prg, ["all", "dict", "enumerate", "int", "isinstance", "len", "list", "range", "repr", "sorted", "str", "tuple"], globs0 ++ globs1, meths0, ["Trail"], lams⟩
def top (i : Nat) : Stmt := PySem.Challenge.pw_leastfill_k85_texts_shown_and_read.main.body.getD i (.Pass ⟨0, 0, 0, 0⟩)
def d_shown_value : He.DefD := ⟨("shown_value", none), "shown_value", "shown_value", defArgs (top 4), defBody (top 4), defScope (top 4), [], []⟩
def d_shown_term : He.DefD := ⟨("shown_term", none), "shown_term", "shown_term", defArgs (top 5), defBody (top 5), defScope (top 5), [], []⟩
def d_shown_fact : He.DefD := ⟨("shown_fact", none), "shown_fact", "shown_fact", defArgs (top 6), defBody (top 6), defScope (top 6), [], []⟩
def d_shown_atom : He.DefD := ⟨("shown_atom", none), "shown_atom", "shown_atom", defArgs (top 7), defBody (top 7), defScope (top 7), [], []⟩
def d_shown_atoms : He.DefD := ⟨("shown_atoms", none), "shown_atoms", "shown_atoms", defArgs (top 8), defBody (top 8), defScope (top 8), [], []⟩
def d_shown_saying : He.DefD := ⟨("shown_saying", none), "shown_saying", "shown_saying", defArgs (top 9), defBody (top 9), defScope (top 9), [], []⟩
def d_shown_world : He.DefD := ⟨("shown_world", none), "shown_world", "shown_world", defArgs (top 10), defBody (top 10), defScope (top 10), [], []⟩
def d_shown_sayings : He.DefD := ⟨("shown_sayings", none), "shown_sayings", "shown_sayings", defArgs (top 11), defBody (top 11), defScope (top 11), [], []⟩
def d_is_word : He.DefD := ⟨("is_word", none), "is_word", "is_word", defArgs (top 18), defBody (top 18), defScope (top 18), [], []⟩
def d_value_key : He.DefD := ⟨("value_key", none), "value_key", "value_key", defArgs (top 19), defBody (top 19), defScope (top 19), [], []⟩
def d_values_key : He.DefD := ⟨("values_key", none), "values_key", "values_key", defArgs (top 20), defBody (top 20), defScope (top 20), [], []⟩
def d_fact_key : He.DefD := ⟨("fact_key", none), "fact_key", "fact_key", defArgs (top 21), defBody (top 21), defScope (top 21), [], []⟩
def d_world_of : He.DefD := ⟨("world_of", none), "world_of", "world_of", defArgs (top 23), defBody (top 23), defScope (top 23), [], []⟩
def d_figures_in : He.DefD := ⟨("figures_in", none), "figures_in", "figures_in", defArgs (top 27), defBody (top 27), defScope (top 27), [], []⟩
def d_value_in : He.DefD := ⟨("value_in", none), "value_in", "value_in", defArgs (top 28), defBody (top 28), defScope (top 28), [], []⟩
def d_term_in : He.DefD := ⟨("term_in", none), "term_in", "term_in", defArgs (top 29), defBody (top 29), defScope (top 29), [], []⟩
def d_Trail_initU : He.DefD := ⟨("Trail", some "__init__"), "__init__", "Trail.__init__", defArgs (inClass (top 30) 0), defBody (inClass (top 30) 0), defScope (inClass (top 30) 0), [], []⟩
def d_Trail_refuse : He.DefD := ⟨("Trail", some "refuse"), "refuse", "Trail.refuse", defArgs (inClass (top 30) 1), defBody (inClass (top 30) 1), defScope (inClass (top 30) 1), [.int 0], []⟩
def d_Trail_is_over : He.DefD := ⟨("Trail", some "is_over"), "is_over", "Trail.is_over", defArgs (inClass (top 30) 2), defBody (inClass (top 30) 2), defScope (inClass (top 30) 2), [], []⟩
def d_Trail_next_word : He.DefD := ⟨("Trail", some "next_word"), "next_word", "Trail.next_word", defArgs (inClass (top 30) 3), defBody (inClass (top 30) 3), defScope (inClass (top 30) 3), [], []⟩
def d_Trail_claim : He.DefD := ⟨("Trail", some "claim"), "claim", "Trail.claim", defArgs (inClass (top 30) 4), defBody (inClass (top 30) 4), defScope (inClass (top 30) 4), [], []⟩
def d_Trail_table : He.DefD := ⟨("Trail", some "table"), "table", "Trail.table", defArgs (inClass (top 30) 5), defBody (inClass (top 30) 5), defScope (inClass (top 30) 5), [], []⟩
def d_fact_from : He.DefD := ⟨("fact_from", none), "fact_from", "fact_from", defArgs (top 31), defBody (top 31), defScope (top 31), [], []⟩
def d_atom_from : He.DefD := ⟨("atom_from", none), "atom_from", "atom_from", defArgs (top 32), defBody (top 32), defScope (top 32), [], []⟩
def d_atoms_from : He.DefD := ⟨("atoms_from", none), "atoms_from", "atoms_from", defArgs (top 33), defBody (top 33), defScope (top 33), [], []⟩
def d_variable_from : He.DefD := ⟨("variable_from", none), "variable_from", "variable_from", defArgs (top 34), defBody (top 34), defScope (top 34), [], []⟩
def d_in_body : He.DefD := ⟨("in_body", none), "in_body", "in_body", defArgs (top 35), defBody (top 35), defScope (top 35), [], []⟩
def d_saying_from : He.DefD := ⟨("saying_from", none), "saying_from", "saying_from", defArgs (top 36), defBody (top 36), defScope (top 36), [], []⟩
def d_read_fact : He.DefD := ⟨("read_fact", none), "read_fact", "read_fact", defArgs (top 37), defBody (top 37), defScope (top 37), [.int 0], []⟩
def d_read_saying : He.DefD := ⟨("read_saying", none), "read_saying", "read_saying", defArgs (top 38), defBody (top 38), defScope (top 38), [.int 0], []⟩
def d_read_world : He.DefD := ⟨("read_world", none), "read_world", "read_world", defArgs (top 39), defBody (top 39), defScope (top 39), [], []⟩
def d_read_sayings : He.DefD := ⟨("read_sayings", none), "read_sayings", "read_sayings", defArgs (top 40), defBody (top 40), defScope (top 40), [], []⟩
def d_law_tape : He.DefD := ⟨("_law_tape", none), "_law_tape", "_law_tape", defArgs (top 42), defBody (top 42), defScope (top 42), [], []⟩
def d_law_draw : He.DefD := ⟨("_law_draw", none), "_law_draw", "_law_draw", defArgs (top 43), defBody (top 43), defScope (top 43), [], []⟩
def d_law_number : He.DefD := ⟨("_law_number", none), "_law_number", "_law_number", defArgs (top 44), defBody (top 44), defScope (top 44), [], []⟩
def d_law_word : He.DefD := ⟨("_law_word", none), "_law_word", "_law_word", defArgs (top 45), defBody (top 45), defScope (top 45), [], []⟩
def d_law_fact_drawn : He.DefD := ⟨("_law_fact_drawn", none), "_law_fact_drawn", "_law_fact_drawn", defArgs (top 46), defBody (top 46), defScope (top 46), [], []⟩
def d_law_key : He.DefD := ⟨("_law_key", none), "_law_key", "_law_key", defArgs (top 47), defBody (top 47), defScope (top 47), [], []⟩
def d_law_world_drawn : He.DefD := ⟨("_law_world_drawn", none), "_law_world_drawn", "_law_world_drawn", defArgs (top 48), defBody (top 48), defScope (top 48), [], []⟩
def d_law_known : He.DefD := ⟨("_law_known", none), "_law_known", "_law_known", defArgs (top 49), defBody (top 49), defScope (top 49), [], []⟩
def d_law_atoms_drawn : He.DefD := ⟨("_law_atoms_drawn", none), "_law_atoms_drawn", "_law_atoms_drawn", defArgs (top 50), defBody (top 50), defScope (top 50), [], []⟩
def d_law_saying_drawn : He.DefD := ⟨("_law_saying_drawn", none), "_law_saying_drawn", "_law_saying_drawn", defArgs (top 51), defBody (top 51), defScope (top 51), [], []⟩
def d_law_thing : He.DefD := ⟨("_law_thing", none), "_law_thing", "_law_thing", defArgs (top 52), defBody (top 52), defScope (top 52), [], []⟩
def d_law_fact_text : He.DefD := ⟨("_law_fact_text", none), "_law_fact_text", "_law_fact_text", defArgs (top 53), defBody (top 53), defScope (top 53), [], []⟩
def d_law_atoms_text : He.DefD := ⟨("_law_atoms_text", none), "_law_atoms_text", "_law_atoms_text", defArgs (top 54), defBody (top 54), defScope (top 54), [], []⟩
def d_law_saying_text : He.DefD := ⟨("_law_saying_text", none), "_law_saying_text", "_law_saying_text", defArgs (top 55), defBody (top 55), defScope (top 55), [], []⟩
def d_law_text : He.DefD := ⟨("_law_text", none), "_law_text", "_law_text", defArgs (top 56), defBody (top 56), defScope (top 56), [], []⟩
def d_law_shown : He.DefD := ⟨("_law_shown", none), "_law_shown", "_law_shown", defArgs (top 57), defBody (top 57), defScope (top 57), [], []⟩
def d_law_read : He.DefD := ⟨("_law_read", none), "_law_read", "_law_read", defArgs (top 58), defBody (top 58), defScope (top 58), [], []⟩
def d_law : He.DefD := ⟨("law", none), "law", "law", defArgs (top 59), defBody (top 59), defScope (top 59), [], []⟩
def fn0 : List He.DefD := [d_shown_value, d_shown_term, d_shown_fact, d_shown_atom, d_shown_atoms, d_shown_saying, d_shown_world, d_shown_sayings, d_is_word, d_value_key, d_values_key, d_fact_key, d_world_of, d_figures_in, d_value_in, d_term_in, d_Trail_initU, d_Trail_refuse, d_Trail_is_over, d_Trail_next_word, d_Trail_claim, d_Trail_table, d_fact_from, d_atom_from, d_atoms_from, d_variable_from, d_in_body, d_saying_from, d_read_fact, d_read_saying]
def fn1 : List He.DefD := [d_read_world, d_read_sayings, d_law_tape, d_law_draw, d_law_number, d_law_word, d_law_fact_drawn, d_law_key, d_law_world_drawn, d_law_known, d_law_atoms_drawn, d_law_saying_drawn, d_law_thing, d_law_fact_text, d_law_atoms_text, d_law_saying_text, d_law_text, d_law_shown, d_law_read, d_law]
def fn : List He.DefD := fn0 ++ fn1
def fa0 : List He.Fa := [.glo "shown_value", .glo "shown_term", .glo "shown_fact", .glo "shown_atom", .glo "shown_atoms", .glo "shown_saying", .glo "shown_world", .glo "shown_sayings", .glo "is_word", .glo "value_key", .glo "values_key", .glo "fact_key", .glo "world_of", .glo "figures_in", .glo "value_in", .glo "term_in", .glo "fact_from", .glo "atom_from", .glo "atoms_from", .glo "variable_from", .glo "in_body", .glo "saying_from", .glo "read_fact", .glo "read_saying", .glo "read_world", .glo "read_sayings", .glo "_law_tape", .glo "_law_draw", .glo "_law_number", .glo "_law_word"]
def fa1 : List He.Fa := [.glo "_law_fact_drawn", .glo "_law_key", .glo "_law_world_drawn", .glo "_law_known", .glo "_law_atoms_drawn", .glo "_law_saying_drawn", .glo "_law_thing", .glo "_law_fact_text", .glo "_law_atoms_text", .glo "_law_saying_text", .glo "_law_text", .glo "_law_shown", .glo "_law_read", .glo "law", .glo "Trail", .cls "Trail", .noat "Trail" "line_at", .noat "Trail" "words_left", .noat "Trail" "gone_by", .mkr "Trail", .meth "Trail" "refuse", .meth "Trail" "is_over", .meth "Trail" "next_word", .meth "Trail" "claim", .meth "Trail" "table", .str "JOINED" "&", .str "LEADS" "=>", .str "ALIKE" "~", .str "LETTERS" "abcdefghijklmnopqrstuvwxyz", .int "LONGEST" 8]
def fa2 : List He.Fa := [.str "FIGURES" "0123456789", .int "MOST_FIGURES" 12, .free "all", .free "dict", .free "enumerate", .free "int", .free "isinstance", .free "len", .free "list", .free "range", .free "repr", .free "sorted", .free "str", .free "tuple"]
def fa : List He.Fa := fa0 ++ fa1 ++ fa2
def loose0 : List PySem.Str := ["__name__", "JOINED", "LEADS", "ALIKE", "shown_value", "shown_term", "shown_fact", "shown_atom", "shown_atoms", "shown_saying", "shown_world", "shown_sayings", "FillError", "NoText", "LETTERS", "LONGEST", "is_word", "value_key", "values_key", "fact_key", "world_of", "FIGURES", "MOST_FIGURES", "figures_in", "value_in", "term_in", "Trail", "fact_from", "atom_from", "atoms_from"]
def loose1 : List PySem.Str := ["variable_from", "in_body", "saying_from", "read_fact", "read_saying", "read_world", "read_sayings", "_law_tape", "_law_draw", "_law_number", "_law_word", "_law_fact_drawn", "_law_key", "_law_world_drawn", "_law_known", "_law_atoms_drawn", "_law_saying_drawn", "_law_thing", "_law_fact_text", "_law_atoms_text", "_law_saying_text", "_law_text", "_law_shown", "_law_read"]
def loose : List PySem.Str := loose0 ++ loose1
def lawIx : Nat := 59
end K85

end
section
set_option Elab.async false
set_option linter.all false
set_option maxRecDepth 100000
set_option maxHeartbeats 0
namespace K85H
open PySem PySem.Spec PyProof.Rows L2 Mi K85
abbrev RW : PySem.W.OpenLaw := PySem.Challenge.rw_leastfill_k85_texts_shown_and_read
abbrev R : PySem.W.OpenRow := PySem.W.OpenLaw.row RW
def ex (K : PySem.W.Frag) : Bool := nodA (tabsOf lams K)
abbrev hk : PySem.W.Hook := He.hookX 5 fa fn [] lams ex
def ob (s : PySem.W.SharedT) : He.AlX := He.obsX 5 fa fn [] lams ex (HandSHeadRun.getT s)
theorem ob_eq (s : PySem.W.SharedT) : ob s = hk.obs s.abs := He.obsX_eq (HandSHeadRun.getT_eq s)
theorem run (w : World) : HandSHeadRun.RunEq R (PySem.W.view R.prog [lawIx]) hk ob 4000 loose w := by
  intro os
  kernel_rfl
theorem t0 : tbB0 tb fa = true := by decide +kernel
theorem t1 : tbG tb fa fn = true := by decide +kernel
theorem t2 : tbM tb fa fn = true := by decide +kernel
theorem t3 : tbI tb fa fn = true := by decide +kernel
theorem tl : fnB tb fa fn "law" ("law", none) = true := by decide +kernel
theorem tg : gsB fn lams = true := by decide +kernel
theorem lg : hasGlo fa "law" = true := by decide +kernel
end K85H

end
section
set_option Elab.async false
set_option linter.all false
set_option maxRecDepth 100000
set_option maxHeartbeats 1000000
/-! Mx: the interpreter, run by hand: simp lemmas. -/
namespace Mi.X
open PySem
@[simp] theorem x_pure {α : Type} (a : α) (S : List Slot) (G : List MO) : (Ev.pure a : Ev α) S G = .ok a S G := rfl
@[simp] theorem x_thenE {α β : Type} (r : Rs α) (f : α → Ev β) : r.andThen f = match r with
  | .ok a σ G => f a σ G
  | .ex x σ G => .ex x σ G
  | .bad => .bad := rfl
@[simp] theorem x_then {α β : Type} (r : Rs α) (f : α → List Slot → List MO → Rs β) : r.andThen f = match r with
  | .ok a σ G => f a σ G
  | .ex x σ G => .ex x σ G
  | .bad => .bad := rfl
@[simp] theorem x_lstOk0 (l : List D) : lstOk l = if l.length ≤ sizeLine then some (.lst l) else none := rfl
@[simp] theorem x_tupOk0 (l : List D) : tupOk l = if l.length ≤ sizeLine then some (.tup l) else none := rfl
@[simp] theorem x_strOk0 (x : Str) : Mi.strOk x = if x.length ≤ sizeLine then some (.str x) else none := rfl
@[simp] theorem x_lift0 {α : Type} (S : List Slot) (G : List MO) : Ev.lift (none : Option α) S G = .bad := rfl
@[simp] theorem x_bind {α β : Type} (m : Ev α) (k : α → Ev β) (S : List Slot) (G : List MO) : m.bind k S G = (m S G).andThen k := rfl
@[simp] theorem x_lift {α : Type} (a : α) (S : List Slot) (G : List MO) : Ev.lift (some a) S G = .ok a S G := rfl
@[simp] theorem x_look {α : Type} (f : List Slot → List MO → Option α) (S : List Slot) (G : List MO) : Ev.look f S G = match f S G with
  | some a => .ok a S G
  | none => .bad := rfl
@[simp] theorem x_fromFO (d : D) (G : List MO) (S : List Slot) : fromFO (.ok d G) S = .ok d S G := rfl
@[simp] theorem x_truth (b : Bool) (S : List Slot) (G : List MO) : truth (.bl b) S G = .ok b S G := rfl
section
variable (S : List Slot) (G : List MO)
@[simp] theorem x_se_non : Mi.settle .non S G = .ok .non S G := rfl
@[simp] theorem x_se_bl (b : Bool) : Mi.settle (.bl b) S G = .ok (.bl b) S G := rfl
@[simp] theorem x_se_int (b : Int) : Mi.settle (.int b) S G = .ok (.int b) S G := rfl
@[simp] theorem x_se_str (b : Str) : Mi.settle (.str b) S G = .ok (.str b) S G := rfl
@[simp] theorem x_se_tup (b : List D) : Mi.settle (.tup b) S G = .ok (.tup b) S G := rfl
@[simp] theorem x_se_lst (b : List D) : Mi.settle (.lst b) S G = .ok (.lst b) S G := rfl
@[simp] theorem x_se_scr (b : List D) : Mi.settle (.scr b) S G = .ok (.scr b) S G := rfl
@[simp] theorem x_se_dic (a b : List D) : Mi.settle (.dic a b) S G = .ok (.dic a b) S G := rfl
@[simp] theorem x_se_ref (b : Nat) : Mi.settle (.ref b) S G = .ok (.ref b) S G := rfl
@[simp] theorem x_se_slot (i : Nat) : Mi.settle (.slot i) S G = match S[i]? with
    | some (.lst l) => .ok (.lst l) (S.set i (.val (.lst l))) G
    | some (.dic ks xs) => .ok (.dic ks xs) (S.set i (.val (.dic ks xs))) G
    | _ => .bad := rfl
@[simp] theorem x_var (i : Nat) : evVar i S G = match S[i]? with
  | some (.val d) => .ok d S G
  | some (.lst _) => .ok (.slot i) S G
  | some (.dic _ _) => .ok (.slot i) S G
  | _ => .bad := rfl
/-! what an operand holds -/
@[simp] theorem x_ct_lst (l : List D) : ct S G (.lst l) = .lst l := rfl
@[simp] theorem x_ct_tup (l : List D) : ct S G (.tup l) = .tup l := rfl
@[simp] theorem x_ct_scr (l : List D) : ct S G (.scr l) = .scr l := rfl
@[simp] theorem x_ct_dic (l m : List D) : ct S G (.dic l m) = .dic l m := rfl
@[simp] theorem x_ct_str (l : Str) : ct S G (.str l) = .str l := rfl
@[simp] theorem x_ct_int (l : Int) : ct S G (.int l) = .no := rfl
@[simp] theorem x_ct_non : ct S G .non = .no := rfl
@[simp] theorem x_ct_bl (b : Bool) : ct S G (.bl b) = .no := rfl
@[simp] theorem x_ct_slot (i : Nat) : ct S G (.slot i) = match S[i]? with
    | some (.lst l) => .lst l
    | some (.dic ks xs) => .dic ks xs
    | _ => .no := rfl
@[simp] theorem x_ct_ref (n : Nat) : ct S G (.ref n) = match G[n]? with
    | some (.lst l) => .lst l
    | some (.dic ks xs) => .dic ks xs
    | some (.ins C fs) => .ins C fs
    | some (.tab _) => .no
    | none => .no := rfl
/-! operators -/
@[simp] theorem x_add (i j : Int) : op2 .add S G (.int i) (.int j) = some (.int (i + j)) := rfl
@[simp] theorem x_sub (i j : Int) : op2 .sub S G (.int i) (.int j) = some (.int (i - j)) := rfl
@[simp] theorem x_mul (i j : Int) : op2 .mul S G (.int i) (.int j) = if (-(2 ^ 64) < i ∧ i < 2 ^ 64) ∨ (-(2 ^ 64) < j ∧ j < 2 ^ 64) then some (.int (i * j)) else none := rfl
@[simp] theorem x_mod (i j : Int) : op2 .mod S G (.int i) (.int j) = if 0 < j then some (.int (i % j)) else none := rfl
@[simp] theorem x_fdiv (i j : Int) : op2 .fdiv S G (.int i) (.int j) = if 0 < j ∧ j < 1073741824 then some (.int (i / j)) else none := rfl
@[simp] theorem x_pow (i j : Int) : op2 .pow S G (.int i) (.int j) = if 0 ≤ j ∧ j ≤ 1000000 ∧ i.natAbs < 2 ^ 64 then some (.int (i ^ j.toNat)) else none := rfl
@[simp] theorem x_add_s (x y : Str) : op2 .add S G (.str x) (.str y) = if x.length + y.length ≤ sizeLine then some (.str (x ++ y)) else none := rfl
@[simp] theorem x_add_t (x y : List D) : op2 .add S G (.tup x) (.tup y) = tupOk (x ++ y) := rfl
@[simp] theorem x_add_l (x y : List D) : op2 .add S G (.lst x) (.lst y) = lstOk (x ++ y) := rfl
@[simp] theorem x_mul_l (x : List D) (j : Int) : op2 .mul S G (.lst x) (.int j) = if -(2 ^ 63) ≤ j ∧ j < 2 ^ 63 then (if x.length * j.toNat ≤ sizeLine then some (.lst (rep j.toNat x)) else none) else none := rfl
theorem x_lstOk (x : List D) (S : List Slot) (G : List MO) : Ev.lift (lstOk x) S G = if x.length ≤ sizeLine then .ok (.lst x) S G else .bad := by
  unfold lstOk; split <;> rfl
theorem x_tupOk (x : List D) (S : List Slot) (G : List MO) : Ev.lift (tupOk x) S G = if x.length ≤ sizeLine then .ok (.tup x) S G else .bad := by
  unfold tupOk; split <;> rfl
@[simp] theorem x_liftif {α : Type} (p : Prop) [Decidable p] (a b : Option α) : Ev.lift (if p then a else b) S G = if p then Ev.lift a S G else Ev.lift b S G := by split <;> rfl
@[simp] theorem x_sz : sizeLine = 16777216 := rfl
@[simp] theorem x_lt (i j : Int) : cmp2 .lt S G (.int i) (.int j) = some (decide (i < j)) := rfl
@[simp] theorem x_gt (i j : Int) : cmp2 .gt S G (.int i) (.int j) = some (decide (j < i)) := rfl
@[simp] theorem x_le (i j : Int) : cmp2 .le S G (.int i) (.int j) = some (decide (i ≤ j)) := rfl
@[simp] theorem x_ge (i j : Int) : cmp2 .ge S G (.int i) (.int j) = some (decide (j ≤ i)) := rfl
@[simp] theorem x_eqi (i j : Int) : cmp2 .eq S G (.int i) (.int j) = some (decide (i = j)) := by
  show (if SeqAt.shaped (.int i) && SeqAt.shaped (.int j) then some (PyData.eqv (.int i) (.int j)) else none) = _
  rw [if_pos (show (SeqAt.shaped (.int i) && SeqAt.shaped (.int j)) = true from by simp [SeqAt.shaped, PyData.canLay0, PyData.depth])]
  simp only [PyData.eqv]; rfl
@[simp] theorem x_nei (i j : Int) : cmp2 .ne S G (.int i) (.int j) = some (!decide (i = j)) := by
  show (if SeqAt.shaped (.int i) && SeqAt.shaped (.int j) then some (!PyData.eqv (.int i) (.int j)) else none) = _
  rw [if_pos (show (SeqAt.shaped (.int i) && SeqAt.shaped (.int j)) = true from by simp [SeqAt.shaped, PyData.canLay0, PyData.depth])]
  simp only [PyData.eqv]; rfl
/-- the signs of a text are signs -/
def sOk (x : Str) : Prop := PyData.strOk x = true
theorem shaped_str {x : Str} (h : sOk x) : SeqAt.shaped (.str x) = true := by
  have h' : PyData.strOk x = true := h
  simp [SeqAt.shaped, PyData.canLay0, PyData.depth, h']
theorem x_eqs {x y : Str} (hx : sOk x) (hy : sOk y) : cmp2 .eq S G (.str x) (.str y) = some (decide (x = y)) := by
  show (if SeqAt.shaped (.str x) && SeqAt.shaped (.str y) then some (PyData.eqv (.str x) (.str y)) else none) = _
  rw [if_pos (by rw [shaped_str hx, shaped_str hy]; rfl)]
  simp only [PyData.eqv]
  by_cases h : x = y <;> simp [h]
theorem x_nes {x y : Str} (hx : sOk x) (hy : sOk y) : cmp2 .ne S G (.str x) (.str y) = some (!decide (x = y)) := by
  show (if SeqAt.shaped (.str x) && SeqAt.shaped (.str y) then some (!PyData.eqv (.str x) (.str y)) else none) = _
  rw [if_pos (by rw [shaped_str hx, shaped_str hy]; rfl)]
  simp only [PyData.eqv]
  by_cases h : x = y <;> simp [h]
@[simp] theorem x_isN (d : D) : cmp2 .isN S G d .non = isNone S G d := rfl
@[simp] theorem x_isn0 : isNone S G .non = some true := rfl
@[simp] theorem x_isn1 (x : Str) : isNone S G (.str x) = some false := rfl
@[simp] theorem x_isn2 (x : Int) : isNone S G (.int x) = some false := rfl
@[simp] theorem x_isn3 (x : List D) : isNone S G (.tup x) = some false := rfl
@[simp] theorem x_noEx {α : Type} (m : Ev α) : Mi.noEx m S G = match m S G with
  | .ex _ _ _ => .bad
  | r => r := rfl
@[simp] theorem x_src_sl (i : Nat) : srcOf S G (.slot i) = match S[i]? with
  | some (.lst l) => some l
  | some (.dic ks _) => some ks
  | _ => none := by
  unfold srcOf
  rw [x_ct_slot]
  rcases S[i]? with _ | s
  · rfl
  · cases s <;> rfl
@[simp] theorem x_src_l (l : List D) : srcOf S G (.lst l) = some l := rfl
@[simp] theorem x_dPuts0 (ks xs : List D) : dPutsOk [] ks xs = some (ks, xs) := rfl
@[simp] theorem x_len_rf (n : Nat) : bi1 Bi.len S G (.ref n) = match G[n]? with
  | some (.lst l) => some (.int l.length)
  | some (.dic ks _) => some (.int ks.length)
  | _ => none := by
  show (match ct S G (.ref n) with
    | .lst l => some (D.int l.length)
    | .tup l => some (D.int l.length)
    | .dic ks _ => some (D.int ks.length)
    | .str x => if x.length ≤ sizeLine then some (D.int x.length) else none
    | _ => none) = _
  rw [x_ct_ref]
  rcases G[n]? with _ | s
  · rfl
  · cases s <;> rfl
theorem x_popAt_rf {n : Nat} {k : Int} {l : List D} {j : Nat} {x : D} (h : G[n]? = some (.lst l)) (hj : plc l.length k = some j) (hx : l[j]? = some x) : evBm .popAt (.ref n) [.int k] S G = .ok x S (G.set n (.lst (l.eraseIdx j))) := by
  have hl := (List.getElem?_eq_some_iff.mp h).1
  unfold evBm
  rw [x_ct_ref, h]
  dsimp only
  rw [hj]
  dsimp only
  rw [hx]
  dsimp only
  show ((if n < G.length then Rs.ok () S (G.set n (.lst (l.eraseIdx j))) else .bad) : Rs Unit).andThen _ = _
  rw [if_pos hl]; rfl
/-! built-ins -/
@[simp] theorem x_len_l (l : List D) : bi1 Bi.len S G (.lst l) = some (.int l.length) := rfl
@[simp] theorem x_len_t (l : List D) : bi1 Bi.len S G (.tup l) = some (.int l.length) := rfl
@[simp] theorem x_len_s (x : Str) : bi1 Bi.len S G (.str x) = if x.length ≤ sizeLine then some (.int x.length) else none := rfl
@[simp] theorem x_tuple_l (l : List D) : bi1 Bi.tuple S G (.lst l) = some (.tup l) := rfl
@[simp] theorem x_list_l (l : List D) : bi1 Bi.list S G (.lst l) = some (.lst l) := rfl
@[simp] theorem x_len_sl (i : Nat) : bi1 Bi.len S G (.slot i) = match S[i]? with
  | some (.lst l) => some (.int l.length)
  | some (.dic ks _) => some (.int ks.length)
  | _ => none := by
  show (match ct S G (.slot i) with
    | .lst l => some (D.int l.length)
    | .tup l => some (D.int l.length)
    | .dic ks _ => some (D.int ks.length)
    | .str x => if x.length ≤ sizeLine then some (D.int x.length) else none
    | _ => none) = _
  rw [x_ct_slot]
  rcases S[i]? with _ | s
  · rfl
  · cases s <;> rfl
@[simp] theorem x_tuple_sl (i : Nat) : bi1 Bi.tuple S G (.slot i) = match S[i]? with
  | some (.lst l) => some (.tup l)
  | _ => none := by
  show (match ct S G (.slot i) with
    | .lst l => some (D.tup l)
    | .tup l => some (D.tup l)
    | _ => none) = _
  rw [x_ct_slot]
  rcases S[i]? with _ | s
  · rfl
  · cases s <;> rfl
@[simp] theorem x_list_sl (i : Nat) : bi1 Bi.list S G (.slot i) = match S[i]? with
  | some (.lst l) => some (.lst l)
  | some (.dic ks _) => some (.lst ks)
  | _ => none := by
  show (match ct S G (.slot i) with
    | .lst l => some (D.lst l)
    | .tup l => some (D.lst l)
    | .dic ks _ => some (D.lst ks)
    | _ => none) = _
  rw [x_ct_slot]
  rcases S[i]? with _ | s
  · rfl
  · cases s <;> rfl
@[simp] theorem x_dict_l (l : List D) : bi1 Bi.dict S G (.lst l) = (pairsOf l).bind fun ps => (dPutsOk ps [] []).map fun p => .dic p.1 p.2 := rfl
@[simp] theorem x_all_l (l : List D) : bi1 Bi.all S G (.lst l) = (boolsOf l).map fun bs => .bl (bs.all id) := rfl
@[simp] theorem x_int_b (k : Bool) : bi1 Bi.int S G (.bl k) = some (.int (if k then 1 else 0)) := rfl
@[simp] theorem x_int_s (x : Str) : bi1 Bi.int S G (.str x) = if x.length ≤ 640 then (intText? x).map D.int else none := rfl
@[simp] theorem x_str_s (x : Str) : bi1 Bi.str S G (.str x) = some (.str x) := rfl
@[simp] theorem x_str_i (i : Int) : bi1 Bi.str S G (.int i) = if i.natAbs.log2 < 1920 then some (.str (toString i)) else none := rfl
@[simp] theorem x_isi_s (t : String) (x : Str) : bi1 (.isi t) S G (.str x) = some (.bl (t == "str")) := rfl
@[simp] theorem x_isi_i (t : String) (x : Int) : bi1 (.isi t) S G (.int x) = some (.bl (t == "int")) := rfl
@[simp] theorem x_sorted (d : D) : bi1 Bi.sorted S G d = (srcOf S G d).bind fun l => (sortBy l l).map .lst := rfl
/-! targets -/
@[simp] theorem x_ownSet (i : Nat) (s : Slot) : ownSet i s S G = if i < S.length then .ok () (S.set i s) G else .bad := rfl
@[simp] theorem x_asgT_nm (i : Nat) (d : D) : asgT (.nm i) d = ownSet i (.val d) := by rw [asgT]
@[simp] theorem x_asgT_tp (ts : Tgs) (l : List D) : asgT (.tp ts) (.tup l) = if l.length = ts.len then asgTs ts l else Ev.bad := by rw [asgT]
@[simp] theorem x_asgTs_nil : asgTs .nil [] = Ev.pure () := by rw [asgTs]
@[simp] theorem x_asgTs_cons (t : Tg) (r : Tgs) (d : D) (l : List D) : asgTs (.cons t r) (d :: l) = (asgT t d).bind fun _ => asgTs r l := by rw [asgTs]
@[simp] theorem x_asgE_nm (fr : Bool) (i : Nat) (d : D) : asgE fr (.nm i) d = asgN fr i d := rfl
@[simp] theorem x_asgE_tp (fr : Bool) (ts : Tgs) (d : D) : asgE fr (.tp ts) d = (Mi.settle d).bind fun d => asgT (.tp ts) d := rfl
@[simp] theorem x_asgN_f (i : Nat) (d : D) : asgN false i d = (Mi.settle d).bind fun d => ownSet i (.val d) := rfl
@[simp] theorem x_asgN_l (i : Nat) (l : List D) : asgN true i (.lst l) = ownSet i (.lst l) := rfl
@[simp] theorem x_asgN_d (i : Nat) (l m : List D) : asgN true i (.dic l m) = ownSet i (.dic l m) := rfl
@[simp] theorem x_asgN_i (i : Nat) (x : Int) : asgN true i (.int x) = ownSet i (.val (.int x)) := rfl
@[simp] theorem x_asgN_s (i : Nat) (x : Str) : asgN true i (.str x) = ownSet i (.val (.str x)) := rfl
@[simp] theorem x_asgN_t (i : Nat) (x : List D) : asgN true i (.tup x) = ownSet i (.val (.tup x)) := rfl
@[simp] theorem x_asgNs (fr : Bool) (i : Nat) (d : D) : asgNs fr i d = (asgN fr i d).bind fun _ => Ev.pure .nx := rfl
@[simp] theorem fr_c (a0 : _) : E.fresh (.c a0) = false := rfl
@[simp] theorem fr_v (a0 : _) : E.fresh (.v a0) = false := rfl
@[simp] theorem fr_g (a0 : _) : E.fresh (.g a0) = false := rfl
@[simp] theorem fr_tup (a0 : _) : E.fresh (.tup a0) = false := rfl
@[simp] theorem fr_lst (a0 : _) : E.fresh (.lst a0) = true := rfl
@[simp] theorem fr_dic (a0 : _) (a1 : _) : E.fresh (.dic a0 a1) = true := rfl
@[simp] theorem fr_gl (a0 : _) : E.fresh (.gl a0) = false := rfl
@[simp] theorem fr_neg (a0 : _) : E.fresh (.neg a0) = false := rfl
@[simp] theorem fr_nt (a0 : _) : E.fresh (.nt a0) = false := rfl
@[simp] theorem fr_and (a0 : _) (a1 : _) : E.fresh (.and a0 a1) = false := rfl
@[simp] theorem fr_or (a0 : _) (a1 : _) : E.fresh (.or a0 a1) = false := rfl
@[simp] theorem fr_ife (a0 : _) (a1 : _) (a2 : _) : E.fresh (.ife a0 a1 a2) = false := rfl
@[simp] theorem fr_cmp (a0 : _) (a1 : _) (a2 : _) : E.fresh (.cmp a0 a1 a2) = false := rfl
@[simp] theorem fr_chn (a0 : _) (a1 : _) (a2 : _) (a3 : _) (a4 : _) : E.fresh (.chn a0 a1 a2 a3 a4) = false := rfl
@[simp] theorem fr_ix (a0 : _) (a1 : _) : E.fresh (.ix a0 a1) = false := rfl
@[simp] theorem fr_sl (a0 : _) (a1 : _) (a2 : _) (a3 : _) (a4 : _) : E.fresh (.sl a0 a1 a2 a3 a4) = true := rfl
@[simp] theorem fr_rev (a0 : _) : E.fresh (.rev a0) = true := rfl
@[simp] theorem fr_fld (a0 : _) (a1 : _) : E.fresh (.fld a0 a1) = false := rfl
@[simp] theorem fr_gix (a0 : _) (a1 : _) : E.fresh (.gix a0 a1) = false := rfl
@[simp] theorem fr_gin (a0 : _) (a1 : _) : E.fresh (.gin a0 a1) = false := rfl
@[simp] theorem fr_call (a0 : _) (a1 : _) : E.fresh (.call a0 a1) = false := rfl
@[simp] theorem fr_callk (a0 : _) (a1 : _) (a2 : _) (a3 : _) : E.fresh (.callk a0 a1 a2 a3) = false := rfl
@[simp] theorem fr_callv (a0 : _) (a1 : _) : E.fresh (.callv a0 a1) = false := rfl
@[simp] theorem fr_mk (a0 : _) (a1 : _) : E.fresh (.mk a0 a1) = false := rfl
@[simp] theorem fr_meth (a0 : _) (a1 : _) (a2 : _) (a3 : _) : E.fresh (.meth a0 a1 a2 a3) = false := rfl
@[simp] theorem fr_methk (a0 : _) (a1 : _) (a2 : _) (a3 : _) (a4 : _) (a5 : _) : E.fresh (.methk a0 a1 a2 a3 a4 a5) = false := rfl
@[simp] theorem fr_bi2 (a0 : _) (a1 : _) (a2 : _) : E.fresh (.bi2 a0 a1 a2) = false := rfl
@[simp] theorem fr_srt (a0 : _) (a1 : _) : E.fresh (.srt a0 a1) = true := rfl
@[simp] theorem fr_srl (a0 : _) (a1 : _) (a2 : _) (a3 : _) (a4 : _) : E.fresh (.srl a0 a1 a2 a3 a4) = true := rfl
@[simp] theorem fr_lc (a0 : _) (a1 : _) (a2 : _) (a3 : _) (a4 : _) (a5 : _) : E.fresh (.lc a0 a1 a2 a3 a4 a5) = true := rfl
@[simp] theorem fr_fs (a0 : _) : E.fresh (.fs a0) = false := rfl
@[simp] theorem fr_fv (a0 : _) : E.fresh (.fv a0) = false := rfl
@[simp] theorem fr_bi (b : Bi) (e : E) : E.fresh (.bi b e) = match b with
  | .list => true
  | .dict => true
  | .sorted => true
  | _ => false := by cases b <;> rfl
@[simp] theorem fr_bin (o : Op2) (a b : E) : E.fresh (.bin o a b) = match o with
  | .add => true
  | .mul => true
  | _ => false := by cases o <;> rfl
@[simp] theorem fr_bm (m : Bm) (o : E) (a : Es) : E.fresh (.bm m o a) = match m with
  | .split => true
  | _ => false := by cases m <;> rfl
@[simp] theorem tgs_len0 : Tgs.len .nil = 0 := rfl
@[simp] theorem tgs_len1 (t : Tg) (r : Tgs) : Tgs.len (.cons t r) = r.len + 1 := rfl
@[simp] theorem endF_nx (S : List Slot) (G : List MO) : endF (.ok .nx S G) = .ok .non G := rfl
@[simp] theorem endF_rt (d : D) (S : List Slot) (G : List MO) : endF (.ok (.rt d) S G) = .ok d G := rfl
@[simp] theorem endF_bk (S : List Slot) (G : List MO) : endF (.ok .bk S G) = .bad := rfl
@[simp] theorem endF_ct (S : List Slot) (G : List MO) : endF (.ok .ct S G) = .bad := rfl
@[simp] theorem endF_ex (x : Exn) (S : List Slot) (G : List MO) : endF (.ex x S G) = .ex x G := rfl
@[simp] theorem endF_bad : endF .bad = .bad := rfl
@[simp] theorem x_newObj (o : MO) : newObj o S G = .ok (.ref G.length) S (G ++ [o]) := rfl
@[simp] theorem x_evGl_l (l : List D) : evGl (.lst l) = newObj (.lst l) := rfl
@[simp] theorem x_evGl_d (l m : List D) : evGl (.dic l m) = newObj (.dic l m) := rfl
@[simp] theorem x_part_f (d : D) : part false d = Ev.pure .non := rfl
@[simp] theorem x_part_t (i : Int) : part true (.int i) = Ev.pure (.int i) := rfl
/-! what is walked -/
@[simp] theorem x_seqI_l (l : List D) : seqI (.lst l) S G = .ok l S G := rfl
@[simp] theorem x_seqI_t (l : List D) : seqI (.tup l) S G = .ok l S G := rfl
@[simp] theorem x_seqI_s (x : Str) : seqI (.str x) S G = .ok (x.cps.toList.map fun c => .str ⟨#[c]⟩) S G := rfl
@[simp] theorem x_enumI_l (l : List D) : enumI (.lst l) S G = .ok (l.zipIdx.map fun p => .tup [.int (p.2 : Nat), p.1]) S G := rfl
/-! fields -/
@[simp] theorem x_fldOf (ok : Str → Str → Bool) (n : Nat) (f : Str) : fldOf ok G (.ref n) f = match G[n]? with
    | some (.ins C fs) => if ok C f = true then fs.lookup f else none
    | _ => none := rfl
@[simp] theorem x_insOf (C m : Str) (n : Nat) : insOf G C m (.ref n) = match G[n]? with
    | some (.ins C' fs) => if C' = C ∧ fs.lookup m = none then some () else none
    | _ => none := rfl
@[simp] theorem x_setFld (ok : Str → Str → Bool) (n : Nat) (f : Str) (x : D) : setFld ok (.ref n) f x S G = match G[n]? with
    | some (.ins C fs) => if ok C f = true ∧ fs.length < 1000 then .ok () S (G.set n (.ins C (putFld fs f x))) else .bad
    | _ => .bad := rfl
/-! methods of built-in types -/
@[simp] theorem x_tyOk (m : Bm) (d : D) : tyOk m S G d = if (ct S G d).ty = m.ty then some () else none := rfl
@[simp] theorem x_ctty (c : Ct) : c.ty = match c with
  | .lst _ => "list"
  | .tup _ => "tuple"
  | .dic _ _ => "dict"
  | .str _ => "str"
  | _ => "" := by cases c <;> rfl
@[simp] theorem x_bmty (c : Bm) : c.ty = match c with
  | .append => "list"
  | .extend => "list"
  | .pop => "list"
  | .popAt => "list"
  | .setdefault => "dict"
  | .update => "dict"
  | .get1 => "dict"
  | .get2 => "dict"
  | .index => "list"
  | .count => "list"
  | _ => "str" := by cases c <;> rfl
theorem putL_slot {α : Type} {i : Nat} {S : List Slot} (h : i < S.length) (l : List D) (G : List MO) (k : Unit → Ev α) : (putL (.slot i) l).bind k S G = k () (S.set i (.lst l)) G := by
  show ((if i < S.length then Rs.ok () (S.set i (.lst l)) G else .bad) : Rs Unit).andThen k = _
  rw [if_pos h]; rfl
@[simp] theorem x_append (i : Nat) (x : D) : evBm .append (.slot i) [x] S G = match S[i]? with
  | some (.lst l) => if l.length < sizeLine then .ok .non (S.set i (.lst (l ++ [x]))) G else .bad
  | _ => .bad := by
  have e : evBm .append (.slot i) [x] S G = match ct S G (.slot i) with
    | .lst l => if l.length < sizeLine then (putL (.slot i) (l ++ [x])).bind (fun _ => Ev.pure .non) S G else .bad
    | _ => .bad := by unfold evBm; cases ct S G (.slot i) <;> rfl
  rw [e, x_ct_slot]
  rcases h : S[i]? with _ | s
  · rfl
  · have hl := (List.getElem?_eq_some_iff.mp h).1
    cases s with
    | lst l => show (if l.length < sizeLine then _ else _) = (if l.length < sizeLine then _ else _); rw [putL_slot hl]; rfl
    | _ => rfl
@[simp] theorem x_popAt (i : Nat) (k : Int) : evBm .popAt (.slot i) [.int k] S G = match S[i]? with
  | some (.lst l) => ((plc l.length k).bind fun j => (l[j]?).map fun x => Rs.ok x (S.set i (.lst (l.eraseIdx j))) G).getD .bad
  | _ => .bad := by
  rcases h : S[i]? with _ | s
  · unfold evBm; rw [x_ct_slot, h]
  · have hl := (List.getElem?_eq_some_iff.mp h).1
    unfold evBm; rw [x_ct_slot, h]
    cases s with
    | lst l =>
      dsimp only
      cases plc l.length k with
      | none => rfl
      | some j =>
        dsimp only [Option.bind_some]
        cases l[j]? with
        | none => rfl
        | some x => dsimp only; rw [putL_slot hl]; rfl
    | _ => rfl
theorem x_join (a : Str) (d : D) : evBm .join (.str a) [d] S G = match joinOf S G d with
    | some ys => if (ys.map (·.length)).sum + ys.length * a.length ≤ 16777216 then .ok (.str (Txt.join a ys)) S G else .bad
    | none => .bad := rfl
@[simp] theorem x_joinOf_l (l : List D) : joinOf S G (.lst l) = strsOf l := rfl
@[simp] theorem x_joinOf_sl (i : Nat) : joinOf S G (.slot i) = match S[i]? with
  | some (.lst l) => strsOf l
  | _ => none := by
  have e : joinOf S G (.slot i) = match ct S G (.slot i) with
    | .lst l => strsOf l
    | .tup l => strsOf l
    | _ => none := rfl
  rw [e, x_ct_slot]
  rcases S[i]? with _ | s
  · rfl
  · cases s <;> rfl
@[simp] theorem x_split (a b : Str) : evBm .split (.str a) [.str b] S G = if (b.length == 0) = false ∧ a.length + 2 ≤ sizeLine then .ok (.lst ((Txt.split a b).map .str)) S G else .bad := rfl
@[simp] theorem x_lines (a : Str) : evBm .lines (.str a) [] S G = if a.length + 2 ≤ sizeLine ∧ (lineCuts a).length ≤ sizeLine then .ok (.lst ((Txt.lines a).map .str)) S G else .bad := rfl
theorem strsOf_map {α : Type} (f : α → Str) (l : List α) : strsOf (l.map fun a => .str (f a)) = some (l.map f) := by
  induction l with
  | nil => rfl
  | cons a l ih => simp [strsOf, ih]
@[simp] theorem strs0 : strsOf [] = some [] := rfl
@[simp] theorem strs1 (x : Str) (r : List D) : strsOf (.str x :: r) = (strsOf r).map (x :: ·) := rfl
@[simp] theorem bools0 : boolsOf [] = some [] := rfl
@[simp] theorem bools1 (x : Bool) (r : List D) : boolsOf (.bl x :: r) = (boolsOf r).map (x :: ·) := rfl
end
def cal (F : List D → List MO → FO) (l : List D) : Ev D := fun σ G => fromFO (F l G) σ
@[simp] theorem x_cal (F : List D → List MO → FO) (l : List D) (S : List Slot) (G : List MO) : cal F l S G = fromFO (F l G) S := rfl
def cal2 (F : List D → List D → List MO → FO) (l w : List D) : Ev D := fun σ G => fromFO (F l w G) σ
@[simp] theorem x_cal2 (F : List D → List D → List MO → FO) (l w : List D) (S : List Slot) (G : List MO) : cal2 F l w S G = fromFO (F l w G) S := rfl
section
variable (Φ : Fns)
@[simp] theorem e_c (d : D) : evE Φ (.c d) = Ev.pure d := by rw [evE]
@[simp] theorem e_v (i : Nat) : evE Φ (.v i) = evVar i := by rw [evE]
@[simp] theorem e_g (x : Str) : evE Φ (.g x) = Ev.lift (Φ.gval x) := by rw [evE]
@[simp] theorem e_tup (a : Es) : evE Φ (.tup a) = (evEs Φ a).bind fun l => Ev.lift (tupOk l) := by rw [evE]
@[simp] theorem e_lst (a : Es) : evE Φ (.lst a) = (evEs Φ a).bind fun l => Ev.lift (lstOk l) := by rw [evE]
@[simp] theorem e_dic (k x : Es) : evE Φ (.dic k x) = (evEs Φ k).bind fun ks => (noEx (evEs Φ x)).bind fun xs => Ev.lift ((dPutsOk (ks.zip xs) [] []).map fun p => .dic p.1 p.2) := by rw [evE]
@[simp] theorem e_gl (e : E) : evE Φ (.gl e) = (evE Φ e).bind evGl := by rw [evE]
@[simp] theorem e_bin (o : Op2) (a b : E) : evE Φ (.bin o a b) = (evE Φ a).bind fun x => (evE Φ b).bind fun y => Ev.look fun σ G => op2 o σ G x y := by rw [evE]
@[simp] theorem e_nt (a : E) : evE Φ (.nt a) = (evE Φ a).bind fun x => (truth x).bind fun b => Ev.pure (.bl (!b)) := by rw [evE]
@[simp] theorem e_and (a b : E) : evE Φ (.and a b) = (evE Φ a).bind fun x => (truth x).bind fun c => if c = true then evE Φ b else Ev.pure (.bl false) := by rw [evE]
@[simp] theorem e_or (a b : E) : evE Φ (.or a b) = (evE Φ a).bind fun x => (truth x).bind fun c => if c = true then Ev.pure (.bl true) else evE Φ b := by rw [evE]
@[simp] theorem e_ife (c a b : E) : evE Φ (.ife c a b) = ((evE Φ c).bind truth).bind fun t => if t = true then evE Φ a else evE Φ b := by rw [evE]
@[simp] theorem e_cmp (o : CmpO) (a b : E) : evE Φ (.cmp o a b) = (evE Φ a).bind fun x => (evE Φ b).bind fun y => (Ev.look fun σ G => cmp2 o σ G x y).bind fun r => Ev.pure (.bl r) := by rw [evE]
@[simp] theorem e_chn (o p : CmpO) (a b c : E) : evE Φ (.chn o p a b c) = (evE Φ a).bind fun x => (evE Φ b).bind fun y => (Ev.look fun σ G => cmp2 o σ G x y).bind fun r =>
    if r = true then (evE Φ c).bind fun z => (Ev.look fun σ G => cmp2 p σ G y z).bind fun r => Ev.pure (.bl r) else Ev.pure (.bl false) := by rw [evE]
@[simp] theorem e_ix (a i : E) : evE Φ (.ix a i) = (evE Φ a).bind fun x => (evE Φ i).bind fun k => Ev.look fun σ G => ixOf σ G x k := by rw [evE]
@[simp] theorem e_sl (a : E) (hl : Bool) (lo : E) (hh : Bool) (hi : E) : evE Φ (.sl a hl lo hh hi) = (evE Φ a).bind fun x => ((evE Φ lo).bind (part hl)).bind fun l => ((evE Φ hi).bind (part hh)).bind fun h => Ev.look fun σ G => slOf σ G x hl l hh h := by rw [evE]
@[simp] theorem e_rev (a : E) : evE Φ (.rev a) = (evE Φ a).bind fun x => Ev.look fun σ G => revOf σ G x := by rw [evE]
@[simp] theorem e_fld (a : E) (f : Str) : evE Φ (.fld a f) = (evE Φ a).bind fun x => Ev.look fun _ G => fldOf Φ.fok G x f := by rw [evE]
@[simp] theorem e_call (f : Str) (a : Es) : evE Φ (.call f a) = (evEs Φ a).bind (cal (Φ.call f)) := by rw [evE] <;> rfl
@[simp] theorem e_callk (f : Str) (a : Es) (ks : List Str) (kw : Es) : evE Φ (.callk f a ks kw) = (evEs Φ a).bind fun l => (evEs Φ kw).bind (cal2 (fun l w => Φ.kw f l ks w) l) := by rw [evE] <;> rfl
@[simp] theorem e_mk (C : Str) (a : Es) : evE Φ (.mk C a) = (evEs Φ a).bind fun l => (newObj (.ins C [])).bind fun d => (cal (Φ.call (initName C)) (d :: l)).bind fun r => match r with
    | .non => Ev.pure d
    | _ => Ev.bad := by rw [evE] <;> rfl
@[simp] theorem e_meth (C m : Str) (o : E) (a : Es) : evE Φ (.meth C m o a) = (evE Φ o).bind fun d => (Ev.look fun _ G => insOf G C m d).bind fun _ => (evEs Φ a).bind fun l => cal (Φ.call (methName C m)) (d :: l) := by rw [evE] <;> rfl
@[simp] theorem e_bi (b : Bi) (e : E) : evE Φ (.bi b e) = (evE Φ e).bind fun x => Ev.look fun σ G => bi1 b σ G x := by rw [evE]
@[simp] theorem e_bm (m : Bm) (o : E) (a : Es) : evE Φ (.bm m o a) = (evE Φ o).bind fun d => (Ev.look fun σ G => tyOk m σ G d).bind fun _ => (evEs Φ a).bind fun l => evBm m d l := by rw [evE]
@[simp] theorem e_fs (a : Es) : evE Φ (.fs a) = evFs Φ a Str.empty := by rw [evE]
@[simp] theorem e_fv (e : E) : evE Φ (.fv e) = (evE Φ e).bind fun x => Ev.lift (match x with
    | .str y => strOk y
    | .int i => if i.natAbs.log2 < 1920 then some (.str (toString i)) else none
    | _ => none) := by rw [evE] <;> rfl
@[simp] theorem e_es_nil : evEs Φ .nil = Ev.pure [] := by rw [evEs]
@[simp] theorem e_es_cons (e : E) (r : Es) : evEs Φ (.cons e r) = ((evE Φ e).bind Mi.settle).bind fun d => (evEs Φ r).bind fun l => Ev.pure (d :: l) := by rw [evEs]
@[simp] theorem e_fs_nil (acc : Str) : evFs Φ .nil acc = Ev.pure (.str acc) := by rw [evFs]
@[simp] theorem e_fs_cons (e : E) (r : Es) (acc : Str) : evFs Φ (.cons e r) acc = (evE Φ e).bind fun x => match x with
    | .str y => if (acc ++ y).length ≤ sizeLine then evFs Φ r (acc ++ y) else Ev.bad
    | _ => Ev.bad := by rw [evFs] <;> rfl
@[simp] theorem i_seq (e : E) : evI Φ (.seq e) = (evE Φ e).bind seqI := by rw [evI]
@[simp] theorem i_enum (e : E) : evI Φ (.enum e) = (evE Φ e).bind enumI := by rw [evI]
@[simp] theorem i_rng (e : E) : evI Φ (.rng e) = (evE Φ e).bind fun d => match d with
    | .int n => if -(2 ^ 62) ≤ n ∧ n < 2 ^ 62 then Ev.pure ((List.range n.toNat).map fun (k : Nat) => .int k) else Ev.bad
    | _ => Ev.bad := by rw [evI] <;> rfl
@[simp] theorem s_ret (e : E) : evS Φ (.ret e) = (evE Φ e).bind fun d => (Mi.settle d).bind fun d => Ev.pure (.rt d) := by rw [evS]
@[simp] theorem s_retN : evS Φ .retN = Ev.pure (.rt .non) := by rw [evS]
@[simp] theorem s_ex (e : E) : evS Φ (.ex e) = (evE Φ e).bind fun _ => Ev.pure .nx := by rw [evS]
@[simp] theorem s_asg (t : Tg) (e : E) : evS Φ (.asg t e) = (evE Φ e).bind fun d => (asgE e.fresh t d).bind fun _ => Ev.pure .nx := by rw [evS]
@[simp] theorem s_par (i : Nat) (a : E) (j : Nat) (b : E) : evS Φ (.par i a j b) = (evE Φ a).bind fun x => (Mi.settle x).bind fun x => (evE Φ b).bind fun y => (Mi.settle y).bind fun y => (asgN a.fresh i x).bind fun _ => asgNs b.fresh j y := by rw [evS]
@[simp] theorem s_asgF (o : E) (f : Str) (e : E) : evS Φ (.asgF o f e) = (evE Φ e).bind fun x => (Mi.settle x).bind fun x => (evE Φ o).bind fun d => (setFld Φ.fok d f x).bind fun _ => Ev.pure .nx := by rw [evS]
@[simp] theorem s_asgI (o i e : E) : evS Φ (.asgI o i e) = (evE Φ e).bind fun x => (Mi.settle x).bind fun x => (evE Φ o).bind fun d => (evE Φ i).bind fun k => (setIx d k x).bind fun _ => Ev.pure .nx := by rw [evS]
@[simp] theorem s_aug (i : Nat) (o : Op2) (e : E) : evS Φ (.aug i o e) = (evVar i).bind fun _ => (evE Φ e).bind fun x => (augN i o x).bind fun _ => Ev.pure .nx := by rw [evS]
@[simp] theorem s_augF (a : E) (f : Str) (o : Op2) (e : E) : evS Φ (.augF a f o e) = (evE Φ a).bind fun d => (Ev.look fun _ G => fldOf Φ.fok G d f).bind fun x => (evE Φ e).bind fun y => (Ev.look fun σ G => op2 o σ G x y).bind fun z => (setFld Φ.fok d f z).bind fun _ => Ev.pure .nx := by rw [evS]
@[simp] theorem s_ifs (c : E) (a b : Ss) : evS Φ (.ifs c a b) = ((evE Φ c).bind truth).bind fun t => if t = true then evSs Φ a else evSs Φ b := by rw [evS]
theorem s_for (t : Tg) (it : I) (b : Ss) : evS Φ (.for_ t it b) = (evI Φ it).bind fun l => loopFor (asgT t) (evSs Φ b) l := by rw [evS]
theorem s_whl (c : E) (b : Ss) : evS Φ (.whl c b) = loopWhl ((evE Φ c).bind truth) (evSs Φ b) Φ.fuel := by rw [evS]
@[simp] theorem ss_nil : evSs Φ .nil = Ev.pure .nx := by rw [evSs]
@[simp] theorem ss_cons (s : S) (r : Ss) : evSs Φ (.cons s r) = (evS Φ s).bind fun f => match f with
    | .nx => evSs Φ r
    | f => Ev.pure f := by rw [evSs] <;> rfl
end
@[simp] theorem x_fuel (P : Prg) (n k : Nat) : (fnsF P n k).fuel = n := by cases k <;> rfl
theorem x_gval (P : Prg) (n k : Nat) (x : Str) : (fnsF P n k).gval x = P.gval.lookup x := by cases k <;> rfl
theorem x_fok (P : Prg) (n k : Nat) (C f : Str) : (fnsF P n k).fok C f = P.flds.contains (C, f) := by cases k <;> rfl
end Mi.X

end
section
set_option Elab.async false
set_option linter.all false
set_option maxRecDepth 100000
set_option maxHeartbeats 1000000
namespace K85
open PySem Mi
theorem fd_shown_value : prg.fd "shown_value" = some f_shown_value := by kernel_rfl
theorem raw_shown_value (n k : Nat) (a0 : D) (G : List MO) : rawF prg n (k + 1) "shown_value" [a0] G = endF (evSs (fnsF prg n k) f_shown_value.body [.val a0] G) := by
  rw [rawF, fd_shown_value]; rfl
@[simp] theorem call_shown_value (n k : Nat) (a0 : D) (G : List MO) : (fnsF prg n (k + 1)).call "shown_value" [a0] G = rawF prg n k "shown_value" [a0] G := by
  rw [fnsF]
  show (match prg.fd "shown_value" with
    | some d => (match bindG d.ps [a0] [] [] d.dfl with
      | some l => rawF prg n k "shown_value" l G
      | none => .bad)
    | none => .bad) = _
  rw [fd_shown_value]
  rfl
theorem fd_shown_term : prg.fd "shown_term" = some f_shown_term := by kernel_rfl
theorem raw_shown_term (n k : Nat) (a0 : D) (G : List MO) : rawF prg n (k + 1) "shown_term" [a0] G = endF (evSs (fnsF prg n k) f_shown_term.body [.val a0] G) := by
  rw [rawF, fd_shown_term]; rfl
@[simp] theorem call_shown_term (n k : Nat) (a0 : D) (G : List MO) : (fnsF prg n (k + 1)).call "shown_term" [a0] G = rawF prg n k "shown_term" [a0] G := by
  rw [fnsF]
  show (match prg.fd "shown_term" with
    | some d => (match bindG d.ps [a0] [] [] d.dfl with
      | some l => rawF prg n k "shown_term" l G
      | none => .bad)
    | none => .bad) = _
  rw [fd_shown_term]
  rfl
theorem fd_shown_fact : prg.fd "shown_fact" = some f_shown_fact := by kernel_rfl
theorem raw_shown_fact (n k : Nat) (a0 : D) (G : List MO) : rawF prg n (k + 1) "shown_fact" [a0] G = endF (evSs (fnsF prg n k) f_shown_fact.body [.val a0, .no] G) := by
  rw [rawF, fd_shown_fact]; rfl
@[simp] theorem call_shown_fact (n k : Nat) (a0 : D) (G : List MO) : (fnsF prg n (k + 1)).call "shown_fact" [a0] G = rawF prg n k "shown_fact" [a0] G := by
  rw [fnsF]
  show (match prg.fd "shown_fact" with
    | some d => (match bindG d.ps [a0] [] [] d.dfl with
      | some l => rawF prg n k "shown_fact" l G
      | none => .bad)
    | none => .bad) = _
  rw [fd_shown_fact]
  rfl
theorem fd_shown_atom : prg.fd "shown_atom" = some f_shown_atom := by kernel_rfl
theorem raw_shown_atom (n k : Nat) (a0 : D) (G : List MO) : rawF prg n (k + 1) "shown_atom" [a0] G = endF (evSs (fnsF prg n k) f_shown_atom.body [.val a0, .no] G) := by
  rw [rawF, fd_shown_atom]; rfl
@[simp] theorem call_shown_atom (n k : Nat) (a0 : D) (G : List MO) : (fnsF prg n (k + 1)).call "shown_atom" [a0] G = rawF prg n k "shown_atom" [a0] G := by
  rw [fnsF]
  show (match prg.fd "shown_atom" with
    | some d => (match bindG d.ps [a0] [] [] d.dfl with
      | some l => rawF prg n k "shown_atom" l G
      | none => .bad)
    | none => .bad) = _
  rw [fd_shown_atom]
  rfl
theorem fd_shown_atoms : prg.fd "shown_atoms" = some f_shown_atoms := by kernel_rfl
theorem raw_shown_atoms (n k : Nat) (a0 : D) (G : List MO) : rawF prg n (k + 1) "shown_atoms" [a0] G = endF (evSs (fnsF prg n k) f_shown_atoms.body [.val a0, .no] G) := by
  rw [rawF, fd_shown_atoms]; rfl
@[simp] theorem call_shown_atoms (n k : Nat) (a0 : D) (G : List MO) : (fnsF prg n (k + 1)).call "shown_atoms" [a0] G = rawF prg n k "shown_atoms" [a0] G := by
  rw [fnsF]
  show (match prg.fd "shown_atoms" with
    | some d => (match bindG d.ps [a0] [] [] d.dfl with
      | some l => rawF prg n k "shown_atoms" l G
      | none => .bad)
    | none => .bad) = _
  rw [fd_shown_atoms]
  rfl
theorem fd_shown_saying : prg.fd "shown_saying" = some f_shown_saying := by kernel_rfl
theorem raw_shown_saying (n k : Nat) (a0 : D) (G : List MO) : rawF prg n (k + 1) "shown_saying" [a0] G = endF (evSs (fnsF prg n k) f_shown_saying.body [.val a0] G) := by
  rw [rawF, fd_shown_saying]; rfl
@[simp] theorem call_shown_saying (n k : Nat) (a0 : D) (G : List MO) : (fnsF prg n (k + 1)).call "shown_saying" [a0] G = rawF prg n k "shown_saying" [a0] G := by
  rw [fnsF]
  show (match prg.fd "shown_saying" with
    | some d => (match bindG d.ps [a0] [] [] d.dfl with
      | some l => rawF prg n k "shown_saying" l G
      | none => .bad)
    | none => .bad) = _
  rw [fd_shown_saying]
  rfl
theorem fd_shown_world : prg.fd "shown_world" = some f_shown_world := by kernel_rfl
theorem raw_shown_world (n k : Nat) (a0 : D) (G : List MO) : rawF prg n (k + 1) "shown_world" [a0] G = endF (evSs (fnsF prg n k) f_shown_world.body [.val a0, .no] G) := by
  rw [rawF, fd_shown_world]; rfl
@[simp] theorem call_shown_world (n k : Nat) (a0 : D) (G : List MO) : (fnsF prg n (k + 1)).call "shown_world" [a0] G = rawF prg n k "shown_world" [a0] G := by
  rw [fnsF]
  show (match prg.fd "shown_world" with
    | some d => (match bindG d.ps [a0] [] [] d.dfl with
      | some l => rawF prg n k "shown_world" l G
      | none => .bad)
    | none => .bad) = _
  rw [fd_shown_world]
  rfl
theorem fd_shown_sayings : prg.fd "shown_sayings" = some f_shown_sayings := by kernel_rfl
theorem raw_shown_sayings (n k : Nat) (a0 : D) (G : List MO) : rawF prg n (k + 1) "shown_sayings" [a0] G = endF (evSs (fnsF prg n k) f_shown_sayings.body [.val a0, .no] G) := by
  rw [rawF, fd_shown_sayings]; rfl
@[simp] theorem call_shown_sayings (n k : Nat) (a0 : D) (G : List MO) : (fnsF prg n (k + 1)).call "shown_sayings" [a0] G = rawF prg n k "shown_sayings" [a0] G := by
  rw [fnsF]
  show (match prg.fd "shown_sayings" with
    | some d => (match bindG d.ps [a0] [] [] d.dfl with
      | some l => rawF prg n k "shown_sayings" l G
      | none => .bad)
    | none => .bad) = _
  rw [fd_shown_sayings]
  rfl
theorem fd_is_word : prg.fd "is_word" = some f_is_word := by kernel_rfl
theorem raw_is_word (n k : Nat) (a0 : D) (G : List MO) : rawF prg n (k + 1) "is_word" [a0] G = endF (evSs (fnsF prg n k) f_is_word.body [.val a0, .no] G) := by
  rw [rawF, fd_is_word]; rfl
@[simp] theorem call_is_word (n k : Nat) (a0 : D) (G : List MO) : (fnsF prg n (k + 1)).call "is_word" [a0] G = rawF prg n k "is_word" [a0] G := by
  rw [fnsF]
  show (match prg.fd "is_word" with
    | some d => (match bindG d.ps [a0] [] [] d.dfl with
      | some l => rawF prg n k "is_word" l G
      | none => .bad)
    | none => .bad) = _
  rw [fd_is_word]
  rfl
theorem fd_value_key : prg.fd "value_key" = some f_value_key := by kernel_rfl
theorem raw_value_key (n k : Nat) (a0 : D) (G : List MO) : rawF prg n (k + 1) "value_key" [a0] G = endF (evSs (fnsF prg n k) f_value_key.body [.val a0] G) := by
  rw [rawF, fd_value_key]; rfl
@[simp] theorem call_value_key (n k : Nat) (a0 : D) (G : List MO) : (fnsF prg n (k + 1)).call "value_key" [a0] G = rawF prg n k "value_key" [a0] G := by
  rw [fnsF]
  show (match prg.fd "value_key" with
    | some d => (match bindG d.ps [a0] [] [] d.dfl with
      | some l => rawF prg n k "value_key" l G
      | none => .bad)
    | none => .bad) = _
  rw [fd_value_key]
  rfl
theorem fd_values_key : prg.fd "values_key" = some f_values_key := by kernel_rfl
theorem raw_values_key (n k : Nat) (a0 : D) (G : List MO) : rawF prg n (k + 1) "values_key" [a0] G = endF (evSs (fnsF prg n k) f_values_key.body [.val a0, .no] G) := by
  rw [rawF, fd_values_key]; rfl
@[simp] theorem call_values_key (n k : Nat) (a0 : D) (G : List MO) : (fnsF prg n (k + 1)).call "values_key" [a0] G = rawF prg n k "values_key" [a0] G := by
  rw [fnsF]
  show (match prg.fd "values_key" with
    | some d => (match bindG d.ps [a0] [] [] d.dfl with
      | some l => rawF prg n k "values_key" l G
      | none => .bad)
    | none => .bad) = _
  rw [fd_values_key]
  rfl
theorem fd_fact_key : prg.fd "fact_key" = some f_fact_key := by kernel_rfl
theorem raw_fact_key (n k : Nat) (a0 : D) (G : List MO) : rawF prg n (k + 1) "fact_key" [a0] G = endF (evSs (fnsF prg n k) f_fact_key.body [.val a0] G) := by
  rw [rawF, fd_fact_key]; rfl
@[simp] theorem call_fact_key (n k : Nat) (a0 : D) (G : List MO) : (fnsF prg n (k + 1)).call "fact_key" [a0] G = rawF prg n k "fact_key" [a0] G := by
  rw [fnsF]
  show (match prg.fd "fact_key" with
    | some d => (match bindG d.ps [a0] [] [] d.dfl with
      | some l => rawF prg n k "fact_key" l G
      | none => .bad)
    | none => .bad) = _
  rw [fd_fact_key]
  rfl
theorem fd_world_of : prg.fd "world_of" = some f_world_of := by kernel_rfl
theorem raw_world_of (n k : Nat) (a0 : D) (G : List MO) : rawF prg n (k + 1) "world_of" [a0] G = endF (evSs (fnsF prg n k) f_world_of.body [.val a0, .no, .no] G) := by
  rw [rawF, fd_world_of]; rfl
@[simp] theorem call_world_of (n k : Nat) (a0 : D) (G : List MO) : (fnsF prg n (k + 1)).call "world_of" [a0] G = rawF prg n k "world_of" [a0] G := by
  rw [fnsF]
  show (match prg.fd "world_of" with
    | some d => (match bindG d.ps [a0] [] [] d.dfl with
      | some l => rawF prg n k "world_of" l G
      | none => .bad)
    | none => .bad) = _
  rw [fd_world_of]
  rfl
theorem fd_figures_in : prg.fd "figures_in" = some f_figures_in := by kernel_rfl
theorem raw_figures_in (n k : Nat) (a0 : D) (G : List MO) : rawF prg n (k + 1) "figures_in" [a0] G = endF (evSs (fnsF prg n k) f_figures_in.body [.val a0, .no] G) := by
  rw [rawF, fd_figures_in]; rfl
@[simp] theorem call_figures_in (n k : Nat) (a0 : D) (G : List MO) : (fnsF prg n (k + 1)).call "figures_in" [a0] G = rawF prg n k "figures_in" [a0] G := by
  rw [fnsF]
  show (match prg.fd "figures_in" with
    | some d => (match bindG d.ps [a0] [] [] d.dfl with
      | some l => rawF prg n k "figures_in" l G
      | none => .bad)
    | none => .bad) = _
  rw [fd_figures_in]
  rfl
theorem fd_value_in : prg.fd "value_in" = some f_value_in := by kernel_rfl
theorem raw_value_in (n k : Nat) (a0 : D) (G : List MO) : rawF prg n (k + 1) "value_in" [a0] G = endF (evSs (fnsF prg n k) f_value_in.body [.val a0] G) := by
  rw [rawF, fd_value_in]; rfl
@[simp] theorem call_value_in (n k : Nat) (a0 : D) (G : List MO) : (fnsF prg n (k + 1)).call "value_in" [a0] G = rawF prg n k "value_in" [a0] G := by
  rw [fnsF]
  show (match prg.fd "value_in" with
    | some d => (match bindG d.ps [a0] [] [] d.dfl with
      | some l => rawF prg n k "value_in" l G
      | none => .bad)
    | none => .bad) = _
  rw [fd_value_in]
  rfl
theorem fd_term_in : prg.fd "term_in" = some f_term_in := by kernel_rfl
theorem raw_term_in (n k : Nat) (a0 : D) (G : List MO) : rawF prg n (k + 1) "term_in" [a0] G = endF (evSs (fnsF prg n k) f_term_in.body [.val a0] G) := by
  rw [rawF, fd_term_in]; rfl
@[simp] theorem call_term_in (n k : Nat) (a0 : D) (G : List MO) : (fnsF prg n (k + 1)).call "term_in" [a0] G = rawF prg n k "term_in" [a0] G := by
  rw [fnsF]
  show (match prg.fd "term_in" with
    | some d => (match bindG d.ps [a0] [] [] d.dfl with
      | some l => rawF prg n k "term_in" l G
      | none => .bad)
    | none => .bad) = _
  rw [fd_term_in]
  rfl
theorem fd_Trail_initU : prg.fd "Trail.__init__" = some f_Trail_initU := by kernel_rfl
theorem raw_Trail_initU (n k : Nat) (a0 a1 a2 : D) (G : List MO) : rawF prg n (k + 1) "Trail.__init__" [a0, a1, a2] G = endF (evSs (fnsF prg n k) f_Trail_initU.body [.val a0, .val a1, .val a2] G) := by
  rw [rawF, fd_Trail_initU]; rfl
@[simp] theorem call_Trail_initU (n k : Nat) (a0 a1 a2 : D) (G : List MO) : (fnsF prg n (k + 1)).call "Trail.__init__" [a0, a1, a2] G = rawF prg n k "Trail.__init__" [a0, a1, a2] G := by
  rw [fnsF]
  show (match prg.fd "Trail.__init__" with
    | some d => (match bindG d.ps [a0, a1, a2] [] [] d.dfl with
      | some l => rawF prg n k "Trail.__init__" l G
      | none => .bad)
    | none => .bad) = _
  rw [fd_Trail_initU]
  rfl
theorem fd_Trail_refuse : prg.fd "Trail.refuse" = some f_Trail_refuse := by kernel_rfl
theorem raw_Trail_refuse (n k : Nat) (a0 a1 : D) (G : List MO) : rawF prg n (k + 1) "Trail.refuse" [a0, a1] G = endF (evSs (fnsF prg n k) f_Trail_refuse.body [.val a0, .val a1] G) := by
  rw [rawF, fd_Trail_refuse]; rfl
@[simp] theorem call_Trail_refuse (n k : Nat) (a0 a1 : D) (G : List MO) : (fnsF prg n (k + 1)).call "Trail.refuse" [a0, a1] G = rawF prg n k "Trail.refuse" [a0, a1] G := by
  rw [fnsF]
  show (match prg.fd "Trail.refuse" with
    | some d => (match bindG d.ps [a0, a1] [] [] d.dfl with
      | some l => rawF prg n k "Trail.refuse" l G
      | none => .bad)
    | none => .bad) = _
  rw [fd_Trail_refuse]
  rfl
theorem fd_Trail_is_over : prg.fd "Trail.is_over" = some f_Trail_is_over := by kernel_rfl
theorem raw_Trail_is_over (n k : Nat) (a0 : D) (G : List MO) : rawF prg n (k + 1) "Trail.is_over" [a0] G = endF (evSs (fnsF prg n k) f_Trail_is_over.body [.val a0] G) := by
  rw [rawF, fd_Trail_is_over]; rfl
@[simp] theorem call_Trail_is_over (n k : Nat) (a0 : D) (G : List MO) : (fnsF prg n (k + 1)).call "Trail.is_over" [a0] G = rawF prg n k "Trail.is_over" [a0] G := by
  rw [fnsF]
  show (match prg.fd "Trail.is_over" with
    | some d => (match bindG d.ps [a0] [] [] d.dfl with
      | some l => rawF prg n k "Trail.is_over" l G
      | none => .bad)
    | none => .bad) = _
  rw [fd_Trail_is_over]
  rfl
theorem fd_Trail_next_word : prg.fd "Trail.next_word" = some f_Trail_next_word := by kernel_rfl
theorem raw_Trail_next_word (n k : Nat) (a0 : D) (G : List MO) : rawF prg n (k + 1) "Trail.next_word" [a0] G = endF (evSs (fnsF prg n k) f_Trail_next_word.body [.val a0] G) := by
  rw [rawF, fd_Trail_next_word]; rfl
@[simp] theorem call_Trail_next_word (n k : Nat) (a0 : D) (G : List MO) : (fnsF prg n (k + 1)).call "Trail.next_word" [a0] G = rawF prg n k "Trail.next_word" [a0] G := by
  rw [fnsF]
  show (match prg.fd "Trail.next_word" with
    | some d => (match bindG d.ps [a0] [] [] d.dfl with
      | some l => rawF prg n k "Trail.next_word" l G
      | none => .bad)
    | none => .bad) = _
  rw [fd_Trail_next_word]
  rfl
theorem fd_Trail_claim : prg.fd "Trail.claim" = some f_Trail_claim := by kernel_rfl
theorem raw_Trail_claim (n k : Nat) (a0 a1 : D) (G : List MO) : rawF prg n (k + 1) "Trail.claim" [a0, a1] G = endF (evSs (fnsF prg n k) f_Trail_claim.body [.val a0, .val a1] G) := by
  rw [rawF, fd_Trail_claim]; rfl
@[simp] theorem call_Trail_claim (n k : Nat) (a0 a1 : D) (G : List MO) : (fnsF prg n (k + 1)).call "Trail.claim" [a0, a1] G = rawF prg n k "Trail.claim" [a0, a1] G := by
  rw [fnsF]
  show (match prg.fd "Trail.claim" with
    | some d => (match bindG d.ps [a0, a1] [] [] d.dfl with
      | some l => rawF prg n k "Trail.claim" l G
      | none => .bad)
    | none => .bad) = _
  rw [fd_Trail_claim]
  rfl
theorem fd_Trail_table : prg.fd "Trail.table" = some f_Trail_table := by kernel_rfl
theorem raw_Trail_table (n k : Nat) (a0 : D) (G : List MO) : rawF prg n (k + 1) "Trail.table" [a0] G = endF (evSs (fnsF prg n k) f_Trail_table.body [.val a0, .no] G) := by
  rw [rawF, fd_Trail_table]; rfl
@[simp] theorem call_Trail_table (n k : Nat) (a0 : D) (G : List MO) : (fnsF prg n (k + 1)).call "Trail.table" [a0] G = rawF prg n k "Trail.table" [a0] G := by
  rw [fnsF]
  show (match prg.fd "Trail.table" with
    | some d => (match bindG d.ps [a0] [] [] d.dfl with
      | some l => rawF prg n k "Trail.table" l G
      | none => .bad)
    | none => .bad) = _
  rw [fd_Trail_table]
  rfl
theorem fd_fact_from : prg.fd "fact_from" = some f_fact_from := by kernel_rfl
theorem raw_fact_from (n k : Nat) (a0 : D) (G : List MO) : rawF prg n (k + 1) "fact_from" [a0] G = endF (evSs (fnsF prg n k) f_fact_from.body [.val a0, .no, .no] G) := by
  rw [rawF, fd_fact_from]; rfl
@[simp] theorem call_fact_from (n k : Nat) (a0 : D) (G : List MO) : (fnsF prg n (k + 1)).call "fact_from" [a0] G = rawF prg n k "fact_from" [a0] G := by
  rw [fnsF]
  show (match prg.fd "fact_from" with
    | some d => (match bindG d.ps [a0] [] [] d.dfl with
      | some l => rawF prg n k "fact_from" l G
      | none => .bad)
    | none => .bad) = _
  rw [fd_fact_from]
  rfl
theorem fd_atom_from : prg.fd "atom_from" = some f_atom_from := by kernel_rfl
theorem raw_atom_from (n k : Nat) (a0 a1 : D) (G : List MO) : rawF prg n (k + 1) "atom_from" [a0, a1] G = endF (evSs (fnsF prg n k) f_atom_from.body [.val a0, .val a1, .no, .no, .no] G) := by
  rw [rawF, fd_atom_from]; rfl
@[simp] theorem call_atom_from (n k : Nat) (a0 a1 : D) (G : List MO) : (fnsF prg n (k + 1)).call "atom_from" [a0, a1] G = rawF prg n k "atom_from" [a0, a1] G := by
  rw [fnsF]
  show (match prg.fd "atom_from" with
    | some d => (match bindG d.ps [a0, a1] [] [] d.dfl with
      | some l => rawF prg n k "atom_from" l G
      | none => .bad)
    | none => .bad) = _
  rw [fd_atom_from]
  rfl
theorem fd_atoms_from : prg.fd "atoms_from" = some f_atoms_from := by kernel_rfl
theorem raw_atoms_from (n k : Nat) (a0 a1 : D) (G : List MO) : rawF prg n (k + 1) "atoms_from" [a0, a1] G = endF (evSs (fnsF prg n k) f_atoms_from.body [.val a0, .val a1, .no, .no, .no] G) := by
  rw [rawF, fd_atoms_from]; rfl
@[simp] theorem call_atoms_from (n k : Nat) (a0 a1 : D) (G : List MO) : (fnsF prg n (k + 1)).call "atoms_from" [a0, a1] G = rawF prg n k "atoms_from" [a0, a1] G := by
  rw [fnsF]
  show (match prg.fd "atoms_from" with
    | some d => (match bindG d.ps [a0, a1] [] [] d.dfl with
      | some l => rawF prg n k "atoms_from" l G
      | none => .bad)
    | none => .bad) = _
  rw [fd_atoms_from]
  rfl
theorem fd_variable_from : prg.fd "variable_from" = some f_variable_from := by kernel_rfl
theorem raw_variable_from (n k : Nat) (a0 a1 a2 : D) (G : List MO) : rawF prg n (k + 1) "variable_from" [a0, a1, a2] G = endF (evSs (fnsF prg n k) f_variable_from.body [.val a0, .val a1, .val a2, .no] G) := by
  rw [rawF, fd_variable_from]; rfl
@[simp] theorem call_variable_from (n k : Nat) (a0 a1 a2 : D) (G : List MO) : (fnsF prg n (k + 1)).call "variable_from" [a0, a1, a2] G = rawF prg n k "variable_from" [a0, a1, a2] G := by
  rw [fnsF]
  show (match prg.fd "variable_from" with
    | some d => (match bindG d.ps [a0, a1, a2] [] [] d.dfl with
      | some l => rawF prg n k "variable_from" l G
      | none => .bad)
    | none => .bad) = _
  rw [fd_variable_from]
  rfl
theorem fd_in_body : prg.fd "in_body" = some f_in_body := by kernel_rfl
theorem raw_in_body (n k : Nat) (a0 : D) (G : List MO) : rawF prg n (k + 1) "in_body" [a0] G = endF (evSs (fnsF prg n k) f_in_body.body [.val a0, .no, .no, .no, .no, .no] G) := by
  rw [rawF, fd_in_body]; rfl
@[simp] theorem call_in_body (n k : Nat) (a0 : D) (G : List MO) : (fnsF prg n (k + 1)).call "in_body" [a0] G = rawF prg n k "in_body" [a0] G := by
  rw [fnsF]
  show (match prg.fd "in_body" with
    | some d => (match bindG d.ps [a0] [] [] d.dfl with
      | some l => rawF prg n k "in_body" l G
      | none => .bad)
    | none => .bad) = _
  rw [fd_in_body]
  rfl
theorem fd_saying_from : prg.fd "saying_from" = some f_saying_from := by kernel_rfl
theorem raw_saying_from (n k : Nat) (a0 : D) (G : List MO) : rawF prg n (k + 1) "saying_from" [a0] G = endF (evSs (fnsF prg n k) f_saying_from.body [.val a0, .no, .no, .no, .no] G) := by
  rw [rawF, fd_saying_from]; rfl
@[simp] theorem call_saying_from (n k : Nat) (a0 : D) (G : List MO) : (fnsF prg n (k + 1)).call "saying_from" [a0] G = rawF prg n k "saying_from" [a0] G := by
  rw [fnsF]
  show (match prg.fd "saying_from" with
    | some d => (match bindG d.ps [a0] [] [] d.dfl with
      | some l => rawF prg n k "saying_from" l G
      | none => .bad)
    | none => .bad) = _
  rw [fd_saying_from]
  rfl
theorem fd_read_fact : prg.fd "read_fact" = some f_read_fact := by kernel_rfl
theorem raw_read_fact (n k : Nat) (a0 a1 : D) (G : List MO) : rawF prg n (k + 1) "read_fact" [a0, a1] G = endF (evSs (fnsF prg n k) f_read_fact.body [.val a0, .val a1] G) := by
  rw [rawF, fd_read_fact]; rfl
@[simp] theorem call_read_fact (n k : Nat) (a0 a1 : D) (G : List MO) : (fnsF prg n (k + 1)).call "read_fact" [a0, a1] G = rawF prg n k "read_fact" [a0, a1] G := by
  rw [fnsF]
  show (match prg.fd "read_fact" with
    | some d => (match bindG d.ps [a0, a1] [] [] d.dfl with
      | some l => rawF prg n k "read_fact" l G
      | none => .bad)
    | none => .bad) = _
  rw [fd_read_fact]
  rfl
theorem fd_read_saying : prg.fd "read_saying" = some f_read_saying := by kernel_rfl
theorem raw_read_saying (n k : Nat) (a0 a1 : D) (G : List MO) : rawF prg n (k + 1) "read_saying" [a0, a1] G = endF (evSs (fnsF prg n k) f_read_saying.body [.val a0, .val a1] G) := by
  rw [rawF, fd_read_saying]; rfl
@[simp] theorem call_read_saying (n k : Nat) (a0 a1 : D) (G : List MO) : (fnsF prg n (k + 1)).call "read_saying" [a0, a1] G = rawF prg n k "read_saying" [a0, a1] G := by
  rw [fnsF]
  show (match prg.fd "read_saying" with
    | some d => (match bindG d.ps [a0, a1] [] [] d.dfl with
      | some l => rawF prg n k "read_saying" l G
      | none => .bad)
    | none => .bad) = _
  rw [fd_read_saying]
  rfl
theorem fd_read_world : prg.fd "read_world" = some f_read_world := by kernel_rfl
theorem raw_read_world (n k : Nat) (a0 : D) (G : List MO) : rawF prg n (k + 1) "read_world" [a0] G = endF (evSs (fnsF prg n k) f_read_world.body [.val a0, .no, .no] G) := by
  rw [rawF, fd_read_world]; rfl
@[simp] theorem call_read_world (n k : Nat) (a0 : D) (G : List MO) : (fnsF prg n (k + 1)).call "read_world" [a0] G = rawF prg n k "read_world" [a0] G := by
  rw [fnsF]
  show (match prg.fd "read_world" with
    | some d => (match bindG d.ps [a0] [] [] d.dfl with
      | some l => rawF prg n k "read_world" l G
      | none => .bad)
    | none => .bad) = _
  rw [fd_read_world]
  rfl
theorem fd_read_sayings : prg.fd "read_sayings" = some f_read_sayings := by kernel_rfl
theorem raw_read_sayings (n k : Nat) (a0 : D) (G : List MO) : rawF prg n (k + 1) "read_sayings" [a0] G = endF (evSs (fnsF prg n k) f_read_sayings.body [.val a0, .no, .no] G) := by
  rw [rawF, fd_read_sayings]; rfl
@[simp] theorem call_read_sayings (n k : Nat) (a0 : D) (G : List MO) : (fnsF prg n (k + 1)).call "read_sayings" [a0] G = rawF prg n k "read_sayings" [a0] G := by
  rw [fnsF]
  show (match prg.fd "read_sayings" with
    | some d => (match bindG d.ps [a0] [] [] d.dfl with
      | some l => rawF prg n k "read_sayings" l G
      | none => .bad)
    | none => .bad) = _
  rw [fd_read_sayings]
  rfl
theorem fd_law_tape : prg.fd "_law_tape" = some f_law_tape := by kernel_rfl
theorem raw_law_tape (n k : Nat) (a0 : D) (G : List MO) : rawF prg n (k + 1) "_law_tape" [a0] G = endF (evSs (fnsF prg n k) f_law_tape.body [.val a0] G) := by
  rw [rawF, fd_law_tape]; rfl
@[simp] theorem call_law_tape (n k : Nat) (a0 : D) (G : List MO) : (fnsF prg n (k + 1)).call "_law_tape" [a0] G = rawF prg n k "_law_tape" [a0] G := by
  rw [fnsF]
  show (match prg.fd "_law_tape" with
    | some d => (match bindG d.ps [a0] [] [] d.dfl with
      | some l => rawF prg n k "_law_tape" l G
      | none => .bad)
    | none => .bad) = _
  rw [fd_law_tape]
  rfl
theorem fd_law_draw : prg.fd "_law_draw" = some f_law_draw := by kernel_rfl
theorem raw_law_draw (n k : Nat) (a0 a1 : D) (G : List MO) : rawF prg n (k + 1) "_law_draw" [a0, a1] G = endF (evSs (fnsF prg n k) f_law_draw.body [.val a0, .val a1, .no, .no, .no, .no, .no, .no] G) := by
  rw [rawF, fd_law_draw]; rfl
@[simp] theorem call_law_draw (n k : Nat) (a0 a1 : D) (G : List MO) : (fnsF prg n (k + 1)).call "_law_draw" [a0, a1] G = rawF prg n k "_law_draw" [a0, a1] G := by
  rw [fnsF]
  show (match prg.fd "_law_draw" with
    | some d => (match bindG d.ps [a0, a1] [] [] d.dfl with
      | some l => rawF prg n k "_law_draw" l G
      | none => .bad)
    | none => .bad) = _
  rw [fd_law_draw]
  rfl
theorem fd_law_number : prg.fd "_law_number" = some f_law_number := by kernel_rfl
theorem raw_law_number (n k : Nat) (a0 : D) (G : List MO) : rawF prg n (k + 1) "_law_number" [a0] G = endF (evSs (fnsF prg n k) f_law_number.body [.val a0] G) := by
  rw [rawF, fd_law_number]; rfl
@[simp] theorem call_law_number (n k : Nat) (a0 : D) (G : List MO) : (fnsF prg n (k + 1)).call "_law_number" [a0] G = rawF prg n k "_law_number" [a0] G := by
  rw [fnsF]
  show (match prg.fd "_law_number" with
    | some d => (match bindG d.ps [a0] [] [] d.dfl with
      | some l => rawF prg n k "_law_number" l G
      | none => .bad)
    | none => .bad) = _
  rw [fd_law_number]
  rfl
theorem fd_law_word : prg.fd "_law_word" = some f_law_word := by kernel_rfl
theorem raw_law_word (n k : Nat) (a0 : D) (G : List MO) : rawF prg n (k + 1) "_law_word" [a0] G = endF (evSs (fnsF prg n k) f_law_word.body [.val a0, .no, .no, .no] G) := by
  rw [rawF, fd_law_word]; rfl
@[simp] theorem call_law_word (n k : Nat) (a0 : D) (G : List MO) : (fnsF prg n (k + 1)).call "_law_word" [a0] G = rawF prg n k "_law_word" [a0] G := by
  rw [fnsF]
  show (match prg.fd "_law_word" with
    | some d => (match bindG d.ps [a0] [] [] d.dfl with
      | some l => rawF prg n k "_law_word" l G
      | none => .bad)
    | none => .bad) = _
  rw [fd_law_word]
  rfl
theorem fd_law_fact_drawn : prg.fd "_law_fact_drawn" = some f_law_fact_drawn := by kernel_rfl
theorem raw_law_fact_drawn (n k : Nat) (a0 : D) (G : List MO) : rawF prg n (k + 1) "_law_fact_drawn" [a0] G = endF (evSs (fnsF prg n k) f_law_fact_drawn.body [.val a0, .no, .no] G) := by
  rw [rawF, fd_law_fact_drawn]; rfl
@[simp] theorem call_law_fact_drawn (n k : Nat) (a0 : D) (G : List MO) : (fnsF prg n (k + 1)).call "_law_fact_drawn" [a0] G = rawF prg n k "_law_fact_drawn" [a0] G := by
  rw [fnsF]
  show (match prg.fd "_law_fact_drawn" with
    | some d => (match bindG d.ps [a0] [] [] d.dfl with
      | some l => rawF prg n k "_law_fact_drawn" l G
      | none => .bad)
    | none => .bad) = _
  rw [fd_law_fact_drawn]
  rfl
theorem fd_law_key : prg.fd "_law_key" = some f_law_key := by kernel_rfl
theorem raw_law_key (n k : Nat) (a0 : D) (G : List MO) : rawF prg n (k + 1) "_law_key" [a0] G = endF (evSs (fnsF prg n k) f_law_key.body [.val a0] G) := by
  rw [rawF, fd_law_key]; rfl
@[simp] theorem call_law_key (n k : Nat) (a0 : D) (G : List MO) : (fnsF prg n (k + 1)).call "_law_key" [a0] G = rawF prg n k "_law_key" [a0] G := by
  rw [fnsF]
  show (match prg.fd "_law_key" with
    | some d => (match bindG d.ps [a0] [] [] d.dfl with
      | some l => rawF prg n k "_law_key" l G
      | none => .bad)
    | none => .bad) = _
  rw [fd_law_key]
  rfl
theorem fd_law_world_drawn : prg.fd "_law_world_drawn" = some f_law_world_drawn := by kernel_rfl
theorem raw_law_world_drawn (n k : Nat) (a0 : D) (G : List MO) : rawF prg n (k + 1) "_law_world_drawn" [a0] G = endF (evSs (fnsF prg n k) f_law_world_drawn.body [.val a0, .no, .no] G) := by
  rw [rawF, fd_law_world_drawn]; rfl
@[simp] theorem call_law_world_drawn (n k : Nat) (a0 : D) (G : List MO) : (fnsF prg n (k + 1)).call "_law_world_drawn" [a0] G = rawF prg n k "_law_world_drawn" [a0] G := by
  rw [fnsF]
  show (match prg.fd "_law_world_drawn" with
    | some d => (match bindG d.ps [a0] [] [] d.dfl with
      | some l => rawF prg n k "_law_world_drawn" l G
      | none => .bad)
    | none => .bad) = _
  rw [fd_law_world_drawn]
  rfl
theorem fd_law_known : prg.fd "_law_known" = some f_law_known := by kernel_rfl
theorem raw_law_known (n k : Nat) (a0 : D) (G : List MO) : rawF prg n (k + 1) "_law_known" [a0] G = endF (evSs (fnsF prg n k) f_law_known.body [.val a0, .no, .no, .no, .no, .no] G) := by
  rw [rawF, fd_law_known]; rfl
@[simp] theorem call_law_known (n k : Nat) (a0 : D) (G : List MO) : (fnsF prg n (k + 1)).call "_law_known" [a0] G = rawF prg n k "_law_known" [a0] G := by
  rw [fnsF]
  show (match prg.fd "_law_known" with
    | some d => (match bindG d.ps [a0] [] [] d.dfl with
      | some l => rawF prg n k "_law_known" l G
      | none => .bad)
    | none => .bad) = _
  rw [fd_law_known]
  rfl
theorem fd_law_atoms_drawn : prg.fd "_law_atoms_drawn" = some f_law_atoms_drawn := by kernel_rfl
theorem raw_law_atoms_drawn (n k : Nat) (a0 : D) (G : List MO) : rawF prg n (k + 1) "_law_atoms_drawn" [a0] G = endF (evSs (fnsF prg n k) f_law_atoms_drawn.body [.val a0, .no, .no, .no, .no] G) := by
  rw [rawF, fd_law_atoms_drawn]; rfl
@[simp] theorem call_law_atoms_drawn (n k : Nat) (a0 : D) (G : List MO) : (fnsF prg n (k + 1)).call "_law_atoms_drawn" [a0] G = rawF prg n k "_law_atoms_drawn" [a0] G := by
  rw [fnsF]
  show (match prg.fd "_law_atoms_drawn" with
    | some d => (match bindG d.ps [a0] [] [] d.dfl with
      | some l => rawF prg n k "_law_atoms_drawn" l G
      | none => .bad)
    | none => .bad) = _
  rw [fd_law_atoms_drawn]
  rfl
theorem fd_law_saying_drawn : prg.fd "_law_saying_drawn" = some f_law_saying_drawn := by kernel_rfl
theorem raw_law_saying_drawn (n k : Nat) (a0 : D) (G : List MO) : rawF prg n (k + 1) "_law_saying_drawn" [a0] G = endF (evSs (fnsF prg n k) f_law_saying_drawn.body [.val a0, .no, .no, .no] G) := by
  rw [rawF, fd_law_saying_drawn]; rfl
@[simp] theorem call_law_saying_drawn (n k : Nat) (a0 : D) (G : List MO) : (fnsF prg n (k + 1)).call "_law_saying_drawn" [a0] G = rawF prg n k "_law_saying_drawn" [a0] G := by
  rw [fnsF]
  show (match prg.fd "_law_saying_drawn" with
    | some d => (match bindG d.ps [a0] [] [] d.dfl with
      | some l => rawF prg n k "_law_saying_drawn" l G
      | none => .bad)
    | none => .bad) = _
  rw [fd_law_saying_drawn]
  rfl
theorem fd_law_thing : prg.fd "_law_thing" = some f_law_thing := by kernel_rfl
theorem raw_law_thing (n k : Nat) (a0 a1 : D) (G : List MO) : rawF prg n (k + 1) "_law_thing" [a0, a1] G = endF (evSs (fnsF prg n k) f_law_thing.body [.val a0, .val a1, .no] G) := by
  rw [rawF, fd_law_thing]; rfl
@[simp] theorem call_law_thing (n k : Nat) (a0 a1 : D) (G : List MO) : (fnsF prg n (k + 1)).call "_law_thing" [a0, a1] G = rawF prg n k "_law_thing" [a0, a1] G := by
  rw [fnsF]
  show (match prg.fd "_law_thing" with
    | some d => (match bindG d.ps [a0, a1] [] [] d.dfl with
      | some l => rawF prg n k "_law_thing" l G
      | none => .bad)
    | none => .bad) = _
  rw [fd_law_thing]
  rfl
theorem fd_law_fact_text : prg.fd "_law_fact_text" = some f_law_fact_text := by kernel_rfl
theorem raw_law_fact_text (n k : Nat) (a0 : D) (G : List MO) : rawF prg n (k + 1) "_law_fact_text" [a0] G = endF (evSs (fnsF prg n k) f_law_fact_text.body [.val a0, .no, .no] G) := by
  rw [rawF, fd_law_fact_text]; rfl
@[simp] theorem call_law_fact_text (n k : Nat) (a0 : D) (G : List MO) : (fnsF prg n (k + 1)).call "_law_fact_text" [a0] G = rawF prg n k "_law_fact_text" [a0] G := by
  rw [fnsF]
  show (match prg.fd "_law_fact_text" with
    | some d => (match bindG d.ps [a0] [] [] d.dfl with
      | some l => rawF prg n k "_law_fact_text" l G
      | none => .bad)
    | none => .bad) = _
  rw [fd_law_fact_text]
  rfl
theorem fd_law_atoms_text : prg.fd "_law_atoms_text" = some f_law_atoms_text := by kernel_rfl
theorem raw_law_atoms_text (n k : Nat) (a0 : D) (G : List MO) : rawF prg n (k + 1) "_law_atoms_text" [a0] G = endF (evSs (fnsF prg n k) f_law_atoms_text.body [.val a0, .no, .no, .no, .no, .no] G) := by
  rw [rawF, fd_law_atoms_text]; rfl
@[simp] theorem call_law_atoms_text (n k : Nat) (a0 : D) (G : List MO) : (fnsF prg n (k + 1)).call "_law_atoms_text" [a0] G = rawF prg n k "_law_atoms_text" [a0] G := by
  rw [fnsF]
  show (match prg.fd "_law_atoms_text" with
    | some d => (match bindG d.ps [a0] [] [] d.dfl with
      | some l => rawF prg n k "_law_atoms_text" l G
      | none => .bad)
    | none => .bad) = _
  rw [fd_law_atoms_text]
  rfl
theorem fd_law_saying_text : prg.fd "_law_saying_text" = some f_law_saying_text := by kernel_rfl
theorem raw_law_saying_text (n k : Nat) (a0 : D) (G : List MO) : rawF prg n (k + 1) "_law_saying_text" [a0] G = endF (evSs (fnsF prg n k) f_law_saying_text.body [.val a0] G) := by
  rw [rawF, fd_law_saying_text]; rfl
@[simp] theorem call_law_saying_text (n k : Nat) (a0 : D) (G : List MO) : (fnsF prg n (k + 1)).call "_law_saying_text" [a0] G = rawF prg n k "_law_saying_text" [a0] G := by
  rw [fnsF]
  show (match prg.fd "_law_saying_text" with
    | some d => (match bindG d.ps [a0] [] [] d.dfl with
      | some l => rawF prg n k "_law_saying_text" l G
      | none => .bad)
    | none => .bad) = _
  rw [fd_law_saying_text]
  rfl
theorem fd_law_text : prg.fd "_law_text" = some f_law_text := by kernel_rfl
theorem raw_law_text (n k : Nat) (a0 a1 : D) (G : List MO) : rawF prg n (k + 1) "_law_text" [a0, a1] G = endF (evSs (fnsF prg n k) f_law_text.body [.val a0, .val a1, .no] G) := by
  rw [rawF, fd_law_text]; rfl
@[simp] theorem call_law_text (n k : Nat) (a0 a1 : D) (G : List MO) : (fnsF prg n (k + 1)).call "_law_text" [a0, a1] G = rawF prg n k "_law_text" [a0, a1] G := by
  rw [fnsF]
  show (match prg.fd "_law_text" with
    | some d => (match bindG d.ps [a0, a1] [] [] d.dfl with
      | some l => rawF prg n k "_law_text" l G
      | none => .bad)
    | none => .bad) = _
  rw [fd_law_text]
  rfl
theorem fd_law_shown : prg.fd "_law_shown" = some f_law_shown := by kernel_rfl
theorem raw_law_shown (n k : Nat) (a0 a1 a2 : D) (G : List MO) : rawF prg n (k + 1) "_law_shown" [a0, a1, a2] G = endF (evSs (fnsF prg n k) f_law_shown.body [.val a0, .val a1, .val a2] G) := by
  rw [rawF, fd_law_shown]; rfl
@[simp] theorem call_law_shown (n k : Nat) (a0 a1 a2 : D) (G : List MO) : (fnsF prg n (k + 1)).call "_law_shown" [a0, a1, a2] G = rawF prg n k "_law_shown" [a0, a1, a2] G := by
  rw [fnsF]
  show (match prg.fd "_law_shown" with
    | some d => (match bindG d.ps [a0, a1, a2] [] [] d.dfl with
      | some l => rawF prg n k "_law_shown" l G
      | none => .bad)
    | none => .bad) = _
  rw [fd_law_shown]
  rfl
theorem fd_law_read : prg.fd "_law_read" = some f_law_read := by kernel_rfl
theorem raw_law_read (n k : Nat) (a0 a1 a2 a3 : D) (G : List MO) : rawF prg n (k + 1) "_law_read" [a0, a1, a2, a3] G = endF (evSs (fnsF prg n k) f_law_read.body [.val a0, .val a1, .val a2, .val a3] G) := by
  rw [rawF, fd_law_read]; rfl
@[simp] theorem call_law_read (n k : Nat) (a0 a1 a2 a3 : D) (G : List MO) : (fnsF prg n (k + 1)).call "_law_read" [a0, a1, a2, a3] G = rawF prg n k "_law_read" [a0, a1, a2, a3] G := by
  rw [fnsF]
  show (match prg.fd "_law_read" with
    | some d => (match bindG d.ps [a0, a1, a2, a3] [] [] d.dfl with
      | some l => rawF prg n k "_law_read" l G
      | none => .bad)
    | none => .bad) = _
  rw [fd_law_read]
  rfl
theorem fd_law : prg.fd "law" = some f_law := by kernel_rfl
theorem raw_law (n k : Nat) (a0 : D) (G : List MO) : rawF prg n (k + 1) "law" [a0] G = endF (evSs (fnsF prg n k) f_law.body [.val a0, .no, .no, .no, .no, .no, .no, .no, .no, .no] G) := by
  rw [rawF, fd_law]; rfl
@[simp] theorem call_law (n k : Nat) (a0 : D) (G : List MO) : (fnsF prg n (k + 1)).call "law" [a0] G = rawF prg n k "law" [a0] G := by
  rw [fnsF]
  show (match prg.fd "law" with
    | some d => (match bindG d.ps [a0] [] [] d.dfl with
      | some l => rawF prg n k "law" l G
      | none => .bad)
    | none => .bad) = _
  rw [fd_law]
  rfl
end K85

end
section
set_option Elab.async false
set_option linter.all false
set_option maxRecDepth 100000
set_option maxHeartbeats 1000000
/-! Ml: loops and comprehensions, by invariants. -/
namespace Mi
open PySem
theorem settle_val {d : D} (h : ∀ i, d ≠ .slot i) (S : List Slot) (G : List MO) : Mi.settle d S G = .ok d S G := by
  cases d <;> first | rfl | exact absurd rfl (h _)
def plainAt (S : List Slot) (v : Nat) : Bool := match S[v]? with
    | some s => s.plain
    | none => false
theorem plainAt_ok {S : List Slot} {v : Nat} {s : Slot} (h : S[v]? = some s) (hp : s.plain = true) : plainAt S v = true := by
  unfold plainAt; rw [h]; exact hp
theorem inBlk_ok {β : Type} {vs : List Nat} {m : Ev β} {S S' : List Slot} {G G' : List MO} {a : β} (h : vs.all (plainAt S) = true) (hm : m S G = .ok a S' G') : inBlk vs m S G = .ok a (restL S S' vs) G' := by
  have e : inBlk vs m S G = if vs.all (plainAt S) = true then (match m S G with
    | .ok a σ' G' => .ok a (restL S σ' vs) G'
    | _ => .bad) else .bad := rfl
  rw [e, if_pos h, hm]
section
variable {α : Type} (g : α → D)
theorem loopLc_gen {vs : List Nat} {asg : D → Ev Unit} {test : Ev Bool} {elt : Ev D} (st : α → List Slot) (P : List α → List D → List MO → Prop) (N : Nat) : ∀ (l done : List α) (acc : List D) (S : List Slot) (G : List MO),
    done.length + l.length = N → acc.length + l.length ≤ sizeLine → (∀ a ∈ l, ∀ G, ((wipeD vs).bind fun _ => asg (g a)) S G = .ok () (st a) G) → (∀ b ∈ l, ∀ a ∈ l, ∀ G, ((wipeD vs).bind fun _ => asg (g a)) (st b) G = .ok () (st a) G) →
    (∀ a ∈ l, ∀ done acc G, done.length < N → P done acc G → (test (st a) G = .ok true (st a) G ∧ ∃ x G', elt (st a) G = .ok x (st a) G' ∧ P (done ++ [a]) (acc ++ [x]) G') ∨ (test (st a) G = .ok false (st a) G ∧ P (done ++ [a]) acc G)) →
    P done acc G → ∃ r S' G', loopLc vs asg test elt (l.map g) acc S G = .ok r S' G' ∧ P (done ++ l) r G' ∧ (S' = S ∨ ∃ a ∈ l, S' = st a)
  | [], done, acc, S, G, _, _, _, _, _, hP => ⟨acc, S, G, rfl, by rw [List.append_nil]; exact hP, .inl rfl⟩
  | a :: l, done, acc, S, G, hN, hl, h0, h1, hs, hP => by
    have hN1 : done.length + l.length + 1 = N := by rw [List.length_cons] at hN; omega
    have hN2 : (done ++ [a]).length + l.length = N := by rw [List.length_append, List.length_singleton]; omega
    have ha : a ∈ a :: l := List.mem_cons_self ..
    have e0 : ∀ k : Unit → Ev (List D), ((wipeD vs).bind fun _ => (asg (g a)).bind k) S G = k () (st a) G := fun k => by
      have h := h0 a ha G
      show ((wipeD vs).bind fun _ => (asg (g a)).bind k) S G = _
      have e : ((wipeD vs).bind fun _ => (asg (g a)).bind k) S G = (((wipeD vs).bind fun _ => asg (g a)) S G).andThen k := rfl
      rw [e, h]; rfl
    rw [List.map_cons]
    unfold loopLc
    rw [e0]
    have hm : ∀ b ∈ l, b ∈ a :: l := fun b hb => List.mem_cons_of_mem _ hb
    have hl' : acc.length + l.length + 1 ≤ sizeLine := by rw [List.length_cons] at hl; omega
    rcases hs a ha done acc G (by omega) hP with ⟨ht, x, G', he, hP'⟩ | ⟨ht, hP'⟩
    · obtain ⟨r, S', G2, hr, hP2, hS⟩ := loopLc_gen st P N l (done ++ [a]) (acc ++ [x]) (st a) G' hN2 (by rw [List.length_append, List.length_singleton]; omega) (fun b hb G => h1 a ha b (hm b hb) G)
        (fun b hb c hc G => h1 b (hm b hb) c (hm c hc) G) (fun b hb => hs b (hm b hb)) hP'
      refine ⟨r, S', G2, ?_, by rw [List.append_assoc] at hP2; exact hP2, ?_⟩
      · show (test (st a) G).andThen _ = _
        rw [ht]
        show (elt (st a) G).andThen _ = _
        rw [he]
        show (if acc.length < sizeLine then loopLc vs asg test elt (l.map g) (acc ++ [x]) else Ev.bad) (st a) G' = _
        rw [if_pos (by omega)]
        exact hr
      · rcases hS with hS | ⟨b, hb, hS⟩
        · exact .inr ⟨a, ha, hS⟩
        · exact .inr ⟨b, hm b hb, hS⟩
    · obtain ⟨r, S', G2, hr, hP2, hS⟩ := loopLc_gen st P N l (done ++ [a]) acc (st a) G hN2 (by omega) (fun b hb G => h1 a ha b (hm b hb) G)
        (fun b hb c hc G => h1 b (hm b hb) c (hm c hc) G) (fun b hb => hs b (hm b hb)) hP'
      refine ⟨r, S', G2, ?_, by rw [List.append_assoc] at hP2; exact hP2, ?_⟩
      · show (test (st a) G).andThen _ = _
        rw [ht]
        exact hr
      · rcases hS with hS | ⟨b, hb, hS⟩
        · exact .inr ⟨a, ha, hS⟩
        · exact .inr ⟨b, hm b hb, hS⟩
variable {Φ : Fns}
/-- a comprehension over one name -/
theorem lc_1 {elt : E} {v : Nat} {it : I} {h : Bool} {c : E} {S : List Slot} {G G0 : List MO} {l : List α} (P : List α → List D → List MO → Prop) (hit : evI Φ it S G = .ok (l.map g) S G0) {s : Slot} (hv : S[v]? = some s) (hp : s.plain = true)
    (hl : l.length ≤ sizeLine) (step : ∀ a ∈ l, ∀ done acc G, done.length < l.length → P done acc G →
      ((if h = true then (evE Φ c).bind truth else Ev.pure true) (S.set v (.val (g a))) G = .ok true (S.set v (.val (g a))) G ∧ ∃ x G', ((evE Φ elt).bind Mi.settle) (S.set v (.val (g a))) G = .ok x (S.set v (.val (g a))) G' ∧ P (done ++ [a]) (acc ++ [x]) G')
      ∨ ((if h = true then (evE Φ c).bind truth else Ev.pure true) (S.set v (.val (g a))) G = .ok false (S.set v (.val (g a))) G ∧ P (done ++ [a]) acc G)) (h0 : P [] [] G0) :
    ∃ r G', evE Φ (.lc elt (.nm v) it h c [v]) S G = .ok (.lst r) S G' ∧ P l r G' := by
  have hv' : v < S.length := (List.getElem?_eq_some_iff.mp hv).1
  have hget : S[v] = s := (List.getElem?_eq_some_iff.mp hv).2
  have hsv : ∀ x, (S.set v x).set v s = S := fun x => by rw [List.set_set, ← hget, List.set_getElem_self]
  obtain ⟨r, S', G', hr, hP, hS⟩ := loopLc_gen g (vs := [v]) (asg := asgT (.nm v)) (test := if h = true then (evE Φ c).bind truth else Ev.pure true) (elt := (evE Φ elt).bind Mi.settle) (fun a => S.set v (.val (g a))) P l.length l [] [] S G0
    (by simp) (by simpa using hl) (fun a _ G => by simp [wipeD, wipeL, asgT, ownSet, hv']) (fun b _ a _ G => by simp [wipeD, wipeL, asgT, ownSet, hv']) step h0
  refine ⟨r, G', ?_, hP⟩
  show (evI Φ it S G).andThen _ = _
  rw [hit]
  show (inBlk [v] _ S G0).andThen _ = _
  rw [inBlk_ok (by simp [plainAt_ok hv hp]) hr]
  show Rs.ok (D.lst r) (restL S S' [v]) G' = _
  have e : restL S S' [v] = S := by
    show S'.set v (S.getD v .no) = S
    rw [List.getD_eq_getElem?_getD, hv]
    rcases hS with rfl | ⟨a, _, rfl⟩
    · show S'.set v s = S'
      rw [← hget, List.set_getElem_self]
    · exact hsv _
  rw [e]
/-- .. pure -/
theorem lc_1p {elt : E} {v : Nat} {it : I} {c : E} {S : List Slot} {G G0 : List MO} {l : List α} (f : α → D) (hit : evI Φ it S G = .ok (l.map g) S G0) {s : Slot} (hv : S[v]? = some s) (hp : s.plain = true)
    (hl : l.length ≤ sizeLine) (step : ∀ a ∈ l, ((evE Φ elt).bind Mi.settle) (S.set v (.val (g a))) G0 = .ok (f a) (S.set v (.val (g a))) G0) :
    evE Φ (.lc elt (.nm v) it false c [v]) S G = .ok (.lst (l.map f)) S G0 := by
  obtain ⟨r, G', hr, rfl, rfl⟩ := lc_1 g (h := false) (elt := elt) (c := c) (fun done acc G => acc = done.map f ∧ G = G0) hit hv hp hl (fun a ha done acc G _ hP => .inl ⟨rfl, f a, G0, by rw [hP.2]; exact step a ha, by rw [hP.1, List.map_append]; rfl, rfl⟩) ⟨rfl, rfl⟩
  exact hr
/-- a comprehension over two names -/
theorem lc_2 {elt : E} {v w : Nat} {it : I} {h : Bool} {c : E} {S : List Slot} {G G0 : List MO} {l : List α} (x y : α → D) (P : List α → List D → List MO → Prop) (hit : evI Φ it S G = .ok (l.map fun a => .tup [x a, y a]) S G0) {s t : Slot} (hv : S[v]? = some s) (hp : s.plain = true)
    (hw : S[w]? = some t) (hq : t.plain = true) (hvw : v ≠ w)
    (hl : l.length ≤ sizeLine) (step : ∀ a ∈ l, ∀ done acc G, done.length < l.length → P done acc G →
      ((if h = true then (evE Φ c).bind truth else Ev.pure true) ((S.set v (.val (x a))).set w (.val (y a))) G = .ok true ((S.set v (.val (x a))).set w (.val (y a))) G ∧ ∃ z G', ((evE Φ elt).bind Mi.settle) ((S.set v (.val (x a))).set w (.val (y a))) G = .ok z ((S.set v (.val (x a))).set w (.val (y a))) G' ∧ P (done ++ [a]) (acc ++ [z]) G')
      ∨ ((if h = true then (evE Φ c).bind truth else Ev.pure true) ((S.set v (.val (x a))).set w (.val (y a))) G = .ok false ((S.set v (.val (x a))).set w (.val (y a))) G ∧ P (done ++ [a]) acc G)) (h0 : P [] [] G0) :
    ∃ r G', evE Φ (.lc elt (.tp (.cons (.nm v) (.cons (.nm w) .nil))) it h c [v, w]) S G = .ok (.lst r) S G' ∧ P l r G' := by
  have hv' : v < S.length := (List.getElem?_eq_some_iff.mp hv).1
  have hget : S[v] = s := (List.getElem?_eq_some_iff.mp hv).2
  have hw' : w < S.length := (List.getElem?_eq_some_iff.mp hw).1
  have hgetw : S[w] = t := (List.getElem?_eq_some_iff.mp hw).2
  have key : ∀ (S' : List Slot), S'.length = S.length → ∀ a b, (((S'.set w .no).set v .no).set v a).set w b = (S'.set v a).set w b := fun S' hS' a b => by
    rw [List.set_set, List.set_comm _ _ hvw.symm, List.set_set]
  have key2 : ∀ a b c d, ((((S.set v a).set w b)).set v c).set w d = (S.set v c).set w d := fun a b c d => by
    rw [List.set_comm _ _ hvw.symm, List.set_set, List.set_set]
  obtain ⟨r, S', G', hr, hP, hS⟩ := loopLc_gen (fun a => D.tup [x a, y a]) (vs := [v, w]) (asg := asgT (.tp (.cons (.nm v) (.cons (.nm w) .nil)))) (test := if h = true then (evE Φ c).bind truth else Ev.pure true) (elt := (evE Φ elt).bind Mi.settle) (fun a => (S.set v (.val (x a))).set w (.val (y a))) P l.length l [] [] S G0
    (by simp) (by simpa using hl) (fun a _ G => by simp [wipeD, wipeL, asgT, asgTs, ownSet, hv', hw', Tgs.len, Ev.pure]; rw [List.set_comm _ _ hvw, List.set_set, List.set_comm _ _ hvw.symm]) (fun b _ a _ G => by
      simp [wipeD, wipeL, asgT, asgTs, ownSet, hv', hw', Tgs.len, Ev.pure]
      rw [List.set_comm _ _ hvw, List.set_set, List.set_comm _ _ hvw.symm, List.set_set]) step h0
  refine ⟨r, G', ?_, hP⟩
  show (evI Φ it S G).andThen _ = _
  rw [hit]
  show (inBlk [v, w] _ S G0).andThen _ = _
  rw [inBlk_ok (by simp [plainAt_ok hv hp, plainAt_ok hw hq]) hr]
  show Rs.ok (D.lst r) (restL S S' [v, w]) G' = _
  have e : restL S S' [v, w] = S := by
    show (S'.set w (S.getD w .no)).set v (S.getD v .no) = S
    simp only [List.getD_eq_getElem?_getD, hv, hw]
    show (S'.set w t).set v s = S
    rcases hS with rfl | ⟨a, _, rfl⟩
    · rw [← hgetw, List.set_getElem_self, ← hget, List.set_getElem_self]
    · rw [List.set_set, List.set_comm _ _ hvw, List.set_set, ← hgetw, List.set_getElem_self, ← hget, List.set_getElem_self]
  rw [e]
/-- a for loop -/
theorem for_gen {t : Tg} {b : Ss} (P : List α → List Slot → List MO → Prop) (N : Nat) : ∀ (l done : List α) (S : List Slot) (G : List MO), done.length + l.length = N →
    (∀ a ∈ l, ∀ done S G, done.length < N → P done S G → ∃ S' G', ((asgT t (g a)).bind fun _ => evSs Φ b) S G = .ok .nx S' G' ∧ P (done ++ [a]) S' G') →
    P done S G → ∃ S' G', loopFor (asgT t) (evSs Φ b) (l.map g) S G = .ok .nx S' G' ∧ P (done ++ l) S' G'
  | [], done, S, G, _, _, hP => ⟨S, G, rfl, by rw [List.append_nil]; exact hP⟩
  | a :: l, done, S, G, hN, hs, hP => by
    have hN1 : done.length + l.length + 1 = N := by rw [List.length_cons] at hN; omega
    obtain ⟨S1, G1, e1, hP1⟩ := hs a (List.mem_cons_self ..) done S G (by omega) hP
    obtain ⟨S2, G2, e2, hP2⟩ := for_gen P N l (done ++ [a]) S1 G1 (by rw [List.length_append, List.length_singleton]; omega) (fun b hb => hs b (List.mem_cons_of_mem _ hb)) hP1
    refine ⟨S2, G2, ?_, by rw [List.append_assoc] at hP2; exact hP2⟩
    rw [List.map_cons]
    unfold loopFor
    have e : ∀ k : Fl → Ev Fl, ((asgT t (g a)).bind fun _ => (evSs Φ b).bind k) S G = (((asgT t (g a)).bind fun _ => evSs Φ b) S G).andThen k := fun k => by
      show (asgT t (g a) S G).andThen _ = ((asgT t (g a) S G).andThen _).andThen k
      cases asgT t (g a) S G <;> rfl
    rw [e, e1]
    exact e2
theorem rng_z {e : E} {S : List Slot} {G G0 : List MO} {z : Int} (he : evE Φ e S G = .ok (.int z) S G0) (h0 : 0 ≤ z) (hm : z < 1000000) : evI Φ (.rng e) S G = .ok ((List.range z.toNat).map fun (k : Nat) => D.int k) S G0 := by
  rw [X.i_rng, X.x_bind, he]
  have hc : -(2 ^ 62) ≤ z ∧ z < 2 ^ 62 := ⟨by omega, by omega⟩
  show (if -(2 ^ 62) ≤ z ∧ z < 2 ^ 62 then Ev.pure ((List.range z.toNat).map fun (k : Nat) => D.int k) else Ev.bad) S G0 = _
  rw [if_pos hc]
  rfl
/-- a for loop's statement -/
theorem for_st {t : Tg} {it : I} {b : Ss} {l : List α} {S : List Slot} {G G0 : List MO} (P : List α → List Slot → List MO → Prop) (hit : evI Φ it S G = .ok (l.map g) S G0)
    (step : ∀ a ∈ l, ∀ done S G, done.length < l.length → P done S G → ∃ S' G', ((asgT t (g a)).bind fun _ => evSs Φ b) S G = .ok .nx S' G' ∧ P (done ++ [a]) S' G')
    (h0 : P [] S G0) : ∃ S' G', evS Φ (.for_ t it b) S G = .ok .nx S' G' ∧ P l S' G' := by
  rw [X.s_for]
  show ∃ S' G', (evI Φ it S G).andThen _ = _ ∧ _
  rw [hit]
  exact for_gen g P l.length l [] S G0 (by simp) step h0
end
theorem join_at {a : Str} {ys : List Str} {S : List Slot} {G : List MO} (hb : (ys.map (·.length)).sum + ys.length * a.length ≤ 16777216) : evBm .join (.str a) [.lst (ys.map .str)] S G = .ok (.str (Txt.join a ys)) S G := by
  rw [X.x_join, X.x_joinOf_l, X.strsOf_map (fun x => x), List.map_id']
  show (if _ then _ else _) = _
  rw [if_pos hb]
theorem lens_le {B : Nat} : ∀ {ys : List Str}, (∀ y ∈ ys, y.length ≤ B) → (ys.map (·.length)).sum ≤ ys.length * B
  | [], _ => by simp
  | y :: r, h => by
    have h1 := lens_le fun z hz => h z (List.mem_cons_of_mem _ hz)
    have h2 := h y (List.mem_cons_self ..)
    have e : (r.length + 1) * B = r.length * B + B := Nat.succ_mul ..
    simp only [List.map_cons, List.sum_cons, List.length_cons]
    omega
end Mi

end
section
set_option Elab.async false
set_option linter.all false
set_option maxRecDepth 100000
set_option maxHeartbeats 1000000
namespace K85
open Mi.X
open PySem Mi
/-! ### the tape -/
def tapeO (cs : List Int) (at_ left turn : Int) : MO := .dic [.str "cells", .str "at", .str "left", .str "turn"] [.lst (cs.map D.int), .int at_, .int left, .int turn]
section
variable {G : List MO} {S : List Slot} {t : Nat} {cs : List Int} {at_ left turn x : Int}
theorem ix_cells (h : G[t]? = some (tapeO cs at_ left turn)) : ixOf S G (.ref t) (.str "cells") = some (.lst (cs.map D.int)) := by
  simp only [ixOf, ct, h, tapeO]; rfl
theorem ix_at (h : G[t]? = some (tapeO cs at_ left turn)) : ixOf S G (.ref t) (.str "at") = some (.int at_) := by
  simp only [ixOf, ct, h, tapeO]; rfl
theorem ix_left (h : G[t]? = some (tapeO cs at_ left turn)) : ixOf S G (.ref t) (.str "left") = some (.int left) := by
  simp only [ixOf, ct, h, tapeO]; rfl
theorem ix_turn (h : G[t]? = some (tapeO cs at_ left turn)) : ixOf S G (.ref t) (.str "turn") = some (.int turn) := by
  simp only [ixOf, ct, h, tapeO]; rfl
theorem lt_of_get {α : Type} {l : List α} {i : Nat} {a : α} (h : l[i]? = some a) : i < l.length := (List.getElem?_eq_some_iff.mp h).1
theorem set_turn (h : G[t]? = some (tapeO cs at_ left turn)) : setIx (.ref t) (.str "turn") (.int x) S G = .ok () S (G.set t (tapeO cs at_ left x)) := by
  have := lt_of_get h
  unfold setIx
  simp only [ct, h, tapeO]
  show putD (.ref t) _ _ S G = _
  unfold putD ctPut
  simp only [this, if_true]
  rfl
theorem set_at (h : G[t]? = some (tapeO cs at_ left turn)) : setIx (.ref t) (.str "at") (.int x) S G = .ok () S (G.set t (tapeO cs x left turn)) := by
  have := lt_of_get h
  unfold setIx
  simp only [ct, h, tapeO]
  show putD (.ref t) _ _ S G = _
  unfold putD ctPut
  simp only [this, if_true]
  rfl
theorem set_left (h : G[t]? = some (tapeO cs at_ left turn)) : setIx (.ref t) (.str "left") (.int x) S G = .ok () S (G.set t (tapeO cs at_ x turn)) := by
  have := lt_of_get h
  unfold setIx
  simp only [ct, h, tapeO]
  show putD (.ref t) _ _ S G = _
  unfold putD ctPut
  simp only [this, if_true]
  rfl
theorem set_self (h : t < G.length) : (G.set t (tapeO cs at_ left turn))[t]? = some (tapeO cs at_ left turn) := by simp [h]
theorem cells_ne (S : List Slot) (G : List MO) (cs : List Int) : cmp2 .ne S G (.lst (cs.map D.int)) (.lst []) = some (!decide (cs = [])) := by
  have hp : ∀ cs : List Int, D.pys (cs.map D.int) = some (cs.map PyData.int) := fun cs => by
    induction cs with
    | nil => rfl
    | cons c r ih => simp [D.pys, D.py, ih]
  have e : opy S G (.lst (cs.map D.int)) = some (.list (cs.map PyData.int)) := by simp [opy, D.py, hp]
  have e0 : opy S G (.lst []) = some (.list []) := by simp [opy, D.py, D.pys]
  have h1 : SeqAt.shaped (.list (cs.map PyData.int)) = true := PySem.W.shaped_ints cs
  have h2 : SeqAt.shaped (.list []) = true := by decide
  simp only [cmp2, e, e0, h1, h2]
  cases cs <;> simp [PyData.eqv, PyData.eqvAll]
theorem give {α : Type} {R : FO} {F : α → FO} {P : α → Prop} {R' : FO} (e : R = R') {a : α} (e2 : R' = F a) (hp : P a) : ∃ a, P a ∧ R = F a := ⟨a, hp, e.trans e2⟩
theorem draw_at {n k : Nat} {m : Int} (h : G[t]? = some (tapeO cs at_ left turn)) (h0 : 0 ≤ at_) (h1 : 0 ≤ left) (h2 : 0 ≤ turn) (h3 : turn < 2 ^ 40) (m1 : 1 ≤ m) (m2 : m < 2 ^ 29) :
    ∃ d at' left', 0 ≤ at' ∧ 0 ≤ left' ∧ rawF prg n (k + 1) "_law_draw" [.ref t, .int m] G = .ok (.int (d % m)) (G.set t (tapeO cs at' left' (turn + 1))) := by
  have ht := lt_of_get h
  have s1 := @set_self G t cs
  have hm0 : 0 < m := by omega
  have hm3 : m < 1073741824 := by omega
  rw [raw_law_draw]
  by_cases hl : 0 < left
  · refine ⟨left, at_, left / m, h0, Int.ediv_nonneg h1 (by omega), ?_⟩
    simp [f_law_draw, ix_turn h, set_turn h, ix_left (s1 ht), hl, hm0, hm3, set_left (s1 ht)]
  · have hc := @cells_ne
    have tb : -18446744073709551616 < turn + 1 ∧ turn + 1 < 18446744073709551616 := ⟨by omega, by omega⟩
    have fin : ∀ c : Int, ∃ x, ∀ v : Int, (v % 1999999943 + 7) * ((turn + 1) * (turn + 1) * 31 + 40014) % 2147483563 = v → True := fun _ => ⟨0, fun _ _ => trivial⟩
    have b1 : ∀ c : Int, -18446744073709551616 < c % 1999999943 + 7 ∧ c % 1999999943 + 7 < 18446744073709551616 := fun c => by
      have := Int.emod_nonneg c (show (1999999943 : Int) ≠ 0 by decide)
      have := Int.emod_lt_of_pos c (show (0 : Int) < 1999999943 by decide)
      constructor <;> omega
    have b2 : ∀ c : Int, -18446744073709551616 < c % 2147483563 ∧ c % 2147483563 < 18446744073709551616 := fun c => by
      have := Int.emod_nonneg c (show (2147483563 : Int) ≠ 0 by decide)
      have := Int.emod_lt_of_pos c (show (0 : Int) < 2147483563 by decide)
      constructor <;> omega
    by_cases hz : cs = []
    · subst hz
      have hc0 : ∀ S G, cmp2 .ne S G (.lst []) (.lst []) = some false := fun S G => hc S G []
      have e : ∃ d, endF (evSs (fnsF prg n k) f_law_draw.body [.val (.ref t), .val (.int m), .no, .no, .no, .no, .no, .no] G) = .ok (.int (d % m)) (G.set t (tapeO [] (at_ + 1) left (turn + 1))) := by
        apply Exists.intro
        conv =>
          lhs
          simp [f_law_draw, ix_turn h, set_turn h, ix_left (s1 ht), ix_at (s1 ht), set_at (s1 ht), ix_cells (s1 ht), hl, hc0, hm0, hm3, ix_turn (s1 ht), tb, b1, b2]
      obtain ⟨d, e⟩ := e
      exact ⟨d, at_ + 1, left, by omega, h1, e⟩
    · have hlen : 0 < (cs.length : Int) := by cases cs with
        | nil => exact absurd rfl hz
        | cons a r => simp only [List.length_cons]; omega
      have hlen' : 0 < cs.length := by omega
      obtain ⟨c, hcell⟩ : ∃ c, ∀ S G, ixOf S G (.lst (cs.map D.int)) (.int (at_ % cs.length)) = some (.int c) := by
        have p0 := Int.emod_nonneg at_ (show (cs.length : Int) ≠ 0 by omega)
        have p1 := Int.emod_lt_of_pos at_ hlen
        have hi : (at_ % cs.length).toNat < cs.length := by omega
        refine ⟨cs[(at_ % cs.length).toNat], fun S G => ?_⟩
        show ((plc (cs.map D.int).length (at_ % cs.length)).bind fun j => (cs.map D.int)[j]?) = _
        unfold plc
        rw [List.length_map, if_pos ⟨p0, p1⟩]
        simp [hi]
      by_cases hbig : 1000000000000000000 ≤ c ∧ at_ < cs.length
      · refine ⟨c, at_ + 1, c / m, by omega, Int.ediv_nonneg (by omega) (by omega), ?_⟩
        simp [f_law_draw, ix_turn h, set_turn h, ix_left (s1 ht), ix_at (s1 ht), set_at (s1 ht), ix_cells (s1 ht), hl, hc, hm0, hm3, hlen, hlen', ix_turn (s1 ht), hz, hcell, hbig, set_left (s1 ht)]
      · have e : ∃ d, endF (evSs (fnsF prg n k) f_law_draw.body [.val (.ref t), .val (.int m), .no, .no, .no, .no, .no, .no] G) = .ok (.int (d % m)) (G.set t (tapeO cs (at_ + 1) left (turn + 1))) := by
          apply Exists.intro
          by_cases hb1 : 1000000000000000000 ≤ c
          · have hb2 : ¬ at_ < cs.length := fun hh => hbig ⟨hb1, hh⟩
            conv =>
              lhs
              simp [f_law_draw, ix_turn h, set_turn h, ix_left (s1 ht), ix_at (s1 ht), set_at (s1 ht), ix_cells (s1 ht), hl, hc, hm0, hm3, hlen, hlen', ix_turn (s1 ht), hz, hcell, hb1, hb2, set_left (s1 ht), tb, b1, b2]
          · conv =>
              lhs
              simp [f_law_draw, ix_turn h, set_turn h, ix_left (s1 ht), ix_at (s1 ht), set_at (s1 ht), ix_cells (s1 ht), hl, hc, hm0, hm3, hlen, hlen', ix_turn (s1 ht), hz, hcell, hb1, set_left (s1 ht), tb, b1, b2]
        obtain ⟨d, e⟩ := e
        exact ⟨d, at_ + 1, left, by omega, h1, e⟩
end
end K85

end
section
set_option Elab.async false
set_option linter.all false
set_option maxRecDepth 100000
set_option maxHeartbeats 1000000
namespace K85
open PySem Mi Mi.X
@[reducible] def L_shown_fact_0 : Mi.E := (.lc (.call "shown_value" (.cons (.v 1) .nil)) (.nm 1) (.seq (.ix (.v 0) (.c (.int 1)))) false (.c .non) [1])
@[reducible] def L_shown_atom_0 : Mi.E := (.lc (.call "shown_term" (.cons (.v 1) .nil)) (.nm 1) (.seq (.ix (.v 0) (.c (.int 1)))) false (.c .non) [1])
@[reducible] def L_shown_atoms_0 : Mi.E := (.lc (.call "shown_atom" (.cons (.v 1) .nil)) (.nm 1) (.seq (.v 0)) false (.c .non) [1])
@[reducible] def L_shown_world_0 : Mi.E := (.lc (.call "shown_fact" (.cons (.v 1) .nil)) (.nm 1) (.seq (.v 0)) false (.c .non) [1])
@[reducible] def L_shown_sayings_0 : Mi.E := (.lc (.call "shown_saying" (.cons (.v 1) .nil)) (.nm 1) (.seq (.v 0)) false (.c .non) [1])
@[reducible] def L_is_word_0 : Mi.E := (.lc (.cmp .inn (.v 1) (.g "LETTERS")) (.nm 1) (.seq (.v 0)) false (.c .non) [1])
@[reducible] def L_values_key_0 : Mi.E := (.lc (.call "value_key" (.cons (.v 1) .nil)) (.nm 1) (.seq (.v 0)) false (.c .non) [1])
@[reducible] def L_world_of_0 : Mi.S := (.for_ (.nm 2) (.seq (.v 0)) (.cons (.ex (.bm .setdefault (.v 1) (.cons (.v 2) (.cons (.c (.bl true)) .nil)))) .nil))
@[reducible] def L_world_of_1 : Mi.E := (.srt (.v 1) "fact_key")
@[reducible] def L_figures_in_0 : Mi.E := (.lc (.cmp .inn (.v 1) (.g "FIGURES")) (.nm 1) (.seq (.v 0)) false (.c .non) [1])
@[reducible] def L_fact_from_0 : Mi.S := (.whl (.nt (.meth "Trail" "is_over" (.v 0) .nil)) (.cons (.ex (.bm .append (.v 2) (.cons (.meth "Trail" "claim" (.v 0) (.cons (.call "value_in" (.cons (.meth "Trail" "next_word" (.v 0) .nil) .nil)) .nil)) .nil))) .nil))
@[reducible] def L_atom_from_0 : Mi.S := (.whl (.nt (.meth "Trail" "is_over" (.v 0) .nil)) (.cons (.asg (.nm 4) (.meth "Trail" "next_word" (.v 0) .nil)) (.cons (.ifs (.cmp .inn (.v 4) (.v 1)) (.cons (.ret (.tup (.cons (.tup (.cons (.v 2) (.cons (.bi .tuple (.v 3)) .nil))) (.cons (.v 4) .nil)))) .nil) .nil) (.cons (.ex (.bm .append (.v 3) (.cons (.meth "Trail" "claim" (.v 0) (.cons (.call "term_in" (.cons (.v 4) .nil)) .nil)) .nil))) .nil))))
@[reducible] def L_atoms_from_0 : Mi.S := (.whl (.cmp .eq (.v 3) (.g "JOINED")) (.cons (.asg (.tp (.cons (.nm 2) (.cons (.nm 3) .nil))) (.call "atom_from" (.cons (.v 0) (.cons (.bin .add (.tup (.cons (.g "JOINED") .nil)) (.v 1)) .nil)))) (.cons (.ex (.bm .append (.v 4) (.cons (.v 2) .nil))) .nil)))
@[reducible] def L_in_body_0 : Mi.S := (.for_ (.tp (.cons (.nm 2) (.cons (.nm 3) .nil))) (.seq (.v 0)) (.cons (.aug 1 .add (.lc (.v 5) (.tp (.cons (.nm 4) (.cons (.nm 5) .nil))) (.seq (.v 3)) true (.cmp .eq (.v 4) (.c (.str "any"))) [4, 5])) .nil))
@[reducible] def L_in_body_1 : Mi.E := (.lc (.v 5) (.tp (.cons (.nm 4) (.cons (.nm 5) .nil))) (.seq (.v 3)) true (.cmp .eq (.v 4) (.c (.str "any"))) [4, 5])
@[reducible] def L_read_world_0 : Mi.E := (.lc (.callk "read_fact" (.cons (.v 2) .nil) ["line"] (.cons (.v 1) .nil)) (.tp (.cons (.nm 1) (.cons (.nm 2) .nil))) (.enum (.bm .lines (.v 0) .nil)) false (.c .non) [1, 2])
@[reducible] def L_read_sayings_0 : Mi.E := (.lc (.callk "read_saying" (.cons (.v 2) .nil) ["line"] (.cons (.v 1) .nil)) (.tp (.cons (.nm 1) (.cons (.nm 2) .nil))) (.enum (.bm .lines (.v 0) .nil)) false (.c .non) [1, 2])
@[reducible] def L_law_word_0 : Mi.E := (.lc (.ix (.v 1) (.call "_law_draw" (.cons (.v 0) (.cons (.c (.int 26)) .nil)))) (.nm 3) (.rng (.bin .add (.c (.int 1)) (.call "_law_draw" (.cons (.v 0) (.cons (.c (.int 8)) .nil))))) false (.c .non) [3])
@[reducible] def L_law_fact_drawn_0 : Mi.S := (.for_ (.nm 2) (.rng (.bin .add (.c (.int 1)) (.call "_law_draw" (.cons (.v 0) (.cons (.c (.int 4)) .nil))))) (.cons (.ex (.bm .append (.v 1) (.cons (.ife (.cmp .eq (.call "_law_draw" (.cons (.v 0) (.cons (.c (.int 2)) .nil))) (.c (.int 0))) (.call "_law_word" (.cons (.v 0) .nil)) (.call "_law_number" (.cons (.v 0) .nil))) .nil))) .nil))
@[reducible] def L_law_world_drawn_0 : Mi.E := (.lc (.tup (.cons (.call "_law_fact_drawn" (.cons (.v 0) .nil)) (.cons (.c (.bl true)) .nil))) (.nm 2) (.rng (.call "_law_draw" (.cons (.v 0) (.cons (.c (.int 5)) .nil)))) false (.c .non) [2])
@[reducible] def L_law_world_drawn_1 : Mi.E := (.srl (.bi .list (.v 1)) 0 ("_law_world_drawn", none) ["_law_fact_here", "_law_value"] (.tup (.cons (.ix (.v 0) (.c (.int 0))) (.cons (.lc (.call "_law_key" (.cons (.v 1) .nil)) (.nm 1) (.seq (.ix (.v 0) (.c (.int 1)))) false (.c .non) [1]) .nil))))
@[reducible] def L_law_world_drawn_2 : Mi.E := (.lc (.call "_law_key" (.cons (.v 1) .nil)) (.nm 1) (.seq (.ix (.v 0) (.c (.int 1)))) false (.c .non) [1])
@[reducible] def L_law_known_0 : Mi.S := (.for_ (.tp (.cons (.nm 2) (.cons (.nm 3) .nil))) (.seq (.v 0)) (.cons (.ex (.bm .update (.v 1) (.cons (.bi .dict (.lc (.tup (.cons (.v 5) (.cons (.c (.bl true)) .nil))) (.tp (.cons (.nm 4) (.cons (.nm 5) .nil))) (.seq (.v 3)) true (.cmp .eq (.v 4) (.c (.str "any"))) [4, 5])) .nil))) .nil))
@[reducible] def L_law_known_1 : Mi.E := (.lc (.tup (.cons (.v 5) (.cons (.c (.bl true)) .nil))) (.tp (.cons (.nm 4) (.cons (.nm 5) .nil))) (.seq (.v 3)) true (.cmp .eq (.v 4) (.c (.str "any"))) [4, 5])
@[reducible] def L_law_atoms_drawn_0 : Mi.S := (.for_ (.nm 2) (.rng (.bin .add (.c (.int 1)) (.call "_law_draw" (.cons (.v 0) (.cons (.c (.int 3)) .nil))))) (.cons (.asg (.nm 3) (.lst .nil)) (.cons (.for_ (.nm 4) (.rng (.bin .add (.c (.int 1)) (.call "_law_draw" (.cons (.v 0) (.cons (.c (.int 3)) .nil))))) (.cons (.ex (.bm .append (.v 3) (.cons (.tup (.cons (.ix (.lst (.cons (.c (.str "is")) (.cons (.c (.str "any")) (.cons (.c (.str "any")) .nil)))) (.call "_law_draw" (.cons (.v 0) (.cons (.c (.int 3)) .nil)))) (.cons (.call "_law_word" (.cons (.v 0) .nil)) .nil))) .nil))) .nil)) (.cons (.ex (.bm .append (.v 1) (.cons (.tup (.cons (.call "_law_word" (.cons (.v 0) .nil)) (.cons (.bi .tuple (.v 3)) .nil))) .nil))) .nil))))
@[reducible] def L_law_atoms_drawn_1 : Mi.S := (.for_ (.nm 4) (.rng (.bin .add (.c (.int 1)) (.call "_law_draw" (.cons (.v 0) (.cons (.c (.int 3)) .nil))))) (.cons (.ex (.bm .append (.v 3) (.cons (.tup (.cons (.ix (.lst (.cons (.c (.str "is")) (.cons (.c (.str "any")) (.cons (.c (.str "any")) .nil)))) (.call "_law_draw" (.cons (.v 0) (.cons (.c (.int 3)) .nil)))) (.cons (.call "_law_word" (.cons (.v 0) .nil)) .nil))) .nil))) .nil))
@[reducible] def L_law_thing_0 : Mi.E := (.lc (.call "_law_saying_drawn" (.cons (.v 0) .nil)) (.nm 2) (.rng (.call "_law_draw" (.cons (.v 0) (.cons (.c (.int 4)) .nil)))) false (.c .non) [2])
@[reducible] def L_law_fact_text_0 : Mi.S := (.for_ (.nm 2) (.seq (.ix (.v 0) (.c (.int 1)))) (.cons (.ex (.bm .append (.v 1) (.cons (.ife (.bi (.isi "str") (.v 2)) (.v 2) (.bin .add (.c (.str "?")) (.bi .str (.v 2)))) .nil))) .nil))
@[reducible] def L_law_atoms_text_0 : Mi.S := (.for_ (.tp (.cons (.nm 2) (.cons (.nm 3) .nil))) (.seq (.v 0)) (.cons (.ex (.bm .append (.v 1) (.cons (.bm .join (.c (.str " ")) (.cons (.bin .add (.lst (.cons (.v 2) .nil)) (.lc (.bin .add (.ife (.cmp .eq (.v 4) (.c (.str "is"))) (.c (.str "=")) (.c (.str ""))) (.v 5)) (.tp (.cons (.nm 4) (.cons (.nm 5) .nil))) (.seq (.v 3)) false (.c .non) [4, 5])) .nil)) .nil))) .nil))
@[reducible] def L_law_atoms_text_1 : Mi.E := (.lc (.bin .add (.ife (.cmp .eq (.v 4) (.c (.str "is"))) (.c (.str "=")) (.c (.str ""))) (.v 5)) (.tp (.cons (.nm 4) (.cons (.nm 5) .nil))) (.seq (.v 3)) false (.c .non) [4, 5])
@[reducible] def L_law_text_0 : Mi.E := (.lc (.ife (.cmp .eq (.v 0) (.c (.str "world"))) (.call "_law_fact_text" (.cons (.v 2) .nil)) (.call "_law_saying_text" (.cons (.v 2) .nil))) (.nm 2) (.seq (.v 1)) false (.c .non) [2])
@[reducible] def L_law_0 : Mi.S := (.for_ (.nm 2) (.rng (.c (.int 8))) (.cons (.asg (.nm 3) (.ix (.lst (.cons (.c (.str "fact")) (.cons (.c (.str "world")) (.cons (.c (.str "saying")) (.cons (.c (.str "sayings")) .nil))))) (.call "_law_draw" (.cons (.v 1) (.cons (.c (.int 4)) .nil))))) (.cons (.par 4 (.call "_law_thing" (.cons (.v 1) (.cons (.v 3) .nil))) 5 (.cmp .eq (.call "_law_draw" (.cons (.v 1) (.cons (.c (.int 2)) .nil))) (.c (.int 0)))) (.cons (.par 6 (.bi .repr (.v 4)) 7 (.call "_law_text" (.cons (.v 3) (.cons (.v 4) .nil)))) (.cons (.ifs (.or (.cmp .ne (.call "_law_shown" (.cons (.v 3) (.cons (.v 4) (.cons (.v 5) .nil)))) (.v 7)) (.cmp .ne (.bi .repr (.v 4)) (.v 6))) (.cons (.ret (.c (.bl false))) .nil) .nil) (.cons (.ifs (.cmp .ne (.bi .repr (.call "_law_read" (.cons (.v 3) (.cons (.v 7) (.cons (.v 5) (.cons (.call "_law_draw" (.cons (.v 1) (.cons (.c (.int 99)) .nil))) .nil)))))) (.v 6)) (.cons (.ret (.c (.bl false))) .nil) .nil) (.cons (.ifs (.and (.cmp .inn (.v 3) (.tup (.cons (.c (.str "world")) (.cons (.c (.str "sayings")) .nil)))) (.and (.cmp .ne (.v 4) (.tup .nil)) (.cmp .ne (.bi .repr (.call "_law_read" (.cons (.v 3) (.cons (.bin .add (.v 7) (.c (.str "\n"))) (.cons (.c (.bl false)) (.cons (.c (.int 0)) .nil)))))) (.v 6)))) (.cons (.ret (.c (.bl false))) .nil) .nil) (.cons (.ifs (.and (.cmp .eq (.v 3) (.c (.str "world"))) (.cmp .ne (.v 4) (.tup .nil))) (.cons (.asg (.nm 8) (.lc (.call "_law_fact_text" (.cons (.v 9) .nil)) (.nm 9) (.seq (.v 4)) false (.c .non) [9])) (.cons (.ifs (.cmp .ne (.bi .repr (.call "read_world" (.cons (.bm .join (.c (.str "\n")) (.cons (.bin .add (.rev (.v 8)) (.sl (.v 8) false (.c .non) true (.c (.int 1)))) .nil)) .nil))) (.v 6)) (.cons (.ret (.c (.bl false))) .nil) .nil) .nil)) .nil) .nil))))))))
@[reducible] def L_law_1 : Mi.E := (.lc (.call "_law_fact_text" (.cons (.v 9) .nil)) (.nm 9) (.seq (.v 4)) false (.c .non) [9])

@[simp] theorem kw_shown_fact_0_fact (n k : Nat) (a : D) (G : List MO) : (fnsF prg n (k + 1)).kw "shown_fact" [] ["fact"] [a] G = rawF prg n k "shown_fact" [a] G := by
  rw [fnsF]
  show (match prg.fd "shown_fact" with
    | some d => (match bindG d.ps [] ["fact"] [a] d.dfl with
      | some l => rawF prg n k "shown_fact" l G
      | none => .bad)
    | none => .bad) = _
  rw [fd_shown_fact]
  rfl
@[simp] theorem kw_shown_world_0_world (n k : Nat) (a : D) (G : List MO) : (fnsF prg n (k + 1)).kw "shown_world" [] ["world"] [a] G = rawF prg n k "shown_world" [a] G := by
  rw [fnsF]
  show (match prg.fd "shown_world" with
    | some d => (match bindG d.ps [] ["world"] [a] d.dfl with
      | some l => rawF prg n k "shown_world" l G
      | none => .bad)
    | none => .bad) = _
  rw [fd_shown_world]
  rfl
@[simp] theorem kw_shown_saying_0_saying (n k : Nat) (a : D) (G : List MO) : (fnsF prg n (k + 1)).kw "shown_saying" [] ["saying"] [a] G = rawF prg n k "shown_saying" [a] G := by
  rw [fnsF]
  show (match prg.fd "shown_saying" with
    | some d => (match bindG d.ps [] ["saying"] [a] d.dfl with
      | some l => rawF prg n k "shown_saying" l G
      | none => .bad)
    | none => .bad) = _
  rw [fd_shown_saying]
  rfl
@[simp] theorem kw_shown_sayings_0_sayings (n k : Nat) (a : D) (G : List MO) : (fnsF prg n (k + 1)).kw "shown_sayings" [] ["sayings"] [a] G = rawF prg n k "shown_sayings" [a] G := by
  rw [fnsF]
  show (match prg.fd "shown_sayings" with
    | some d => (match bindG d.ps [] ["sayings"] [a] d.dfl with
      | some l => rawF prg n k "shown_sayings" l G
      | none => .bad)
    | none => .bad) = _
  rw [fd_shown_sayings]
  rfl
@[simp] theorem kw_read_world_0_text (n k : Nat) (a : D) (G : List MO) : (fnsF prg n (k + 1)).kw "read_world" [] ["text"] [a] G = rawF prg n k "read_world" [a] G := by
  rw [fnsF]
  show (match prg.fd "read_world" with
    | some d => (match bindG d.ps [] ["text"] [a] d.dfl with
      | some l => rawF prg n k "read_world" l G
      | none => .bad)
    | none => .bad) = _
  rw [fd_read_world]
  rfl
@[simp] theorem kw_read_sayings_0_text (n k : Nat) (a : D) (G : List MO) : (fnsF prg n (k + 1)).kw "read_sayings" [] ["text"] [a] G = rawF prg n k "read_sayings" [a] G := by
  rw [fnsF]
  show (match prg.fd "read_sayings" with
    | some d => (match bindG d.ps [] ["text"] [a] d.dfl with
      | some l => rawF prg n k "read_sayings" l G
      | none => .bad)
    | none => .bad) = _
  rw [fd_read_sayings]
  rfl
@[simp] theorem kw_read_fact_0_line_text (n k : Nat) (a b : D) (G : List MO) : (fnsF prg n (k + 1)).kw "read_fact" [] ["line", "text"] [a, b] G = rawF prg n k "read_fact" [b, a] G := by
  rw [fnsF]
  show (match prg.fd "read_fact" with
    | some d => (match bindG d.ps [] ["line", "text"] [a, b] d.dfl with
      | some l => rawF prg n k "read_fact" l G
      | none => .bad)
    | none => .bad) = _
  rw [fd_read_fact]
  rfl
@[simp] theorem kw_read_fact_1_line (n k : Nat) (a b : D) (G : List MO) : (fnsF prg n (k + 1)).kw "read_fact" [a] ["line"] [b] G = rawF prg n k "read_fact" [a, b] G := by
  rw [fnsF]
  show (match prg.fd "read_fact" with
    | some d => (match bindG d.ps [a] ["line"] [b] d.dfl with
      | some l => rawF prg n k "read_fact" l G
      | none => .bad)
    | none => .bad) = _
  rw [fd_read_fact]
  rfl
@[simp] theorem kw_read_saying_0_line_text (n k : Nat) (a b : D) (G : List MO) : (fnsF prg n (k + 1)).kw "read_saying" [] ["line", "text"] [a, b] G = rawF prg n k "read_saying" [b, a] G := by
  rw [fnsF]
  show (match prg.fd "read_saying" with
    | some d => (match bindG d.ps [] ["line", "text"] [a, b] d.dfl with
      | some l => rawF prg n k "read_saying" l G
      | none => .bad)
    | none => .bad) = _
  rw [fd_read_saying]
  rfl
@[simp] theorem kw_read_saying_1_line (n k : Nat) (a b : D) (G : List MO) : (fnsF prg n (k + 1)).kw "read_saying" [a] ["line"] [b] G = rawF prg n k "read_saying" [a, b] G := by
  rw [fnsF]
  show (match prg.fd "read_saying" with
    | some d => (match bindG d.ps [a] ["line"] [b] d.dfl with
      | some l => rawF prg n k "read_saying" l G
      | none => .bad)
    | none => .bad) = _
  rw [fd_read_saying]
  rfl
@[simp] theorem gval_JOINED (n k : Nat) : (fnsF prg n k).gval "JOINED" = some (.str "&") := by rw [x_gval]; kernel_rfl
@[simp] theorem gval_LEADS (n k : Nat) : (fnsF prg n k).gval "LEADS" = some (.str "=>") := by rw [x_gval]; kernel_rfl
@[simp] theorem gval_ALIKE (n k : Nat) : (fnsF prg n k).gval "ALIKE" = some (.str "~") := by rw [x_gval]; kernel_rfl
@[simp] theorem gval_LETTERS (n k : Nat) : (fnsF prg n k).gval "LETTERS" = some (.str "abcdefghijklmnopqrstuvwxyz") := by rw [x_gval]; kernel_rfl
@[simp] theorem gval_LONGEST (n k : Nat) : (fnsF prg n k).gval "LONGEST" = some (.int 8) := by rw [x_gval]; kernel_rfl
@[simp] theorem gval_FIGURES (n k : Nat) : (fnsF prg n k).gval "FIGURES" = some (.str "0123456789") := by rw [x_gval]; kernel_rfl
@[simp] theorem gval_MOST_FIGURES (n k : Nat) : (fnsF prg n k).gval "MOST_FIGURES" = some (.int 12) := by rw [x_gval]; kernel_rfl
@[simp] theorem fok_line_at (n k : Nat) : (fnsF prg n k).fok "Trail" "line_at" = true := by rw [x_fok]; kernel_rfl
@[simp] theorem fok_words_left (n k : Nat) : (fnsF prg n k).fok "Trail" "words_left" = true := by rw [x_fok]; kernel_rfl
@[simp] theorem fok_gone_by (n k : Nat) : (fnsF prg n k).fok "Trail" "gone_by" = true := by rw [x_fok]; kernel_rfl
@[simp] theorem ini_Trail : initName "Trail" = "Trail.__init__" := by decide +kernel
@[simp] theorem mn_refuse : methName "Trail" "refuse" = "Trail.refuse" := by decide +kernel
@[simp] theorem mn_is_over : methName "Trail" "is_over" = "Trail.is_over" := by decide +kernel
@[simp] theorem mn_next_word : methName "Trail" "next_word" = "Trail.next_word" := by decide +kernel
@[simp] theorem mn_claim : methName "Trail" "claim" = "Trail.claim" := by decide +kernel
@[simp] theorem mn_table : methName "Trail" "table" = "Trail.table" := by decide +kernel
end K85

end
section
set_option Elab.async false
set_option linter.all false
set_option maxRecDepth 100000
set_option maxHeartbeats 1000000
namespace K85
open PySem Mi Mi.X TL
/-! ### the drawn things -/
inductive Val where
  | w (s : Str) | n (k : Int)
  deriving DecidableEq
def Val.d : Val → D
  | .w s => .str s
  | .n k => .int k
def wok (w : Str) : Prop := 1 ≤ (tl w).length ∧ (tl w).length ≤ 8 ∧ ∀ c ∈ tl w, 97 ≤ c ∧ c ≤ 122
def Val.ok : Val → Prop
  | .w s => wok s
  | .n k => 0 ≤ k ∧ k < 1000000000000
def num (k : Int) : Str := toString k
def Val.t : Val → Str
  | .w s => s
  | .n k => "?" ++ num k
structure Fact where
  t : Str
  vs : List Val
  deriving DecidableEq
def Fact.d (f : Fact) : D := .tup [.str f.t, .tup (f.vs.map Val.d)]
def Fact.ok (f : Fact) : Prop := wok f.t ∧ 1 ≤ f.vs.length ∧ f.vs.length ≤ 4 ∧ ∀ v ∈ f.vs, v.ok
def Fact.x (f : Fact) : Str := Txt.join " " (f.t :: f.vs.map Val.t)
structure Term where
  b : Bool
  w : Str
def Term.k (t : Term) : Str := if t.b then "is" else "any"
def Term.d (t : Term) : D := .tup [.str t.k, .str t.w]
def Term.x (t : Term) : Str := if t.b then "=" ++ t.w else t.w
structure Atom where
  t : Str
  ts : List Term
def Atom.d (a : Atom) : D := .tup [.str a.t, .tup (a.ts.map Term.d)]
def Atom.ok (a : Atom) : Prop := wok a.t ∧ 1 ≤ a.ts.length ∧ a.ts.length ≤ 3 ∧ ∀ v ∈ a.ts, wok v.w
def Atom.x (a : Atom) : Str := Txt.join " " (a.t :: a.ts.map Term.x)
def atsD (l : List Atom) : D := .tup (l.map Atom.d)
def atsX (l : List Atom) : Str := Txt.join " & " (l.map Atom.x)
def atsOk (l : List Atom) : Prop := 1 ≤ l.length ∧ l.length ≤ 3 ∧ ∀ a ∈ l, a.ok
inductive Say where
  | rows (b h : List Atom) | same (b : List Atom) (x y : Str)
/-- the variables of a body -/
def anys (b : List Atom) : List Str := b.flatMap fun a => (a.ts.filter fun t => !t.b).map Term.w
def Say.d : Say → D
  | .rows b h => .tup [.str "rows", atsD b, atsD h]
  | .same b x y => .tup [.str "same", atsD b, .str x, .str y]
def Say.x : Say → Str
  | .rows b h => atsX b ++ " => " ++ atsX h
  | .same b x y => atsX b ++ " ~ " ++ x ++ " " ++ y
def Say.ok : Say → Prop
  | .rows b h => atsOk b ∧ atsOk h
  | .same b x y => atsOk b ∧ x ∈ anys b ∧ y ∈ anys b ∧ x ≠ y
/-! ### the state -/
def Tp (T : Nat) (G : List MO) : Prop := G[0]? = some (.tab ("_law_world_drawn", none)) ∧ ∃ cs at_ left turn, G[1]? = some (tapeO cs at_ left turn) ∧ 0 ≤ at_ ∧ 0 ≤ left ∧ 0 ≤ turn ∧ turn ≤ (T : Int)
theorem Tp.mono {T T' : Nat} {G : List MO} (h : Tp T G) (hT : T ≤ T') : Tp T' G := by
  obtain ⟨h0, cs, a, l, t, h1, h2, h3, h4, h5⟩ := h
  exact ⟨h0, cs, a, l, t, h1, h2, h3, h4, by omega⟩
section
variable {n k T : Nat} {G : List MO}
theorem draw2 {m : Int} (h : Tp T G) (hT : T < 1000000) (m1 : 1 ≤ m) (m2 : m ≤ 1000000) : ∃ (d : Int) (G' : List MO), 0 ≤ d ∧ d < m ∧ Tp (T + 1) G' ∧ (∀ i, i ≠ 1 → G'[i]? = G[i]?) ∧ rawF prg n (k + 1) "_law_draw" [.ref 1, .int m] G = .ok (.int d) G' := by
  obtain ⟨h0, cs, a, l, t, h1, h2, h3, h4, h5⟩ := h
  obtain ⟨d, a', l', ha, hl, e⟩ := draw_at (n := n) (k := k) (m := m) h1 h2 h3 h4 (by omega) (by omega) (by omega)
  have p0 := Int.emod_nonneg d (show m ≠ 0 by omega)
  have p1 := Int.emod_lt_of_pos d (show 0 < m by omega)
  have hi : ∀ i, i ≠ 1 → (G.set 1 (tapeO cs a' l' (t + 1)))[i]? = G[i]? := fun i hi => by
    rw [List.getElem?_set, if_neg (fun e => hi e.symm)]
  exact ⟨d % m, _, p0, p1, ⟨(hi 0 (by decide)).trans h0, cs, a', l', t + 1, set_self (lt_of_get h1), ha, hl, by omega, by omega⟩, hi, e⟩
theorem draw {m : Int} (h : Tp T G) (hT : T < 1000000) (m1 : 1 ≤ m) (m2 : m ≤ 1000000) : ∃ (d : Int) (G' : List MO), 0 ≤ d ∧ d < m ∧ Tp (T + 1) G' ∧ rawF prg n (k + 1) "_law_draw" [.ref 1, .int m] G = .ok (.int d) G' := by
  obtain ⟨d, G', a, b, c, _, e⟩ := draw2 (n := n) (k := k) h hT m1 m2
  exact ⟨d, G', a, b, c, e⟩
theorem number (h : Tp T G) (hT : T < 900000) : ∃ (d : Int) (G' : List MO), 0 ≤ d ∧ d < 1000000000000 ∧ Tp (T + 3) G' ∧ rawF prg n (k + 3) "_law_number" [.ref 1] G = .ok (.int d) G' := by
  rw [raw_law_number]
  obtain ⟨d1, G1, o1, l1, T1, e1⟩ := draw (n := n) (k := k) (m := 4) h (by omega) (by omega) (by omega)
  by_cases hd : 0 < d1
  · obtain ⟨d2, G2, o2, l2, T2, e2⟩ := draw (n := n) (k := k) (m := 12) T1 (by omega) (by omega) (by omega)
    refine ⟨d2, G2, o2, by omega, T2.mono (by omega), ?_⟩
    simp [f_law_number, e1, e2, hd]
  · obtain ⟨d2, G2, o2, l2, T2, e2⟩ := draw (n := n) (k := k) (m := 1000000) T1 (by omega) (by omega) (by omega)
    obtain ⟨d3, G3, o3, l3, T3, e3⟩ := draw (n := n) (k := k) (m := 1000000) T2 (by omega) (by omega) (by omega)
    refine ⟨d2 * 1000000 + d3, G3, by omega, by omega, T3.mono (by omega), ?_⟩
    simp [f_law_number, e1, e2, e3, hd]
theorem ix_l {S : List Slot} {G : List MO} {l : List D} {d : Nat} (h : d < l.length) : ixOf S G (.lst l) (.int d) = some l[d] := by
  show ((plc l.length (d : Int)).bind fun j => l[j]?) = _
  unfold plc
  rw [if_pos ⟨by omega, by omega⟩]
  simp [h]
theorem ix_t {S : List Slot} {G : List MO} {l : List D} {d : Nat} (h : d < l.length) : ixOf S G (.tup l) (.int d) = some l[d] := by
  show ((plc l.length (d : Int)).bind fun j => l[j]?) = _
  unfold plc
  rw [if_pos ⟨by omega, by omega⟩]
  simp [h]
theorem ix_lz {S : List Slot} {G : List MO} {l : List D} {d : Int} (h0 : 0 ≤ d) (h : d < l.length) : ∃ x, x ∈ l ∧ ixOf S G (.lst l) (.int d) = some x := by
  have hd : d.toNat < l.length := by omega
  refine ⟨l[d.toNat], List.getElem_mem hd, ?_⟩
  show ((plc l.length d).bind fun j => l[j]?) = _
  unfold plc
  rw [if_pos ⟨h0, h⟩]
  simp [hd]
theorem letter {d : Int} (h0 : 0 ≤ d) (h : d < 26) : ∃ c, 97 ≤ c ∧ c ≤ 122 ∧ ∀ (S : List Slot) (G : List MO), ixOf S G (.str "abcdefghijklmnopqrstuvwxyz") (.int d) = some (.str ⟨#[c]⟩) := by
  have hx : (("abcdefghijklmnopqrstuvwxyz" : Str).cps.toList) = List.range' 97 26 := by decide +kernel
  have hl : ("abcdefghijklmnopqrstuvwxyz" : Str).length = 26 := by decide +kernel
  refine ⟨97 + d.toNat, by omega, by omega, fun S G => ?_⟩
  show (if ("abcdefghijklmnopqrstuvwxyz" : Str).length ≤ sizeLine then (plc ("abcdefghijklmnopqrstuvwxyz" : Str).cps.toList.length d).bind fun j => (("abcdefghijklmnopqrstuvwxyz" : Str).cps.toList[j]?).map fun c => D.str ⟨#[c]⟩ else none) = _
  rw [hx, if_pos (by rw [hl]; decide)]
  unfold plc
  rw [if_pos ⟨by omega, by simp; omega⟩]
  have : d.toNat < 26 := by omega
  simp [this]
theorem tl_chars (cs : List Nat) : (cs.map fun c => (⟨#[c]⟩ : Str)).map tl = cs.map fun c => [c] := by
  rw [List.map_map]; rfl
theorem joinL_nil : ∀ l : List (List Nat), joinL [] l = l.flatten
  | [] => rfl
  | [x] => by simp [joinL]
  | x :: y :: r => by
    show x ++ ([] ++ joinL [] (y :: r)) = _
    rw [joinL_nil (y :: r)]; rfl
theorem tl_word (cs : List Nat) : tl (Txt.join "" (cs.map fun c => (⟨#[c]⟩ : Str))) = cs := by
  rw [join_eq, tl_join, tl_chars]
  have : tl "" = [] := by decide
  rw [this, joinL_nil]
  induction cs with
  | nil => rfl
  | cons c r ih => simp only [List.map_cons, List.flatten_cons, ih]; rfl
theorem wok_of {cs : List Nat} (h1 : 1 ≤ cs.length) (h8 : cs.length ≤ 8) (h : ∀ c ∈ cs, 97 ≤ c ∧ c ≤ 122) : wok (Txt.join "" (cs.map fun c => (⟨#[c]⟩ : Str))) := by
  unfold wok
  rw [tl_word]
  exact ⟨h1, h8, h⟩
theorem word (h : Tp T G) (hT : T < 900000) : ∃ (w : Str) (G' : List MO), wok w ∧ Tp (T + 10) G' ∧ rawF prg n (k + 3) "_law_word" [.ref 1] G = .ok (.str w) G' := by
  rw [raw_law_word]
  obtain ⟨d1, G1, o1, l1, T1, e1⟩ := draw (n := n) (k := k) (m := 8) h (by omega) (by omega) (by omega)
  have hlen : (List.range (1 + d1).toNat).length = (1 + d1).toNat := List.length_range
  obtain ⟨r, G2, hr, T2, cs, hre, hcl, hcs⟩ : ∃ r G2, evE (fnsF prg n (k + 2)) L_law_word_0 [.val (.ref 1), .val (.str "abcdefghijklmnopqrstuvwxyz"), .no, .no] G = .ok (.lst r) [.val (.ref 1), .val (.str "abcdefghijklmnopqrstuvwxyz"), .no, .no] G2
      ∧ (Tp (T + 1 + (List.range (1 + d1).toNat).length) G2 ∧ ∃ cs : List Nat, r = (cs.map (fun c => (⟨#[c]⟩ : Str))).map .str ∧ cs.length = (List.range (1 + d1).toNat).length ∧ ∀ c ∈ cs, 97 ≤ c ∧ c ≤ 122) := by
    refine lc_1 (fun (a : Nat) => D.int a) (G0 := G1) (l := List.range (1 + d1).toNat)
      (fun done acc G => Tp (T + 1 + done.length) G ∧ ∃ cs : List Nat, acc = (cs.map (fun c => (⟨#[c]⟩ : Str))).map .str ∧ cs.length = done.length ∧ ∀ c ∈ cs, 97 ≤ c ∧ c ≤ 122)
      (rng_z ?_ (by omega) (by omega)) rfl rfl (by rw [hlen]; show _ ≤ 16777216; omega) ?_ ⟨T1, [], rfl, rfl, by simp⟩
    · simp [e1]
    · rintro a ha done acc G hN ⟨TG, cs, rfl, hl, hc⟩
      refine .inl ⟨rfl, ?_⟩
      obtain ⟨d2, G2, o2, l2, T2, e2⟩ := draw (n := n) (k := k) (m := 26) TG (by omega) (by omega) (by omega)
      obtain ⟨c, c1, c2, hx⟩ := letter o2 l2
      refine ⟨.str ⟨#[c]⟩, G2, ?_, T2.mono (by simp; omega), cs ++ [c], by simp, by simp [hl], fun x hx => ?_⟩
      · simp [e2, hx]
      · rcases List.mem_append.mp hx with hx | hx
        · exact hc x hx
        · rw [List.mem_singleton.mp hx]; exact ⟨c1, c2⟩
  have hjoin : ∀ S G, evBm .join (.str "") [.lst r] S G = .ok (.str (Txt.join "" (cs.map fun c => (⟨#[c]⟩ : Str)))) S G := fun S G => by
    rw [hre]
    refine join_at ?_
    have h1 : ((cs.map (fun c => (⟨#[c]⟩ : Str))).map (·.length)).sum ≤ (cs.map (fun c => (⟨#[c]⟩ : Str))).length * 1 := lens_le (B := 1) fun y hy => by
      obtain ⟨c, _, rfl⟩ := List.mem_map.mp hy
      exact Nat.le_refl 1
    have h2 : ("" : Str).length = 0 := by decide
    rw [h2]
    rw [List.length_map] at h1 ⊢
    omega
  have hw := wok_of (cs := cs) (by omega) (by omega) hcs
  clear hre
  generalize Txt.join "" (cs.map fun c => (⟨#[c]⟩ : Str)) = w at *
  obtain ⟨d3, G3, o3, l3, T3, e3⟩ := draw (n := n) (k := k) (m := 12) T2 (by omega) (by omega) (by omega)
  obtain ⟨x, hx, ex⟩ : ∃ x, x ∈ [D.str "a", .str "aa", .str "x", .str "y", .str w, .str w, .str w, .str w, .str w, .str w, .str w, .str w] ∧ ∀ S G, ixOf S G (.lst [D.str "a", .str "aa", .str "x", .str "y", .str w, .str w, .str w, .str w, .str w, .str w, .str w, .str w]) (.int d3) = some x := by
    obtain ⟨x, hx, e⟩ := ix_lz (S := []) (G := []) o3 (l := [D.str "a", .str "aa", .str "x", .str "y", .str w, .str w, .str w, .str w, .str w, .str w, .str w, .str w]) l3
    exact ⟨x, hx, fun S G => e⟩
  obtain ⟨w', rfl, hw'⟩ : ∃ w', x = .str w' ∧ wok w' := by
    simp at hx
    rcases hx with rfl | rfl | rfl | rfl | rfl
    · exact ⟨_, rfl, by decide +kernel, by decide +kernel, by decide +kernel⟩
    · exact ⟨_, rfl, by decide +kernel, by decide +kernel, by decide +kernel⟩
    · exact ⟨_, rfl, by decide +kernel, by decide +kernel, by decide +kernel⟩
    · exact ⟨_, rfl, by decide +kernel, by decide +kernel, by decide +kernel⟩
    · exact ⟨_, rfl, hw⟩
  refine ⟨w', G3, hw', T3.mono (by omega), ?_⟩
  simp [f_law_word, hr, hjoin, rep, e3, ex]
end
end K85

end
section
set_option Elab.async false
set_option linter.all false
set_option maxRecDepth 100000
set_option maxHeartbeats 1000000
namespace K85
open PySem Mi Mi.X TL
section
variable {n k T : Nat} {G : List MO}
theorem settle_d (v : Val) (S : List Mi.Slot) (G : List MO) : Mi.settle v.d S G = .ok v.d S G := by cases v <;> rfl
theorem value (h : Tp T G) (hT : T < 800000) : ∃ (v : Val) (G' : List MO), v.ok ∧ Tp (T + 11) G' ∧ ∀ S : List Mi.Slot, S[0]? = some (.val (.ref 1)) → evE (fnsF prg n (k + 4)) (.ife (.cmp .eq (.call "_law_draw" (.cons (.v 0) (.cons (.c (.int 2)) .nil))) (.c (.int 0))) (.call "_law_word" (.cons (.v 0) .nil)) (.call "_law_number" (.cons (.v 0) .nil))) S G = .ok v.d S G' := by
  obtain ⟨d1, G1, o1, l1, T1, e1⟩ := draw (n := n) (k := k + 2) (m := 2) h (by omega) (by omega) (by omega)
  by_cases hd : d1 = 0
  · obtain ⟨w, G2, hw, T2, e2⟩ := word (n := n) (k := k) T1 (by omega)
    refine ⟨.w w, G2, hw, T2, fun S hS => ?_⟩
    simp [hS, e1, e2, hd, Val.d]
  · obtain ⟨z, G2, z0, z1, T2, e2⟩ := number (n := n) (k := k) T1 (by omega)
    refine ⟨.n z, G2, ⟨z0, z1⟩, T2.mono (by omega), fun S hS => ?_⟩
    simp [hS, e1, e2, hd, Val.d]
theorem fact_drawn (h : Tp T G) (hT : T < 700000) : ∃ (f : Fact) (G' : List MO), f.ok ∧ Tp (T + 60) G' ∧ rawF prg n (k + 5) "_law_fact_drawn" [.ref 1] G = .ok f.d G' := by
  rw [raw_law_fact_drawn]
  obtain ⟨d1, G1, o1, l1, T1, e1⟩ := draw (n := n) (k := k + 2) (m := 4) h (by omega) (by omega) (by omega)
  have hlen : (List.range (1 + d1).toNat).length = (1 + d1).toNat := List.length_range
  obtain ⟨S', G2, hr, T2, vs, s, rfl, hvl, hvs⟩ : ∃ S' G2, evS (fnsF prg n (k + 4)) L_law_fact_drawn_0 [.val (.ref 1), .lst [], .no] G = .ok .nx S' G2
      ∧ (Tp (T + 1 + 11 * (List.range (1 + d1).toNat).length) G2 ∧ ∃ (vs : List Val) (s : Mi.Slot), S' = [.val (.ref 1), .lst (vs.map Val.d), s] ∧ vs.length = (List.range (1 + d1).toNat).length ∧ ∀ v ∈ vs, v.ok) := by
    refine for_st (fun (a : Nat) => D.int a) (G0 := G1) (l := List.range (1 + d1).toNat)
      (fun done S G => Tp (T + 1 + 11 * done.length) G ∧ ∃ (vs : List Val) (s : Mi.Slot), S = [.val (.ref 1), .lst (vs.map Val.d), s] ∧ vs.length = done.length ∧ ∀ v ∈ vs, v.ok)
      (rng_z ?_ (by omega) (by omega)) ?_ ⟨T1, [], .no, rfl, rfl, by simp⟩
    · simp [e1]
    · rintro a ha done S G hN ⟨TG, vs, s, rfl, hl, hv⟩
      obtain ⟨v, G2, hvo, T2, ev⟩ := value (n := n) (k := k) TG (by omega)
      have ev' := ev [.val (.ref 1), .lst (vs.map Val.d), .val (.int a)] rfl
      refine ⟨[.val (.ref 1), .lst ((vs ++ [v]).map Val.d), .val (.int a)], G2, ?_, T2.mono (by simp; omega), vs ++ [v], _, rfl, by simp [hl], fun x hx => ?_⟩
      · have hvl : vs.length < 16777216 := by omega
        simp [-e_ife, ev', settle_d, hvl]
      · rcases List.mem_append.mp hx with hx | hx
        · exact hv x hx
        · rw [List.mem_singleton.mp hx]; exact hvo
  obtain ⟨w, G3, hw, T3, e3⟩ := word (n := n) (k := k) T2 (by omega)
  refine ⟨⟨w, vs⟩, G3, ⟨hw, by simp; omega, by simp; omega, hvs⟩, T3.mono (by omega), ?_⟩
  simp [f_law_fact_drawn, hr, e3, Fact.d]
theorem kind {d : Int} (h0 : 0 ≤ d) (h : d < 3) : ∃ b : Bool, ∀ (S : List Mi.Slot) (G : List MO), ixOf S G (.lst [.str "is", .str "any", .str "any"]) (.int d) = some (.str (if b then "is" else "any")) := by
  obtain ⟨x, hx, e⟩ := ix_lz (S := []) (G := []) h0 (l := [.str "is", .str "any", .str "any"]) h
  have e' : ∀ (S : List Mi.Slot) (G : List MO), ixOf S G (.lst [.str "is", .str "any", .str "any"]) (.int d) = some x := fun S G => e
  simp at hx
  rcases hx with rfl | rfl
  · exact ⟨true, e'⟩
  · exact ⟨false, e'⟩
theorem terms_drawn {S0 S1 S2 S4 : Mi.Slot} (h : Tp T G) (hT : T < 700000) (e0 : S0 = .val (.ref 1)) : ∃ (ts : List Term) (G' : List MO) (S4' : Mi.Slot), (1 ≤ ts.length ∧ ts.length ≤ 3 ∧ ∀ t ∈ ts, wok t.w) ∧ Tp (T + 34) G' ∧
    evS (fnsF prg n (k + 4)) L_law_atoms_drawn_1 [S0, S1, S2, .lst [], S4] G = .ok .nx [S0, S1, S2, .lst (ts.map Term.d), S4'] G' := by
  subst e0
  obtain ⟨d1, G1, o1, l1, T1, e1⟩ := draw (n := n) (k := k + 2) (m := 3) h (by omega) (by omega) (by omega)
  have hlen : (List.range (1 + d1).toNat).length = (1 + d1).toNat := List.length_range
  obtain ⟨S', G2, hr, T2, vs, s, rfl, hvl, hvs⟩ : ∃ S' G2, evS (fnsF prg n (k + 4)) L_law_atoms_drawn_1 [.val (.ref 1), S1, S2, .lst [], S4] G = .ok .nx S' G2
      ∧ (Tp (T + 1 + 11 * (List.range (1 + d1).toNat).length) G2 ∧ ∃ (vs : List Term) (s : Mi.Slot), S' = [.val (.ref 1), S1, S2, .lst (vs.map Term.d), s] ∧ vs.length = (List.range (1 + d1).toNat).length ∧ ∀ v ∈ vs, wok v.w) := by
    refine for_st (fun (a : Nat) => D.int a) (G0 := G1) (l := List.range (1 + d1).toNat)
      (fun done S G => Tp (T + 1 + 11 * done.length) G ∧ ∃ (vs : List Term) (s : Mi.Slot), S = [.val (.ref 1), S1, S2, .lst (vs.map Term.d), s] ∧ vs.length = done.length ∧ ∀ v ∈ vs, wok v.w)
      (rng_z ?_ (by omega) (by omega)) ?_ ⟨T1, [], S4, rfl, rfl, by simp⟩
    · simp [e1]
    · rintro a ha done S G hN ⟨TG, vs, s, rfl, hl, hv⟩
      obtain ⟨d2, G2, o2, l2, T2, e2⟩ := draw (n := n) (k := k + 2) (m := 3) TG (by omega) (by omega) (by omega)
      obtain ⟨b, eb⟩ := kind o2 l2
      obtain ⟨w, G3, hw, T3, e3⟩ := word (n := n) (k := k) T2 (by omega)
      refine ⟨[.val (.ref 1), S1, S2, .lst ((vs ++ [(⟨b, w⟩ : Term)]).map Term.d), .val (.int a)], G3, ?_, T3.mono (by simp; omega), vs ++ [⟨b, w⟩], _, rfl, by simp [hl], fun x hx => ?_⟩
      · have hvl : vs.length < 16777216 := by omega
        simp [e2, eb, e3, hvl, Term.d, Term.k]
      · rcases List.mem_append.mp hx with hx | hx
        · exact hv x hx
        · rw [List.mem_singleton.mp hx]; exact hw
  exact ⟨vs, G2, s, ⟨by omega, by omega, hvs⟩, T2.mono (by omega), hr⟩
theorem atoms_drawn (h : Tp T G) (hT : T < 600000) : ∃ (l : List Atom) (G' : List MO), atsOk l ∧ Tp (T + 150) G' ∧ rawF prg n (k + 5) "_law_atoms_drawn" [.ref 1] G = .ok (atsD l) G' := by
  rw [raw_law_atoms_drawn]
  obtain ⟨d1, G1, o1, l1, T1, e1⟩ := draw (n := n) (k := k + 2) (m := 3) h (by omega) (by omega) (by omega)
  have hlen : (List.range (1 + d1).toNat).length = (1 + d1).toNat := List.length_range
  obtain ⟨S', G2, hr, T2, vs, s2, s3, s4, rfl, hvl, hvs⟩ : ∃ S' G2, evS (fnsF prg n (k + 4)) L_law_atoms_drawn_0 [.val (.ref 1), .lst [], .no, .no, .no] G = .ok .nx S' G2
      ∧ (Tp (T + 1 + 44 * (List.range (1 + d1).toNat).length) G2 ∧ ∃ (vs : List Atom) (s2 s3 s4 : Mi.Slot), S' = [.val (.ref 1), .lst (vs.map Atom.d), s2, s3, s4] ∧ vs.length = (List.range (1 + d1).toNat).length ∧ ∀ v ∈ vs, v.ok) := by
    refine for_st (fun (a : Nat) => D.int a) (G0 := G1) (l := List.range (1 + d1).toNat)
      (fun done S G => Tp (T + 1 + 44 * done.length) G ∧ ∃ (vs : List Atom) (s2 s3 s4 : Mi.Slot), S = [.val (.ref 1), .lst (vs.map Atom.d), s2, s3, s4] ∧ vs.length = done.length ∧ ∀ v ∈ vs, v.ok)
      (rng_z ?_ (by omega) (by omega)) ?_ ⟨T1, [], .no, .no, .no, rfl, rfl, by simp⟩
    · simp [e1]
    · rintro a ha done S G hN ⟨TG, vs, s2, s3, s4, rfl, hl, hv⟩
      obtain ⟨ts, G2, s4', ⟨t1, t2, t3⟩, T2, et⟩ := terms_drawn (n := n) (k := k) (S0 := .val (.ref 1)) (S1 := .lst (vs.map Atom.d)) (S2 := .val (.int a)) (S4 := s4) TG (by omega) rfl
      obtain ⟨w, G3, hw, T3, e3⟩ := word (n := n) (k := k) T2 (by omega)
      refine ⟨[.val (.ref 1), .lst ((vs ++ [(⟨w, ts⟩ : Atom)]).map Atom.d), .val (.int a), .lst (ts.map Term.d), s4'], G3, ?_, T3.mono (by simp; omega), vs ++ [⟨w, ts⟩], _, _, _, rfl, by simp [hl], fun x hx => ?_⟩
      · have hvl : vs.length < 16777216 := by omega
        simp [et, e3, hvl, Atom.d]
      · rcases List.mem_append.mp hx with hx | hx
        · exact hv x hx
        · rw [List.mem_singleton.mp hx]; exact ⟨hw, t1, t2, t3⟩
  refine ⟨vs, G2, ⟨by omega, by omega, hvs⟩, T2.mono (by omega), ?_⟩
  simp [f_law_atoms_drawn, hr, atsD]
end
end K85

end
section
set_option Elab.async false
set_option linter.all false
set_option maxRecDepth 100000
set_option maxHeartbeats 1000000
/-! Md: dicts of typed keys, sorting of typed things. -/
namespace Mi
open PySem
section
variable {α : Type} [DecidableEq α] (enc : α → D) {v : D}
def puts (K : List α) : List α → List α
  | [] => K
  | w :: r => puts (if w ∈ K then K else K ++ [w]) r
theorem puts_mem {x : α} : ∀ (ws K : List α), x ∈ puts K ws ↔ x ∈ K ∨ x ∈ ws
  | [], K => by simp [puts]
  | w :: r, K => by
    unfold puts
    rw [puts_mem r]
    by_cases h : w ∈ K
    · rw [if_pos h]
      constructor
      · rintro (h | h)
        · exact .inl h
        · exact .inr (List.mem_cons_of_mem _ h)
      · rintro (h1 | h1)
        · exact .inl h1
        · rcases List.mem_cons.mp h1 with rfl | h1
          · exact .inl h
          · exact .inr h1
    · rw [if_neg h]
      simp [or_assoc]
theorem puts_nodup : ∀ (ws K : List α), K.Nodup → (puts K ws).Nodup
  | [], K, h => h
  | w :: r, K, h => by
    unfold puts
    refine puts_nodup r _ ?_
    by_cases hw : w ∈ K
    · rwa [if_pos hw]
    · rw [if_neg hw]
      refine List.nodup_append.mpr ⟨h, by simp, fun a ha b hb => ?_⟩
      rw [List.mem_singleton.mp hb]
      rintro rfl
      exact hw ha
theorem puts_len : ∀ (ws K : List α), (puts K ws).length ≤ K.length + ws.length
  | [], K => by simp [puts]
  | w :: r, K => by
    unfold puts
    have := puts_len r (if w ∈ K then K else K ++ [w])
    have h2 : (if w ∈ K then K else K ++ [w]).length ≤ K.length + 1 := by split <;> simp
    simp only [List.length_cons]
    omega
theorem puts_sub : ∀ (ws K : List α), (∀ w ∈ ws, w ∈ K) → puts K ws = K
  | [], K, _ => rfl
  | w :: r, K, h => by
    unfold puts
    rw [if_pos (h w (List.mem_cons_self ..))]
    exact puts_sub r K fun x hx => h x (List.mem_cons_of_mem _ hx)
theorem puts_new : ∀ (ws K : List α), (K ++ ws).Nodup → puts K ws = K ++ ws
  | [], K, _ => by simp [puts]
  | w :: r, K, h => by
    unfold puts
    have hw : w ∉ K := fun hk => (List.nodup_append.mp h).2.2 w hk w (List.mem_cons_self ..) rfl
    rw [if_neg hw, puts_new r (K ++ [w]) (by rw [List.append_assoc]; exact h), List.append_assoc]
    rfl
theorem puts_app : ∀ (ws us K : List α), puts K (ws ++ us) = puts (puts K ws) us
  | [], us, K => rfl
  | w :: r, us, K => by
    show puts (if w ∈ K then K else K ++ [w]) (r ++ us) = puts (puts (if w ∈ K then K else K ++ [w]) r) us
    exact puts_app r us _
variable (hb : ∀ a b, (enc a).beq (enc b) = decide (a = b))
include hb
theorem dHas_enc (K : List α) (w : α) : dHas (K.map enc) (enc w) = decide (w ∈ K) := by
  induction K with
  | nil => simp [dHas]
  | cons a K ih =>
    have ih' : List.any (K.map enc) (fun a => a.beq (enc w)) = decide (w ∈ K) := ih
    simp only [dHas, List.map_cons, List.any_cons, ih', hb, List.mem_cons]
    by_cases h : a = w
    · simp [h]
    · have : ¬ w = a := fun e => h e.symm
      simp [h, this]
theorem repX_enc (K : List α) (w : α) : repX (K.map enc) (K.map fun _ => v) (enc w) v = K.map fun _ => v := by
  induction K with
  | nil => rfl
  | cons a K ih => simp [repX, ih]
theorem dGet_enc (K : List α) (w : α) : dGet (K.map enc) (K.map fun _ => v) (enc w) = if w ∈ K then some v else none := by
  induction K with
  | nil => rfl
  | cons a K ih =>
    simp only [List.map_cons, dGet, hb, ih]
    by_cases h : a = w
    · simp [h]
    · have : ¬ w = a := fun e => h e.symm
      simp [h, this]
theorem dPut_enc (K : List α) (w : α) : dPut (K.map enc) (K.map fun _ => v) (enc w) v = ((if w ∈ K then K else K ++ [w]).map enc, (if w ∈ K then K else K ++ [w]).map fun _ => v) := by
  unfold dPut
  rw [dHas_enc enc hb, repX_enc enc hb]
  by_cases h : w ∈ K <;> simp [h]
variable (ok : ∀ (K : List α) (w : α), okKey (K.map enc) (enc w) = true)
include ok
theorem dPutOk_enc (K : List α) (w : α) (hK : K.length < sizeLine) : dPutOk (K.map enc) (K.map fun _ => v) (enc w) v = some ((if w ∈ K then K else K ++ [w]).map enc, (if w ∈ K then K else K ++ [w]).map fun _ => v) := by
  unfold dPutOk
  rw [if_pos ⟨ok K w, by rwa [List.length_map]⟩, dPut_enc enc hb]
theorem dPutsOk_enc : ∀ (ws K : List α), K.length + ws.length ≤ sizeLine → dPutsOk (ws.map fun w => (enc w, v)) (K.map enc) (K.map fun _ => v) = some ((puts K ws).map enc, (puts K ws).map fun _ => v)
  | [], K, _ => rfl
  | w :: r, K, h => by
    have hl : K.length + r.length + 1 ≤ sizeLine := by rw [List.length_cons] at h; omega
    rw [List.map_cons]
    unfold dPutsOk
    rw [dPutOk_enc enc hb ok K w (by omega)]
    refine dPutsOk_enc r (if w ∈ K then K else K ++ [w]) ?_
    have h2 : (if w ∈ K then K else K ++ [w]).length ≤ K.length + 1 := by split <;> simp
    omega
theorem setdefault_enc {S : List Slot} {G : List MO} {i : Nat} {K : List α} (hS : S[i]? = some (.dic (K.map enc) (K.map fun _ => v))) (w : α) (hK : K.length < sizeLine) :
    evBm .setdefault (.slot i) [enc w, v] S G = .ok v (S.set i (.dic ((if w ∈ K then K else K ++ [w]).map enc) ((if w ∈ K then K else K ++ [w]).map fun _ => v))) G := by
  have hi := (List.getElem?_eq_some_iff.mp hS).1
  have hg := (List.getElem?_eq_some_iff.mp hS).2
  unfold evBm
  rw [X.x_ct_slot, hS]
  dsimp only
  rw [dGet_enc enc hb]
  by_cases h : w ∈ K
  · rw [if_pos h, if_pos h]
    dsimp only
    rw [if_pos ⟨ok K w, by rwa [List.length_map]⟩, ← hg, List.set_getElem_self]
  · rw [if_neg h]
    dsimp only
    rw [dPutOk_enc enc hb ok K w hK, if_neg h]
    show ((if i < S.length then Rs.ok () (S.set i _) G else .bad) : Rs Unit).andThen _ = _
    rw [if_pos hi]; rfl
end
theorem pairsOf_enc {α : Type} (enc : α → D) (v : D) : ∀ ws : List α, pairsOf (ws.map fun w => .tup [enc w, v]) = some (ws.map fun w => (enc w, v))
  | [] => rfl
  | w :: r => by
    rw [List.map_cons, pairsOf, pairsOf_enc enc v r]; rfl
/-! ### sorting -/
section
variable {α : Type} (key : α → PyData)
def leK (a b : α) : Bool := !W.dataLt (key b) (key a)
theorem pys_map {f : α → D} {p : α → PyData} : ∀ (l : List α), (∀ a ∈ l, (f a).py = some (p a)) → D.pys (l.map f) = some (l.map p)
  | [], _ => rfl
  | a :: r, h => by
    rw [List.map_cons, D.pys, h a (List.mem_cons_self ..), pys_map r fun b hb => h b (List.mem_cons_of_mem _ hb)]
    rfl
theorem sortBy_enc {kd enc : α → D} {l : List α} (hk : ∀ a ∈ l, (kd a).py = some (key a)) (ok : keysOk (l.map key) = true) : sortBy (l.map kd) (l.map enc) = some ((l.mergeSort (leK key)).map enc) := by
  unfold sortBy
  rw [pys_map l hk]
  show (if keysOk (l.map key) = true then _ else _) = _
  rw [if_pos ok]
  have e : (l.map key).zip (l.map enc) = l.map fun a => (key a, enc a) := by rw [List.zip_map']
  rw [e]
  have e2 : (l.map fun a => (key a, enc a)).mergeSort (fun a b => !W.dataLt b.1 a.1) = (l.mergeSort (leK key)).map fun a => (key a, enc a) :=
    (List.map_mergeSort (r := leK key) (s := fun (a b : PyData × D) => !W.dataLt b.1 a.1) (f := fun a => (key a, enc a)) (fun a _ b _ => rfl)).symm
  rw [e2, List.map_map]
  rfl
theorem leK_trans (a b c : α) (h1 : leK key a b = true) (h2 : leK key b c = true) : leK key a c = true := by
  unfold leK W.dataLt at *
  rcases h : PyProof.Rows.lexLt PyProof.Rows.itemOrd (W.keyToks (key c)) (W.keyToks (key a)) with _ | _
  · rfl
  · rcases PyProof.Rows.lex_negTrans _ (W.keyToks (key b)) _ h with h3 | h3
    · rw [h3] at h2; cases h2
    · rw [h3] at h1; cases h1
theorem leK_total (a b : α) : (leK key a b || leK key b a) = true := by
  unfold leK W.dataLt
  rcases h : PyProof.Rows.lexLt PyProof.Rows.itemOrd (W.keyToks (key b)) (W.keyToks (key a)) with _ | _
  · rfl
  · rcases h2 : PyProof.Rows.lexLt PyProof.Rows.itemOrd (W.keyToks (key a)) (W.keyToks (key b)) with _ | _
    · rfl
    · have := PyProof.Rows.lex_trans _ _ _ h h2
      rw [PyProof.Rows.lex_irrefl] at this
      cases this
theorem sort_pairwise (l : List α) : (l.mergeSort (leK key)).Pairwise fun a b => leK key a b = true := List.pairwise_mergeSort (leK_trans key) (leK_total key) l
theorem sort_self (l : List α) : (l.mergeSort (leK key)).mergeSort (leK key) = l.mergeSort (leK key) := List.mergeSort_of_pairwise (sort_pairwise key l)
theorem sort_perm {l m : List α} (h : l.Perm m) (inj : ∀ a ∈ l, ∀ b ∈ l, W.keyToks (key a) = W.keyToks (key b) → a = b) : l.mergeSort (leK key) = m.mergeSort (leK key) := by
  have p1 := List.mergeSort_perm l (leK key)
  have p2 := List.mergeSort_perm m (leK key)
  refine List.Perm.eq_of_pairwise (fun a b ha hb h1 h2 => ?_) (sort_pairwise key l) (sort_pairwise key m) ((p1.trans h).trans p2.symm)
  unfold leK W.dataLt at h1 h2
  refine inj a (p1.mem_iff.mp ha) b (h.mem_iff.mpr (p2.mem_iff.mp hb)) (PyProof.Rows.lex_total (O := PyProof.Rows.itemOrd) (W.keyToks (key a)) (W.keyToks (key b)) ?_ ?_)
  · revert h2; cases PyProof.Rows.lexLt PyProof.Rows.itemOrd (W.keyToks (key a)) (W.keyToks (key b)) <;> simp
  · revert h1; cases PyProof.Rows.lexLt PyProof.Rows.itemOrd (W.keyToks (key b)) (W.keyToks (key a)) <;> simp
end
end Mi

end
section
set_option Elab.async false
set_option linter.all false
set_option maxRecDepth 100000
set_option maxHeartbeats 1000000
namespace K85
open PySem Mi Mi.X TL
section
variable {n k T : Nat} {G : List MO}
instance (x : Str) : Decidable (sOk x) := inferInstanceAs (Decidable (PyData.strOk x = true))
theorem sOk_of {w : Str} (h : ∀ c ∈ tl w, c < 0x110000) : sOk w := by
  show w.cps.all (· < 0x110000) = true
  rw [← Array.all_toList]
  exact List.all_eq_true.mpr fun c hc => decide_eq_true (h c hc)
theorem wok.sOk {w : Str} (h : wok w) : sOk w := sOk_of fun c hc => by
  have := h.2.2 c hc
  omega
theorem str_hb (a b : Str) : (D.str a).beq (D.str b) = decide (a = b) := by simp [D.beq]
theorem str_ok (K : List Str) (w : Str) : okKey (K.map D.str) (D.str w) = true := by
  have : (K.map D.str).all D.leaf = true := List.all_eq_true.mpr fun d hd => by
    obtain ⟨a, _, rfl⟩ := List.mem_map.mp hd
    rfl
  simp [okKey, this, D.leaf]
theorem upd_str {S : List Mi.Slot} {i : Nat} {K ws : List Str} (hS : S[i]? = some (.dic (K.map .str) (K.map fun _ => .bl true))) (hl : K.length + ws.length ≤ sizeLine) :
    evBm .update (.slot i) [.dic (ws.map .str) (ws.map fun _ => .bl true)] S G = .ok .non (S.set i (.dic ((puts K ws).map .str) ((puts K ws).map fun _ => .bl true))) G := by
  have hi := (List.getElem?_eq_some_iff.mp hS).1
  have hz : (ws.map D.str).zip (ws.map fun _ => D.bl true) = ws.map fun w => (D.str w, D.bl true) := by rw [List.zip_map']
  have hu : updOk (K.map D.str) (ws.map fun w => (D.str w, D.bl true)) = true := by
    have h1 : (K.map D.str).all D.leaf = true := List.all_eq_true.mpr fun d hd => by
      obtain ⟨a, _, rfl⟩ := List.mem_map.mp hd
      rfl
    have h2 : (ws.map fun w => (D.str w, D.bl true)).all (fun p => p.1.leaf) = true := List.all_eq_true.mpr fun d hd => by
      obtain ⟨a, _, rfl⟩ := List.mem_map.mp hd
      rfl
    unfold updOk
    rw [h1, h2]
    simpa using hl
  unfold evBm
  rw [x_ct_slot, hS]
  dsimp only [updPs]
  rw [hz, if_pos hu, dPutsOk_enc D.str str_hb str_ok ws K hl]
  show ((if i < S.length then Rs.ok () (S.set i _) G else .bad) : Rs Unit).andThen _ = _
  rw [if_pos hi]; rfl
theorem any_eq (t : Term) (S : List Mi.Slot) (G : List MO) : cmp2 .eq S G (.str t.k) (.str "any") = some (!t.b) := by
  unfold Term.k
  cases t.b
  · rw [x_eqs S G (by decide +kernel) (by decide +kernel)]; rfl
  · rw [x_eqs S G (by decide +kernel) (by decide +kernel)]; rfl
/-- the variables of an atom -/
def anyA (a : Atom) : List Str := (a.ts.filter fun t => !t.b).map Term.w
theorem known_1 {S0 S1 S2 S4 S5 : Mi.Slot} (ts : List Term) (hl : ts.length ≤ 100) (p4 : S4.plain = true) (p5 : S5.plain = true) :
    evE (fnsF prg n k) L_law_known_1 [S0, S1, S2, .val (.tup (ts.map Term.d)), S4, S5] G = .ok (.lst (((ts.filter fun t => !t.b).map Term.w).map fun w => .tup [.str w, .bl true])) [S0, S1, S2, .val (.tup (ts.map Term.d)), S4, S5] G := by
  obtain ⟨r, G2, hr, rfl, rfl⟩ : ∃ r G2, evE (fnsF prg n k) L_law_known_1 [S0, S1, S2, .val (.tup (ts.map Term.d)), S4, S5] G = .ok (.lst r) [S0, S1, S2, .val (.tup (ts.map Term.d)), S4, S5] G2 ∧ (r = ((ts.filter fun t => !t.b).map Term.w).map (fun w => .tup [.str w, .bl true]) ∧ G2 = G) := by
    refine lc_2 (fun t : Term => D.str t.k) (fun t : Term => D.str t.w) (G0 := G) (l := ts) (fun done acc G' => acc = ((done.filter fun t => !t.b).map Term.w).map (fun w => .tup [.str w, .bl true]) ∧ G' = G) ?_ rfl p4 rfl p5 (by decide) (by show _ ≤ 16777216; omega) ?_ ⟨rfl, rfl⟩
    · simp [Term.d]
    · rintro t ht done acc G' hN ⟨rfl, rfl⟩
      by_cases hb : t.b = true
      · refine .inr ⟨by simp [any_eq, hb], by simp [hb], rfl⟩
      · have hb' : t.b = false := by simpa using hb
        exact .inl ⟨by simp [any_eq, hb'], .tup [.str t.w, .bl true], G', by simp, by simp [hb'], rfl⟩
  exact hr
theorem known_ok {l : List Atom} (hl : atsOk l) : ∃ K : List Str, K.Nodup ∧ (∀ w ∈ K, w ∈ anys l) ∧ K.length ≤ 9 ∧ rawF prg n (k + 1) "_law_known" [atsD l] G = .ok (.ref G.length) (G ++ [.lst (K.map .str)]) := by
  rw [raw_law_known]
  obtain ⟨S', G2, hr, rfl, K, s2, s3, s4, s5, rfl, hn, hm, hlen⟩ : ∃ S' G2, evS (fnsF prg n k) L_law_known_0 [.val (atsD l), .dic [] [], .no, .no, .no, .no] G = .ok .nx S' G2 ∧
     (G2 = G ∧ ∃ (K : List Str) (s2 s3 s4 s5 : Mi.Slot), S' = [.val (atsD l), .dic (K.map .str) (K.map fun _ => .bl true), s2, s3, .no, .no] ∧ K.Nodup ∧ (∀ w ∈ K, w ∈ l.flatMap anyA) ∧ K.length ≤ 3 * l.length) := by
    refine for_st (fun a : Atom => a.d) (G0 := G) (l := l) (fun done S G' => G' = G ∧ ∃ (K : List Str) (s2 s3 s4 s5 : Mi.Slot), S = [.val (atsD l), .dic (K.map .str) (K.map fun _ => .bl true), s2, s3, .no, .no] ∧ K.Nodup ∧ (∀ w ∈ K, w ∈ done.flatMap anyA) ∧ K.length ≤ 3 * done.length)
      ?_ ?_ ⟨rfl, [], .no, .no, .no, .no, rfl, List.nodup_nil, by simp, by simp⟩
    · simp [atsD]
    · rintro a ha done S G' hN ⟨rfl, K, s2, s3, s4, s5, rfl, hn, hm, hlen⟩
      have hao := hl.2.2 a ha
      have hl3 := hl.2.1
      have e1 := known_1 (n := n) (k := k) (G := G') (S0 := .val (atsD l)) (S1 := .dic (K.map .str) (K.map fun _ => .bl true)) (S2 := .val (.str a.t)) (S4 := .no) (S5 := .no) a.ts (by have := hao.2.2.1; omega) rfl rfl
      have e2 : pairsOf ((anyA a).map fun w => .tup [.str w, .bl true]) = some ((anyA a).map fun w => (.str w, .bl true)) := pairsOf_enc D.str (.bl true) (anyA a)
      have hal : (anyA a).length ≤ 3 := by
        have := hao.2.2.1
        have h2 := List.length_filter_le (fun t : Term => !t.b) a.ts
        unfold anyA
        rw [List.length_map]
        omega
      have e3 := dPutsOk_enc D.str (v := .bl true) str_hb str_ok (anyA a) [] (by show _ ≤ 16777216; simp; omega)
      have hpl := puts_len (anyA a) []
      have e4 := upd_str (G := G') (S := [.val (atsD l), .dic (K.map .str) (K.map fun _ => .bl true), .val (.str a.t), .val (.tup (a.ts.map Term.d)), .no, .no]) (i := 1) (K := K) (ws := puts [] (anyA a)) rfl (by show _ ≤ 16777216; simp at hpl; omega)
      refine ⟨[.val (atsD l), .dic ((puts K (puts [] (anyA a))).map .str) ((puts K (puts [] (anyA a))).map fun _ => .bl true), .val (.str a.t), .val (.tup (a.ts.map Term.d)), .no, .no], G', ?_, rfl, puts K (puts [] (anyA a)), .val (.str a.t), .val (.tup (a.ts.map Term.d)), .no, .no, rfl, puts_nodup _ _ hn, fun w hw => ?_, ?_⟩
      · have e1' : evE (fnsF prg n k) L_law_known_1 _ G' = .ok (.lst ((anyA a).map fun w => .tup [.str w, .bl true])) _ G' := e1
        have e3' : dPutsOk ((anyA a).map fun w => (D.str w, D.bl true)) [] [] = _ := e3
        simp [Atom.d, e1', e2, e3', e4]
      · rw [List.flatMap_append]
        rcases (puts_mem _ _).mp hw with h | h
        · exact List.mem_append_left _ (hm w h)
        · rcases (puts_mem _ _).mp h with h | h
          · cases h
          · exact List.mem_append_right _ (by simpa using h)
      · have := puts_len (puts [] (anyA a)) K
        simp at hpl ⊢
        omega
  have hws : ∀ w ∈ K, wok w := fun w hw => by
    obtain ⟨a, ha, h⟩ := List.mem_flatMap.mp (hm w hw)
    obtain ⟨t, ht, rfl⟩ := List.mem_map.mp h
    exact (hl.2.2 a ha).2.2.2 t (List.mem_filter.mp ht).1
  have hp := List.mergeSort_perm K (leK PyData.str)
  have e5 : sortBy (K.map D.str) (K.map D.str) = _ := sortBy_enc (l := K) PyData.str (kd := D.str) (enc := D.str) (fun a _ => rfl) (by
    unfold keysOk
    have h1 : (K.map PyData.str).all SeqAt.shaped = true := List.all_eq_true.mpr fun d hd => by
      obtain ⟨a, ha, rfl⟩ := List.mem_map.mp hd
      exact shaped_str (hws a ha).sOk
    have h2 : (K.map PyData.str).all (fun a => (K.map PyData.str).all (pcmp a)) = true := List.all_eq_true.mpr fun d hd => List.all_eq_true.mpr fun e he => by
      obtain ⟨a, ha, rfl⟩ := List.mem_map.mp hd
      obtain ⟨b, hb, rfl⟩ := List.mem_map.mp he
      rfl
    have h3 : (K.map PyData.str).all ntup = true := List.all_eq_true.mpr fun d hd => by
      obtain ⟨a, ha, rfl⟩ := List.mem_map.mp hd
      rfl
    rw [h1, h2, h3]
    simp)
  refine ⟨K.mergeSort (leK PyData.str), hp.nodup_iff.mpr hn, fun w hw => hm w (hp.mem_iff.mp hw), by rw [hp.length_eq]; have := hl.2.1; omega, ?_⟩
  simp [f_law_known, hr, e5]
@[simp] theorem se_ats (l : List Atom) (S : List Mi.Slot) (G : List MO) : Mi.settle (atsD l) S G = .ok (atsD l) S G := rfl
@[simp] theorem se_atom (l : Atom) (S : List Mi.Slot) (G : List MO) : Mi.settle l.d S G = .ok l.d S G := rfl
@[simp] theorem se_term (l : Term) (S : List Mi.Slot) (G : List MO) : Mi.settle l.d S G = .ok l.d S G := rfl
@[simp] theorem se_fact (l : Fact) (S : List Mi.Slot) (G : List MO) : Mi.settle l.d S G = .ok l.d S G := rfl
@[simp] theorem se_say (l : Say) (S : List Mi.Slot) (G : List MO) : Mi.settle l.d S G = .ok l.d S G := by cases l <;> rfl
theorem saying_drawn (h : Tp T G) (hT : T < 500000) : ∃ (s : Say) (G' : List MO), s.ok ∧ Tp (T + 310) G' ∧ rawF prg n (k + 7) "_law_saying_drawn" [.ref 1] G = .ok s.d G' := by
  rw [raw_law_saying_drawn]
  obtain ⟨b, G1, hb, T1, e1⟩ := atoms_drawn (n := n) (k := k) h (by omega)
  obtain ⟨K, hn, hm, hK, e2⟩ := known_ok (n := n) (k := k + 4) (G := G1) hb
  have hG1 : 1 < G1.length := lt_of_get T1.2.choose_spec.choose_spec.choose_spec.choose_spec.1
  have T2 : Tp (T + 150) (G1 ++ [.lst (K.map .str)]) := by
    obtain ⟨h0, cs, a, l, t, h1, h2⟩ := T1
    exact ⟨by rw [List.getElem?_append_left (by omega)]; exact h0, cs, a, l, t, by rw [List.getElem?_append_left (by omega)]; exact h1, h2⟩
  have hk0 : (G1 ++ [MO.lst (K.map .str)])[G1.length]? = some (.lst (K.map .str)) := List.getElem?_concat_length ..
  generalize hr : G1.length = r at *
  generalize G1 ++ [MO.lst (K.map .str)] = G2 at *
  have hlen : (K.map D.str).length = K.length := List.length_map ..
  by_cases hk : (1 : Int) < K.length
  · obtain ⟨d1, G3, o1, l1, T3, i3, e3⟩ := draw2 (n := n) (k := k + 4) (m := 2) T2 (by omega) (by omega) (by omega)
    have hk3 : G3[r]? = some (.lst (K.map .str)) := (i3 r (by omega)).trans hk0
    by_cases hd : d1 = 0
    · obtain ⟨d2, G4, o2, l2, T4, i4, e4⟩ := draw2 (n := n) (k := k + 4) (m := K.length) T3 (by omega) (by omega) (by omega)
      have hk4 : G4[r]? = some (.lst (K.map .str)) := (i4 r (by omega)).trans hk3
      have hj : d2.toNat < K.length := by omega
      have e5 := fun S => x_popAt_rf S G4 (k := d2) (j := d2.toNat) (x := .str K[d2.toNat]) hk4 (by unfold plc; rw [if_pos ⟨o2, by omega⟩]) (by simp [hj])
      have hk5 : (G4.set r (.lst ((K.map D.str).eraseIdx d2.toNat)))[r]? = some (.lst ((K.map D.str).eraseIdx d2.toNat)) := by simp [lt_of_get hk4]
      have hne : ∀ i, i ≠ r → (G4.set r (.lst ((K.map D.str).eraseIdx d2.toNat)))[i]? = G4[i]? := fun i hi => by
        rw [List.getElem?_set, if_neg (fun e => hi e.symm)]
      have T5 : Tp (T + 150 + 1 + 1) (G4.set r (.lst ((K.map D.str).eraseIdx d2.toNat))) := by
        obtain ⟨h0, cs, a, l, t, h1, h2⟩ := T4
        exact ⟨(hne 0 (by omega)).trans h0, cs, a, l, t, (hne 1 (by omega)).trans h1, h2⟩
      have hl5 : ((K.map D.str).eraseIdx d2.toNat).length = K.length - 1 := by rw [List.length_eraseIdx, hlen, if_pos hj]
      have hmap : (K.map D.str).eraseIdx d2.toNat = (K.eraseIdx d2.toNat).map D.str := by simp [List.eraseIdx_eq_take_drop_succ, List.map_take, List.map_drop]
      generalize hL : (K.map D.str).eraseIdx d2.toNat = L at *
      generalize hG5 : G4.set r (.lst L) = G5 at *
      obtain ⟨d3, G6, o3, l3, T6, i6, e6⟩ := draw2 (n := n) (k := k + 4) (m := (L.length : Nat)) T5 (by omega) (by omega) (by omega)
      have hk6 : G6[r]? = some (.lst L) := (i6 r (by omega)).trans hk5
      obtain ⟨y, hy, ey⟩ := ix_lz (S := []) (G := []) o3 l3
      have ey' : ∀ S, ixOf S G6 (.ref r) (.int d3) = some y := fun S => by
        show (match ct S G6 (.ref r), D.int d3 with
          | .lst l, .int k => (plc l.length k).bind fun j => l[j]?
          | .tup l, .int k => (plc l.length k).bind fun j => l[j]?
          | .str x, .int k => if x.length ≤ sizeLine then (plc x.cps.toList.length k).bind fun j => (x.cps.toList[j]?).map fun c => .str ⟨#[c]⟩ else none
          | .dic ks xs, k => if okKey ks k = true then dGet ks xs k else none
          | _, _ => none) = _
        rw [x_ct_ref, hk6]
        exact ey
      rw [hmap] at hy
      obtain ⟨w, hw, rfl⟩ := List.mem_map.mp hy
      refine ⟨.same b K[d2.toNat] w, G6, ⟨hb, hm _ (List.getElem_mem hj), hm _ (List.mem_of_mem_eraseIdx hw), ?_⟩, T6.mono (by omega), ?_⟩
      · rintro e
        rw [← e, List.eraseIdx_eq_take_drop_succ] at hw
        have hn2 : (K.take d2.toNat ++ K[d2.toNat] :: K.drop (d2.toNat + 1)).Nodup := by rw [← List.drop_eq_getElem_cons hj, List.take_append_drop]; exact hn
        obtain ⟨n1, n2, n3⟩ := List.nodup_append.mp hn2
        rcases List.mem_append.mp hw with hw | hw
        · exact n3 _ hw _ (List.mem_cons_self ..) rfl
        · exact (List.nodup_cons.mp n2).1 hw
      · simp [f_law_saying_drawn, e1, e2, hk0, hk, e3, hd, hk3, e4, hk4, e5, hk5, e6, ey', Say.d]
    · obtain ⟨l, G4, hl, T4, e4⟩ := atoms_drawn (n := n) (k := k) T3 (by omega)
      refine ⟨.rows b l, G4, ⟨hb, hl⟩, T4.mono (by omega), ?_⟩
      simp [f_law_saying_drawn, e1, e2, hk0, hk, e3, hd, e4, Say.d]
  · obtain ⟨l, G4, hl, T4, e4⟩ := atoms_drawn (n := n) (k := k) T2 (by omega)
    refine ⟨.rows b l, G4, ⟨hb, hl⟩, T4.mono (by omega), ?_⟩
    simp [f_law_saying_drawn, e1, e2, hk0, hk, e4, Say.d]
end
end K85

end
section
set_option Elab.async false
set_option linter.all false
set_option maxRecDepth 100000
set_option maxHeartbeats 1000000
namespace K85
open PySem Mi Mi.X TL
section
variable {n k T : Nat} {G : List MO}
theorem val_hb (a b : Val) : (a.d).beq b.d = decide (a = b) := by
  cases a <;> cases b <;> simp [Val.d, D.beq] <;> (rw [Bool.eq_iff_iff]; simp)
theorem vals_hb : ∀ a b : List Val, D.beqs (a.map Val.d) (b.map Val.d) = decide (a = b)
  | [], [] => by simp [D.beqs]
  | [], b :: r => by simp [D.beqs]
  | a :: r, [] => by simp [D.beqs]
  | a :: r, b :: t => by
    simp only [List.map_cons, D.beqs, val_hb, vals_hb r t]
    by_cases h1 : a = b <;> by_cases h2 : r = t <;> simp [h1, h2]
theorem fact_hb (a b : Fact) : (a.d).beq b.d = decide (a = b) := by
  obtain ⟨t, vs⟩ := a
  obtain ⟨u, ws⟩ := b
  simp only [Fact.d, D.beq, D.beqs, vals_hb]
  by_cases h1 : t = u <;> by_cases h2 : vs = ws <;> simp [h1, h2]
def Val.nk : Val → NestedKey
  | .w s => .text s
  | .n k => .num k
theorem vals_nk : ∀ vs : List Val, D.nks (vs.map Val.d) = some (vs.map Val.nk)
  | [] => rfl
  | v :: r => by
    have e : D.nk v.d = some v.nk := by cases v <;> rfl
    rw [List.map_cons, D.nks, e, vals_nk r]; rfl
theorem depth_nk : ∀ vs : List Val, NestedKey.depthAll (vs.map Val.nk) ≤ 1
  | [] => by simp [NestedKey.depthAll]
  | v :: r => by
    have := depth_nk r
    have e : NestedKey.depth v.nk ≤ 1 := by cases v <;> simp [Val.nk, NestedKey.depth]
    simp only [List.map_cons, NestedKey.depthAll]
    omega
theorem fact_isTup (f : Fact) : (f.d).isTup = true := by
  have e : D.nks [.str f.t, .tup (f.vs.map Val.d)] = some [.text f.t, .tup (f.vs.map Val.nk)] := by
    simp [D.nks, D.nk, vals_nk]
  show (match D.nks [.str f.t, .tup (f.vs.map Val.d)] with
    | some ks => decide (NestedKey.depthAll ks ≤ 7)
    | none => false) = true
  rw [e]
  have := depth_nk f.vs
  simp only [NestedKey.depthAll, NestedKey.depth]
  exact decide_eq_true (by omega)
theorem fact_okk (K : List Fact) (w : Fact) : okKey (K.map Fact.d) w.d = true := by
  have : (K.map Fact.d).all D.isTup = true := List.all_eq_true.mpr fun d hd => by
    obtain ⟨a, _, rfl⟩ := List.mem_map.mp hd
    exact fact_isTup a
  simp [okKey, this, fact_isTup]
/-! ### the keys -/
def Val.tag : Val → Int
  | .w _ => 1
  | .n _ => 0
def Val.kd (v : Val) : D := .tup [.int v.tag, v.d]
def Val.p : Val → PyData
  | .w s => .str s
  | .n k => .int k
def Val.kp (v : Val) : PyData := .tuple [.int v.tag, v.p]
def Fact.kd1 (f : Fact) : D := .tup [.str f.t, .lst (f.vs.map Val.kd)]
def Fact.kd2 (f : Fact) : D := .tup [.str f.t, .tup (f.vs.map Val.kd)]
def Fact.kp1 (f : Fact) : PyData := .tuple [.str f.t, .list (f.vs.map Val.kp)]
def Fact.kp2 (f : Fact) : PyData := .tuple [.str f.t, .tuple (f.vs.map Val.kp)]
theorem val_py (v : Val) : v.d.py = some v.p := by cases v <;> simp [Val.d, Val.p, D.py]
theorem kd_py (v : Val) : v.kd.py = some v.kp := by simp [Val.kd, Val.kp, D.py, D.pys, val_py]
theorem kd1_py (f : Fact) : f.kd1.py = some f.kp1 := by
  have := pys_map (f := Val.kd) (p := Val.kp) f.vs fun a _ => kd_py a
  simp [Fact.kd1, Fact.kp1, D.py, D.pys, this]
theorem kd2_py (f : Fact) : f.kd2.py = some f.kp2 := by
  have := pys_map (f := Val.kd) (p := Val.kp) f.vs fun a _ => kd_py a
  simp [Fact.kd2, Fact.kp2, D.py, D.pys, this]
theorem toks_12 (f : Fact) : W.keyToks f.kp1 = W.keyToks f.kp2 := by simp [Fact.kp1, Fact.kp2, W.keyToks, W.keyToksAll]
theorem le_12 : leK Fact.kp1 = leK Fact.kp2 := by
  funext a b
  simp only [leK, W.dataLt, toks_12]
theorem pcmp_val (v u : Val) : pcmp v.kp u.kp = true := by
  cases v <;> cases u <;> simp [Val.kp, Val.tag, Val.p, pcmp, pcmps, PyData.eqv]
theorem pcmps_val : ∀ vs us : List Val, pcmps (vs.map Val.kp) (us.map Val.kp) = true
  | [], _ => by simp [pcmps]
  | _ :: _, [] => by simp [pcmps]
  | v :: r, u :: t => by simp [pcmps, pcmp_val, pcmps_val r t]
theorem pcmp_1 (f g : Fact) : pcmp f.kp1 g.kp1 = true := by simp [Fact.kp1, pcmp, pcmps, pcmps_val]
theorem pcmp_2 (f g : Fact) : pcmp f.kp2 g.kp2 = true := by simp [Fact.kp2, pcmp, pcmps, pcmps_val]
theorem lay_val {v : Val} (h : v.ok) : v.kp.canLay0 = true ∧ v.kp.depth ≤ 2 := by
  cases v with
  | w s =>
    have h' : PyData.strOk s = true := wok.sOk h
    simp [Val.kp, Val.tag, Val.p, PyData.canLay0, PyData.canLayAll0, PyData.depth, PyData.depthAll, h']
  | n k => simp [Val.kp, Val.tag, Val.p, PyData.canLay0, PyData.canLayAll0, PyData.depth, PyData.depthAll]
theorem lay_vals : ∀ {vs : List Val}, (∀ v ∈ vs, v.ok) → PyData.canLayAll0 (vs.map Val.kp) = true ∧ PyData.depthAll (vs.map Val.kp) ≤ 2
  | [], _ => by simp [PyData.canLayAll0, PyData.depthAll]
  | v :: r, h => by
    have h1 := lay_val (h v (List.mem_cons_self ..))
    have h2 := lay_vals fun u hu => h u (List.mem_cons_of_mem _ hu)
    simp only [List.map_cons, PyData.canLayAll0, PyData.depthAll, h1.1, h2.1, Bool.and_self, true_and]
    omega
theorem shaped_1 {f : Fact} (h : f.ok) : SeqAt.shaped f.kp1 = true := by
  have h' : PyData.strOk f.t = true := h.1.sOk
  have h2 := lay_vals h.2.2.2
  have h3 : max (PyData.depthAll (f.vs.map Val.kp)) 0 ≤ 2 := by omega
  simp only [Fact.kp1, SeqAt.shaped, PyData.canLay0, PyData.canLayAll0, PyData.depth, PyData.depthAll, h', h2.1, Bool.and_self, Bool.true_and]
  exact decide_eq_true (by omega)
theorem shaped_2 {f : Fact} (h : f.ok) : SeqAt.shaped f.kp2 = true := by
  have h' : PyData.strOk f.t = true := h.1.sOk
  have h2 := lay_vals h.2.2.2
  simp only [Fact.kp2, SeqAt.shaped, PyData.canLay0, PyData.canLayAll0, PyData.depth, PyData.depthAll, h', h2.1, Bool.and_self, Bool.true_and]
  exact decide_eq_true (by omega)
theorem keys_1 {l : List Fact} (h : ∀ f ∈ l, f.ok) : keysOk (l.map Fact.kp1) = true := by
  have h1 : (l.map Fact.kp1).all SeqAt.shaped = true := List.all_eq_true.mpr fun d hd => by
    obtain ⟨a, ha, rfl⟩ := List.mem_map.mp hd
    exact shaped_1 (h a ha)
  have h2 : (l.map Fact.kp1).all (fun a => (l.map Fact.kp1).all (pcmp a)) = true := List.all_eq_true.mpr fun d hd => List.all_eq_true.mpr fun e he => by
    obtain ⟨a, ha, rfl⟩ := List.mem_map.mp hd
    obtain ⟨b, hb, rfl⟩ := List.mem_map.mp he
    exact pcmp_1 a b
  have h3 : (l.map Fact.kp1).all tup1 = true := List.all_eq_true.mpr fun d hd => by
    obtain ⟨a, ha, rfl⟩ := List.mem_map.mp hd
    rfl
  unfold keysOk
  rw [h1, h2, h3]; rfl
theorem keys_2 {l : List Fact} (h : ∀ f ∈ l, f.ok) : keysOk (l.map Fact.kp2) = true := by
  have h1 : (l.map Fact.kp2).all SeqAt.shaped = true := List.all_eq_true.mpr fun d hd => by
    obtain ⟨a, ha, rfl⟩ := List.mem_map.mp hd
    exact shaped_2 (h a ha)
  have h2 : (l.map Fact.kp2).all (fun a => (l.map Fact.kp2).all (pcmp a)) = true := List.all_eq_true.mpr fun d hd => List.all_eq_true.mpr fun e he => by
    obtain ⟨a, ha, rfl⟩ := List.mem_map.mp hd
    obtain ⟨b, hb, rfl⟩ := List.mem_map.mp he
    exact pcmp_2 a b
  have h3 : (l.map Fact.kp2).all tup1 = true := List.all_eq_true.mpr fun d hd => by
    obtain ⟨a, ha, rfl⟩ := List.mem_map.mp hd
    rfl
  unfold keysOk
  rw [h1, h2, h3]; rfl
theorem eqv_val (v u : Val) (h : PyData.eqv v.kp u.kp = true) : v = u := by
  cases v <;> cases u <;> simp [Val.kp, Val.tag, Val.p, PyData.eqv, PyData.eqvAll] at h <;> rw [h]
theorem eqv_vals : ∀ vs us : List Val, PyData.eqvAll (vs.map Val.kp) (us.map Val.kp) = true → vs = us
  | [], [], _ => rfl
  | [], _ :: _, h => by simp [PyData.eqvAll] at h
  | _ :: _, [], h => by simp [PyData.eqvAll] at h
  | v :: r, u :: t, h => by
    simp only [List.map_cons, PyData.eqvAll, Bool.and_eq_true] at h
    rw [eqv_val v u h.1, eqv_vals r t h.2]
theorem toks_inj (f g : Fact) (h : W.keyToks f.kp2 = W.keyToks g.kp2) : f = g := by
  have t := tk_cmp f.kp2 g.kp2 (pcmp_2 f g)
  cases he : PyData.eqv f.kp2 g.kp2 with
  | true =>
    obtain ⟨a, vs⟩ := f
    obtain ⟨b, us⟩ := g
    simp only [Fact.kp2, PyData.eqv, PyData.eqvAll, Bool.and_eq_true] at he
    have h1 : a = b := by simpa using he.1
    rw [h1, eqv_vals vs us he.2.1]
  | false =>
    have t2 := t.2 he
    have e1 := t2 [.inl 0] [.inl 1]
    have e2 := t2 [.inl 0] [.inl 0]
    rw [h, W.lex_pre] at e1 e2
    rw [← e2] at e1
    exact absurd e1 (by decide +kernel)
/-! ### the world -/
def worldD (W : List Fact) : D := .tup (W.map Fact.d)
def sortF (l : List Fact) : List Fact := l.mergeSort (leK Fact.kp2)
theorem val_key (v : Val) (S : List Mi.Slot) (G : List MO) : rawF prg n (k + 1) "_law_key" [v.d] G = .ok v.kd G := by
  rw [raw_law_key]
  cases v <;> simp [f_law_key, Val.d, Val.kd, Val.tag]
theorem loopKeys_enc {α : Type} {enc kd : α → D} {key : D → Ev D} {S : List Mi.Slot} {G : List MO} : ∀ (l : List α) (acc : List D), (∀ a ∈ l, key (enc a) S G = .ok (kd a) S G) → loopKeys key (l.map enc) acc S G = .ok (acc ++ l.map kd) S G
  | [], acc, _ => by simp [loopKeys]
  | a :: r, acc, h => by
    rw [List.map_cons, loopKeys, x_bind, h a (List.mem_cons_self ..)]
    show loopKeys key (r.map enc) (acc ++ [kd a]) S G = _
    rw [loopKeys_enc r _ fun b hb => h b (List.mem_cons_of_mem _ hb), List.append_assoc]
    rfl
theorem e_srl (Φ : Fns) (e : E) (n : Nat) (g : Str × Option Str) (ns : List Str) (body : E) : evE Φ (.srl e n g ns body) = (evE Φ e).bind fun d => (Ev.look fun _ G => tabOk G n g).bind fun _ => (Ev.look fun σ G => srcOf σ G d).bind fun l => Mi.noEx ((loopKeys (fun x σ G => fromFO (lamF (evE Φ body) (ns.length - 1) x G) σ) l []).bind fun ks => Ev.lift ((sortBy ks l).map .lst)) := by rw [evE]
theorem e_srt (Φ : Fns) (e : E) (f : Str) : evE Φ (.srt e f) = (evE Φ e).bind fun d => (Ev.look fun σ G => srcOf σ G d).bind fun l => Mi.noEx ((loopKeys (fun x σ G => fromFO (Φ.call f [x] G) σ) l []).bind fun ks => Ev.lift ((sortBy ks l).map .lst)) := by rw [evE]
theorem lam_key (f : Fact) (hf : f.vs.length ≤ 100) : lamF (evE (fnsF prg n (k + 2)) (.tup (.cons (.ix (.v 0) (.c (.int 0))) (.cons L_law_world_drawn_2 .nil)))) 1 f.d G = .ok f.kd1 G := by
  have e : evE (fnsF prg n (k + 2)) L_law_world_drawn_2 [.val f.d, .no] G = .ok (.lst (f.vs.map Val.kd)) [.val f.d, .no] G := by
    refine lc_1p Val.d (l := f.vs) Val.kd ?_ rfl rfl (by show _ ≤ 16777216; omega) fun v hv => ?_
    · simp [Fact.d, ixOf, plc]
    · have := val_key (n := n) (k := k) v [] G
      have h2 : Mi.settle v.kd [.val f.d, .val v.d] G = .ok v.kd [.val f.d, .val v.d] G := rfl
      simp [settle_d, this, h2]
  have e0 : ixOf [.val f.d, .no] G f.d (.int 0) = some (.str f.t) := by simp [Fact.d, ixOf, plc]
  unfold lamF
  simp [e, e0, Fact.kd1]
theorem srl_run {l : List Fact} {S : List Mi.Slot} (h0 : G[0]? = some (.tab ("_law_world_drawn", none))) (hl : ∀ f ∈ l, f.ok) (hS : S[1]? = some (.dic (l.map Fact.d) (l.map fun _ => .bl true))) :
    evE (fnsF prg n (k + 2)) L_law_world_drawn_1 S G = .ok (.lst ((sortF l).map Fact.d)) S G := by
  have e2 := sortBy_enc (l := l) Fact.kp1 (kd := Fact.kd1) (enc := Fact.d) (fun f _ => kd1_py f) (keys_1 hl)
  rw [le_12] at e2
  have e3 : tabOk G 0 ("_law_world_drawn", none) = some () := by
    unfold tabOk
    rw [h0]
    exact if_pos rfl
  show evE _ (.srl _ _ _ _ _) S G = _
  rw [e_srl]
  have e4 : evE (fnsF prg n (k + 2)) (.bi .list (.v 1)) S G = .ok (.lst (l.map Fact.d)) S G := by simp [hS]
  rw [x_bind, e4]
  have e5 : (Ev.look fun _ G => tabOk G 0 ("_law_world_drawn", none)) S G = .ok () S G := by rw [x_look, e3]
  have e6 : (Ev.look fun σ G => srcOf σ G (.lst (l.map Fact.d))) S G = .ok (l.map Fact.d) S G := by rw [x_look, x_src_l]
  have e7 : ∀ F : D → Ev D, (∀ f ∈ l, F f.d S G = .ok f.kd1 S G) → Mi.noEx ((loopKeys F (l.map Fact.d) []).bind fun ks => Ev.lift ((sortBy ks (l.map Fact.d)).map D.lst)) S G = .ok (D.lst ((sortF l).map Fact.d)) S G := fun F hF => by
    have e1 := loopKeys_enc (enc := Fact.d) (kd := Fact.kd1) (key := F) l [] hF
    rw [x_noEx, x_bind, e1, List.nil_append]
    dsimp only [Rs.andThen]
    rw [e2]
    rfl
  dsimp only [Rs.andThen]
  rw [x_bind, e5]
  dsimp only [Rs.andThen]
  rw [x_bind, e6]
  dsimp only [Rs.andThen]
  refine e7 _ fun f hf => ?_
  show fromFO (lamF (evE (fnsF prg n (k + 2)) (.tup (.cons (.ix (.v 0) (.c (.int 0))) (.cons L_law_world_drawn_2 .nil)))) 1 f.d G) S = _
  rw [lam_key f (by have := (hl f hf).2.2.1; omega)]; rfl
def wOk (W : List Fact) : Prop := W.Nodup ∧ (∀ f ∈ W, f.ok) ∧ W.length ≤ 4 ∧ sortF W = W
theorem world_drawn (h : Tp T G) (hT : T < 600000) : ∃ (W : List Fact) (G' : List MO), wOk W ∧ Tp (T + 301) G' ∧ rawF prg n (k + 7) "_law_world_drawn" [.ref 1] G = .ok (worldD W) G' := by
  rw [raw_law_world_drawn]
  obtain ⟨d1, G1, o1, l1, T1, e1⟩ := draw (n := n) (k := k + 4) (m := 5) h (by omega) (by omega) (by omega)
  have hlen : (List.range d1.toNat).length = d1.toNat := List.length_range
  obtain ⟨r, G2, hr, T2, fs, rfl, hfl, hfs⟩ : ∃ r G2, evE (fnsF prg n (k + 6)) L_law_world_drawn_0 [.val (.ref 1), .no, .no] G = .ok (.lst r) [.val (.ref 1), .no, .no] G2
      ∧ (Tp (T + 1 + 60 * (List.range d1.toNat).length) G2 ∧ ∃ fs : List Fact, r = fs.map (fun f => .tup [f.d, .bl true]) ∧ fs.length = (List.range d1.toNat).length ∧ ∀ f ∈ fs, f.ok) := by
    refine lc_1 (fun (a : Nat) => D.int a) (G0 := G1) (l := List.range d1.toNat)
      (fun done acc G => Tp (T + 1 + 60 * done.length) G ∧ ∃ fs : List Fact, acc = fs.map (fun f => .tup [f.d, .bl true]) ∧ fs.length = done.length ∧ ∀ f ∈ fs, f.ok)
      (rng_z ?_ (by omega) (by omega)) rfl rfl (by rw [hlen]; show _ ≤ 16777216; omega) ?_ ⟨T1, [], rfl, rfl, by simp⟩
    · simp [e1]
    · rintro a ha done acc G hN ⟨TG, fs, rfl, hl, hf⟩
      refine .inl ⟨rfl, ?_⟩
      obtain ⟨f, G2, hfo, T2, e2⟩ := fact_drawn (n := n) (k := k) TG (by omega)
      refine ⟨.tup [f.d, .bl true], G2, ?_, T2.mono (by simp; omega), fs ++ [f], by simp, by simp [hl], fun x hx => ?_⟩
      · simp [e2]
      · rcases List.mem_append.mp hx with hx | hx
        · exact hf x hx
        · rw [List.mem_singleton.mp hx]; exact hfo
  have e2 : pairsOf (fs.map fun f => .tup [f.d, .bl true]) = some (fs.map fun f => (f.d, .bl true)) := pairsOf_enc Fact.d (.bl true) fs
  have e3 : dPutsOk (fs.map fun f => (f.d, .bl true)) [] [] = _ := dPutsOk_enc Fact.d (v := .bl true) fact_hb fact_okk fs [] (by show _ ≤ 16777216; simp; omega)
  have hK : ∀ f ∈ puts [] fs, f.ok := fun f hf => hfs f (by simpa using (puts_mem fs []).mp hf)
  have e4 := srl_run (n := n) (k := k + 4) (G := G2) (S := [.val (.ref 1), .dic ((puts [] fs).map Fact.d) ((puts [] fs).map fun _ => .bl true), .no]) T2.1 hK rfl
  have hp := List.mergeSort_perm (puts [] fs) (leK Fact.kp2)
  have hpl := puts_len fs []
  refine ⟨sortF (puts [] fs), G2, ⟨hp.nodup_iff.mpr (puts_nodup _ _ List.nodup_nil), fun f hf => hK f (hp.mem_iff.mp hf), ?_, sort_self _ _⟩, T2.mono (by omega), ?_⟩
  · show ((puts [] fs).mergeSort (leK Fact.kp2)).length ≤ 4
    rw [hp.length_eq]
    simp at hpl
    omega
  · simp [f_law_world_drawn, hr, e2, e3, e4, worldD]
end
end K85

end
section
set_option Elab.async false
set_option linter.all false
set_option maxRecDepth 100000
set_option maxHeartbeats 1000000
namespace K85
open PySem Mi Mi.X TL
section
variable {n k T : Nat} {G : List MO}
/-! ### lengths -/
theorem slen_app (x y : Str) : (x ++ y).length = x.length + y.length := by rw [len_tl, tl_append, List.length_append, ← len_tl, ← len_tl]
theorem jlen {B : Nat} {a : Str} {ys : List Str} (h : ∀ y ∈ ys, y.length ≤ B) : (Txt.join a ys).length ≤ ys.length * B + ys.length * a.length := by
  have h1 := lens_le h
  have h2 := StrLaws.join_length_le a ys
  rw [join_eq]
  omega
theorem num_len {k : Int} (h0 : 0 ≤ k) (h : k < 1000000000000) : (num k).length ≤ 13 := by
  have := PyData.shown_int_le2 (i := k) (by omega) (by omega)
  rwa [PyData.shown_int] at this
theorem num_log {k : Int} (h0 : 0 ≤ k) (h : k < 1000000000000) : k.natAbs.log2 < 1920 := by
  by_cases hz : k.natAbs = 0
  · rw [hz]; decide
  · refine (Nat.log2_lt hz).mpr (Nat.lt_of_lt_of_le (m := 2 ^ 40) (by omega) (Nat.pow_le_pow_right (by decide) (by decide)))
theorem wok.len {w : Str} (h : wok w) : w.length ≤ 8 := by rw [len_tl]; exact h.2.1
theorem val_len {v : Val} (h : v.ok) : v.t.length ≤ 14 := by
  cases v with
  | w s => have := wok.len h; show s.length ≤ 14; omega
  | n k =>
    have := num_len h.1 h.2
    show ("?" ++ num k).length ≤ 14
    rw [slen_app, show ("?" : Str).length = 1 by decide]
    omega
theorem fact_parts {f : Fact} (h : f.ok) : ∀ y ∈ f.t :: f.vs.map Val.t, y.length ≤ 14 := fun y hy => by
  rcases List.mem_cons.mp hy with rfl | hy
  · have := h.1.len; omega
  · obtain ⟨v, hv, rfl⟩ := List.mem_map.mp hy
    exact val_len (h.2.2.2 v hv)
theorem sp_len : (" " : Str).length = 1 := by decide
theorem nl_len : ("\n" : Str).length = 1 := by decide
theorem am_len : (" & " : Str).length = 3 := by decide
theorem fact_len {f : Fact} (h : f.ok) : f.x.length ≤ 75 := by
  have h1 := jlen (a := " ") (fact_parts h)
  have h2 := h.2.2.1
  rw [sp_len] at h1
  simp only [List.length_cons, List.length_map] at h1
  unfold Fact.x
  omega
theorem term_len {t : Term} (h : wok t.w) : t.x.length ≤ 9 := by
  have := h.len
  unfold Term.x
  split
  · rw [slen_app, show ("=" : Str).length = 1 by decide]; omega
  · omega
theorem atom_parts {a : Atom} (h : a.ok) : ∀ y ∈ a.t :: a.ts.map Term.x, y.length ≤ 9 := fun y hy => by
  rcases List.mem_cons.mp hy with rfl | hy
  · have := h.1.len; omega
  · obtain ⟨v, hv, rfl⟩ := List.mem_map.mp hy
    exact term_len (h.2.2.2 v hv)
theorem atom_len {a : Atom} (h : a.ok) : a.x.length ≤ 40 := by
  have h1 := jlen (a := " ") (atom_parts h)
  have h2 := h.2.2.1
  rw [sp_len] at h1
  simp only [List.length_cons, List.length_map] at h1
  unfold Atom.x
  omega
theorem ats_parts {l : List Atom} (h : atsOk l) : ∀ y ∈ l.map Atom.x, y.length ≤ 40 := fun y hy => by
  obtain ⟨v, hv, rfl⟩ := List.mem_map.mp hy
  exact atom_len (h.2.2 v hv)
theorem ats_len {l : List Atom} (h : atsOk l) : (atsX l).length ≤ 129 := by
  have h1 := jlen (a := " & ") (ats_parts h)
  have h2 := h.2.1
  rw [am_len] at h1
  simp only [List.length_map] at h1
  unfold atsX
  omega
theorem any_wok {b : List Atom} (hb : atsOk b) {x : Str} (h : x ∈ anys b) : wok x := by
  obtain ⟨a, ha, h⟩ := List.mem_flatMap.mp h
  obtain ⟨t, ht, rfl⟩ := List.mem_map.mp h
  exact (hb.2.2 a ha).2.2.2 t (List.mem_filter.mp ht).1
theorem say_len {s : Say} (h : s.ok) : s.x.length ≤ 300 := by
  cases s with
  | rows b l =>
    have h1 := ats_len h.1
    have h2 := ats_len h.2
    show (atsX b ++ " => " ++ atsX l).length ≤ 300
    rw [slen_app, slen_app, show (" => " : Str).length = 4 by decide]
    omega
  | same b x y =>
    have h1 := ats_len h.1
    have h2 := (any_wok h.1 h.2.1).len
    have h3 := (any_wok h.1 h.2.2.1).len
    show (atsX b ++ " ~ " ++ x ++ " " ++ y).length ≤ 300
    rw [slen_app, slen_app, slen_app, slen_app, show (" ~ " : Str).length = 3 by decide, sp_len]
    omega
/-! ### the texts -/
theorem emp_app (x : Str) : Str.empty ++ x = x := ext_tl (by rw [tl_append]; rfl)
theorem eqc {x y : Str} {b : Bool} (hx : PyData.strOk x = true) (hy : PyData.strOk y = true) (hb : decide (x = y) = b) (S : List Mi.Slot) (G : List MO) : cmp2 .eq S G (.str x) (.str y) = some b := by
  rw [x_eqs S G hx hy, hb]
theorem is_eq (t : Term) (S : List Mi.Slot) (G : List MO) : cmp2 .eq S G (.str t.k) (.str "is") = some t.b := by
  unfold Term.k
  cases t.b
  · exact eqc (by decide +kernel) (by decide +kernel) (by decide +kernel) S G
  · exact eqc (by decide +kernel) (by decide +kernel) (by decide +kernel) S G
theorem ix_t0 (a : D) (r : List D) (S : List Mi.Slot) (G : List MO) : ixOf S G (.tup (a :: r)) (.int 0) = some a := ix_t (d := 0) (by simp)
theorem ix_t1 (a b : D) (r : List D) (S : List Mi.Slot) (G : List MO) : ixOf S G (.tup (a :: b :: r)) (.int 1) = some b := ix_t (d := 1) (by simp)
theorem ix_t2 (a b c : D) (r : List D) (S : List Mi.Slot) (G : List MO) : ixOf S G (.tup (a :: b :: c :: r)) (.int 2) = some c := ix_t (d := 2) (by simp)
theorem ix_t3 (a b c d : D) (r : List D) (S : List Mi.Slot) (G : List MO) : ixOf S G (.tup (a :: b :: c :: d :: r)) (.int 3) = some d := ix_t (d := 3) (by simp)
theorem p_value {v : Val} (h : v.ok) : rawF prg n (k + 1) "shown_value" [v.d] G = .ok (.str v.t) G := by
  rw [raw_shown_value]
  cases v with
  | w s => simp [f_shown_value, Val.d, Val.t]
  | n i =>
    have h1 := num_log h.1 h.2
    have h2 := num_len h.1 h.2
    have h3 : (Str.empty ++ "?" : Str) = "?" := emp_app _
    have h4 : ("?" ++ num i : Str).length ≤ 16777216 := by rw [slen_app, show ("?" : Str).length = 1 by decide]; omega
    have h5 : ("?" : Str).length ≤ 16777216 := by decide
    have h4 : (Str.ofString "?" ++ Str.ofString i.repr).length ≤ 16777216 := h4
    simp [f_shown_value, Val.d, Val.t, h1, h3, h4, h5, num]
theorem p_term {t : Term} (h : wok t.w) : rawF prg n (k + 1) "shown_term" [t.d] G = .ok (.str t.x) G := by
  rw [raw_shown_term]
  have h1 := h.len
  have h3 : (Str.empty ++ "=" : Str) = "=" := emp_app _
  have h4 : ("=" ++ t.w : Str).length ≤ 16777216 := by rw [slen_app, show ("=" : Str).length = 1 by decide]; omega
  have h5 : ("=" : Str).length ≤ 16777216 := by decide
  have h6 : t.w.length ≤ 16777216 := by omega
  cases hb : t.b <;> simp [f_shown_term, Term.d, ix_t0, ix_t1, is_eq, hb, h3, h4, h5, h6, Term.x]
theorem p_fact {f : Fact} (h : f.ok) : rawF prg n (k + 3) "shown_fact" [f.d] G = .ok (.str f.x) G := by
  rw [raw_shown_fact]
  have e : evE (fnsF prg n (k + 2)) L_shown_fact_0 [.val f.d, .no] G = .ok (.lst (f.vs.map fun v => .str v.t)) [.val f.d, .no] G := by
    refine lc_1p Val.d (l := f.vs) (fun v => .str v.t) ?_ rfl rfl (by have := h.2.2.1; show _ ≤ 16777216; omega) fun v hv => ?_
    · simp [Fact.d, ix_t1]
    · have := p_value (n := n) (k := k) (G := G) (h.2.2.2 v hv)
      simp [settle_d, this]
  have hj : ∀ S G, evBm .join (.str " ") [.lst (.str f.t :: f.vs.map fun v => .str v.t)] S G = .ok (.str f.x) S G := fun S G => by
    have h1 := lens_le (fact_parts h)
    have h2 := h.2.2.1
    have e1 := join_at (S := S) (G := G) (a := " ") (ys := f.t :: f.vs.map Val.t) (by rw [sp_len]; simp only [List.length_cons, List.length_map] at h1 ⊢; omega)
    rw [List.map_cons, List.map_map] at e1
    exact e1
  have hl : f.vs.length + 1 ≤ 16777216 := by have := h.2.2.1; omega
  have e0 : ∀ S G, ixOf S G f.d (.int 0) = some (.str f.t) := fun S G => ix_t0 _ _ _ _
  simp [f_shown_fact, e, e0, hj, hl]
theorem p_atom {f : Atom} (h : f.ok) : rawF prg n (k + 3) "shown_atom" [f.d] G = .ok (.str f.x) G := by
  rw [raw_shown_atom]
  have e : evE (fnsF prg n (k + 2)) L_shown_atom_0 [.val f.d, .no] G = .ok (.lst (f.ts.map fun v => .str v.x)) [.val f.d, .no] G := by
    refine lc_1p Term.d (l := f.ts) (fun v => .str v.x) ?_ rfl rfl (by have := h.2.2.1; show _ ≤ 16777216; omega) fun v hv => ?_
    · simp [Atom.d, ix_t1]
    · have := p_term (n := n) (k := k) (G := G) (h.2.2.2 v hv)
      simp [this]
  have hj : ∀ S G, evBm .join (.str " ") [.lst (.str f.t :: f.ts.map fun v => .str v.x)] S G = .ok (.str f.x) S G := fun S G => by
    have h1 := lens_le (atom_parts h)
    have h2 := h.2.2.1
    have e1 := join_at (S := S) (G := G) (a := " ") (ys := f.t :: f.ts.map Term.x) (by rw [sp_len]; simp only [List.length_cons, List.length_map] at h1 ⊢; omega)
    rw [List.map_cons, List.map_map] at e1
    exact e1
  have hl : f.ts.length + 1 ≤ 16777216 := by have := h.2.2.1; omega
  have e0 : ∀ S G, ixOf S G f.d (.int 0) = some (.str f.t) := fun S G => ix_t0 _ _ _ _
  simp [f_shown_atom, e, e0, hj, hl]
theorem p_atoms {l : List Atom} (h : atsOk l) : rawF prg n (k + 5) "shown_atoms" [atsD l] G = .ok (.str (atsX l)) G := by
  rw [raw_shown_atoms]
  have e : evE (fnsF prg n (k + 4)) L_shown_atoms_0 [.val (atsD l), .no] G = .ok (.lst (l.map fun v => .str v.x)) [.val (atsD l), .no] G := by
    refine lc_1p Atom.d (l := l) (fun v => .str v.x) ?_ rfl rfl (by have := h.2.1; show _ ≤ 16777216; omega) fun v hv => ?_
    · simp [atsD]
    · have := p_atom (n := n) (k := k) (G := G) (h.2.2 v hv)
      simp [this]
  have hj : ∀ S G, evBm .join (.str " & ") [.lst (l.map fun v => .str v.x)] S G = .ok (.str (atsX l)) S G := fun S G => by
    have h1 := lens_le (ats_parts h)
    have h2 := h.2.1
    have e1 := join_at (S := S) (G := G) (a := " & ") (ys := l.map Atom.x) (by rw [am_len]; simp only [List.length_map] at h1 ⊢; omega)
    rw [List.map_map] at e1
    exact e1
  have s1 : (Str.empty ++ " " : Str) = " " := emp_app _
  have s2 : (" " ++ "&" : Str) = " &" := by decide +kernel
  have s3 : (" &" ++ " " : Str) = " & " := by decide +kernel
  have l1 : (" " : Str).length ≤ 16777216 := by decide
  have l2 : (" &" : Str).length ≤ 16777216 := by decide
  have l3 : (" & " : Str).length ≤ 16777216 := by decide
  have l4 : ("&" : Str).length ≤ 16777216 := by decide
  simp [f_shown_atoms, e, hj, s1, s2, s3, l1, l2, l3, l4]
end
end K85

end
section
set_option Elab.async false
set_option linter.all false
set_option maxRecDepth 100000
set_option maxHeartbeats 1000000
namespace K85
open PySem Mi Mi.X TL
section
variable {n k T : Nat} {G : List MO}
theorem rows_eq (S : List Mi.Slot) (G : List MO) : cmp2 .eq S G (.str "rows") (.str "rows") = some true := eqc (by decide +kernel) (by decide +kernel) (by decide +kernel) S G
theorem same_eq (S : List Mi.Slot) (G : List MO) : cmp2 .eq S G (.str "same") (.str "rows") = some false := eqc (by decide +kernel) (by decide +kernel) (by decide +kernel) S G
theorem p_saying {s : Say} (h : s.ok) : rawF prg n (k + 7) "shown_saying" [s.d] G = .ok (.str s.x) G := by
  rw [raw_shown_saying]
  cases s with
  | rows b l =>
    have h1 := ats_len h.1
    have h2 := ats_len h.2
    have e1 := p_atoms (n := n) (k := k) (G := G) h.1
    have e2 := p_atoms (n := n) (k := k) (G := G) h.2
    have hj : ∀ S G, evBm .join (.str " ") [.lst [.str (atsX b), .str "=>", .str (atsX l)]] S G = .ok (.str (Say.rows b l).x) S G := fun S G => by
      have e := join_at (S := S) (G := G) (a := " ") (ys := [atsX b, "=>", atsX l]) (by
        rw [sp_len]
        simp only [List.map_cons, List.map_nil, List.sum_cons, List.sum_nil, List.length_cons, List.length_nil, show ("=>" : Str).length = 2 by decide]
        omega)
      have e3 : Txt.join " " [atsX b, "=>", atsX l] = (Say.rows b l).x := ext_tl (by
        rw [join_eq, tl_join]
        show tl (atsX b) ++ (tl " " ++ (tl "=>" ++ (tl " " ++ tl (atsX l)))) = tl (atsX b ++ " => " ++ atsX l)
        have : tl " => " = tl " " ++ (tl "=>" ++ tl " ") := by decide
        rw [tl_append, tl_append, this]
        simp)
      rw [e3] at e
      exact e
    simp [f_shown_saying, Say.d, ix_t0, ix_t1, ix_t2, rows_eq, e1, e2, hj]
  | same b x y =>
    have h1 := ats_len h.1
    have h2 := (any_wok h.1 h.2.1).len
    have h3 := (any_wok h.1 h.2.2.1).len
    have e1 := p_atoms (n := n) (k := k) (G := G) h.1
    have hj : ∀ S G, evBm .join (.str " ") [.lst [.str (atsX b), .str "~", .str x, .str y]] S G = .ok (.str (Say.same b x y).x) S G := fun S G => by
      have e := join_at (S := S) (G := G) (a := " ") (ys := [atsX b, "~", x, y]) (by
        rw [sp_len]
        simp only [List.map_cons, List.map_nil, List.sum_cons, List.sum_nil, List.length_cons, List.length_nil, show ("~" : Str).length = 1 by decide]
        omega)
      have e3 : Txt.join " " [atsX b, "~", x, y] = (Say.same b x y).x := ext_tl (by
        rw [join_eq, tl_join]
        show tl (atsX b) ++ (tl " " ++ (tl "~" ++ (tl " " ++ (tl x ++ (tl " " ++ tl y))))) = tl (atsX b ++ " ~ " ++ x ++ " " ++ y)
        have : tl " ~ " = tl " " ++ (tl "~" ++ tl " ") := by decide
        rw [tl_append, tl_append, tl_append, tl_append, this]
        simp)
      rw [e3] at e
      exact e
    simp [f_shown_saying, Say.d, ix_t0, ix_t1, ix_t2, ix_t3, same_eq, e1, hj]
def worldX (W : List Fact) : Str := Txt.join "\n" (W.map Fact.x)
def saysX (l : List Say) : Str := Txt.join "\n" (l.map Say.x)
def saysD (l : List Say) : D := .tup (l.map Say.d)
def saysOk (l : List Say) : Prop := l.length ≤ 3 ∧ ∀ s ∈ l, s.ok
theorem nl_join {α : Type} {l : List α} {f : α → Str} (hl : l.length ≤ 8) (h : ∀ a ∈ l, (f a).length ≤ 300) (S : List Mi.Slot) (G : List MO) : evBm .join (.str "\n") [.lst (l.map fun a => .str (f a))] S G = .ok (.str (Txt.join "\n" (l.map f))) S G := by
  have h1 := lens_le (B := 300) (ys := l.map f) fun y hy => by
    obtain ⟨a, ha, rfl⟩ := List.mem_map.mp hy
    exact h a ha
  have e := join_at (S := S) (G := G) (a := "\n") (ys := l.map f) (by rw [nl_len]; simp only [List.length_map] at h1 ⊢; omega)
  rw [List.map_map] at e
  exact e
theorem nl_len2 {α : Type} {l : List α} {f : α → Str} (hl : l.length ≤ 8) (h : ∀ a ∈ l, (f a).length ≤ 300) : (Txt.join "\n" (l.map f)).length ≤ 3000 := by
  have h1 := jlen (B := 300) (a := "\n") (ys := l.map f) fun y hy => by
    obtain ⟨a, ha, rfl⟩ := List.mem_map.mp hy
    exact h a ha
  rw [nl_len, List.length_map] at h1
  omega
theorem p_world {W : List Fact} (h : wOk W) : rawF prg n (k + 5) "shown_world" [worldD W] G = .ok (.str (worldX W)) G := by
  rw [raw_shown_world]
  have hl := h.2.2.1
  have e : evE (fnsF prg n (k + 4)) L_shown_world_0 [.val (worldD W), .no] G = .ok (.lst (W.map fun v => .str v.x)) [.val (worldD W), .no] G := by
    refine lc_1p Fact.d (l := W) (fun v => .str v.x) ?_ rfl rfl (by show _ ≤ 16777216; omega) fun v hv => ?_
    · simp [worldD]
    · have := p_fact (n := n) (k := k) (G := G) (h.2.1 v hv)
      simp [this]
  have hj := nl_join (l := W) (f := Fact.x) (by omega) fun a ha => by have := fact_len (h.2.1 a ha); omega
  simp [f_shown_world, e, hj, worldX]
theorem p_sayings {l : List Say} (h : saysOk l) : rawF prg n (k + 9) "shown_sayings" [saysD l] G = .ok (.str (saysX l)) G := by
  rw [raw_shown_sayings]
  have hl := h.1
  have e : evE (fnsF prg n (k + 8)) L_shown_sayings_0 [.val (saysD l), .no] G = .ok (.lst (l.map fun v => .str v.x)) [.val (saysD l), .no] G := by
    refine lc_1p Say.d (l := l) (fun v => .str v.x) ?_ rfl rfl (by show _ ≤ 16777216; omega) fun v hv => ?_
    · simp [saysD]
    · have := p_saying (n := n) (k := k) (G := G) (h.2 v hv)
      simp [this]
  have hj := nl_join (l := l) (f := Say.x) (by omega) fun a ha => say_len (h.2 a ha)
  simp [f_shown_sayings, e, hj, saysX]
/-! ### the law's texts -/
theorem l_fact {f : Fact} (h : f.ok) : rawF prg n (k + 1) "_law_fact_text" [f.d] G = .ok (.str f.x) G := by
  rw [raw_law_fact_text]
  have h2 := h.2.2.1
  obtain ⟨S', G', e, rfl, s, rfl⟩ : ∃ S' G', evS (fnsF prg n k) L_law_fact_text_0 [.val f.d, .lst [.str f.t], .no] G = .ok .nx S' G' ∧ (G' = G ∧ ∃ s : Mi.Slot, S' = [.val f.d, .lst (.str f.t :: f.vs.map fun v => .str v.t), s]) := by
    refine for_st Val.d (l := f.vs) (fun done S G' => G' = G ∧ ∃ s : Mi.Slot, S = [.val f.d, .lst (.str f.t :: done.map fun v => .str v.t), s]) ?_ ?_ ⟨rfl, .no, rfl⟩
    · simp [Fact.d, ix_t1]
    · rintro v hv done S G' hN ⟨rfl, s, rfl⟩
      have hl : done.length + 1 < 16777216 := by omega
      refine ⟨[.val f.d, .lst (.str f.t :: (done ++ [v]).map fun v => .str v.t), .val v.d], G', ?_, rfl, _, rfl⟩
      have ho := h.2.2.2 v hv
      cases v with
      | w s => simp [Val.d, Val.t, hl]
      | n i =>
        have h1 := num_log ho.1 ho.2
        have h2 := num_len ho.1 ho.2
        have h3 : ("?" : Str).length + (Str.ofString i.repr).length ≤ 16777216 := by
          have : (num i).length = (Str.ofString i.repr).length := rfl
          rw [show ("?" : Str).length = 1 by decide]; omega
        simp [Val.d, Val.t, h1, h3, hl, num]
  have hj : ∀ S G, evBm .join (.str " ") [.lst (.str f.t :: f.vs.map fun v => .str v.t)] S G = .ok (.str f.x) S G := fun S G => by
    have h1 := lens_le (fact_parts h)
    have h2 := h.2.2.1
    have e1 := join_at (S := S) (G := G) (a := " ") (ys := f.t :: f.vs.map Val.t) (by rw [sp_len]; simp only [List.length_cons, List.length_map] at h1 ⊢; omega)
    rw [List.map_cons, List.map_map] at e1
    exact e1
  have e0 : ∀ S G, ixOf S G f.d (.int 0) = some (.str f.t) := fun S G => ix_t0 _ _ _ _
  simp [f_law_fact_text, e0, e, hj]
theorem l_atom_1 {S0 S1 S2 : Mi.Slot} {ts : List Term} (hl : ts.length ≤ 3) (h : ∀ t ∈ ts, wok t.w) : evE (fnsF prg n k) L_law_atoms_text_1 [S0, S1, S2, .val (.tup (ts.map Term.d)), .no, .no] G = .ok (.lst (ts.map fun t => .str t.x)) [S0, S1, S2, .val (.tup (ts.map Term.d)), .no, .no] G := by
  obtain ⟨r, G2, hr, rfl, rfl⟩ : ∃ r G2, evE (fnsF prg n k) L_law_atoms_text_1 [S0, S1, S2, .val (.tup (ts.map Term.d)), .no, .no] G = .ok (.lst r) [S0, S1, S2, .val (.tup (ts.map Term.d)), .no, .no] G2 ∧ (r = (ts.map fun t => .str t.x) ∧ G2 = G) := by
    refine lc_2 (fun t : Term => D.str t.k) (fun t : Term => D.str t.w) (G0 := G) (l := ts) (fun done acc G' => acc = (done.map fun t => .str t.x) ∧ G' = G) ?_ rfl rfl rfl rfl (by decide) (by show _ ≤ 16777216; omega) ?_ ⟨rfl, rfl⟩
    · simp [Term.d]
    · rintro t ht done acc G' hN ⟨rfl, rfl⟩
      have hw := (h t ht).len
      have h1 : ("=" : Str).length + t.w.length ≤ 16777216 := by rw [show ("=" : Str).length = 1 by decide]; omega
      have h2 : ("" : Str).length + t.w.length ≤ 16777216 := by rw [show ("" : Str).length = 0 by decide]; omega
      have h3 : ("" ++ t.w : Str) = t.w := ext_tl (by rw [tl_append]; rfl)
      refine .inl ⟨rfl, .str t.x, G', ?_, by simp, rfl⟩
      cases hb : t.b <;> simp [is_eq, hb, h1, h2, h3, Term.x]
  exact hr
theorem l_atoms {l : List Atom} (h : atsOk l) : rawF prg n (k + 1) "_law_atoms_text" [atsD l] G = .ok (.str (atsX l)) G := by
  rw [raw_law_atoms_text]
  have h2 := h.2.1
  obtain ⟨S', G', e, rfl, s2, s3, rfl⟩ : ∃ S' G', evS (fnsF prg n k) L_law_atoms_text_0 [.val (atsD l), .lst [], .no, .no, .no, .no] G = .ok .nx S' G' ∧ (G' = G ∧ ∃ s2 s3 : Mi.Slot, S' = [.val (atsD l), .lst (l.map fun v => .str v.x), s2, s3, .no, .no]) := by
    refine for_st Atom.d (l := l) (fun done S G' => G' = G ∧ ∃ s2 s3 : Mi.Slot, S = [.val (atsD l), .lst (done.map fun v => .str v.x), s2, s3, .no, .no]) ?_ ?_ ⟨rfl, .no, .no, rfl⟩
    · simp [atsD]
    · rintro a ha done S G' hN ⟨rfl, s2, s3, rfl⟩
      have hl : done.length < 16777216 := by omega
      have ho := h.2.2 a ha
      have hal := ho.2.2.1
      have e1 := l_atom_1 (n := n) (k := k) (G := G') (S0 := .val (atsD l)) (S1 := .lst (done.map fun v => .str v.x)) (S2 := .val (.str a.t)) hal ho.2.2.2
      have hj : ∀ S G, evBm .join (.str " ") [.lst (.str a.t :: a.ts.map fun v => .str v.x)] S G = .ok (.str a.x) S G := fun S G => by
        have h1 := lens_le (atom_parts ho)
        have e1 := join_at (S := S) (G := G) (a := " ") (ys := a.t :: a.ts.map Term.x) (by rw [sp_len]; simp only [List.length_cons, List.length_map] at h1 ⊢; omega)
        rw [List.map_cons, List.map_map] at e1
        exact e1
      have hl2 : a.ts.length + 1 ≤ 16777216 := by omega
      refine ⟨[.val (atsD l), .lst ((done ++ [a]).map fun v => .str v.x), .val (.str a.t), .val (.tup (a.ts.map Term.d)), .no, .no], G', ?_, rfl, _, _, rfl⟩
      simp [Atom.d, e1, hj, hl, hl2]
  have hj : ∀ S G, evBm .join (.str " & ") [.lst (l.map fun v => .str v.x)] S G = .ok (.str (atsX l)) S G := fun S G => by
    have h1 := lens_le (ats_parts h)
    have e1 := join_at (S := S) (G := G) (a := " & ") (ys := l.map Atom.x) (by rw [am_len]; simp only [List.length_map] at h1 ⊢; omega)
    rw [List.map_map] at e1
    exact e1
  simp [f_law_atoms_text, e, hj]
theorem l_saying {s : Say} (h : s.ok) : rawF prg n (k + 3) "_law_saying_text" [s.d] G = .ok (.str s.x) G := by
  rw [raw_law_saying_text]
  have q1 : (" => " : Str).length = 4 := by decide
  have q2 : (" ~ " : Str).length = 3 := by decide
  cases s with
  | rows b l =>
    have h1 := ats_len h.1
    have h2 := ats_len h.2
    have e1 := l_atoms (n := n) (k := k) (G := G) h.1
    have e2 := l_atoms (n := n) (k := k) (G := G) h.2
    have b1 : (atsX b).length + (" => " : Str).length ≤ 16777216 := by omega
    have b2 : (atsX b ++ " => ").length + (atsX l).length ≤ 16777216 := by rw [slen_app]; omega
    simp [f_law_saying_text, Say.d, ix_t0, ix_t1, ix_t2, rows_eq, e1, e2, b1, b2, Say.x]
  | same b x y =>
    have h1 := ats_len h.1
    have h2 := (any_wok h.1 h.2.1).len
    have h3 := (any_wok h.1 h.2.2.1).len
    have e1 := l_atoms (n := n) (k := k) (G := G) h.1
    have b1 : (atsX b).length + (" ~ " : Str).length ≤ 16777216 := by omega
    have b2 : (atsX b ++ " ~ ").length + x.length ≤ 16777216 := by rw [slen_app]; omega
    have b3 : (atsX b ++ " ~ " ++ x).length + (" " : Str).length ≤ 16777216 := by rw [slen_app, slen_app, sp_len]; omega
    have b4 : (atsX b ++ " ~ " ++ x ++ " ").length + y.length ≤ 16777216 := by rw [slen_app, slen_app, slen_app, sp_len]; omega
    simp [f_law_saying_text, Say.d, ix_t0, ix_t1, ix_t2, ix_t3, same_eq, e1, b1, b2, b3, b4, Say.x]
end
end K85

end
section
set_option Elab.async false
set_option linter.all false
set_option maxRecDepth 100000
set_option maxHeartbeats 1000000
namespace K85
open PySem Mi Mi.X TL
inductive Thing where
  | fact (f : Fact) | world (W : List Fact) | say (s : Say) | says (l : List Say)
def Thing.s : Thing → Str
  | .fact _ => "fact"
  | .world _ => "world"
  | .say _ => "saying"
  | .says _ => "sayings"
def Thing.d : Thing → D
  | .fact f => f.d
  | .world W => worldD W
  | .say s => s.d
  | .says l => saysD l
def Thing.x : Thing → Str
  | .fact f => f.x
  | .world W => worldX W
  | .say s => s.x
  | .says l => saysX l
def Thing.ok : Thing → Prop
  | .fact f => f.ok
  | .world W => wOk W
  | .say s => s.ok
  | .says l => saysOk l
@[simp] theorem se_world (W : List Fact) (S : List Mi.Slot) (G : List MO) : Mi.settle (worldD W) S G = .ok (worldD W) S G := rfl
@[simp] theorem se_says (W : List Say) (S : List Mi.Slot) (G : List MO) : Mi.settle (saysD W) S G = .ok (saysD W) S G := rfl
@[simp] theorem se_thing (t : Thing) (S : List Mi.Slot) (G : List MO) : Mi.settle t.d S G = .ok t.d S G := by
  cases t with
  | say s => exact se_say s S G
  | _ => rfl
@[simp] theorem sq_fact_fact (S : List Mi.Slot) (G : List MO) : cmp2 .eq S G (.str "fact") (.str "fact") = some true := eqc (by decide +kernel) (by decide +kernel) (by decide +kernel) S G
@[simp] theorem sq_fact_world (S : List Mi.Slot) (G : List MO) : cmp2 .eq S G (.str "fact") (.str "world") = some false := eqc (by decide +kernel) (by decide +kernel) (by decide +kernel) S G
@[simp] theorem sq_fact_saying (S : List Mi.Slot) (G : List MO) : cmp2 .eq S G (.str "fact") (.str "saying") = some false := eqc (by decide +kernel) (by decide +kernel) (by decide +kernel) S G
@[simp] theorem sq_world_fact (S : List Mi.Slot) (G : List MO) : cmp2 .eq S G (.str "world") (.str "fact") = some false := eqc (by decide +kernel) (by decide +kernel) (by decide +kernel) S G
@[simp] theorem sq_world_world (S : List Mi.Slot) (G : List MO) : cmp2 .eq S G (.str "world") (.str "world") = some true := eqc (by decide +kernel) (by decide +kernel) (by decide +kernel) S G
@[simp] theorem sq_world_saying (S : List Mi.Slot) (G : List MO) : cmp2 .eq S G (.str "world") (.str "saying") = some false := eqc (by decide +kernel) (by decide +kernel) (by decide +kernel) S G
@[simp] theorem sq_saying_fact (S : List Mi.Slot) (G : List MO) : cmp2 .eq S G (.str "saying") (.str "fact") = some false := eqc (by decide +kernel) (by decide +kernel) (by decide +kernel) S G
@[simp] theorem sq_saying_world (S : List Mi.Slot) (G : List MO) : cmp2 .eq S G (.str "saying") (.str "world") = some false := eqc (by decide +kernel) (by decide +kernel) (by decide +kernel) S G
@[simp] theorem sq_saying_saying (S : List Mi.Slot) (G : List MO) : cmp2 .eq S G (.str "saying") (.str "saying") = some true := eqc (by decide +kernel) (by decide +kernel) (by decide +kernel) S G
@[simp] theorem sq_sayings_fact (S : List Mi.Slot) (G : List MO) : cmp2 .eq S G (.str "sayings") (.str "fact") = some false := eqc (by decide +kernel) (by decide +kernel) (by decide +kernel) S G
@[simp] theorem sq_sayings_world (S : List Mi.Slot) (G : List MO) : cmp2 .eq S G (.str "sayings") (.str "world") = some false := eqc (by decide +kernel) (by decide +kernel) (by decide +kernel) S G
@[simp] theorem sq_sayings_saying (S : List Mi.Slot) (G : List MO) : cmp2 .eq S G (.str "sayings") (.str "saying") = some false := eqc (by decide +kernel) (by decide +kernel) (by decide +kernel) S G
section
variable {n k T : Nat} {G : List MO}
theorem says_drawn (h : Tp T G) (hT : T < 400000) : ∃ (l : List Say) (G' : List MO), saysOk l ∧ Tp (T + 1000) G' ∧ rawF prg n (k + 9) "_law_thing" [.ref 1, .str "sayings"] G = .ok (saysD l) G' := by
  rw [raw_law_thing]
  obtain ⟨d1, G1, o1, l1, T1, e1⟩ := draw (n := n) (k := k + 6) (m := 4) h (by omega) (by omega) (by omega)
  have hlen : (List.range d1.toNat).length = d1.toNat := List.length_range
  obtain ⟨r, G2, hr, T2, fs, rfl, hfl, hfs⟩ : ∃ r G2, evE (fnsF prg n (k + 8)) L_law_thing_0 [.val (.ref 1), .val (.str "sayings"), .no] G = .ok (.lst r) [.val (.ref 1), .val (.str "sayings"), .no] G2
      ∧ (Tp (T + 1 + 310 * (List.range d1.toNat).length) G2 ∧ ∃ fs : List Say, r = fs.map Say.d ∧ fs.length = (List.range d1.toNat).length ∧ ∀ f ∈ fs, f.ok) := by
    refine lc_1 (fun (a : Nat) => D.int a) (G0 := G1) (l := List.range d1.toNat)
      (fun done acc G => Tp (T + 1 + 310 * done.length) G ∧ ∃ fs : List Say, acc = fs.map Say.d ∧ fs.length = done.length ∧ ∀ f ∈ fs, f.ok)
      (rng_z ?_ (by omega) (by omega)) rfl rfl (by rw [hlen]; show _ ≤ 16777216; omega) ?_ ⟨T1, [], rfl, rfl, by simp⟩
    · simp [e1]
    · rintro a ha done acc G hN ⟨TG, fs, rfl, hl, hf⟩
      refine .inl ⟨rfl, ?_⟩
      obtain ⟨f, G2, hfo, T2, e2⟩ := saying_drawn (n := n) (k := k) TG (by omega)
      refine ⟨f.d, G2, ?_, T2.mono (by simp; omega), fs ++ [f], by simp, by simp [hl], fun x hx => ?_⟩
      · simp [e2]
      · rcases List.mem_append.mp hx with hx | hx
        · exact hf x hx
        · rw [List.mem_singleton.mp hx]; exact hfo
  refine ⟨fs, G2, ⟨by omega, hfs⟩, T2.mono (by omega), ?_⟩
  simp [f_law_thing, hr, saysD]
theorem thing_drawn {s : Str} (hs : s ∈ (["fact", "world", "saying", "sayings"] : List Str)) (h : Tp T G) (hT : T < 400000) : ∃ (t : Thing) (G' : List MO), t.s = s ∧ t.ok ∧ Tp (T + 1000) G' ∧ rawF prg n (k + 9) "_law_thing" [.ref 1, .str s] G = .ok t.d G' := by
  simp at hs
  rcases hs with rfl | rfl | rfl | rfl
  · obtain ⟨f, G', hf, T1, e⟩ := fact_drawn (n := n) (k := k + 2) h (by omega)
    refine ⟨.fact f, G', rfl, hf, T1.mono (by omega), ?_⟩
    rw [raw_law_thing]
    simp [f_law_thing, e, Thing.d]
  · obtain ⟨f, G', hf, T1, e⟩ := world_drawn (n := n) (k := k) h (by omega)
    refine ⟨.world f, G', rfl, hf, T1.mono (by omega), ?_⟩
    rw [raw_law_thing]
    simp [f_law_thing, e, Thing.d]
  · obtain ⟨f, G', hf, T1, e⟩ := saying_drawn (n := n) (k := k) h (by omega)
    refine ⟨.say f, G', rfl, hf, T1.mono (by omega), ?_⟩
    rw [raw_law_thing]
    simp [f_law_thing, e, Thing.d]
  · obtain ⟨f, G', hf, T1, e⟩ := says_drawn (n := n) (k := k) h (by omega)
    exact ⟨.says f, G', rfl, hf, T1, e⟩
theorem law_text {t : Thing} (h : t.ok) : rawF prg n (k + 5) "_law_text" [.str t.s, t.d] G = .ok (.str t.x) G := by
  rw [raw_law_text]
  cases t with
  | fact f =>
    have e := l_fact (n := n) (k := k + 2) (G := G) h
    simp [f_law_text, Thing.s, Thing.d, Thing.x, e]
  | say f =>
    have e := l_saying (n := n) (k := k) (G := G) h
    simp [f_law_text, Thing.s, Thing.d, Thing.x, e]
  | world W =>
    have h : wOk W := h
    have hl := h.2.2.1
    have e : evE (fnsF prg n (k + 4)) L_law_text_0 [.val (.str "world"), .val (worldD W), .no] G = .ok (.lst (W.map fun v => .str v.x)) [.val (.str "world"), .val (worldD W), .no] G := by
      refine lc_1p Fact.d (l := W) (fun v => .str v.x) ?_ rfl rfl (by show _ ≤ 16777216; omega) fun v hv => ?_
      · simp [worldD]
      · have := l_fact (n := n) (k := k + 2) (G := G) (h.2.1 v hv)
        simp [this]
    have hj := nl_join (l := W) (f := Fact.x) (by omega) fun a ha => by have := fact_len (h.2.1 a ha); omega
    simp [f_law_text, Thing.s, Thing.d, Thing.x, e, hj, worldX]
  | says l =>
    have h : saysOk l := h
    have hl := h.1
    have e : evE (fnsF prg n (k + 4)) L_law_text_0 [.val (.str "sayings"), .val (saysD l), .no] G = .ok (.lst (l.map fun v => .str v.x)) [.val (.str "sayings"), .val (saysD l), .no] G := by
      refine lc_1p Say.d (l := l) (fun v => .str v.x) ?_ rfl rfl (by show _ ≤ 16777216; omega) fun v hv => ?_
      · simp [saysD]
      · have := l_saying (n := n) (k := k) (G := G) (h.2 v hv)
        simp [this]
    have hj := nl_join (l := l) (f := Say.x) (by omega) fun a ha => say_len (h.2 a ha)
    simp [f_law_text, Thing.s, Thing.d, Thing.x, e, hj, saysX]
theorem law_shown {t : Thing} (h : t.ok) (b : Bool) : rawF prg n (k + 11) "_law_shown" [.str t.s, t.d, .bl b] G = .ok (.str t.x) G := by
  rw [raw_law_shown]
  cases t with
  | fact f =>
    have e := p_fact (n := n) (k := k + 6) (G := G) h
    cases b <;> simp [f_law_shown, Thing.s, Thing.d, Thing.x, e]
  | say f =>
    have e := p_saying (n := n) (k := k + 2) (G := G) h
    cases b <;> simp [f_law_shown, Thing.s, Thing.d, Thing.x, e]
  | world W =>
    have e := p_world (n := n) (k := k + 4) (G := G) h
    cases b <;> simp [f_law_shown, Thing.s, Thing.d, Thing.x, e]
  | says l =>
    have e := p_sayings (n := n) (k := k) (G := G) h
    cases b <;> simp [f_law_shown, Thing.s, Thing.d, Thing.x, e]
end
end K85

end
section
set_option Elab.async false
set_option linter.all false
set_option maxRecDepth 100000
set_option maxHeartbeats 1000000
namespace K85
open PySem Mi Mi.X TL
section
variable {n k T : Nat} {G : List MO}
theorem in_letters {c : Nat} (h1 : 97 ≤ c) (h2 : c ≤ 122) (S : List Mi.Slot) (G : List MO) : cmp2 .inn S G (.str ⟨#[c]⟩) (.str "abcdefghijklmnopqrstuvwxyz") = some true := by
  have h : ∀ i : Fin 26, (!(Builtin.Str.occurrences "abcdefghijklmnopqrstuvwxyz" ⟨#[97 + i.val]⟩ 0 ("abcdefghijklmnopqrstuvwxyz" : Str).length 1).isEmpty) = true := by decide +kernel
  have := h ⟨c - 97, by omega⟩
  have e : 97 + (c - 97) = c := by omega
  simp only [e] at this
  show some (!(Builtin.Str.occurrences "abcdefghijklmnopqrstuvwxyz" ⟨#[c]⟩ 0 ("abcdefghijklmnopqrstuvwxyz" : Str).length 1).isEmpty) = _
  rw [this]
theorem in_digits {c : Nat} (h1 : 48 ≤ c) (h2 : c ≤ 57) (S : List Mi.Slot) (G : List MO) : cmp2 .inn S G (.str ⟨#[c]⟩) (.str "0123456789") = some true := by
  have h : ∀ i : Fin 10, (!(Builtin.Str.occurrences "0123456789" ⟨#[48 + i.val]⟩ 0 ("0123456789" : Str).length 1).isEmpty) = true := by decide +kernel
  have := h ⟨c - 48, by omega⟩
  have e : 48 + (c - 48) = c := by omega
  simp only [e] at this
  show some (!(Builtin.Str.occurrences "0123456789" ⟨#[c]⟩ 0 ("0123456789" : Str).length 1).isEmpty) = _
  rw [this]
theorem bools_true {α : Type} (l : List α) : boolsOf (l.map fun _ => D.bl true) = some (l.map fun _ => true) := by
  induction l with
  | nil => rfl
  | cons a l ih => simp [ih]
theorem all_true {α : Type} (l : List α) (S : List Mi.Slot) (G : List MO) : bi1 Bi.all S G (.lst (l.map fun _ => D.bl true)) = some (.bl true) := by
  rw [x_all_l, bools_true]
  simp
theorem is_word {w : Str} (h : wok w) : rawF prg n (k + 1) "is_word" [.str w] G = .ok (.bl true) G := by
  rw [raw_is_word]
  have h1 := h.len
  have h2 : 1 ≤ w.length := by rw [len_tl]; exact h.1
  have e : evE (fnsF prg n k) L_is_word_0 [.val (.str w), .no] G = .ok (.lst ((tl w).map fun _ => D.bl true)) [.val (.str w), .no] G := by
    refine lc_1p (fun c => D.str ⟨#[c]⟩) (l := tl w) (fun _ => D.bl true) ?_ rfl rfl (by rw [← len_tl]; show _ ≤ 16777216; omega) fun c hc => ?_
    · simp [tl]
    · have := h.2.2 c hc
      simp [in_letters this.1 this.2]
  have b0 : w.length ≤ 16777216 := by omega
  have b1 : (1 : Int) ≤ w.length := by omega
  have b2 : (w.length : Int) ≤ 8 := by omega
  have ha := all_true (tl w) [.val (.str w), .no] G
  simp [-x_all_l, f_is_word, e, b0, b1, b2, ha]
/-! ### heads and tails -/
theorem sl_head {w : Str} {c : Nat} {r : List Nat} (h : tl w = c :: r) (hl : w.length ≤ 16777216) (S : List Mi.Slot) (G : List MO) : slOf S G (.str w) false .non true (.int 1) = some (.str ⟨#[c]⟩) := by
  have hlen : w.length = r.length + 1 := by rw [len_tl, h]; rfl
  unfold slOf
  rw [x_ct_str]
  dsimp only
  rw [if_pos (show w.length ≤ sizeLine from hl)]
  have e1 : bnd w.length w.length true (.int 1) = some 1 := by
    show (if (0 : Int) ≤ 1 ∧ (1 : Int) < 2 ^ 62 then some (min (1 : Int).toNat w.length) else none) = _
    rw [if_pos (by decide)]
    congr 1
    show min 1 w.length = 1
    omega
  rw [e1]
  show some (D.str ⟨(cutL (tl w) 0 1).toArray⟩) = _
  rw [h]
  rfl
theorem sl_tail {w : Str} {c : Nat} {r : List Nat} (h : tl w = c :: r) (hl : w.length ≤ 16777216) (S : List Mi.Slot) (G : List MO) : slOf S G (.str w) true (.int 1) false .non = some (.str ⟨r.toArray⟩) := by
  have hlen : w.length = r.length + 1 := by rw [len_tl, h]; rfl
  unfold slOf
  rw [x_ct_str]
  dsimp only
  rw [if_pos (show w.length ≤ sizeLine from hl)]
  have e1 : bnd w.length 0 true (.int 1) = some 1 := by
    show (if (0 : Int) ≤ 1 ∧ (1 : Int) < 2 ^ 62 then some (min (1 : Int).toNat w.length) else none) = _
    rw [if_pos (by decide)]
    congr 1
    show min 1 w.length = 1
    omega
  rw [e1]
  show some (D.str ⟨(cutL (tl w) 1 w.length).toArray⟩) = _
  rw [h, hlen]
  simp [cutL]
theorem one_eq {c : Nat} {q : Str} {d : Nat} (hc : c < 0x110000) (hd : d < 0x110000) (hq : tl q = [d]) (S : List Mi.Slot) (G : List MO) : cmp2 .eq S G (.str ⟨#[c]⟩) (.str q) = some (decide (c = d)) := by
  rw [x_eqs S G (sOk_of fun x hx => ?_) (sOk_of fun x hx => ?_)]
  · congr 1
    by_cases h : c = d
    · subst h
      have : (⟨#[c]⟩ : Str) = q := ext_tl (by rw [hq])
      simp [this]
    · have : ¬ (⟨#[c]⟩ : Str) = q := fun e => h (by
        have := congrArg tl e
        rw [hq] at this
        exact (List.cons.inj this).1)
      simp [h, this]
  · rw [show tl ⟨#[c]⟩ = [c] from rfl] at hx
    rw [List.mem_singleton.mp hx]; exact hc
  · rw [hq] at hx
    rw [List.mem_singleton.mp hx]; exact hd
theorem mk_str {w : Str} {r : List Nat} (h : tl w = r) : (⟨r.toArray⟩ : Str) = w := ext_tl (by rw [h])
theorem wok.head {w : Str} (h : wok w) : ∃ c r, tl w = c :: r ∧ 97 ≤ c ∧ c ≤ 122 := by
  cases e : tl w with
  | nil => have := h.1; rw [e] at this; simp at this
  | cons c r => exact ⟨c, r, rfl, h.2.2 c (by rw [e]; exact List.mem_cons_self ..)⟩
/-! ### numbers -/
theorem tl_num' (m : Nat) : tl (num m) = numL m := tl_num m
theorem num_head : ∀ m : Nat, 0 < m → ∃ c r, numL m = c :: r ∧ 49 ≤ c ∧ c ≤ 57 := fun m => by
  induction m using Nat.strongRecOn with
  | _ m ih =>
    intro h0
    by_cases h : m < 10
    · exact ⟨48 + m, [], numL_lt h, by omega, by omega⟩
    · obtain ⟨c, r, e, h1⟩ := ih (m / 10) (by omega) (by omega)
      exact ⟨c, r ++ [48 + m % 10], by rw [numL_step (by omega), e]; rfl, h1⟩
theorem num_sok (m : Nat) : sOk (num m) := sOk_of fun c hc => by
  rw [tl_num'] at hc
  have := numL_digits m c hc
  omega
theorem figures {i : Int} (h0 : 0 ≤ i) (h : i < 1000000000000) : rawF prg n (k + 1) "figures_in" [.str (num i)] G = .ok (.int i) G := by
  obtain ⟨m, rfl⟩ := Int.eq_ofNat_of_zero_le h0
  have hm : m < 10 ^ 12 := by omega
  have h12 : (numL m).length ≤ 12 := numL_len (by decide) hm
  have hlen : (num m).length = (numL m).length := by rw [len_tl, tl_num']
  have h1 : 1 ≤ (num m).length := by
    rw [hlen]
    cases e : numL m with
    | nil => exact absurd e (numL_ne m)
    | cons c r => simp
  rw [raw_figures_in]
  have e : evE (fnsF prg n k) L_figures_in_0 [.val (.str (num m)), .no] G = .ok (.lst ((numL m).map fun _ => D.bl true)) [.val (.str (num m)), .no] G := by
    refine lc_1p (fun c => D.str ⟨#[c]⟩) (l := numL m) (fun _ => D.bl true) ?_ rfl rfl (by show _ ≤ 16777216; omega) fun c hc => ?_
    · have : (num m).cps.toList = numL m := tl_num' m
      simp [this]
    · have := numL_digits m c hc
      simp [in_digits this.1 this.2]
  have b0 : (num m).length ≤ 16777216 := by omega
  have b1 : (1 : Int) ≤ (num m).length := by omega
  have b2 : ((num m).length : Int) ≤ 12 := by omega
  have b3 : (num m).length ≤ 640 := by omega
  have ha := all_true (numL m) [.val (.str (num m)), .no] G
  have hi : intText? (num m) = some (m : Int) := int_num (by omega)
  have hz : ∀ S G, cmp2 .eq S G (.str (num m)) (.str "0") = some (decide (m = 0)) := fun S G => by
    rw [x_eqs S G (num_sok m) (by decide +kernel)]
    congr 1
    by_cases h : m = 0
    · subst h
      decide +kernel
    · have : ¬ num (m : Int) = "0" := fun e => h (by
        have := congrArg tl e
        rw [tl_num'] at this
        exact numL_inj (this.trans (by decide +kernel)))
      simp [h, this]
  by_cases hm0 : m = 0
  · have hz0 : ∀ S G, cmp2 .eq S G (.str (num m)) (.str "0") = some true := fun S G => by rw [hz, decide_eq_true hm0]
    simp [-x_all_l, f_figures_in, e, b0, b1, b2, b3, ha, hz0, hi]
  · obtain ⟨c, r, ec, c1, c2⟩ := num_head m (by omega)
    have hx : ∀ S G, ixOf S G (.str (num m)) (.int 0) = some (.str ⟨#[c]⟩) := fun S G => by
      show (if (num m).length ≤ sizeLine then (plc (tl (num m)).length 0).bind fun j => ((tl (num m))[j]?).map fun c => D.str ⟨#[c]⟩ else none) = _
      rw [if_pos (show (num m).length ≤ sizeLine from b0), tl_num', ec]
      have hp : plc (c :: r).length 0 = some 0 := by
        unfold plc
        rw [if_pos ⟨by decide, by simp only [List.length_cons]; omega⟩]; rfl
      rw [hp]
      rfl
    have hne : ∀ S G, cmp2 .ne S G (.str ⟨#[c]⟩) (.str "0") = some true := fun S G => by
      rw [x_nes S G (sOk_of fun x hx => ?_) (by decide +kernel)]
      · have : ¬ (⟨#[c]⟩ : Str) = "0" := fun e => by
          have h1 : [c] = [48] := congrArg tl e
          have := (List.cons.inj h1).1
          omega
        simp [this]
      · rw [show tl ⟨#[c]⟩ = [c] from rfl] at hx
        rw [List.mem_singleton.mp hx]; omega
    simp [-x_all_l, f_figures_in, e, b0, b1, b2, b3, ha, hz, hi, hm0, hx, hne]
theorem value_in {v : Val} (h : v.ok) : rawF prg n (k + 3) "value_in" [.str v.t] G = .ok v.d G := by
  rw [raw_value_in]
  have hl := val_len h
  cases v with
  | w s =>
    obtain ⟨c, r, hc, c1, c2⟩ := wok.head h
    have e1 := sl_head hc (by have := wok.len h; omega)
    have e2 : ∀ S G, cmp2 .eq S G (.str ⟨#[c]⟩) (.str "?") = some false := fun S G => by
      rw [one_eq (d := 63) (by omega) (by omega) (by decide +kernel)]
      have : ¬ c = 63 := by omega
      simp [this]
    have e3 := is_word (n := n) (k := k) (G := G) h
    simp [f_value_in, Val.t, Val.d, e1, e2, e3]
  | n i =>
    have hc : tl ("?" ++ num i) = 63 :: tl (num i) := by rw [tl_append]; rfl
    have hl' : ("?" ++ num i : Str).length ≤ 14 := hl
    have e1 := sl_head hc (by omega)
    have e4 := sl_tail hc (by omega)
    rw [mk_str rfl] at e4
    have e2 : ∀ S G, cmp2 .eq S G (.str ⟨#[63]⟩) (.str "?") = some true := fun S G => by
      rw [one_eq (d := 63) (by omega) (by omega) (by decide +kernel)]
      rfl
    have e3 := figures (n := n) (k := k) (G := G) h.1 h.2
    simp [f_value_in, Val.t, Val.d, e1, e2, e3, e4]
theorem term_in {t : Term} (h : wok t.w) : rawF prg n (k + 3) "term_in" [.str t.x] G = .ok t.d G := by
  rw [raw_term_in]
  have hl := term_len h
  have e3 := is_word (n := n) (k := k) (G := G) h
  cases hb : t.b with
  | false =>
    have hx : t.x = t.w := by simp [Term.x, hb]
    obtain ⟨c, r, hc, c1, c2⟩ := wok.head h
    have e1 := sl_head hc (by have := wok.len h; omega)
    have e2 : ∀ S G, cmp2 .eq S G (.str ⟨#[c]⟩) (.str "=") = some false := fun S G => by
      rw [one_eq (d := 61) (by omega) (by omega) (by decide +kernel)]
      have : ¬ c = 61 := by omega
      simp [this]
    simp [f_term_in, hx, Term.d, Term.k, hb, e1, e2, e3]
  | true =>
    have hx : t.x = "=" ++ t.w := by simp [Term.x, hb]
    have hc : tl ("=" ++ t.w) = 61 :: tl t.w := by rw [tl_append]; rfl
    have hl' : ("=" ++ t.w : Str).length ≤ 14 := by rw [← hx]; omega
    have e1 := sl_head hc (by omega)
    have e4 := sl_tail hc (by omega)
    rw [mk_str rfl] at e4
    have e2 : ∀ S G, cmp2 .eq S G (.str ⟨#[61]⟩) (.str "=") = some true := fun S G => by
      rw [one_eq (d := 61) (by omega) (by omega) (by decide +kernel)]
      rfl
    simp [f_term_in, hx, Term.d, Term.k, hb, e1, e2, e3, e4]
end
end K85

end
section
set_option Elab.async false
set_option linter.all false
set_option maxRecDepth 100000
set_option maxHeartbeats 1000000
namespace Mi
open PySem
section
variable {T : Ev Bool} {B : Ev Fl} {m : Nat} {S S1 S2 : List Slot} {G G1 G2 : List MO}
theorem whl_step (ht : T S G = .ok true S1 G1) (hb : B S1 G1 = .ok .nx S2 G2) : loopWhl T B (m + 1) S G = loopWhl T B m S2 G2 := by
  rw [loopWhl, X.x_bind, ht]
  dsimp only [Rs.andThen]
  rw [if_pos rfl, X.x_bind, hb]
  rfl
theorem whl_stop (ht : T S G = .ok false S1 G1) : loopWhl T B (m + 1) S G = .ok .nx S1 G1 := by
  rw [loopWhl, X.x_bind, ht]
  rfl
theorem whl_ret {d : D} (ht : T S G = .ok true S1 G1) (hb : B S1 G1 = .ok (.rt d) S2 G2) : loopWhl T B (m + 1) S G = .ok (.rt d) S2 G2 := by
  rw [loopWhl, X.x_bind, ht]
  dsimp only [Rs.andThen]
  rw [if_pos rfl, X.x_bind, hb]
  rfl
end
@[reducible] def whC : S → E
  | .whl c _ => c
  | _ => .c .non
@[reducible] def whB : S → Ss
  | .whl _ b => b
  | _ => .nil
end Mi
namespace K85
open PySem Mi Mi.X TL
section
variable {n k : Nat} {G0 : List MO} {ln : D} {g : Int} {ws : List Str}
def trO (ln : D) (w : Nat) (g : Int) : MO := .ins "Trail" [("line_at", ln), ("words_left", .ref w), ("gone_by", .int g)]
def trH (G0 : List MO) (ln : D) (g : Int) (ws : List Str) : List MO := G0 ++ [trO ln (G0.length + 1) g, .lst (ws.map .str)]
theorem tr_at : (trH G0 ln g ws)[G0.length]? = some (trO ln (G0.length + 1) g) := by simp [trH]
theorem tr_ws : (trH G0 ln g ws)[G0.length + 1]? = some (.lst (ws.map .str)) := by simp [trH]
theorem tr_setg {g' : Int} : (trH G0 ln g ws).set G0.length (trO ln (G0.length + 1) g') = trH G0 ln g' ws := by simp [trH]
theorem tr_setw {us : List Str} : (trH G0 ln g ws).set (G0.length + 1) (.lst (us.map .str)) = trH G0 ln g us := by simp [trH]
theorem fld_ws : fldOf (fnsF prg n k).fok (trH G0 ln g ws) (.ref G0.length) "words_left" = some (.ref (G0.length + 1)) := by
  rw [x_fldOf, tr_at]
  show (if (fnsF prg n k).fok "Trail" "words_left" = true then _ else _) = _
  rw [fok_words_left, if_pos rfl]
  kernel_rfl
theorem fld_g : fldOf (fnsF prg n k).fok (trH G0 ln g ws) (.ref G0.length) "gone_by" = some (.int g) := by
  rw [x_fldOf, tr_at]
  show (if (fnsF prg n k).fok "Trail" "gone_by" = true then _ else _) = _
  rw [fok_gone_by, if_pos rfl]
  kernel_rfl
theorem set_g {g' : Int} (S : List Mi.Slot) : setFld (fnsF prg n k).fok (.ref G0.length) "gone_by" (.int g') S (trH G0 ln g ws) = .ok () S (trH G0 ln g' ws) := by
  rw [x_setFld, tr_at]
  show (if (fnsF prg n k).fok "Trail" "gone_by" = true ∧ _ then Rs.ok () S ((trH G0 ln g ws).set G0.length _) else _) = _
  rw [fok_gone_by, if_pos ⟨rfl, by show 3 < 1000; decide⟩]
  have e : MO.ins "Trail" (putFld [("line_at", ln), ("words_left", .ref (G0.length + 1)), ("gone_by", .int g)] "gone_by" (.int g')) = trO ln (G0.length + 1) g' := by kernel_rfl
  rw [e, tr_setg]
theorem ins_m {m : Str} (h : ∀ (ln w g : D), ([("line_at", ln), ("words_left", w), ("gone_by", g)] : List (Str × D)).lookup m = none) : insOf (trH G0 ln g ws) "Trail" m (.ref G0.length) = some () := by
  rw [x_insOf, tr_at]
  exact if_pos ⟨rfl, h _ _ _⟩
@[simp] theorem ins_over : insOf (trH G0 ln g ws) "Trail" "is_over" (.ref G0.length) = some () := ins_m fun _ _ _ => by kernel_rfl
@[simp] theorem ins_next : insOf (trH G0 ln g ws) "Trail" "next_word" (.ref G0.length) = some () := ins_m fun _ _ _ => by kernel_rfl
@[simp] theorem ins_claim : insOf (trH G0 ln g ws) "Trail" "claim" (.ref G0.length) = some () := ins_m fun _ _ _ => by kernel_rfl
@[simp] theorem ins_table : insOf (trH G0 ln g ws) "Trail" "table" (.ref G0.length) = some () := ins_m fun _ _ _ => by kernel_rfl
theorem strs_lay : ∀ {ws : List Str}, (∀ w ∈ ws, sOk w) → D.pys (ws.map .str) = some (ws.map .str) ∧ PyData.canLayAll0 (ws.map .str) = true ∧ PyData.depthAll (ws.map .str) ≤ 1
  | [], _ => by simp [D.pys, PyData.canLayAll0, PyData.depthAll]
  | w :: r, h => by
    obtain ⟨h1, h2, h3⟩ := strs_lay fun x hx => h x (List.mem_cons_of_mem _ hx)
    have hw : PyData.strOk w = true := h w (List.mem_cons_self ..)
    refine ⟨by simp [D.pys, D.py, h1], by simp [PyData.canLayAll0, PyData.canLay0, hw, h2], ?_⟩
    simp only [List.map_cons, PyData.depthAll, PyData.depth]
    omega
theorem ws_eq (h : ∀ w ∈ ws, sOk w) (S : List Mi.Slot) : cmp2 .eq S (trH G0 ln g ws) (.ref (G0.length + 1)) (.lst []) = some (decide (ws = [])) := by
  obtain ⟨h1, h2, h3⟩ := strs_lay h
  have e1 : opy S (trH G0 ln g ws) (.ref (G0.length + 1)) = some (.list (ws.map .str)) := by
    unfold opy
    dsimp only
    rw [x_ct_ref, tr_ws]
    dsimp only
    rw [h1]; rfl
  have e2 : opy S (trH G0 ln g ws) (.lst []) = some (.list []) := rfl
  have s1 : SeqAt.shaped (.list (ws.map PyData.str)) = true := by
    simp only [SeqAt.shaped, PyData.canLay0, PyData.depth, h2, Bool.true_and]
    exact decide_eq_true (by omega)
  have s2 : SeqAt.shaped (.list []) = true := by decide +kernel
  unfold cmp2
  dsimp only
  rw [e1, e2]
  dsimp only
  rw [s1, s2]
  cases ws <;> simp [PyData.eqv, PyData.eqvAll]
theorem is_over (h : ∀ w ∈ ws, sOk w) : rawF prg n (k + 1) "Trail.is_over" [.ref G0.length] (trH G0 ln g ws) = .ok (.bl (decide (ws = []))) (trH G0 ln g ws) := by
  rw [raw_Trail_is_over]
  simp [-x_fldOf, f_Trail_is_over, fld_ws, ws_eq h]
theorem next_word {w : Str} (h : ∀ x ∈ w :: ws, sOk x) : rawF prg n (k + 3) "Trail.next_word" [.ref G0.length] (trH G0 ln g (w :: ws)) = .ok (.str w) (trH G0 ln (g + 1) ws) := by
  rw [raw_Trail_next_word]
  have e1 := is_over (n := n) (k := k) (G0 := G0) (ln := ln) (g := g) h
  have e1' : decide (w :: ws = []) = false := by simp
  rw [e1'] at e1
  have e2 : ∀ S, evBm .popAt (.ref (G0.length + 1)) [.int 0] S (trH G0 ln (g + 1) (w :: ws)) = .ok (.str w) S (trH G0 ln (g + 1) ws) := fun S => by
    rw [x_popAt_rf S _ (j := 0) (x := .str w) tr_ws (by unfold plc; rw [if_pos ⟨by decide, by simp⟩]; rfl) rfl]
    rw [show ((w :: ws).map D.str).eraseIdx 0 = ws.map D.str from rfl, tr_setw]
  have e3 : ct [.val (.ref G0.length)] (trH G0 ln (g + 1) (w :: ws)) (.ref (G0.length + 1)) = .lst ((w :: ws).map .str) := by rw [x_ct_ref, tr_ws]
  have e4 : tyOk .popAt [.val (.ref G0.length)] (trH G0 ln (g + 1) (w :: ws)) (.ref (G0.length + 1)) = some () := by
    rw [x_tyOk, e3]; rfl
  simp [-x_fldOf, -x_setFld, -x_insOf, -x_tyOk, -x_ct_ref, f_Trail_next_word, fld_ws, fld_g, set_g, e1, e2, e4]
theorem claim_ok {d : D} {H : List MO} (hd : ∀ S, isNone S H d = some false) (hs : ∀ S G, Mi.settle d S G = .ok d S G) (r : Nat) : rawF prg n (k + 1) "Trail.claim" [.ref r, d] H = .ok d H := by
  rw [raw_Trail_claim]
  simp [f_Trail_claim, hd, hs]
theorem table_ok {w : Str} (hw : wok w) (h : ∀ x ∈ ws, sOk x) : rawF prg n (k + 5) "Trail.table" [.ref G0.length] (trH G0 ln g (w :: ws)) = .ok (.str w) (trH G0 ln (g + 1) ws) := by
  rw [raw_Trail_table]
  have e1 := next_word (n := n) (k := k) (G0 := G0) (ln := ln) (g := g) (w := w) (ws := ws) (fun x hx => by
    rcases List.mem_cons.mp hx with rfl | hx
    · exact hw.sOk
    · exact h x hx)
  have e2 := is_word (n := n) (k := k + 2) (G := trH G0 ln (g + 1) ws) hw
  have e3 := claim_ok (n := n) (k := k + 2) (H := trH G0 ln (g + 1) ws) (d := .str w) (fun _ => rfl) (fun _ _ => rfl) G0.length
  simp [-x_insOf, f_Trail_table, e1, e2, e3]
theorem Val.sok {v : Val} (h : v.ok) : sOk v.t := by
  cases v with
  | w s => exact wok.sOk h
  | n i =>
    obtain ⟨m, rfl⟩ := Int.eq_ofNat_of_zero_le h.1
    refine sOk_of fun c hc => ?_
    rw [show Val.t (.n (m : Int)) = "?" ++ num m from rfl, tl_append, tl_num'] at hc
    rcases List.mem_append.mp hc with hc | hc
    · rw [show tl "?" = [63] by decide] at hc
      rw [List.mem_singleton.mp hc]; decide
    · have := numL_digits m c hc
      omega
theorem val_claim (v : Val) (H : List MO) (r : Nat) : rawF prg n (k + 1) "Trail.claim" [.ref r, v.d] H = .ok v.d H := claim_ok (fun S => by cases v <;> rfl) (settle_d v) r
theorem next_val {S : List Mi.Slot} {v : Val} {vs : List Val} (hS : S[0]? = some (.val (.ref G0.length))) (h : ∀ u ∈ v :: vs, u.ok) :
    evE (fnsF prg n (k + 6)) (.meth "Trail" "claim" (.v 0) (.cons (.call "value_in" (.cons (.meth "Trail" "next_word" (.v 0) .nil) .nil)) .nil)) S (trH G0 ln g ((v :: vs).map Val.t)) = .ok v.d S (trH G0 ln (g + 1) (vs.map Val.t)) := by
  have e1 := next_word (n := n) (k := k + 2) (G0 := G0) (ln := ln) (g := g) (w := v.t) (ws := vs.map Val.t) (fun x hx => by
    have hx : x ∈ (v :: vs).map Val.t := hx
    obtain ⟨u, hu, rfl⟩ := List.mem_map.mp hx
    exact Val.sok (h u hu))
  have e2 := value_in (n := n) (k := k + 2) (G := trH G0 ln (g + 1) (vs.map Val.t)) (h v (List.mem_cons_self ..))
  have e3 := val_claim (n := n) (k := k + 4) v (trH G0 ln (g + 1) (vs.map Val.t)) G0.length
  simp [-x_insOf, hS, e1, e2, e3, settle_d]
theorem fact_loop {t : Str} : ∀ (vs us : List Val) (m : Nat) (g : Int), vs.length < m → us.length + vs.length ≤ 100 → (∀ v ∈ vs, v.ok) →
    loopWhl ((evE (fnsF prg n (k + 6)) (whC L_fact_from_0)).bind truth) (evSs (fnsF prg n (k + 6)) (whB L_fact_from_0)) m [.val (.ref G0.length), .val (.str t), .lst (us.map Val.d)] (trH G0 ln g (vs.map Val.t)) = .ok .nx [.val (.ref G0.length), .val (.str t), .lst ((us ++ vs).map Val.d)] (trH G0 ln (g + vs.length) [])
  | [], us, m, g, hm, _, _ => by
    obtain ⟨m, rfl⟩ : ∃ j, m = j + 1 := ⟨m - 1, by simp at hm; omega⟩
    have e1 := is_over (n := n) (k := k + 4) (G0 := G0) (ln := ln) (g := g) (ws := []) (by simp)
    have e1' : decide (([] : List Str) = []) = true := by simp
    rw [e1'] at e1
    rw [whl_stop (S1 := [.val (.ref G0.length), .val (.str t), .lst (us.map Val.d)]) (G1 := trH G0 ln g [])]
    · simp
    · simp [-x_insOf, e1]
  | v :: vs, us, m, g, hm, hl, h => by
    obtain ⟨m, rfl⟩ : ∃ j, m = j + 1 := ⟨m - 1, by simp at hm; omega⟩
    have hsok : ∀ x ∈ (v :: vs).map Val.t, sOk x := fun x hx => by
      obtain ⟨u, hu, rfl⟩ := List.mem_map.mp hx
      exact Val.sok (h u hu)
    have e1 := is_over (n := n) (k := k + 4) (G0 := G0) (ln := ln) (g := g) hsok
    have e1' : decide ((v :: vs).map Val.t = []) = false := by simp
    rw [e1'] at e1
    rw [List.length_cons] at hm hl
    have hul : us.length < 16777216 := by omega
    have e2 := next_val (n := n) (k := k) (G0 := G0) (ln := ln) (g := g) (S := [.val (.ref G0.length), .val (.str t), .lst (us.map Val.d)]) (v := v) (vs := vs) rfl h
    rw [whl_step (S1 := [.val (.ref G0.length), .val (.str t), .lst (us.map Val.d)]) (G1 := trH G0 ln g ((v :: vs).map Val.t)) (S2 := [.val (.ref G0.length), .val (.str t), .lst ((us ++ [v]).map Val.d)]) (G2 := trH G0 ln (g + 1) (vs.map Val.t))]
    · rw [fact_loop vs (us ++ [v]) m (g + 1) (by omega) (by simp; omega) (fun u hu => h u (List.mem_cons_of_mem _ hu))]
      simp
      congr 1
      omega
    · rw [List.map_cons] at e1 ⊢
      simp [-x_insOf, e1]
    · rw [List.map_cons] at e2 ⊢
      simp [-e_meth, e2, settle_d, hul]
theorem fact_from {f : Fact} (hf : f.ok) (hn : 100 ≤ n) : ∃ g', rawF prg n (k + 7) "fact_from" [.ref G0.length] (trH G0 ln g (f.t :: f.vs.map Val.t)) = .ok f.d (trH G0 ln g' []) := by
  obtain ⟨t, vs⟩ := f
  obtain ⟨ht, h1, h4, hv⟩ := hf
  dsimp only at ht h1 h4 hv ⊢
  cases vs with
  | nil => simp at h1
  | cons v vs =>
    have hsok : ∀ x ∈ (v :: vs).map Val.t, sOk x := fun x hx => by
      obtain ⟨u, hu, rfl⟩ := List.mem_map.mp hx
      exact Val.sok (hv u hu)
    have e1 := table_ok (n := n) (k := k) (G0 := G0) (ln := ln) (g := g) ht hsok
    have e2 := next_val (n := n) (k := k) (G0 := G0) (ln := ln) (g := g + 1) (S := [.val (.ref G0.length), .val (.str t), .no]) (v := v) (vs := vs) rfl hv
    rw [List.length_cons] at h4
    have e3 := fact_loop (n := n) (k := k) (G0 := G0) (ln := ln) (t := t) vs [v] n (g + 1 + 1) (by omega) (by simp; omega) (fun u hu => hv u (List.mem_cons_of_mem _ hu))
    have e4 : evS (fnsF prg n (k + 6)) L_fact_from_0 [.val (.ref G0.length), .val (.str t), .lst [v.d]] (trH G0 ln (g + 1 + 1) (vs.map Val.t)) = .ok .nx [.val (.ref G0.length), .val (.str t), .lst (v.d :: vs.map Val.d)] (trH G0 ln (g + 1 + 1 + vs.length) []) := by
      rw [s_whl, x_fuel]
      exact e3
    refine ⟨g + 1 + 1 + vs.length, ?_⟩
    rw [raw_fact_from]
    have e5 : evE (fnsF prg n (k + 6)) (.meth "Trail" "table" (.v 0) .nil) [.val (.ref G0.length), .no, .no] (trH G0 ln g (t :: v.t :: vs.map Val.t)) = .ok (.str t) [.val (.ref G0.length), .no, .no] (trH G0 ln (g + 1) (v.t :: vs.map Val.t)) := by
      rw [List.map_cons] at e1
      simp [-x_insOf, e1]
    rw [List.map_cons] at e2
    simp [-x_insOf, -e_meth, f_fact_from, e5, e2, e4, settle_d, Fact.d]
theorem setFld_at {f : Str} {x : D} {fs : List (Str × D)} {R : List MO} (S : List Mi.Slot) (hf : (fnsF prg n k).fok "Trail" f = true) (hl : fs.length < 1000) :
    setFld (fnsF prg n k).fok (.ref G0.length) f x S (G0 ++ .ins "Trail" fs :: R) = .ok () S (G0 ++ .ins "Trail" (putFld fs f x) :: R) := by
  rw [x_setFld]
  have e : (G0 ++ MO.ins "Trail" fs :: R)[G0.length]? = some (.ins "Trail" fs) := by simp
  rw [e]
  dsimp only
  rw [if_pos ⟨hf, hl⟩]
  simp
theorem init_ok {text : Str} (hs : Txt.split text " " = ws) (hl : text.length ≤ 10000) (hz : ∀ S G, Mi.settle ln S G = .ok ln S G) : rawF prg n (k + 1) "Trail.__init__" [.ref G0.length, ln, .str text] (G0 ++ [.ins "Trail" []]) = .ok .non (trH G0 ln 0 ws) := by
  rw [raw_Trail_initU]
  have s1 : ∀ S, setFld (fnsF prg n k).fok (.ref G0.length) "line_at" ln S (G0 ++ [.ins "Trail" []]) = .ok () S (G0 ++ [.ins "Trail" [("line_at", ln)]]) := fun S => by
    rw [setFld_at S (fok_line_at n k) (by decide)]
    rfl
  have s2 : ∀ S, setFld (fnsF prg n k).fok (.ref G0.length) "words_left" (.ref (G0.length + 1)) S (G0 ++ [.ins "Trail" [("line_at", ln)], .lst (ws.map .str)]) = .ok () S (G0 ++ [.ins "Trail" [("line_at", ln), ("words_left", .ref (G0.length + 1))], .lst (ws.map .str)]) := fun S => by
    rw [setFld_at S (fok_words_left n k) (by show 1 < 1000; decide)]
    have e : putFld [("line_at", ln)] "words_left" (.ref (G0.length + 1)) = ([("line_at", ln), ("words_left", .ref (G0.length + 1))] : List (Str × D)) := by kernel_rfl
    rw [e]
  have s3 : ∀ S, setFld (fnsF prg n k).fok (.ref G0.length) "gone_by" (.int 0) S (G0 ++ [.ins "Trail" [("line_at", ln), ("words_left", .ref (G0.length + 1))], .lst (ws.map .str)]) = .ok () S (trH G0 ln 0 ws) := fun S => by
    rw [setFld_at S (fok_gone_by n k) (by show 2 < 1000; decide)]
    have e : putFld [("line_at", ln), ("words_left", .ref (G0.length + 1))] "gone_by" (.int 0) = ([("line_at", ln), ("words_left", .ref (G0.length + 1)), ("gone_by", .int 0)] : List (Str × D)) := by kernel_rfl
    rw [e]
    rfl
  have hl2 : text.length + 2 ≤ 16777216 := by omega
  have hsp : (" " : Str).length = 1 := by decide
  simp [-x_setFld, f_Trail_initU, hz, s1, s2, s3, hl2, hs, hsp]
theorem mk_trail {text : Str} {S : List Mi.Slot} (h1 : S[1]? = some (.val ln)) (h0 : S[0]? = some (.val (.str text))) (hs : Txt.split text " " = ws) (hl : text.length ≤ 10000) (hz : ∀ S G, Mi.settle ln S G = .ok ln S G) :
    evE (fnsF prg n (k + 2)) (.mk "Trail" (.cons (.v 1) (.cons (.v 0) .nil))) S G0 = .ok (.ref G0.length) S (trH G0 ln 0 ws) := by
  have e := init_ok (n := n) (k := k) (G0 := G0) (ln := ln) hs hl hz
  simp [h0, h1, hz, e]
theorem read_fact {f : Fact} (hf : f.ok) (hn : 100 ≤ n) (hz : ∀ S G, Mi.settle ln S G = .ok ln S G) : ∃ g', rawF prg n (k + 9) "read_fact" [.str f.x, ln] G0 = .ok f.d (trH G0 ln g' []) := by
  have hs : Txt.split f.x " " = f.t :: f.vs.map Val.t := split_join (s := 32) (S := []) (by decide) (by decide +kernel) (by simp) (fun p hp => by
    rcases List.mem_cons.mp hp with rfl | hp
    · intro h
      have := hf.1.2.2 32 h
      omega
    · obtain ⟨v, hv, rfl⟩ := List.mem_map.mp hp
      have ho := hf.2.2.2 v hv
      cases v with
      | w s =>
        intro h
        have := ho.2.2 32 h
        omega
      | n i =>
        obtain ⟨m, rfl⟩ := Int.eq_ofNat_of_zero_le ho.1
        intro h
        rw [show Val.t (.n (m : Int)) = "?" ++ num m from rfl, tl_append, tl_num'] at h
        rcases List.mem_append.mp h with h | h
        · revert h; decide
        · have := numL_digits m 32 h
          omega)
  have e1 := mk_trail (n := n) (k := k + 6) (G0 := G0) (ln := ln) (S := [.val (.str f.x), .val ln]) rfl rfl hs (by have := fact_len hf; omega) hz
  obtain ⟨g', e2⟩ := fact_from (n := n) (k := k) (G0 := G0) (ln := ln) (g := 0) hf hn
  refine ⟨g', ?_⟩
  rw [raw_read_fact]
  simp [-e_mk, f_read_fact, e1, e2]
end
end K85

end
section
set_option Elab.async false
set_option linter.all false
set_option maxRecDepth 100000
set_option maxHeartbeats 1000000
namespace K85
open PySem Mi Mi.X TL
section
variable {n k : Nat} {G0 : List MO} {ln : D} {g : Int} {ws : List Str}
def atW (a : Atom) : List Str := a.t :: a.ts.map Term.x
def aft : List Atom → List Str → List Str
  | [], rest => rest
  | a :: r, rest => "&" :: (atW a ++ aft r rest)
def sgD : List Str → D
  | [] => .non
  | s :: _ => .str s
theorem inn_strs {sg : List Str} {w : Str} (hw : sOk w) (h : ∀ x ∈ sg, sOk x) (S : List Mi.Slot) (G : List MO) : cmp2 .inn S G (.str w) (.tup (sg.map .str)) = some (decide (w ∈ sg)) := by
  obtain ⟨h1, h2, h3⟩ := strs_lay h
  have h4 : (sg.map PyData.str).all SeqAt.shaped = true := List.all_eq_true.mpr fun d hd => by
    obtain ⟨a, ha, rfl⟩ := List.mem_map.mp hd
    exact shaped_str (h a ha)
  have h5 : ∀ sg : List Str, inPy (.str w) (sg.map PyData.str) = decide (w ∈ sg) := fun sg => by
    induction sg with
    | nil => rfl
    | cons a r ih =>
      have ih' : List.any (r.map PyData.str) (fun q => PyData.eqv q (.str w)) = decide (w ∈ r) := ih
      simp only [inPy, List.map_cons, List.any_cons, ih', PyData.eqv, List.mem_cons]
      by_cases h : a = w
      · simp [h]
      · have : ¬ w = a := fun e => h e.symm
        simp [h, this]
  unfold cmp2
  rw [x_ct_tup]
  dsimp only
  rw [h1]
  dsimp only [D.py]
  rw [shaped_str hw, h4, h5]
  rfl
theorem inn_strs_l {sg : List Str} {w : Str} (hw : sOk w) (h : ∀ x ∈ sg, sOk x) (S : List Mi.Slot) (G : List MO) : cmp2 .inn S G (.str w) (.lst (sg.map .str)) = some (decide (w ∈ sg)) := by
  rw [← inn_strs hw h S G]
  rfl
def signs : List Str := ["&", "=>", "~"]
theorem signs_ok {sg : List Str} (h : ∀ x ∈ sg, x ∈ signs) : ∀ x ∈ sg, sOk x := fun x hx => by
  have := h x hx
  simp [signs] at this
  rcases this with rfl | rfl | rfl <;> decide +kernel
theorem Term.sok {t : Term} (h : wok t.w) : sOk t.x := by
  unfold Term.x
  split
  · refine sOk_of fun c hc => ?_
    rw [tl_append] at hc
    rcases List.mem_append.mp hc with hc | hc
    · rw [show tl "=" = [61] by decide] at hc
      rw [List.mem_singleton.mp hc]; decide
    · have := h.2.2 c hc
      omega
  · exact h.sOk
theorem term_sign {t : Term} (h : wok t.w) : t.x ∉ signs := fun hm => by
  obtain ⟨c, r, hc, c1, c2⟩ := h.head
  have e : tl t.x = c :: r ∨ tl t.x = 61 :: c :: r := by
    unfold Term.x
    split
    · right; rw [tl_append, hc]; rfl
    · left; exact hc
  simp [signs] at hm
  rcases hm with hm | hm | hm
  · rw [hm, show tl "&" = [38] by decide] at e
    rcases e with e | e
    · have := (List.cons.inj e).1; omega
    · have := (List.cons.inj e).1; omega
  · rw [hm, show tl "=>" = [61, 62] by decide] at e
    rcases e with e | e
    · have := (List.cons.inj e).1; omega
    · have := (List.cons.inj (List.cons.inj e).2).1; omega
  · rw [hm, show tl "~" = [126] by decide] at e
    rcases e with e | e
    · have := (List.cons.inj e).1; omega
    · have := (List.cons.inj e).1; omega
theorem term_claim (t : Term) (H : List MO) (r : Nat) : rawF prg n (k + 1) "Trail.claim" [.ref r, t.d] H = .ok t.d H := claim_ok (fun S => rfl) (fun _ _ => rfl) r
/-- the loop's test: not over -/
theorem test_over {S : List Mi.Slot} (hS : S[0]? = some (.val (.ref G0.length))) (h : ∀ w ∈ ws, sOk w) : ((evE (fnsF prg n (k + 2)) (.nt (.meth "Trail" "is_over" (.v 0) .nil))).bind truth) S (trH G0 ln g ws) = .ok (!decide (ws = [])) S (trH G0 ln g ws) := by
  have e := is_over (n := n) (k := k) (G0 := G0) (ln := ln) (g := g) h
  simp [-x_insOf, hS, e]
theorem next_e {S : List Mi.Slot} {w : Str} (hS : S[0]? = some (.val (.ref G0.length))) (h : ∀ x ∈ w :: ws, sOk x) : evE (fnsF prg n (k + 4)) (.meth "Trail" "next_word" (.v 0) .nil) S (trH G0 ln g (w :: ws)) = .ok (.str w) S (trH G0 ln (g + 1) ws) := by
  have e := next_word (n := n) (k := k) (G0 := G0) (ln := ln) (g := g) h
  simp [-x_insOf, hS, e]
theorem next_term {S : List Mi.Slot} {t : Term} (hS : S[0]? = some (.val (.ref G0.length))) (ht : wok t.w) (h : ∀ x ∈ t.x :: ws, sOk x) :
    evE (fnsF prg n (k + 6)) (.meth "Trail" "claim" (.v 0) (.cons (.call "term_in" (.cons (.meth "Trail" "next_word" (.v 0) .nil) .nil)) .nil)) S (trH G0 ln g (t.x :: ws)) = .ok t.d S (trH G0 ln (g + 1) ws) := by
  have e1 := next_word (n := n) (k := k + 2) (G0 := G0) (ln := ln) (g := g) h
  have e2 := term_in (n := n) (k := k + 2) (G := trH G0 ln (g + 1) ws) ht
  have e3 := term_claim (n := n) (k := k + 4) t (trH G0 ln (g + 1) ws) G0.length
  simp [-x_insOf, hS, e1, e2, e3]
variable {sg : List Str} {t : Str}
/-- one turn of atom_from's loop -/
theorem atom_turn {us : List Term} {u : Term} {S4 : Mi.Slot} (hsg : ∀ x ∈ sg, x ∈ signs) (hu : wok u.w) (hul : us.length ≤ 100) (h : ∀ x ∈ u.x :: ws, sOk x) :
    evSs (fnsF prg n (k + 6)) (whB L_atom_from_0) [.val (.ref G0.length), .val (.tup (sg.map .str)), .val (.str t), .lst (us.map Term.d), S4] (trH G0 ln g (u.x :: ws)) = .ok .nx [.val (.ref G0.length), .val (.tup (sg.map .str)), .val (.str t), .lst ((us ++ [u]).map Term.d), .val (.str u.x)] (trH G0 ln (g + 1) ws) := by
  have e1 := next_e (n := n) (k := k + 2) (G0 := G0) (ln := ln) (g := g) (S := [.val (.ref G0.length), .val (.tup (sg.map .str)), .val (.str t), .lst (us.map Term.d), S4]) rfl h
  have e2 := term_in (n := n) (k := k + 2) (G := trH G0 ln (g + 1) ws) hu
  have e3 := term_claim (n := n) (k := k + 4) u (trH G0 ln (g + 1) ws) G0.length
  have e4 : ∀ S G, cmp2 .inn S G (.str u.x) (.tup (sg.map .str)) = some false := fun S G => by
    rw [inn_strs (Term.sok hu) (signs_ok hsg) S G]
    have : ¬ u.x ∈ sg := fun hx => term_sign hu (hsg _ hx)
    simp [this]
  have hul2 : us.length < 16777216 := by omega
  have e5 : evE (fnsF prg n (k + 6)) (.meth "Trail" "claim" (.v 0) (.cons (.call "term_in" (.cons (.v 4) .nil)) .nil)) [.val (.ref G0.length), .val (.tup (sg.map .str)), .val (.str t), .lst (us.map Term.d), .val (.str u.x)] (trH G0 ln (g + 1) ws) = .ok u.d [.val (.ref G0.length), .val (.tup (sg.map .str)), .val (.str t), .lst (us.map Term.d), .val (.str u.x)] (trH G0 ln (g + 1) ws) := by
    simp [-x_insOf, e2, e3]
  simp [-e_meth, -x_insOf, e1, e4, e5, hul2]
theorem atom_sign {us : List Term} {s : Str} {S4 : Mi.Slot} (hsg : ∀ x ∈ sg, x ∈ signs) (hs : s ∈ sg) (h : ∀ x ∈ s :: ws, sOk x) (hul : us.length ≤ 100) :
    evSs (fnsF prg n (k + 6)) (whB L_atom_from_0) [.val (.ref G0.length), .val (.tup (sg.map .str)), .val (.str t), .lst (us.map Term.d), S4] (trH G0 ln g (s :: ws)) = .ok (.rt (.tup [(⟨t, us⟩ : Atom).d, .str s])) [.val (.ref G0.length), .val (.tup (sg.map .str)), .val (.str t), .lst (us.map Term.d), .val (.str s)] (trH G0 ln (g + 1) ws) := by
  have e1 := next_e (n := n) (k := k + 2) (G0 := G0) (ln := ln) (g := g) (S := [.val (.ref G0.length), .val (.tup (sg.map .str)), .val (.str t), .lst (us.map Term.d), S4]) rfl h
  have e4 : ∀ S G, cmp2 .inn S G (.str s) (.tup (sg.map .str)) = some true := fun S G => by
    rw [inn_strs (signs_ok hsg s hs) (signs_ok hsg) S G]
    simp [hs]
  simp [-e_meth, -x_insOf, e1, e4, Atom.d]
theorem atom_loop {rest : List Str} (hsg : ∀ x ∈ sg, x ∈ signs) (hr : ∀ x ∈ rest, sOk x) (hh : rest = [] ∨ ∃ s r, rest = s :: r ∧ s ∈ sg) : ∀ (vs us : List Term) (m : Nat) (g : Int) (S4 : Mi.Slot), vs.length < m → us.length + vs.length ≤ 100 → (∀ v ∈ vs, wok v.w) →
    ∃ g' S', loopWhl ((evE (fnsF prg n (k + 6)) (whC L_atom_from_0)).bind truth) (evSs (fnsF prg n (k + 6)) (whB L_atom_from_0)) m [.val (.ref G0.length), .val (.tup (sg.map .str)), .val (.str t), .lst (us.map Term.d), S4] (trH G0 ln g (vs.map Term.x ++ rest)) =
      (match rest with
        | [] => .ok .nx [.val (.ref G0.length), .val (.tup (sg.map .str)), .val (.str t), .lst ((us ++ vs).map Term.d), S'] (trH G0 ln g' [])
        | s :: r => .ok (.rt (.tup [(⟨t, us ++ vs⟩ : Atom).d, .str s])) [.val (.ref G0.length), .val (.tup (sg.map .str)), .val (.str t), .lst ((us ++ vs).map Term.d), S'] (trH G0 ln g' r))
  | [], us, m, g, S4, hm, hl, _ => by
    obtain ⟨m, rfl⟩ : ∃ j, m = j + 1 := ⟨m - 1, by simp at hm; omega⟩
    rw [List.append_nil]
    rcases hh with rfl | ⟨s, r, rfl, hs⟩
    · refine ⟨g, S4, ?_⟩
      exact whl_stop (test_over (k := k + 4) rfl (by simp))
    · refine ⟨g + 1, .val (.str s), ?_⟩
      have e := test_over (n := n) (k := k + 4) (G0 := G0) (ln := ln) (g := g) (ws := s :: r) (S := [.val (.ref G0.length), .val (.tup (sg.map .str)), .val (.str t), .lst (us.map Term.d), S4]) rfl hr
      have e1' : (!decide (s :: r = [])) = true := by simp
      rw [e1'] at e
      exact whl_ret e (atom_sign hsg hs hr (by simp at hl; omega))
  | v :: vs, us, m, g, S4, hm, hl, h => by
    obtain ⟨m, rfl⟩ : ∃ j, m = j + 1 := ⟨m - 1, by simp at hm; omega⟩
    rw [List.length_cons] at hm hl
    have hsok : ∀ x ∈ v.x :: (vs.map Term.x ++ rest), sOk x := fun x hx => by
      rcases List.mem_cons.mp hx with rfl | hx
      · exact Term.sok (h v (List.mem_cons_self ..))
      · rcases List.mem_append.mp hx with hx | hx
        · obtain ⟨u, hu, rfl⟩ := List.mem_map.mp hx
          exact Term.sok (h u (List.mem_cons_of_mem _ hu))
        · exact hr x hx
    have e := test_over (n := n) (k := k + 4) (G0 := G0) (ln := ln) (g := g) (ws := v.x :: (vs.map Term.x ++ rest)) (S := [.val (.ref G0.length), .val (.tup (sg.map .str)), .val (.str t), .lst (us.map Term.d), S4]) rfl hsok
    have e1' : (!decide (v.x :: (vs.map Term.x ++ rest) = [])) = true := by simp
    rw [e1'] at e
    obtain ⟨g', S', e3⟩ := atom_loop hsg hr hh vs (us ++ [v]) m (g + 1) (.val (.str v.x)) (by omega) (by simp; omega) (fun u hu => h u (List.mem_cons_of_mem _ hu))
    refine ⟨g', S', ?_⟩
    have e4 : us ++ [v] ++ vs = us ++ v :: vs := by simp
    rw [e4] at e3
    rw [← e3]
    exact whl_step e (atom_turn hsg (h v (List.mem_cons_self ..)) (by omega) hsok)
end
end K85

end
section
set_option Elab.async false
set_option linter.all false
set_option maxRecDepth 100000
set_option maxHeartbeats 1000000
namespace K85
open PySem Mi Mi.X TL
section
variable {n k : Nat} {G0 : List MO} {ln : D} {g : Int} {ws : List Str} {sg : List Str}
theorem atW_sok {a : Atom} (h : a.ok) : ∀ x ∈ atW a, sOk x := fun x hx => by
  rcases List.mem_cons.mp hx with rfl | hx
  · exact h.1.sOk
  · obtain ⟨u, hu, rfl⟩ := List.mem_map.mp hx
    exact Term.sok (h.2.2.2 u hu)
theorem atom_from {a : Atom} {rest : List Str} (ha : a.ok) (hn : 100 ≤ n) (hsg : ∀ x ∈ sg, x ∈ signs) (hr : ∀ x ∈ rest, sOk x) (hh : rest = [] ∨ ∃ s r, rest = s :: r ∧ s ∈ sg) :
    ∃ g', rawF prg n (k + 7) "atom_from" [.ref G0.length, .tup (sg.map .str)] (trH G0 ln g (atW a ++ rest)) = .ok (.tup [a.d, sgD rest]) (trH G0 ln g' rest.tail) := by
  have hsok := atW_sok ha
  obtain ⟨t, ts⟩ := a
  obtain ⟨ht, h1, h3, hv⟩ := ha
  dsimp only at ht h1 h3 hv
  cases ts with
  | nil => simp at h1
  | cons u us =>
    rw [List.length_cons] at h3
    have hs2 : ∀ x ∈ u.x :: (us.map Term.x ++ rest), sOk x := fun x hx => by
      have hx : x ∈ (u.x :: us.map Term.x) ++ rest := hx
      rcases List.mem_append.mp hx with hx | hx
      · exact hsok x (List.mem_cons_of_mem _ (by simpa using hx))
      · exact hr x hx
    have e1 := table_ok (n := n) (k := k) (G0 := G0) (ln := ln) (g := g) ht hs2
    have e5 : evE (fnsF prg n (k + 6)) (.meth "Trail" "table" (.v 0) .nil) [.val (.ref G0.length), .val (.tup (sg.map .str)), .no, .no, .no] (trH G0 ln g (t :: u.x :: (us.map Term.x ++ rest))) = .ok (.str t) [.val (.ref G0.length), .val (.tup (sg.map .str)), .no, .no, .no] (trH G0 ln (g + 1) (u.x :: (us.map Term.x ++ rest))) := by
      simp [-x_insOf, e1]
    have e2 := next_term (n := n) (k := k) (G0 := G0) (ln := ln) (g := g + 1) (ws := us.map Term.x ++ rest) (S := [.val (.ref G0.length), .val (.tup (sg.map .str)), .val (.str t), .no, .no]) (t := u) rfl (hv u (List.mem_cons_self ..)) hs2
    obtain ⟨g', S', e3⟩ := atom_loop (n := n) (k := k) (G0 := G0) (ln := ln) (t := t) hsg hr hh us [u] n (g + 1 + 1) .no (by omega) (by simp; omega) (fun x hx => hv x (List.mem_cons_of_mem _ hx))
    refine ⟨g', ?_⟩
    rw [raw_atom_from]
    have hw : atW ⟨t, u :: us⟩ ++ rest = t :: u.x :: (us.map Term.x ++ rest) := rfl
    rw [hw]
    have q : evS (fnsF prg n (k + 6)) L_atom_from_0 [.val (.ref G0.length), .val (.tup (sg.map .str)), .val (.str t), .lst [u.d], .no] (trH G0 ln (g + 1 + 1) (us.map Term.x ++ rest)) = loopWhl ((evE (fnsF prg n (k + 6)) (whC L_atom_from_0)).bind truth) (evSs (fnsF prg n (k + 6)) (whB L_atom_from_0)) n [.val (.ref G0.length), .val (.tup (sg.map .str)), .val (.str t), .lst ([u].map Term.d), .no] (trH G0 ln (g + 1 + 1) (us.map Term.x ++ rest)) := by
      rw [s_whl, x_fuel]
      rfl
    have e4 := q.trans e3
    cases rest with
    | nil =>
      simp only [List.append_nil] at e5 e2 e4 ⊢
      simp [-x_insOf, -e_meth, f_atom_from, e5, e2, e4, Atom.d, sgD]
    | cons s r => simp [-x_insOf, -e_meth, f_atom_from, e5, e2, e4, Atom.d, sgD]
theorem aft_sok {rest : List Str} (hr : ∀ x ∈ rest, sOk x) : ∀ {l : List Atom}, (∀ a ∈ l, a.ok) → ∀ x ∈ aft l rest, sOk x
  | [], _ => hr
  | a :: l, h => fun x hx => by
    rcases List.mem_cons.mp hx with rfl | hx
    · decide +kernel
    · rcases List.mem_append.mp hx with hx | hx
      · exact atW_sok (h a (List.mem_cons_self ..)) x hx
      · exact aft_sok hr (fun b hb => h b (List.mem_cons_of_mem _ hb)) x hx
variable {en : List Str}
theorem aft_head {rest : List Str} (hh : rest = [] ∨ ∃ s r, rest = s :: r ∧ s ∈ en) (l : List Atom) : aft l rest = [] ∨ ∃ s r, aft l rest = s :: r ∧ s ∈ ("&" : Str) :: en := by
  cases l with
  | nil =>
    rcases hh with h | ⟨s, r, h, hs⟩
    · exact .inl h
    · exact .inr ⟨s, r, h, List.mem_cons_of_mem _ hs⟩
  | cons a l => exact .inr ⟨"&", _, rfl, List.mem_cons_self ..⟩
theorem sg_eq {rest : List Str} (hr : ∀ x ∈ rest, sOk x) (hne : ∀ s r, rest = s :: r → s ≠ "&") (l : List Atom) (S : List Mi.Slot) (G : List MO) : cmp2 .eq S G (sgD (aft l rest)) (.str "&") = some (decide (l ≠ [])) := by
  cases l with
  | nil =>
    cases rest with
    | nil =>
      show (if SeqAt.shaped .none && SeqAt.shaped (.str "&") then some (PyData.eqv .none (.str "&")) else none) = _
      rw [show SeqAt.shaped .none = true by decide +kernel, show SeqAt.shaped (.str "&") = true by decide +kernel]
      rfl
    | cons s r =>
      show cmp2 .eq S G (.str s) (.str "&") = _
      rw [x_eqs S G (hr s (List.mem_cons_self ..)) (by decide +kernel)]
      have := hne s r rfl
      simp [this]
  | cons a l =>
    show cmp2 .eq S G (.str "&") (.str "&") = _
    rw [eqc (b := true) (by decide +kernel) (by decide +kernel) (by decide +kernel)]
    simp
@[simp] theorem se_sg (rest : List Str) (S : List Mi.Slot) (G : List MO) : Mi.settle (sgD rest) S G = .ok (sgD rest) S G := by cases rest <;> rfl
theorem atoms_call {a : Atom} {rest : List Str} {S2 S3 S4 : Mi.Slot} (ha : a.ok) (hn : 100 ≤ n) (hsg : ∀ x ∈ ("&" : Str) :: en, x ∈ signs) (hl : en.length ≤ 2) (hr : ∀ x ∈ rest, sOk x) (hh : rest = [] ∨ ∃ s r, rest = s :: r ∧ s ∈ ("&" : Str) :: en) :
    ∃ g', evS (fnsF prg n (k + 8)) (.asg (.tp (.cons (.nm 2) (.cons (.nm 3) .nil))) (.call "atom_from" (.cons (.v 0) (.cons (.bin .add (.tup (.cons (.g "JOINED") .nil)) (.v 1)) .nil)))) [.val (.ref G0.length), .val (.tup (en.map .str)), S2, S3, S4] (trH G0 ln g (atW a ++ rest))
      = .ok .nx [.val (.ref G0.length), .val (.tup (en.map .str)), .val a.d, .val (sgD rest), S4] (trH G0 ln g' rest.tail) := by
  obtain ⟨g', e⟩ := atom_from (n := n) (k := k) (G0 := G0) (ln := ln) (g := g) ha hn hsg hr hh
  have hl2 : en.length + 1 ≤ 16777216 := by omega
  rw [List.map_cons] at e
  exact ⟨g', by simp [e, hl2]⟩
theorem atoms_loop {rest : List Str} (hn : 100 ≤ n) (hsg : ∀ x ∈ ("&" : Str) :: en, x ∈ signs) (hl : en.length ≤ 2) (hr : ∀ x ∈ rest, sOk x) (hh : rest = [] ∨ ∃ s r, rest = s :: r ∧ s ∈ en) (hne : ∀ s r, rest = s :: r → s ≠ "&") : ∀ (l us : List Atom) (m : Nat) (g : Int) (S2 : Mi.Slot), l.length < m → us.length + l.length ≤ 100 → (∀ a ∈ l, a.ok) →
    ∃ g' S', loopWhl ((evE (fnsF prg n (k + 8)) (whC L_atoms_from_0)).bind truth) (evSs (fnsF prg n (k + 8)) (whB L_atoms_from_0)) m [.val (.ref G0.length), .val (.tup (en.map .str)), S2, .val (sgD (aft l rest)), .lst (us.map Atom.d)] (trH G0 ln g (aft l rest).tail) =
      .ok .nx [.val (.ref G0.length), .val (.tup (en.map .str)), S', .val (sgD rest), .lst ((us ++ l).map Atom.d)] (trH G0 ln g' rest.tail)
  | [], us, m, g, S2, hm, _, _ => by
    obtain ⟨m, rfl⟩ : ∃ j, m = j + 1 := ⟨m - 1, by simp at hm; omega⟩
    refine ⟨g, S2, ?_⟩
    rw [List.append_nil]
    refine whl_stop ?_
    have e : ∀ S G, cmp2 .eq S G (sgD rest) (.str "&") = some false := fun S G => sg_eq hr hne [] S G
    simp [e, aft]
  | a :: l, us, m, g, S2, hm, hul, h => by
    obtain ⟨m, rfl⟩ : ∃ j, m = j + 1 := ⟨m - 1, by simp at hm; omega⟩
    rw [List.length_cons] at hm hul
    have h' : ∀ b ∈ l, b.ok := fun b hb => h b (List.mem_cons_of_mem _ hb)
    obtain ⟨g1, e1⟩ := atoms_call (n := n) (k := k) (G0 := G0) (ln := ln) (g := g) (S2 := S2) (S3 := .val (sgD (aft (a :: l) rest))) (S4 := .lst (us.map Atom.d)) (h a (List.mem_cons_self ..)) hn hsg hl (aft_sok hr h') (aft_head hh l)
    obtain ⟨g', S', e2⟩ := atoms_loop hn hsg hl hr hh hne l (us ++ [a]) m g1 (.val a.d) (by omega) (by simp; omega) h'
    refine ⟨g', S', ?_⟩
    have e4 : us ++ [a] ++ l = us ++ a :: l := by simp
    rw [e4] at e2
    rw [← e2]
    have hus : us.length < 16777216 := by omega
    refine whl_step (S1 := [.val (.ref G0.length), .val (.tup (en.map .str)), S2, .val (sgD (aft (a :: l) rest)), .lst (us.map Atom.d)]) (G1 := trH G0 ln g (aft (a :: l) rest).tail) ?_ ?_
    · have e := sg_eq hr hne (a :: l)
      simp [e]
    · have hw : (aft (a :: l) rest).tail = atW a ++ aft l rest := rfl
      rw [hw]
      simp [-Mi.X.s_asg, e1, hus]
theorem atoms_from {l : List Atom} {rest : List Str} (hok : atsOk l) (hn : 100 ≤ n) (hsg : ∀ x ∈ ("&" : Str) :: en, x ∈ signs) (hl : en.length ≤ 2) (hr : ∀ x ∈ rest, sOk x) (hh : rest = [] ∨ ∃ s r, rest = s :: r ∧ s ∈ en) (hne : ∀ s r, rest = s :: r → s ≠ "&") :
    ∃ g', rawF prg n (k + 9) "atoms_from" [.ref G0.length, .tup (en.map .str)] (trH G0 ln g (aft l rest).tail) = .ok (.tup [atsD l, sgD rest]) (trH G0 ln g' rest.tail) := by
  obtain ⟨h1, h3, hv⟩ := hok
  cases l with
  | nil => simp at h1
  | cons a l =>
    have hv' : ∀ b ∈ l, b.ok := fun b hb => hv b (List.mem_cons_of_mem _ hb)
    rw [List.length_cons] at h3
    obtain ⟨g1, e1⟩ := atoms_call (n := n) (k := k) (G0 := G0) (ln := ln) (g := g) (S2 := .no) (S3 := .no) (S4 := .no) (hv a (List.mem_cons_self ..)) hn hsg hl (aft_sok hr hv') (aft_head hh l)
    obtain ⟨g', S', e2⟩ := atoms_loop (n := n) (k := k) (G0 := G0) (ln := ln) hn hsg hl hr hh hne l [a] n g1 (.val a.d) (by omega) (by simp; omega) hv'
    have e3 : evS (fnsF prg n (k + 8)) L_atoms_from_0 [.val (.ref G0.length), .val (.tup (en.map .str)), .val a.d, .val (sgD (aft l rest)), .lst [a.d]] (trH G0 ln g1 (aft l rest).tail) = .ok .nx [.val (.ref G0.length), .val (.tup (en.map .str)), S', .val (sgD rest), .lst (a.d :: l.map Atom.d)] (trH G0 ln g' rest.tail) := by
      rw [s_whl, x_fuel]
      exact e2
    refine ⟨g', ?_⟩
    rw [raw_atoms_from]
    have hw : (aft (a :: l) rest).tail = atW a ++ aft l rest := rfl
    rw [hw]
    show endF (evSs _ (.cons (.asg _ _) _) _ _) = _
    rw [Mi.X.ss_cons, x_bind, e1]
    simp [e3, atsD]
end
end K85

end
section
set_option Elab.async false
set_option linter.all false
set_option maxRecDepth 100000
set_option maxHeartbeats 1000000
namespace K85
open PySem Mi Mi.X TL
section
variable {n k : Nat} {G0 : List MO} {ln : D} {g : Int} {ws : List Str} {G : List MO}
theorem body_1 {S0 S1 S2 S4 S5 : Mi.Slot} (ts : List Term) (hl : ts.length ≤ 100) (p4 : S4.plain = true) (p5 : S5.plain = true) :
    evE (fnsF prg n k) L_in_body_1 [S0, S1, S2, .val (.tup (ts.map Term.d)), S4, S5] G = .ok (.lst (((ts.filter fun t => !t.b).map Term.w).map .str)) [S0, S1, S2, .val (.tup (ts.map Term.d)), S4, S5] G := by
  obtain ⟨r, G2, hr, rfl, rfl⟩ : ∃ r G2, evE (fnsF prg n k) L_in_body_1 [S0, S1, S2, .val (.tup (ts.map Term.d)), S4, S5] G = .ok (.lst r) [S0, S1, S2, .val (.tup (ts.map Term.d)), S4, S5] G2 ∧ (r = ((ts.filter fun t => !t.b).map Term.w).map .str ∧ G2 = G) := by
    refine lc_2 (fun t : Term => D.str t.k) (fun t : Term => D.str t.w) (G0 := G) (l := ts) (fun done acc G' => acc = ((done.filter fun t => !t.b).map Term.w).map .str ∧ G' = G) ?_ rfl p4 rfl p5 (by decide) (by show _ ≤ 16777216; omega) ?_ ⟨rfl, rfl⟩
    · simp [Term.d]
    · rintro t ht done acc G' hN ⟨rfl, rfl⟩
      by_cases hb : t.b = true
      · refine .inr ⟨by simp [any_eq, hb], by simp [hb], rfl⟩
      · have hb' : t.b = false := by simpa using hb
        exact .inl ⟨by simp [any_eq, hb'], .str t.w, G', by simp, by simp [hb'], rfl⟩
  exact hr
theorem anyA_len {a : Atom} (h : a.ok) : (anyA a).length ≤ 3 := by
  have := h.2.2.1
  have h2 := List.length_filter_le (fun t : Term => !t.b) a.ts
  unfold anyA
  rw [List.length_map]
  omega
theorem in_body {l : List Atom} (hl : atsOk l) : rawF prg n (k + 1) "in_body" [atsD l] G = .ok (.lst ((anys l).map .str)) G := by
  rw [raw_in_body]
  obtain ⟨S', G2, hr, rfl, hlen, s2, s3, rfl⟩ : ∃ S' G2, evS (fnsF prg n k) L_in_body_0 [.val (atsD l), .lst [], .no, .no, .no, .no] G = .ok .nx S' G2 ∧
     (G2 = G ∧ (l.flatMap anyA).length ≤ 3 * l.length ∧ ∃ (s2 s3 : Mi.Slot), S' = [.val (atsD l), .lst ((l.flatMap anyA).map .str), s2, s3, .no, .no]) := by
    refine for_st (fun a : Atom => a.d) (G0 := G) (l := l) (fun done S G' => G' = G ∧ (done.flatMap anyA).length ≤ 3 * done.length ∧ ∃ (s2 s3 : Mi.Slot), S = [.val (atsD l), .lst ((done.flatMap anyA).map .str), s2, s3, .no, .no])
      ?_ ?_ ⟨rfl, by simp, .no, .no, rfl⟩
    · simp [atsD]
    · rintro a ha done S G' hN ⟨rfl, hlen, s2, s3, rfl⟩
      have hao := hl.2.2 a ha
      have hl3 := hl.2.1
      have hal := anyA_len hao
      have e1 := body_1 (n := n) (k := k) (G := G') (S0 := .val (atsD l)) (S1 := .lst ((done.flatMap anyA).map .str)) (S2 := .val (.str a.t)) (S4 := .no) (S5 := .no) a.ts (by have := hao.2.2.1; omega) rfl rfl
      have e1' : evE (fnsF prg n k) L_in_body_1 _ G' = .ok (.lst ((anyA a).map .str)) _ G' := e1
      have hsz : (done.flatMap anyA).length + (anyA a).length ≤ 16777216 := by omega
      refine ⟨[.val (atsD l), .lst (((done ++ [a]).flatMap anyA).map .str), .val (.str a.t), .val (.tup (a.ts.map Term.d)), .no, .no], G', ?_, rfl, ?_, _, _, rfl⟩
      · generalize hD : done.flatMap anyA = dn at *
        simp [Atom.d, e1', augN, hsz, hD]
      · rw [List.flatMap_append, List.length_append, List.length_append]
        simp
        simp at hlen
        omega
  have : anys l = l.flatMap anyA := rfl
  simp [f_in_body, hr, this]
theorem anys_sok {l : List Atom} (hl : atsOk l) : ∀ x ∈ anys l, sOk x := fun x hx => (any_wok hl hx).sOk
theorem variable_from {b : List Atom} {x other : Str} (hb : atsOk b) (hx : x ∈ anys b) (ho : sOk other) (hne : x ≠ other) (hs : ∀ w ∈ ws, sOk w) :
    rawF prg n (k + 5) "variable_from" [.ref G0.length, atsD b, .str other] (trH G0 ln g (x :: ws)) = .ok (.str x) (trH G0 ln (g + 1) ws) := by
  rw [raw_variable_from]
  have hxs := anys_sok hb x hx
  have e1 := next_word (n := n) (k := k) (G0 := G0) (ln := ln) (g := g) (w := x) (ws := ws) (fun w hw => by
    rcases List.mem_cons.mp hw with rfl | hw
    · exact hxs
    · exact hs w hw)
  have e2 := in_body (n := n) (k := k + 2) (G := trH G0 ln (g + 1) ws) hb
  have e3 : ∀ S G, cmp2 .inn S G (.str x) (.lst ((anys b).map .str)) = some true := fun S G => by
    rw [inn_strs_l hxs (anys_sok hb)]
    simp [hx]
  have e4 : ∀ S G, cmp2 .ne S G (.str x) (.str other) = some true := fun S G => by
    rw [x_nes S G hxs ho]
    simp [hne]
  have e5 := claim_ok (n := n) (k := k + 2) (H := trH G0 ln (g + 1) ws) (d := .str x) (fun _ => rfl) (fun _ _ => rfl) G0.length
  simp [-x_insOf, f_variable_from, e1, e2, e3, e4, e5]
/-- a saying's words -/
def atsW (l : List Atom) : List Str := (aft l []).tail
def Say.W : Say → List Str
  | .rows b h => (aft b ("=>" :: atsW h)).tail
  | .same b x y => (aft b ["~", x, y]).tail
theorem lead_eq (S : List Mi.Slot) (G : List MO) : cmp2 .eq S G (.str "=>") (.str "=>") = some true := eqc (by decide +kernel) (by decide +kernel) (by decide +kernel) S G
theorem alike_eq (S : List Mi.Slot) (G : List MO) : cmp2 .eq S G (.str "~") (.str "=>") = some false := eqc (by decide +kernel) (by decide +kernel) (by decide +kernel) S G
theorem atsW_sok {l : List Atom} (h : atsOk l) : ∀ x ∈ atsW l, sOk x := fun x hx => aft_sok (by simp) h.2.2 x (List.mem_of_mem_tail hx)
theorem saying_from {s : Say} (hs : s.ok) (hn : 100 ≤ n) : ∃ g', rawF prg n (k + 11) "saying_from" [.ref G0.length] (trH G0 ln g s.W) = .ok s.d (trH G0 ln g' []) := by
  have hsg : ∀ x ∈ ("&" : Str) :: ["=>", "~"], x ∈ signs := fun x hx => hx
  cases s with
  | rows b h =>
    have hb : atsOk b := hs.1
    have hh : atsOk h := hs.2
    obtain ⟨g1, e1⟩ := atoms_from (n := n) (k := k) (G0 := G0) (ln := ln) (g := g) (en := ["=>", "~"]) (rest := "=>" :: atsW h) hb hn hsg (by decide) (fun x hx => by
        rcases List.mem_cons.mp hx with rfl | hx
        · decide +kernel
        · exact atsW_sok hh x hx) (.inr ⟨_, _, rfl, by simp⟩) (fun s r e => by
        rw [← (List.cons.inj e).1]; decide +kernel)
    obtain ⟨g2, e2⟩ := atoms_from (n := n) (k := k) (G0 := G0) (ln := ln) (g := g1) (en := []) (rest := []) hh hn (fun x hx => by simp at hx; rw [hx]; decide +kernel) (by decide) (by simp) (.inl rfl) (fun s r e => by cases e)
    refine ⟨g2, ?_⟩
    rw [raw_saying_from]
    have hw : (Say.rows b h).W = (aft b ("=>" :: atsW h)).tail := rfl
    rw [hw]
    have ht : ("=>" :: atsW h : List Str).tail = (aft h []).tail := rfl
    rw [ht] at e1
    simp only [List.map_cons, List.map_nil] at e1 e2
    simp [f_saying_from, e1, e2, sgD, lead_eq, ix_t0, Say.d]
  | same b x y =>
    obtain ⟨hb, hx, hy, hxy⟩ := hs
    have sx := anys_sok hb x hx
    have sy := anys_sok hb y hy
    obtain ⟨g1, e1⟩ := atoms_from (n := n) (k := k) (G0 := G0) (ln := ln) (g := g) (en := ["=>", "~"]) (rest := ["~", x, y]) hb hn hsg (by decide) (fun w hw => by
        simp at hw
        rcases hw with rfl | rfl | rfl
        · decide +kernel
        · exact sx
        · exact sy) (.inr ⟨_, _, rfl, by simp⟩) (fun s r e => by
        rw [← (List.cons.inj e).1]; decide +kernel)
    have e2 := variable_from (n := n) (k := k + 4) (G0 := G0) (ln := ln) (g := g1) (x := x) (other := "") (ws := [y]) hb hx (by decide +kernel) (fun e => by
      have := (any_wok hb hx).1
      rw [e] at this
      revert this
      decide +kernel) (fun w hw => by rw [List.mem_singleton.mp hw]; exact sy)
    have e3 := variable_from (n := n) (k := k + 4) (G0 := G0) (ln := ln) (g := g1 + 1) (x := y) (other := x) (ws := []) hb hy sx (fun e => hxy e.symm) (by simp)
    have e4 := is_over (n := n) (k := k + 8) (G0 := G0) (ln := ln) (g := g1 + 1 + 1) (ws := []) (by simp)
    have e4' : decide (([] : List Str) = []) = true := by simp
    rw [e4'] at e4
    refine ⟨g1 + 1 + 1, ?_⟩
    rw [raw_saying_from]
    have hw : (Say.same b x y).W = (aft b ["~", x, y]).tail := rfl
    rw [hw]
    simp only [List.map_cons, List.map_nil, List.tail_cons] at e1
    simp [-x_insOf, f_saying_from, e1, e2, e3, e4, sgD, alike_eq, Say.d]
end
end K85

end
section
set_option Elab.async false
set_option linter.all false
set_option maxRecDepth 100000
set_option maxHeartbeats 1000000
/-! Mt: splitlines gives rows back. -/
namespace Mi
open PySem PySem.StrLaws PySem.Builtin PySem.Builtin.Str TL
section
variable {s : Str}
def lrun (s : Str) (m cur : Nat) (st : LsSt) : LsSt := Id.run (forIn (m := Id) (List.range' cur m) st (lsBody s))
theorem lrun_step {m cur : Nat} {st : LsSt} : lrun s (m + 1) cur st = (match (lsBody s cur st : Id (ForInStep LsSt)) with
    | .done b => b
    | .yield b => lrun s m (cur + 1) b) := by
  unfold lrun
  rw [List.range'_succ, List.forIn_cons]
  unfold lsBody
  by_cases h : (decide (st.snd ≤ cur) && Unicode.isLineBreak (s.cps.getD cur 0)) = true
  · rw [if_pos h]; rfl
  · rw [if_neg h]; rfl
theorem get_at {cur c : Nat} {R : List Nat} (h : (tl s).drop cur = c :: R) : s.cps.getD cur 0 = c := by
  have h1 : (tl s)[cur]? = some c := by
    have := congrArg (fun l => l[0]?) h
    simpa using this
  have h2 : s.cps[cur]? = some c := by
    rw [← Array.getElem?_toList]
    exact h1
  simp [Array.getD_eq_getD_getElem?, h2]
theorem drop_next {cur c : Nat} {R : List Nat} (h : (tl s).drop cur = c :: R) : (tl s).drop (cur + 1) = R := by
  have := congrArg (fun l => l.drop 1) h
  simpa [List.drop_drop] using this
theorem run_nb : ∀ (q R : List Nat) (cur m : Nat) (st : LsSt), (tl s).drop cur = q ++ R → (∀ c ∈ q, Unicode.isLineBreak c = false) → lrun s (q.length + m) cur st = lrun s m (cur + q.length) st
  | [], R, cur, m, st, _, _ => by simp
  | c :: q, R, cur, m, st, h, hq => by
    have e : (c :: q).length + m = (q.length + m) + 1 := by simp; omega
    rw [e, lrun_step]
    have hc := get_at h
    have hb : (decide (st.snd ≤ cur) && Unicode.isLineBreak (s.cps.getD cur 0)) = false := by rw [hc, hq c (List.mem_cons_self ..), Bool.and_false]
    have hl : lsBody s cur st = pure (ForInStep.yield (st.fst, st.snd)) := by
      unfold lsBody
      rw [hb]; rfl
    rw [hl]
    show lrun s (q.length + m) (cur + 1) st = _
    rw [run_nb q R (cur + 1) m st (drop_next h) fun x hx => hq x (List.mem_cons_of_mem _ hx)]
    have : cur + 1 + q.length = cur + (c :: q).length := by simp; omega
    rw [this]
theorem nl_break : Unicode.isLineBreak 10 = true := by decide +kernel
theorem run_nl {R : List Nat} {cur m start : Nat} {acc : Array (Nat × Nat × Nat)} (h : (tl s).drop cur = 10 :: R) (hs : start ≤ cur) : lrun s (m + 1) cur (acc, start) = lrun s m (cur + 1) (acc.push (start, cur, cur + 1), cur + 1) := by
  rw [lrun_step]
  have hc := get_at h
  have hb : (decide (((acc, start) : LsSt).snd ≤ cur) && Unicode.isLineBreak (s.cps.getD cur 0)) = true := by
    rw [hc, nl_break, Bool.and_true]
    exact decide_eq_true hs
  have hn : lsNext s cur = cur + 1 := by
    unfold lsNext
    rw [hc]; rfl
  have hl : lsBody s cur (acc, start) = pure (ForInStep.yield (acc.push (start, cur, cur + 1), cur + 1)) := by
    unfold lsBody
    rw [if_pos hb, hn]
  rw [hl]
  rfl
/-- a cut, as signs -/
def cutOf (s : Str) (p : Nat × Nat × Nat) : List Nat := ((tl s).drop p.1).take (p.2.1 - p.1)
theorem run_rows : ∀ (ps : List (List Nat)) (last : List Nat) (cur : Nat) (acc : Array (Nat × Nat × Nat)), (tl s).drop cur = ps.flatMap (· ++ [10]) ++ last → (∀ p ∈ ps, ∀ c ∈ p, Unicode.isLineBreak c = false) → (∀ c ∈ last, Unicode.isLineBreak c = false) →
    ∃ acc' start', lrun s ((ps.flatMap (· ++ [10]) ++ last).length) cur (acc, cur) = (acc', start') ∧ (tl s).drop start' = last ∧ start' = cur + (ps.flatMap (· ++ [10])).length ∧ acc'.toList.map (cutOf s) = acc.toList.map (cutOf s) ++ ps
  | [], last, cur, acc, h, _, hl => by
    refine ⟨acc, cur, ?_, h, rfl, by simp⟩
    have := run_nb last [] cur 0 (acc, cur) (by simpa using h) hl
    have e : lrun s 0 (cur + last.length) (acc, cur) = (acc, cur) := rfl
    rw [e] at this
    simpa using this
  | p :: ps, last, cur, acc, h, hp, hl => by
    have h' : (tl s).drop cur = p ++ (10 :: (ps.flatMap (· ++ [10]) ++ last)) := by rw [h]; simp
    have hd : (tl s).drop (cur + p.length) = 10 :: (ps.flatMap (· ++ [10]) ++ last) := by
      have := congrArg (fun l => l.drop p.length) h'
      simpa [List.drop_drop, Nat.add_comm] using this
    have hlen : ((p :: ps).flatMap (· ++ [10]) ++ last).length = p.length + ((ps.flatMap (· ++ [10]) ++ last).length + 1) := by simp
    rw [hlen, run_nb p _ cur _ (acc, cur) h' (hp p (List.mem_cons_self ..)), run_nl hd (by omega)]
    obtain ⟨acc', start', e1, e2, e3, e4⟩ := run_rows ps last (cur + p.length + 1) (acc.push (cur, cur + p.length, cur + p.length + 1)) (drop_next hd) (fun q hq => hp q (List.mem_cons_of_mem _ hq)) hl
    refine ⟨acc', start', e1, e2, ?_, ?_⟩
    · rw [e3]; simp; omega
    · rw [e4, Array.toList_push, List.map_append, List.append_assoc]
      have hc : cutOf s (cur, cur + p.length, cur + p.length + 1) = p := by
        unfold cutOf
        show ((tl s).drop cur).take (cur + p.length - cur) = p
        rw [h', Nat.add_sub_cancel_left, List.take_left']
        rfl
      simp [hc]
theorem spans_rows (ps : List (List Nat)) (last : List Nat) (h : tl s = ps.flatMap (· ++ [10]) ++ last) (hp : ∀ p ∈ ps, ∀ c ∈ p, Unicode.isLineBreak c = false) (hl : ∀ c ∈ last, Unicode.isLineBreak c = false) :
    (lineSpans s).map (cutOf s) = ps ++ (if last = [] then [] else [last]) := by
  rw [ls_eq]
  obtain ⟨acc', start', e1, e2, e3, e4⟩ := run_rows (s := s) ps last 0 #[] (by simpa using h) hp hl
  have hlen : s.length = (ps.flatMap (· ++ [10]) ++ last).length := by rw [len_tl, h]
  show (lsEnd s (lrun s s.length 0 (#[], 0))).map (cutOf s) = _
  rw [hlen, e1]
  have e4 : acc'.toList.map (cutOf s) = ps := by simpa using e4
  unfold lsEnd
  dsimp only
  have hs : start' = (ps.flatMap (· ++ [10])).length := by omega
  by_cases hz : last = []
  · subst hz
    have : ¬ start' < s.length := by rw [hlen, hs]; simp
    rw [if_neg this, e4]
    simp
  · have hlt : start' < s.length := by
      rw [hlen, hs, List.length_append]
      cases last with
      | nil => exact absurd rfl hz
      | cons c r => simp
    rw [if_pos hlt, Array.toList_push, List.map_append, e4, if_neg hz]
    have hc : cutOf s (start', s.length, s.length) = last := by
      unfold cutOf
      show ((tl s).drop start').take (s.length - start') = last
      rw [e2, hlen, hs, List.length_append, Nat.add_sub_cancel_left, List.take_length]
    simp [hc]
theorem lines_of (x : Str) : (Txt.lines x).map tl = (lineSpans x).map (cutOf x) := by
  have e : (linesOf x).map tl = (lineSpans x).map (cutOf x) := by
    unfold linesOf lineCuts
    rw [List.map_map, List.map_map]
    refine List.map_congr_left fun p _ => ?_
    obtain ⟨i, j, k⟩ := p
    exact tl_strSub x i j
  unfold Txt.lines
  split
  · rename_i h
    rw [← e]
    have h2 : lineCuts x = [(0, x.length)] := by simpa using h
    unfold linesOf
    rw [h2]
    show [tl x] = [tl (strSub x 0 x.length)]
    rw [tl_strSub]
    rw [len_tl, List.drop_zero, Nat.sub_zero, List.take_length]
  · exact e
theorem cuts_len (x : Str) : (lineCuts x).length = (Txt.lines x).length := by
  have h1 := congrArg List.length (lines_of x)
  rw [List.length_map, List.length_map] at h1
  rw [h1]
  unfold lineCuts
  rw [List.length_map]
/-- rows joined by a newline, read back; e: with or without a newline at the end -/
theorem joinL_rows : ∀ (ps : List (List Nat)), ps ≠ [] → joinL [10] ps = (ps.dropLast.flatMap (· ++ [10])) ++ ps.getLastD []
  | [], h => absurd rfl h
  | [p], _ => by simp [joinL]
  | p :: q :: r, _ => by
    show p ++ ([10] ++ joinL [10] (q :: r)) = _
    rw [joinL_rows (q :: r) (by simp)]
    simp
theorem lines_join {rows : List Str} (h : ∀ w ∈ rows, tl w ≠ [] ∧ ∀ c ∈ tl w, Unicode.isLineBreak c = false) : Txt.lines (Txt.join "\n" rows) = rows := by
  refine map_tl_inj ?_
  rw [lines_of]
  cases hr : rows with
  | nil => decide +kernel
  | cons a r =>
    have hne : rows.map tl ≠ [] := by rw [hr]; simp
    rw [← hr]
    have e : tl (Txt.join "\n" rows) = ((rows.map tl).dropLast.flatMap (· ++ [10])) ++ (rows.map tl).getLastD [] := by
      rw [join_eq, tl_join, show tl "\n" = [10] by decide, joinL_rows _ hne]
    have hm : ∀ p ∈ rows.map tl, p ≠ [] ∧ ∀ c ∈ p, Unicode.isLineBreak c = false := fun p hp => by
      obtain ⟨w, hw, rfl⟩ := List.mem_map.mp hp
      exact h w hw
    have hlast : (rows.map tl).getLastD [] = (rows.map tl).getLast hne := by
      rw [List.getLastD_eq_getLast?, List.getLast?_eq_some_getLast hne]; rfl
    have hl := hm _ (List.getLast_mem hne)
    rw [spans_rows _ _ e (fun p hp => (hm p (List.dropLast_subset _ hp)).2) (by rw [hlast]; exact hl.2), hlast, if_neg hl.1, List.dropLast_concat_getLast]
theorem lines_join_nl {rows : List Str} (hne : rows ≠ []) (h : ∀ w ∈ rows, ∀ c ∈ tl w, Unicode.isLineBreak c = false) : Txt.lines (Txt.join "\n" rows ++ "\n") = rows := by
  refine map_tl_inj ?_
  rw [lines_of]
  have hne2 : rows.map tl ≠ [] := fun e => hne (List.map_eq_nil_iff.mp e)
  have e : tl (Txt.join "\n" rows ++ "\n") = ((rows.map tl).flatMap (· ++ [10])) ++ [] := by
    rw [tl_append, join_eq, tl_join, show tl "\n" = [10] by decide, joinL_rows _ hne2, List.append_nil]
    have hlast : (rows.map tl).getLastD [] = (rows.map tl).getLast hne2 := by
      rw [List.getLastD_eq_getLast?, List.getLast?_eq_some_getLast hne2]; rfl
    rw [hlast]
    conv => rhs; rw [← List.dropLast_concat_getLast hne2]
    simp
  rw [spans_rows _ _ e (fun p hp => by
    obtain ⟨w, hw, rfl⟩ := List.mem_map.mp hp
    exact h w hw) (by simp)]
  simp
end
end Mi

end
section
set_option Elab.async false
set_option linter.all false
set_option maxRecDepth 100000
set_option maxHeartbeats 1000000
namespace K85
open PySem Mi Mi.X TL
section
variable {n k : Nat} {G0 : List MO} {ln : D} {g : Int} {ws : List Str} {G : List MO}
theorem joinL_app (y : List Nat) : ∀ {p q : List (List Nat)}, p ≠ [] → q ≠ [] → joinL y (p ++ q) = joinL y p ++ (y ++ joinL y q)
  | [], _, h, _ => absurd rfl h
  | [a], [], _, h => absurd rfl h
  | [a], b :: q, _, _ => rfl
  | a :: b :: p, q, _, hq => by
    show a ++ (y ++ joinL y ((b :: p) ++ q)) = a ++ (y ++ joinL y (b :: p)) ++ (y ++ joinL y q)
    rw [joinL_app y (by simp) hq]
    simp
theorem sp_tl : tl " " = [32] := by decide
theorem atX_tl (a : Atom) : tl a.x = joinL [32] ((atW a).map tl) := by
  unfold Atom.x
  rw [join_eq, tl_join, sp_tl]
  rfl
theorem atW_ne (a : Atom) : (atW a).map tl ≠ [] := by simp [atW]
theorem atsW_cons (a b : Atom) (r : List Atom) : atsW (a :: b :: r) = atW a ++ ("&" : Str) :: atsW (b :: r) := rfl
theorem atsW_ne (a : Atom) (r : List Atom) : (atsW (a :: r)).map tl ≠ [] := by
  show ((atW a ++ aft r []).map tl) ≠ []
  simp [atW]
theorem atsX_tl : ∀ {l : List Atom}, l ≠ [] → tl (atsX l) = joinL [32] ((atsW l).map tl)
  | [], h => absurd rfl h
  | [a], _ => by
    have e : atsW [a] = atW a := by show atW a ++ [] = atW a; simp
    rw [e, ← atX_tl]
    rfl
  | a :: b :: r, _ => by
    have ih := atsX_tl (l := b :: r) (by simp)
    have e : tl (atsX (a :: b :: r)) = tl a.x ++ (tl " & " ++ tl (atsX (b :: r))) := by
      unfold atsX
      rw [join_eq, join_eq, tl_join, tl_join]
      rfl
    have ea : tl " & " = [32] ++ (tl "&" ++ [32]) := by decide
    rw [e, ih, atX_tl, atsW_cons, List.map_append, joinL_app [32] (atW_ne a) (by simp), List.map_cons]
    rw [show joinL [32] (tl ("&" : Str) :: (atsW (b :: r)).map tl) = tl "&" ++ ([32] ++ joinL [32] ((atsW (b :: r)).map tl)) from joinL_app [32] (p := [tl "&"]) (by simp) (atsW_ne b r), ea]
    simp
theorem aft_app (rest : List Str) : ∀ l : List Atom, aft l rest = aft l [] ++ rest
  | [] => rfl
  | a :: r => by
    show ("&" : Str) :: (atW a ++ aft r rest) = (("&" : Str) :: (atW a ++ aft r [])) ++ rest
    rw [aft_app rest r]
    simp
theorem aft_tail {l : List Atom} (h : l ≠ []) (rest : List Str) : (aft l rest).tail = atsW l ++ rest := by
  cases l with
  | nil => exact absurd rfl h
  | cons a r => rw [aft_app]; rfl
theorem ats_ne {l : List Atom} (h : atsOk l) : l ≠ [] := fun e => by
  have := h.1
  rw [e] at this
  simp at this
theorem say_tl {s : Say} (hs : s.ok) : s.x = Txt.join " " s.W := ext_tl (by
  rw [join_eq, tl_join, sp_tl]
  cases s with
  | rows b h =>
    have hb := ats_ne hs.1
    have hh := ats_ne hs.2
    have hw : (Say.rows b h).W = atsW b ++ ("=>" : Str) :: atsW h := aft_tail hb _
    have n1 : (atsW b).map tl ≠ [] := by
      cases b with
      | nil => exact absurd rfl hb
      | cons a r => exact atsW_ne a r
    have n2 : (atsW h).map tl ≠ [] := by
      cases h with
      | nil => exact absurd rfl hh
      | cons a r => exact atsW_ne a r
    rw [hw, List.map_append, joinL_app [32] n1 (by simp), List.map_cons]
    rw [show joinL [32] (tl ("=>" : Str) :: (atsW h).map tl) = tl "=>" ++ ([32] ++ joinL [32] ((atsW h).map tl)) from joinL_app [32] (p := [tl "=>"]) (by simp) n2]
    show tl (atsX b ++ " => " ++ atsX h) = _
    rw [tl_append, tl_append, atsX_tl hb, atsX_tl hh, show tl " => " = [32] ++ (tl "=>" ++ [32]) by decide]
    simp
  | same b x y =>
    have hb := ats_ne hs.1
    have hw : (Say.same b x y).W = atsW b ++ [("~" : Str), x, y] := aft_tail hb _
    have n1 : (atsW b).map tl ≠ [] := by
      cases b with
      | nil => exact absurd rfl hb
      | cons a r => exact atsW_ne a r
    rw [hw, List.map_append, joinL_app [32] n1 (by simp)]
    show tl (atsX b ++ " ~ " ++ x ++ " " ++ y) = _
    rw [tl_append, tl_append, tl_append, tl_append, atsX_tl hb, show tl " ~ " = [32] ++ (tl "~" ++ [32]) by decide, sp_tl]
    simp [joinL])
/-! ### signs that are seen -/
def pr (w : Str) : Prop := ∀ c ∈ tl w, 33 ≤ c ∧ c ≤ 126
theorem wok.pr {w : Str} (h : wok w) : pr w := fun c hc => by
  have := h.2.2 c hc
  omega
theorem Val.pr {v : Val} (h : v.ok) : pr v.t := by
  cases v with
  | w s => exact wok.pr h
  | n i =>
    obtain ⟨m, rfl⟩ := Int.eq_ofNat_of_zero_le h.1
    intro c hc
    rw [show Val.t (.n (m : Int)) = "?" ++ num m from rfl, tl_append, tl_num'] at hc
    rcases List.mem_append.mp hc with hc | hc
    · rw [show tl "?" = [63] by decide] at hc
      rw [List.mem_singleton.mp hc]; decide
    · have := numL_digits m c hc
      omega
theorem Term.pr {t : Term} (h : wok t.w) : pr t.x := by
  unfold Term.x
  split
  · intro c hc
    rw [tl_append] at hc
    rcases List.mem_append.mp hc with hc | hc
    · rw [show tl "=" = [61] by decide] at hc
      rw [List.mem_singleton.mp hc]; decide
    · exact h.pr c hc
  · exact h.pr
theorem atW_pr {a : Atom} (h : a.ok) : ∀ x ∈ atW a, pr x := fun x hx => by
  rcases List.mem_cons.mp hx with rfl | hx
  · exact h.1.pr
  · obtain ⟨u, hu, rfl⟩ := List.mem_map.mp hx
    exact Term.pr (h.2.2.2 u hu)
theorem sg_pr {s : Str} (h : s ∈ signs) : pr s := by
  simp [signs] at h
  rcases h with rfl | rfl | rfl
  · intro c hc; rw [show tl "&" = [38] by decide] at hc; rw [List.mem_singleton.mp hc]; decide
  · intro c hc
    rw [show tl "=>" = [61, 62] by decide] at hc
    simp at hc
    omega
  · intro c hc; rw [show tl "~" = [126] by decide] at hc; rw [List.mem_singleton.mp hc]; decide
theorem aft_pr {rest : List Str} (hr : ∀ x ∈ rest, pr x) : ∀ {l : List Atom}, (∀ a ∈ l, a.ok) → ∀ x ∈ aft l rest, pr x
  | [], _ => hr
  | a :: l, h => fun x hx => by
    rcases List.mem_cons.mp hx with rfl | hx
    · exact sg_pr (by simp [signs])
    · rcases List.mem_append.mp hx with hx | hx
      · exact atW_pr (h a (List.mem_cons_self ..)) x hx
      · exact aft_pr hr (fun b hb => h b (List.mem_cons_of_mem _ hb)) x hx
theorem say_pr {s : Say} (hs : s.ok) : ∀ x ∈ s.W, pr x := by
  cases s with
  | rows b h =>
    intro x hx
    refine aft_pr (fun w hw => ?_) hs.1.2.2 x (List.mem_of_mem_tail hx)
    rcases List.mem_cons.mp hw with rfl | hw
    · exact sg_pr (by simp [signs])
    · exact aft_pr (by simp) hs.2.2.2 w (List.mem_of_mem_tail hw)
  | same b p q =>
    intro x hx
    refine aft_pr (fun w hw => ?_) hs.1.2.2 x (List.mem_of_mem_tail hx)
    simp at hw
    rcases hw with rfl | rfl | rfl
    · exact sg_pr (by simp [signs])
    · exact (any_wok hs.1 hs.2.1).pr
    · exact (any_wok hs.1 hs.2.2.1).pr
theorem say_Wne {s : Say} (hs : s.ok) : s.W ≠ [] := by
  cases s with
  | rows b h =>
    have : (Say.rows b h).W = atsW b ++ ("=>" : Str) :: atsW h := aft_tail (ats_ne hs.1) _
    rw [this]; simp
  | same b x y =>
    have : (Say.same b x y).W = atsW b ++ [("~" : Str), x, y] := aft_tail (ats_ne hs.1) _
    rw [this]; simp
theorem pr_sp {w : Str} (h : pr w) : 32 ∉ tl w := fun hm => by
  have := h 32 hm
  omega
theorem join_chars : ∀ (ps : List (List Nat)), (∀ p ∈ ps, ∀ c ∈ p, 33 ≤ c ∧ c ≤ 126) → ∀ c ∈ joinL [32] ps, 32 ≤ c ∧ c ≤ 126
  | [], _ => by simp [joinL]
  | [p], h => fun c hc => by
    have := h p (by simp) c hc
    omega
  | p :: q :: r, h => fun c hc => by
    have hc : c ∈ p ++ ([32] ++ joinL [32] (q :: r)) := hc
    rcases List.mem_append.mp hc with hc | hc
    · have := h p (by simp) c hc
      omega
    · rcases List.mem_append.mp hc with hc | hc
      · rw [List.mem_singleton.mp hc]; decide
      · exact join_chars (q :: r) (fun x hx => h x (List.mem_cons_of_mem _ hx)) c hc
theorem no_break : ∀ c, 32 ≤ c → c ≤ 126 → Unicode.isLineBreak c = false := fun c h1 h2 => by
  have h : ∀ i : Fin 95, Unicode.isLineBreak (32 + i.val) = false := by decide +kernel
  have := h ⟨c - 32, by omega⟩
  have e : 32 + (c - 32) = c := by omega
  simp only [e] at this
  exact this
/-- a row: signs that are seen, and spaces -/
def row (w : Str) : Prop := tl w ≠ [] ∧ ∀ c ∈ tl w, 32 ≤ c ∧ c ≤ 126
theorem row.nb {w : Str} (h : row w) : tl w ≠ [] ∧ ∀ c ∈ tl w, Unicode.isLineBreak c = false := ⟨h.1, fun c hc => no_break c (h.2 c hc).1 (h.2 c hc).2⟩
theorem row_of {l : List Str} {w : Str} (hw : ∃ x r, l = x :: r ∧ tl x ≠ []) (h : ∀ x ∈ l, pr x) (e : w = Txt.join " " l) : row w := by
  have e1 : tl w = joinL [32] (l.map tl) := by rw [e, join_eq, tl_join, sp_tl]
  refine ⟨?_, fun c hc => ?_⟩
  · obtain ⟨x, r, rfl, hx⟩ := hw
    rw [e1]
    cases r with
    | nil => exact hx
    | cons y r =>
      show tl x ++ _ ≠ []
      simp [hx]
  · rw [e1] at hc
    refine join_chars _ (fun p hp => ?_) c hc
    obtain ⟨x, hx, rfl⟩ := List.mem_map.mp hp
    exact h x hx
theorem wok.ne {w : Str} (h : wok w) : tl w ≠ [] := fun e => by
  have := h.1
  rw [e] at this
  simp at this
theorem fact_row {f : Fact} (h : f.ok) : row f.x := row_of ⟨f.t, f.vs.map Val.t, rfl, h.1.ne⟩ (fun x hx => by
  rcases List.mem_cons.mp hx with rfl | hx
  · exact h.1.pr
  · obtain ⟨v, hv, rfl⟩ := List.mem_map.mp hx
    exact Val.pr (h.2.2.2 v hv)) rfl
theorem atsW_head {l : List Atom} (h : atsOk l) : ∃ x r, atsW l = x :: r ∧ tl x ≠ [] := by
  cases l with
  | nil => exact absurd rfl (ats_ne h)
  | cons a r => exact ⟨a.t, _, rfl, (h.2.2 a (by simp)).1.ne⟩
theorem say_row {s : Say} (h : s.ok) : row s.x := row_of (by
  cases s with
  | rows b h' =>
    obtain ⟨x, r, e, hx⟩ := atsW_head h.1
    have hw : (Say.rows b h').W = atsW b ++ ("=>" : Str) :: atsW h' := aft_tail (ats_ne h.1) _
    rw [hw, e]
    exact ⟨x, _, rfl, hx⟩
  | same b p q =>
    obtain ⟨x, r, e, hx⟩ := atsW_head h.1
    have hw : (Say.same b p q).W = atsW b ++ [("~" : Str), p, q] := aft_tail (ats_ne h.1) _
    rw [hw, e]
    exact ⟨x, _, rfl, hx⟩) (say_pr h) (say_tl h)
theorem row.sok {w : Str} (h : row w) : sOk w := sOk_of fun c hc => by
  have := h.2 c hc
  omega
theorem read_saying {s : Say} (hs : s.ok) (hn : 100 ≤ n) (hz : ∀ S G, Mi.settle ln S G = .ok ln S G) : ∃ g', rawF prg n (k + 13) "read_saying" [.str s.x, ln] G0 = .ok s.d (trH G0 ln g' []) := by
  have hsp : Txt.split s.x " " = s.W := by
    rw [say_tl hs]
    exact split_join (s := 32) (S := []) (by decide) (by decide +kernel) (say_Wne hs) (fun p hp => pr_sp (say_pr hs p hp))
  have e1 := mk_trail (n := n) (k := k + 10) (G0 := G0) (ln := ln) (S := [.val (.str s.x), .val ln]) rfl rfl hsp (by have := say_len hs; omega) hz
  obtain ⟨g', e2⟩ := saying_from (n := n) (k := k) (G0 := G0) (ln := ln) (g := 0) hs hn
  refine ⟨g', ?_⟩
  rw [raw_read_saying]
  simp [-e_mk, f_read_saying, e1, e2]
end
end K85

end
section
set_option Elab.async false
set_option linter.all false
set_option maxRecDepth 100000
set_option maxHeartbeats 1000000
namespace K85
open PySem Mi Mi.X TL
section
variable {n k : Nat} {G0 : List MO} {ln : D} {g : Int} {ws : List Str} {G : List MO}
theorem trH_app (G : List MO) (ln : D) (g : Int) (ws : List Str) : ∃ E, trH G ln g ws = G ++ E := ⟨_, rfl⟩
theorem enum_ok {α : Type} {l : List α} {f : α → Str} {text : Str} {S : List Mi.Slot} (hS : S[0]? = some (.val (.str text))) (hl : Txt.lines text = l.map f) (hlen : text.length ≤ 10000) (hc : l.length ≤ 1000) :
    evI (fnsF prg n k) (.enum (.bm .lines (.v 0) .nil)) S G = .ok (l.zipIdx.map fun p => .tup [.int (p.2 : Nat), .str (f p.1)]) S G := by
  have h1 : text.length + 2 ≤ 16777216 ∧ (lineCuts text).length ≤ 16777216 := by
    rw [cuts_len, hl, List.length_map]
    omega
  have e : ((l.map f).map D.str).zipIdx.map (fun p => D.tup [.int (p.2 : Nat), p.1]) = l.zipIdx.map fun p => .tup [.int (p.2 : Nat), .str (f p.1)] := by
    rw [List.map_map, List.zipIdx_map, List.map_map]
    rfl
  have hb : evE (fnsF prg n k) (.bm .lines (.v 0) .nil) S G = .ok (.lst ((l.map f).map .str)) S G := by
    have e2 : evBm .lines (.str text) [] S G = .ok (.lst ((l.map f).map .str)) S G := by
      rw [x_lines, hl]
      exact if_pos h1
    simp [-x_lines, -List.map_map, hS, e2]
  rw [Mi.X.i_enum, x_bind, hb]
  show enumI (.lst ((l.map f).map .str)) S G = _
  rw [x_enumI_l, e]
theorem read_sayings {l : List Say} {text : Str} (hl : Txt.lines text = l.map Say.x) (hs : ∀ s ∈ l, s.ok) (hlen : text.length ≤ 10000) (hc : l.length ≤ 1000) (hn : 100 ≤ n) : ∃ E, rawF prg n (k + 15) "read_sayings" [.str text] G = .ok (saysD l) (G ++ E) := by
  rw [raw_read_sayings]
  obtain ⟨r, G', hr, hacc, E, hE⟩ : ∃ r G', evE (fnsF prg n (k + 14)) L_read_sayings_0 [.val (.str text), .no, .no] G = .ok (.lst r) [.val (.str text), .no, .no] G' ∧ (r = l.zipIdx.map (fun p => p.1.d) ∧ ∃ E, G' = G ++ E) := by
    refine lc_2 (fun p : Say × Nat => D.int (p.2 : Nat)) (fun p : Say × Nat => D.str p.1.x) (l := l.zipIdx) (fun done acc G' => acc = done.map (fun p => p.1.d) ∧ ∃ E, G' = G ++ E) (enum_ok rfl hl hlen hc) rfl rfl rfl rfl (by decide) (by rw [List.length_zipIdx]; show _ ≤ 16777216; omega) ?_ ⟨rfl, [], by simp⟩
    rintro ⟨s, i⟩ hp done acc G1 hN ⟨rfl, E, rfl⟩
    have hsl : s ∈ l := List.fst_mem_of_mem_zipIdx hp
    obtain ⟨g', e⟩ := read_saying (n := n) (k := k) (G0 := G ++ E) (ln := .int (i : Nat)) (hs s hsl) hn (fun _ _ => rfl)
    obtain ⟨E2, hE2⟩ := trH_app (G ++ E) (.int (i : Nat)) g' []
    refine .inl ⟨rfl, s.d, trH (G ++ E) (.int (i : Nat)) g' [], ?_, by simp, E ++ E2, by rw [hE2, List.append_assoc]⟩
    simp [e]
  refine ⟨E, ?_⟩
  have hz : l.zipIdx.map (fun p => p.1.d) = l.map Say.d := by
    conv => rhs; rw [← List.zipIdx_map_fst 0 l]
    rw [List.map_map]; rfl
  rw [hacc, hz, hE] at hr
  simp [f_read_sayings, hr, saysD]
theorem value_key (v : Val) : rawF prg n (k + 1) "value_key" [v.d] G = .ok v.kd G := by
  rw [raw_value_key]
  cases v <;> simp [f_value_key, Val.d, Val.kd, Val.tag]
theorem fact_key {f : Fact} (h : f.vs.length ≤ 100) : rawF prg n (k + 5) "fact_key" [f.d] G = .ok f.kd2 G := by
  have e : evE (fnsF prg n (k + 2)) L_values_key_0 [.val (.tup (f.vs.map Val.d)), .no] G = .ok (.lst (f.vs.map Val.kd)) [.val (.tup (f.vs.map Val.d)), .no] G := by
    refine lc_1p Val.d (l := f.vs) Val.kd ?_ rfl rfl (by show _ ≤ 16777216; omega) fun v hv => ?_
    · simp
    · have := value_key (n := n) (k := k) (G := G) v
      have h2 : ∀ S G, Mi.settle v.kd S G = .ok v.kd S G := fun _ _ => rfl
      simp [settle_d, this, h2]
  have e2 : rawF prg n (k + 3) "values_key" [.tup (f.vs.map Val.d)] G = .ok (.tup (f.vs.map Val.kd)) G := by
    rw [raw_values_key]
    simp [f_values_key, e]
  rw [raw_fact_key]
  simp [f_fact_key, Fact.d, ix_t0, ix_t1, e2, Fact.kd2]
theorem world_of {l : List Fact} (hl : ∀ f ∈ l, f.ok) (hc : l.length ≤ 1000) : rawF prg n (k + 7) "world_of" [worldD l] G = .ok (worldD (sortF (puts [] l))) G := by
  rw [raw_world_of]
  obtain ⟨S', G', e, rfl, s, rfl⟩ : ∃ S' G', evS (fnsF prg n (k + 6)) L_world_of_0 [.val (worldD l), .dic [] [], .no] G = .ok .nx S' G' ∧ (G' = G ∧ ∃ s : Mi.Slot, S' = [.val (worldD l), .dic ((puts [] l).map Fact.d) ((puts [] l).map fun _ => .bl true), s]) := by
    refine for_st Fact.d (l := l) (fun done S G' => G' = G ∧ ∃ s : Mi.Slot, S = [.val (worldD l), .dic ((puts [] done).map Fact.d) ((puts [] done).map fun _ => .bl true), s]) ?_ ?_ ⟨rfl, .no, rfl⟩
    · simp [worldD]
    · rintro f hf done S G' hN ⟨rfl, s, rfl⟩
      have hpl := puts_len done ([] : List Fact)
      have e2 := setdefault_enc Fact.d (v := .bl true) fact_hb fact_okk (S := [.val (worldD l), .dic ((puts [] done).map Fact.d) ((puts [] done).map fun _ => .bl true), .val f.d]) (G := G') (i := 1) (K := puts [] done) rfl f (by show _ < 16777216; simp at hpl; omega)
      refine ⟨[.val (worldD l), .dic ((puts [] (done ++ [f])).map Fact.d) ((puts [] (done ++ [f])).map fun _ => .bl true), .val f.d], G', ?_, rfl, _, rfl⟩
      have e3 : puts [] (done ++ [f]) = if f ∈ puts [] done then puts [] done else puts [] done ++ [f] := by rw [puts_app]; rfl
      rw [e3]
      generalize puts [] done = K at *
      simp [e2]
  have hK : ∀ f ∈ puts [] l, f.ok := fun f hf => hl f (by simpa using (puts_mem l []).mp hf)
  generalize puts [] l = K at *
  have e1 := sortBy_enc (l := K) Fact.kp2 (kd := Fact.kd2) (enc := Fact.d) (fun f _ => kd2_py f) (keys_2 hK)
  have e7 : ∀ S, ∀ F : D → Ev D, (∀ f ∈ K, F f.d S G' = .ok f.kd2 S G') → Mi.noEx ((loopKeys F (K.map Fact.d) []).bind fun ks => Ev.lift ((sortBy ks (K.map Fact.d)).map D.lst)) S G' = .ok (D.lst ((sortF K).map Fact.d)) S G' := fun S F hF => by
    have e1' := loopKeys_enc (enc := Fact.d) (kd := Fact.kd2) (key := F) K [] hF
    rw [x_noEx, x_bind, e1', List.nil_append]
    dsimp only [Rs.andThen]
    rw [e1]
    rfl
  have e8 : evE (fnsF prg n (k + 6)) L_world_of_1 [.val (worldD l), .dic (K.map Fact.d) (K.map fun _ => .bl true), s] G' = .ok (.lst ((sortF K).map Fact.d)) [.val (worldD l), .dic (K.map Fact.d) (K.map fun _ => .bl true), s] G' := by
    show evE _ (.srt _ _) _ _ = _
    rw [e_srt]
    have e4 : evE (fnsF prg n (k + 6)) (.v 1) [.val (worldD l), .dic (K.map Fact.d) (K.map fun _ => .bl true), s] G' = .ok (.slot 1) [.val (worldD l), .dic (K.map Fact.d) (K.map fun _ => .bl true), s] G' := by simp
    have e6 : (Ev.look fun σ G => srcOf σ G (.slot 1)) [.val (worldD l), .dic (K.map Fact.d) (K.map fun _ => .bl true), s] G' = .ok (K.map Fact.d) [.val (worldD l), .dic (K.map Fact.d) (K.map fun _ => .bl true), s] G' := by rw [x_look, x_src_sl]; rfl
    rw [x_bind, e4]
    dsimp only [Rs.andThen]
    rw [x_bind, e6]
    dsimp only [Rs.andThen]
    refine e7 _ _ fun f hf => ?_
    show fromFO ((fnsF prg n (k + 6)).call "fact_key" [f.d] G') _ = _
    rw [call_fact_key, fact_key (by have := (hK f hf).2.2.1; omega)]
    rfl
  simp [f_world_of, e, e8]
  rfl
theorem read_world {l : List Fact} {text : Str} (hl : Txt.lines text = l.map Fact.x) (hs : ∀ s ∈ l, s.ok) (hlen : text.length ≤ 10000) (hc : l.length ≤ 1000) (hn : 100 ≤ n) : ∃ E, rawF prg n (k + 11) "read_world" [.str text] G = .ok (worldD (sortF (puts [] l))) (G ++ E) := by
  rw [raw_read_world]
  obtain ⟨r, G', hr, hacc, E, hE⟩ : ∃ r G', evE (fnsF prg n (k + 10)) L_read_world_0 [.val (.str text), .no, .no] G = .ok (.lst r) [.val (.str text), .no, .no] G' ∧ (r = l.zipIdx.map (fun p => p.1.d) ∧ ∃ E, G' = G ++ E) := by
    refine lc_2 (fun p : Fact × Nat => D.int (p.2 : Nat)) (fun p : Fact × Nat => D.str p.1.x) (l := l.zipIdx) (fun done acc G' => acc = done.map (fun p => p.1.d) ∧ ∃ E, G' = G ++ E) (enum_ok rfl hl hlen hc) rfl rfl rfl rfl (by decide) (by rw [List.length_zipIdx]; show _ ≤ 16777216; omega) ?_ ⟨rfl, [], by simp⟩
    rintro ⟨s, i⟩ hp done acc G1 hN ⟨rfl, E, rfl⟩
    have hsl : s ∈ l := List.fst_mem_of_mem_zipIdx hp
    obtain ⟨g', e⟩ := read_fact (n := n) (k := k) (G0 := G ++ E) (ln := .int (i : Nat)) (hs s hsl) hn (fun _ _ => rfl)
    obtain ⟨E2, hE2⟩ := trH_app (G ++ E) (.int (i : Nat)) g' []
    refine .inl ⟨rfl, s.d, trH (G ++ E) (.int (i : Nat)) g' [], ?_, by simp, E ++ E2, by rw [hE2, List.append_assoc]⟩
    simp [e]
  refine ⟨E, ?_⟩
  have hz : l.zipIdx.map (fun p => p.1.d) = l.map Fact.d := by
    conv => rhs; rw [← List.zipIdx_map_fst 0 l]
    rw [List.map_map]; rfl
  rw [hacc, hz, hE] at hr
  have e2 : rawF prg n (k + 9) "world_of" [.tup (l.map Fact.d)] (G ++ E) = _ := world_of (n := n) (k := k + 2) (G := G ++ E) hs hc
  simp [f_read_world, hr, e2]
end
end K85

end
section
set_option Elab.async false
set_option linter.all false
set_option maxRecDepth 100000
set_option maxHeartbeats 1000000
/-! Mr: repr of data. -/
namespace Mi
open PySem PySem.StrLaws PySem.Builtin PySem.Builtin.Str TL X
/-- a datum that can be shown and compared; w bounds its weight, dp its depth -/
structure Nice (w dp : Nat) (d : D) (p : PyData) : Prop where
  py : d.py = some p
  sh : p.showable = true
  lay : p.canLay0 = true
  lv : p.leavesShort 13 = true
  dep : p.depth ≤ dp
  wt : p.weight ≤ w
inductive NiceL (w dp : Nat) : List D → List PyData → Prop where
  | nil : NiceL w dp [] []
  | cons {d : D} {p : PyData} {ds : List D} {ps : List PyData} (h : Nice w dp d p) (r : NiceL w dp ds ps) : NiceL w dp (d :: ds) (p :: ps)
theorem NiceL.map {α : Type} {w dp : Nat} {f : α → D} {g : α → PyData} : ∀ {l : List α}, (∀ a ∈ l, Nice w dp (f a) (g a)) → NiceL w dp (l.map f) (l.map g)
  | [], _ => .nil
  | a :: l, h => .cons (h a (List.mem_cons_self ..)) (NiceL.map fun b hb => h b (List.mem_cons_of_mem _ hb))
theorem Nice.mono {w dp w' dp' : Nat} {d : D} {p : PyData} (h : Nice w dp d p) (hw : w ≤ w') (hd : dp ≤ dp') : Nice w' dp' d p := ⟨h.py, h.sh, h.lay, h.lv, Nat.le_trans h.dep hd, Nat.le_trans h.wt hw⟩
theorem NiceL.all {w dp : Nat} {ds : List D} {ps : List PyData} (h : NiceL w dp ds ps) : D.pys ds = some ps ∧ PyData.showableAll ps = true ∧ PyData.canLayAll0 ps = true ∧ PyData.leavesShortAll 13 ps = true ∧ PyData.depthAll ps ≤ dp ∧ PyData.weightAll ps ≤ ps.length * (w + 1) ∧ ps.length = ds.length := by
  induction h with
  | nil => refine ⟨rfl, rfl, rfl, rfl, Nat.zero_le _, Nat.zero_le _, rfl⟩
  | cons h r ih =>
    obtain ⟨i1, i2, i3, i4, i5, i6, i7⟩ := ih
    refine ⟨?_, ?_, ?_, ?_, ?_, ?_, ?_⟩
    · simp [D.pys, h.py, i1]
    · simp [PyData.showableAll, h.sh, i2]
    · simp [PyData.canLayAll0, h.lay, i3]
    · simp [PyData.leavesShortAll, h.lv, i4]
    · have := h.dep
      simp only [PyData.depthAll]
      omega
    · have := h.wt
      simp only [PyData.weightAll, List.length_cons, Nat.add_mul, Nat.one_mul]
      omega
    · simp [i7]
theorem Nice.tup {w dp n : Nat} {ds : List D} {ps : List PyData} (h : NiceL w dp ds ps) (hn : ds.length ≤ n) : Nice (n * (w + 1)) (dp + 1) (.tup ds) (.tuple ps) := by
  obtain ⟨i1, i2, i3, i4, i5, i6, i7⟩ := h.all
  refine ⟨by simp [D.py, i1], i2, by simp [PyData.canLay0, i3], by simp [PyData.leavesShort, i4], by simp only [PyData.depth]; omega, ?_⟩
  simp only [PyData.weight]
  exact Nat.le_trans i6 (Nat.mul_le_mul_right _ (by omega))
theorem Nice.lst {w dp n : Nat} {ds : List D} {ps : List PyData} (h : NiceL w dp ds ps) (hn : ds.length ≤ n) : Nice (n * (w + 1)) (dp + 1) (.lst ds) (.list ps) := by
  obtain ⟨i1, i2, i3, i4, i5, i6, i7⟩ := h.all
  refine ⟨by simp [D.py, i1], i2, by simp [PyData.canLay0, i3], by simp [PyData.leavesShort, i4], by simp only [PyData.depth]; omega, ?_⟩
  simp only [PyData.weight]
  exact Nat.le_trans i6 (Nat.mul_le_mul_right _ (by omega))
theorem sOk_lt {x : Str} (h : sOk x) : ∀ c ∈ tl x, c < 0x110000 := fun c hc => by
  have h : x.cps.all (· < 0x110000) = true := h
  rw [← Array.all_toList] at h
  exact of_decide_eq_true (List.all_eq_true.mp h c hc)
theorem sOk_tl {w : Str} (h : ∀ c ∈ tl w, c < 0x110000) : sOk w := by
  show w.cps.all (· < 0x110000) = true
  rw [← Array.all_toList]
  exact List.all_eq_true.mpr fun c hc => decide_eq_true (h c hc)
theorem Nice.str {w : Str} {B : Nat} (h : sOk w) (hl : w.length ≤ B) : Nice B 0 (.str w) (.str w) := by
  refine ⟨rfl, rfl, h, ?_, Nat.le_refl _, hl⟩
  simp only [PyData.leavesShort]
  exact List.all_eq_true.mpr fun c hc => decide_eq_true (by have := sOk_lt h c hc; omega)
theorem sOk_app {x y : Str} (hx : sOk x) (hy : sOk y) : sOk (x ++ y) := sOk_tl fun c hc => by
  rw [tl_append] at hc
  rcases List.mem_append.mp hc with h | h
  · exact sOk_lt hx c h
  · exact sOk_lt hy c h
theorem char_lt (c : Char) : c.toNat < 0x110000 := by
  have := c.valid
  rcases this with h | h
  · have : c.toNat = c.val.toNat := rfl
    omega
  · have : c.toNat = c.val.toNat := rfl
    omega
theorem sOk_of_string (s : String) : sOk (s : Str) := sOk_tl fun c hc => by
  have hc : c ∈ ((s : Str).cps.toList) := hc
  have e : ((s : Str).cps.toList) = s.toList.map Char.toNat := by
    show (PySem.Str.ofString s).cps.toList = _
    rw [PySem.Str.ofString_eq_toList]
  rw [e] at hc
  obtain ⟨d, _, rfl⟩ := List.mem_map.mp hc
  exact char_lt d
theorem reprChar_ok {q c : Nat} (hc : c < 0x110000) : ∀ x ∈ reprChar q c, x < 0x110000 := by
  have hx : ∀ w, ∀ x ∈ List.replicate (w - ((Nat.toDigits 16 c).map Char.toNat).length) 48 ++ (Nat.toDigits 16 c).map Char.toNat, x < 0x110000 := fun w x hx => by
    rcases List.mem_append.mp hx with h | h
    · rw [(List.mem_replicate.mp h).2]; decide
    · obtain ⟨d, _, rfl⟩ := List.mem_map.mp h
      exact char_lt d
  intro x h
  unfold reprChar at h
  dsimp only at h
  repeat' split at h
  all_goals first
    | (simp only [List.mem_cons, List.not_mem_nil, or_false] at h; omega)
    | (rcases List.mem_append.mp h with h | h
       · simp only [List.mem_cons, List.not_mem_nil, or_false] at h; omega
       · exact hx _ x h)
theorem foldl_repr_ok (q : Nat) : ∀ (l : List Nat) (acc : Array Nat), (∀ c ∈ l, c < 0x110000) → (∀ c ∈ acc.toList, c < 0x110000) → ∀ c ∈ (l.foldl (fun out c => out ++ (reprChar q c).toArray) acc).toList, c < 0x110000
  | [], acc, _, h => h
  | c :: r, acc, hl, h => by
    rw [List.foldl_cons]
    refine foldl_repr_ok q r _ (fun d hd => hl d (List.mem_cons_of_mem _ hd)) fun d hd => ?_
    rw [Array.toList_append] at hd
    rcases List.mem_append.mp hd with hd | hd
    · exact h d hd
    · exact reprChar_ok (hl c (List.mem_cons_self ..)) d hd
theorem reprQuote_lt (x : Str) : reprQuote x < 0x110000 := by
  unfold reprQuote
  split <;> decide
theorem repr_sok {x : Str} (h : sOk x) : sOk (reprText x) := sOk_tl fun c hc => by
  unfold reprText at hc
  have hc : c ∈ ((x.cps.foldl (fun out c => out ++ (reprChar (reprQuote x) c).toArray) #[reprQuote x]).push (reprQuote x)).toList := hc
  rw [Array.toList_push, ← Array.foldl_toList] at hc
  rcases List.mem_append.mp hc with hc | hc
  · exact foldl_repr_ok _ _ _ (sOk_lt h) (fun d hd => by rw [List.mem_singleton.mp hd]; exact reprQuote_lt x) c hc
  · rw [List.mem_singleton.mp hc]; exact reprQuote_lt x
theorem join_sok {a : Str} (ha : sOk a) : ∀ {ts : List Str}, (∀ t ∈ ts, sOk t) → sOk (PySem.Str.join a ts)
  | [], _ => sOk_tl fun c hc => by cases hc
  | [t], h => h t (List.mem_cons_self ..)
  | t :: u :: r, h => by
    show sOk (t ++ a ++ PySem.Str.join a (u :: r))
    exact sOk_app (sOk_app (h t (List.mem_cons_self ..)) ha) (join_sok ha fun x hx => h x (List.mem_cons_of_mem _ hx))
mutual
theorem shown_sok : ∀ p : PyData, p.canLay0 = true → sOk p.shown
  | .none, _ => sOk_of_string _
  | .bool b, _ => by
    rw [PyData.shown_bool]
    cases b <;> exact sOk_of_string _
  | .int i, _ => by
    rw [PyData.shown_int]
    exact sOk_of_string _
  | .str x, h => by
    rw [PyData.shown_str]
    exact repr_sok h
  | .list xs, h => by
    rw [PyData.shown_list]
    exact sOk_app (sOk_app (sOk_of_string _) (join_sok (sOk_of_string _) (shown_soks xs (by simpa [PyData.canLay0] using h)))) (sOk_of_string _)
  | .tuple xs, h => by
    rw [PyData.shown_tuple]
    exact sOk_app (sOk_app (sOk_of_string _) (join_sok (sOk_of_string _) (shown_soks xs (by simpa [PyData.canLay0] using h)))) (sOk_of_string _)
  | .dict _, h => by simp [PyData.canLay0] at h
theorem shown_soks : ∀ ps : List PyData, PyData.canLayAll0 ps = true → ∀ t ∈ PyData.shownAll ps, sOk t
  | [], _ => by simp [PyData.shownAll]
  | p :: r, h => by
    have h' : p.canLay0 = true ∧ PyData.canLayAll0 r = true := by simpa [PyData.canLayAll0] using h
    rw [PyData.shownAll_cons]
    intro t ht
    rcases List.mem_cons.mp ht with rfl | ht
    · exact shown_sok p h'.1
    · exact shown_soks r h'.2 t ht
end
theorem opy_py {d : D} {p : PyData} (h : d.py = some p) (S : List Slot) (G : List MO) : opy S G d = some p := by
  cases d <;> first | exact h | (simp [D.py] at h)
/-- repr of nice data -/
theorem Nice.repr {w dp : Nat} {d : D} {p : PyData} (h : Nice w dp d p) (hw : w ≤ 1000000) (hd : dp ≤ 64) (S : List Slot) (G : List MO) : bi1 Bi.repr S G d = some (.str p.shown) := by
  have h1 := PyData.shown_le 13 (by decide) p h.lv
  have h2 := h.wt
  have h3 := h.dep
  show (match opy S G d with
    | some p => if p.showable = true ∧ p.depth ≤ 64 ∧ p.shown.length + 64 ≤ sizeLine then some (D.str p.shown) else none
    | none => none) = _
  rw [opy_py h.py]
  exact if_pos ⟨h.sh, by omega, by show _ ≤ 16777216; omega⟩
theorem Nice.shaped {w dp : Nat} {d : D} {p : PyData} (h : Nice w dp d p) (hd : dp ≤ 64) : SeqAt.shaped p = true := by
  have := h.dep
  unfold SeqAt.shaped
  rw [h.lay]
  simp
  omega
theorem Nice.eq {w dp w' dp' : Nat} {d e : D} {p q : PyData} (h : Nice w dp d p) (h' : Nice w' dp' e q) (hd : dp ≤ 64) (hd' : dp' ≤ 64) (S : List Slot) (G : List MO) : cmp2 .eq S G d e = some (PyData.eqv p q) := by
  show (match opy S G d, opy S G e with
    | some p, some q => if SeqAt.shaped p && SeqAt.shaped q then some (PyData.eqv p q) else none
    | _, _ => none) = _
  rw [opy_py h.py, opy_py h'.py]
  exact if_pos (by rw [h.shaped hd, h'.shaped hd']; rfl)
theorem Nice.ne {w dp w' dp' : Nat} {d e : D} {p q : PyData} (h : Nice w dp d p) (h' : Nice w' dp' e q) (hd : dp ≤ 64) (hd' : dp' ≤ 64) (S : List Slot) (G : List MO) : cmp2 .ne S G d e = some (!PyData.eqv p q) := by
  show (match opy S G d, opy S G e with
    | some p, some q => if SeqAt.shaped p && SeqAt.shaped q then some (!PyData.eqv p q) else none
    | _, _ => none) = _
  rw [opy_py h.py, opy_py h'.py]
  exact if_pos (by rw [h.shaped hd, h'.shaped hd']; rfl)
theorem Nice.sok {w dp : Nat} {d : D} {p : PyData} (h : Nice w dp d p) : sOk p.shown := shown_sok p h.lay
theorem nes_self {x : Str} (h : sOk x) (S : List Slot) (G : List MO) : cmp2 .ne S G (.str x) (.str x) = some false := by
  rw [x_nes S G h h]; simp
end Mi

end
section
set_option Elab.async false
set_option linter.all false
set_option maxRecDepth 100000
set_option maxHeartbeats 1000000
namespace K85
open PySem Mi Mi.X TL
section
variable {n k : Nat} {G : List MO}
theorem puts_self {α : Type} [DecidableEq α] {W : List α} (h : W.Nodup) : puts [] W = W := by
  rw [puts_new W [] (by simpa using h)]; rfl
theorem W_self {W : List Fact} (h : wOk W) : sortF (puts [] W) = W := by rw [puts_self h.1, h.2.2.2]
theorem W_rev {W : List Fact} (h : wOk W) : sortF (puts [] (W.reverse ++ W.take 1)) = W := by
  have hr : W.reverse.Nodup := (List.reverse_perm W).nodup_iff.mpr h.1
  rw [puts_app, puts_self hr, puts_sub _ _ fun w hw => List.mem_reverse.mpr (List.mem_of_mem_take hw)]
  have e : sortF W.reverse = sortF W := sort_perm Fact.kp2 (List.reverse_perm W) fun a _ b _ h => toks_inj a b h
  rw [e, h.2.2.2]
theorem lines_world {W : List Fact} (h : ∀ f ∈ W, f.ok) : Txt.lines (Txt.join "\n" (W.map Fact.x)) = W.map Fact.x := lines_join fun w hw => by
  obtain ⟨f, hf, rfl⟩ := List.mem_map.mp hw
  exact (fact_row (h f hf)).nb
theorem lines_world_nl {W : List Fact} (hne : W ≠ []) (h : ∀ f ∈ W, f.ok) : Txt.lines (Txt.join "\n" (W.map Fact.x) ++ "\n") = W.map Fact.x := lines_join_nl (by simpa using hne) fun w hw => by
  obtain ⟨f, hf, rfl⟩ := List.mem_map.mp hw
  exact (fact_row (h f hf)).nb.2
theorem lines_says {W : List Say} (h : ∀ f ∈ W, f.ok) : Txt.lines (Txt.join "\n" (W.map Say.x)) = W.map Say.x := lines_join fun w hw => by
  obtain ⟨f, hf, rfl⟩ := List.mem_map.mp hw
  exact (say_row (h f hf)).nb
theorem lines_says_nl {W : List Say} (hne : W ≠ []) (h : ∀ f ∈ W, f.ok) : Txt.lines (Txt.join "\n" (W.map Say.x) ++ "\n") = W.map Say.x := lines_join_nl (by simpa using hne) fun w hw => by
  obtain ⟨f, hf, rfl⟩ := List.mem_map.mp hw
  exact (say_row (h f hf)).nb.2
theorem world_len {W : List Fact} (hl : W.length ≤ 8) (h : ∀ f ∈ W, f.ok) : (Txt.join "\n" (W.map Fact.x)).length ≤ 3000 := nl_len2 hl fun a ha => by have := fact_len (h a ha); omega
theorem says_len {W : List Say} (hl : W.length ≤ 8) (h : ∀ f ∈ W, f.ok) : (Txt.join "\n" (W.map Say.x)).length ≤ 3000 := nl_len2 hl fun a ha => say_len (h a ha)
theorem law_read {t : Thing} (h : t.ok) {at_ : Int} (b : Bool) (hn : 100 ≤ n) : ∃ E, rawF prg n (k + 17) "_law_read" [.str t.s, .str t.x, .bl b, .int at_] G = .ok t.d (G ++ E) := by
  rw [raw_law_read]
  cases t with
  | fact f =>
    obtain ⟨g', e⟩ := read_fact (n := n) (k := k + 6) (G0 := G) (ln := .int at_) h hn (fun _ _ => rfl)
    obtain ⟨E, hE⟩ := trH_app G (.int at_) g' []
    rw [hE] at e
    refine ⟨E, ?_⟩
    cases b <;> simp [f_law_read, Thing.s, Thing.d, Thing.x, e]
  | say f =>
    obtain ⟨g', e⟩ := read_saying (n := n) (k := k + 2) (G0 := G) (ln := .int at_) h hn (fun _ _ => rfl)
    obtain ⟨E, hE⟩ := trH_app G (.int at_) g' []
    rw [hE] at e
    refine ⟨E, ?_⟩
    cases b <;> simp [f_law_read, Thing.s, Thing.d, Thing.x, e]
  | world W =>
    have h : wOk W := h
    have hl := h.2.2.1
    obtain ⟨E, e⟩ := read_world (n := n) (k := k + 4) (G := G) (l := W) (text := worldX W) (lines_world h.2.1) h.2.1 (by have := world_len (W := W) (by omega) h.2.1; show (Txt.join "\n" (W.map Fact.x)).length ≤ _; omega) (by omega) hn
    rw [W_self h] at e
    refine ⟨E, ?_⟩
    cases b <;> simp [f_law_read, Thing.s, Thing.d, Thing.x, e]
  | says l =>
    have h : saysOk l := h
    have hl := h.1
    obtain ⟨E, e⟩ := read_sayings (n := n) (k := k) (G := G) (l := l) (text := saysX l) (lines_says h.2) h.2 (by have := says_len (W := l) (by omega) h.2; show (Txt.join "\n" (l.map Say.x)).length ≤ _; omega) (by omega) hn
    refine ⟨E, ?_⟩
    cases b <;> simp [f_law_read, Thing.s, Thing.d, Thing.x, e]
/-- with a line end behind -/
theorem law_read_nl {t : Thing} (h : t.ok) (hne : t.d ≠ .tup []) (hs : t.s = "world" ∨ t.s = "sayings") (hn : 100 ≤ n) : ∃ E, rawF prg n (k + 17) "_law_read" [.str t.s, .str (t.x ++ "\n"), .bl false, .int 0] G = .ok t.d (G ++ E) := by
  rw [raw_law_read]
  cases t with
  | fact f => exact absurd hs (show ¬ (("fact" : Str) = "world" ∨ ("fact" : Str) = "sayings") by decide +kernel)
  | say f => exact absurd hs (show ¬ (("saying" : Str) = "world" ∨ ("saying" : Str) = "sayings") by decide +kernel)
  | world W =>
    have h : wOk W := h
    have hl := h.2.2.1
    have hne' : W ≠ [] := fun e => hne (by rw [e]; rfl)
    obtain ⟨E, e⟩ := read_world (n := n) (k := k + 4) (G := G) (l := W) (text := worldX W ++ "\n") (lines_world_nl hne' h.2.1) h.2.1 (by have := world_len (W := W) (by omega) h.2.1; show (Txt.join "\n" (W.map Fact.x) ++ "\n").length ≤ _; rw [slen_app, nl_len]; omega) (by omega) hn
    rw [W_self h] at e
    refine ⟨E, ?_⟩
    simp [f_law_read, Thing.s, Thing.d, Thing.x, e]
  | says l =>
    have h : saysOk l := h
    have hl := h.1
    have hne' : l ≠ [] := fun e => hne (by rw [e]; rfl)
    obtain ⟨E, e⟩ := read_sayings (n := n) (k := k) (G := G) (l := l) (text := saysX l ++ "\n") (lines_says_nl hne' h.2) h.2 (by have := says_len (W := l) (by omega) h.2; show (Txt.join "\n" (l.map Say.x) ++ "\n").length ≤ _; rw [slen_app, nl_len]; omega) (by omega) hn
    refine ⟨E, ?_⟩
    simp [f_law_read, Thing.s, Thing.d, Thing.x, e]
/-! ### as data -/
def Term.p (t : Term) : PyData := .tuple [.str t.k, .str t.w]
def Atom.p (a : Atom) : PyData := .tuple [.str a.t, .tuple (a.ts.map Term.p)]
def atsP (l : List Atom) : PyData := .tuple (l.map Atom.p)
def Say.p : Say → PyData
  | .rows b h => .tuple [.str "rows", atsP b, atsP h]
  | .same b x y => .tuple [.str "same", atsP b, .str x, .str y]
def Fact.p (f : Fact) : PyData := .tuple [.str f.t, .tuple (f.vs.map Val.p)]
def Thing.p : Thing → PyData
  | .fact f => f.p
  | .world W => .tuple (W.map Fact.p)
  | .say s => s.p
  | .says l => .tuple (l.map Say.p)
theorem nice_w {w : Str} (h : wok w) : Nice 50 0 (.str w) (.str w) := Nice.str h.sOk (by have := h.len; omega)
theorem nice_val {v : Val} (h : v.ok) : Nice 50 0 v.d v.p := by
  cases v with
  | w s => exact nice_w h
  | n i =>
    have hl := num_len h.1 h.2
    have hg := num_log h.1 h.2
    refine ⟨rfl, decide_eq_true hg, rfl, ?_, Nat.le_refl _, ?_⟩
    · show PyData.leavesShort 13 (.int i) = true
      simp only [PyData.leavesShort, PyData.shown_int]
      exact decide_eq_true hl
    · show PyData.weight (.int i) ≤ 50
      simp only [PyData.weight]
      split
      · omega
      · have h1 : i.natAbs.log2 < 40 := (Nat.log2_lt (by simp_all)).mpr (by have := h.2; have := h.1; omega)
        omega
theorem nice_vals {vs : List Val} (hl : vs.length ≤ 4) (h : ∀ v ∈ vs, v.ok) : Nice 204 1 (.tup (vs.map Val.d)) (.tuple (vs.map Val.p)) := Nice.tup (n := 4) (NiceL.map fun v hv => nice_val (h v hv)) (by simpa using hl)
theorem nice_fact {f : Fact} (h : f.ok) : Nice 500 2 f.d f.p := (Nice.tup (n := 2) (.cons ((nice_w h.1).mono (w' := 204) (dp' := 1) (by omega) (by omega)) (.cons (nice_vals h.2.2.1 h.2.2.2) .nil)) (by simp)).mono (by omega) (by omega)
theorem kk_ok (t : Term) : sOk t.k ∧ t.k.length ≤ 50 := by
  unfold Term.k
  cases t.b <;> decide +kernel
theorem nice_term {t : Term} (h : wok t.w) : Nice 102 1 t.d t.p := Nice.tup (n := 2) (.cons (Nice.str (kk_ok t).1 (kk_ok t).2) (.cons (nice_w h) .nil)) (by simp)
theorem nice_atom {a : Atom} (h : a.ok) : Nice 1000 3 a.d a.p := (Nice.tup (n := 2) (.cons ((nice_w h.1).mono (w' := 309) (dp' := 2) (by omega) (by omega)) (.cons (Nice.tup (n := 3) (NiceL.map fun v hv => nice_term (h.2.2.2 v hv)) (by simpa using h.2.2.1)) .nil)) (by simp)).mono (by omega) (by omega)
theorem nice_ats {l : List Atom} (h : atsOk l) : Nice 3003 4 (atsD l) (atsP l) := Nice.tup (n := 3) (NiceL.map fun v hv => nice_atom (h.2.2 v hv)) (by simpa using h.2.1)
theorem nice_lit {w : Str} (h : sOk w) (hl : w.length ≤ 3003) : Nice 3003 4 (.str w) (.str w) := (Nice.str h hl).mono (Nat.le_refl _) (by omega)
theorem nice_say {s : Say} (h : s.ok) : Nice 20000 5 s.d s.p := by
  cases s with
  | rows b h' => exact (Nice.tup (n := 4) (.cons (nice_lit (by decide +kernel) (by decide +kernel)) (.cons (nice_ats h.1) (.cons (nice_ats h.2) .nil))) (by simp)).mono (by omega) (by omega)
  | same b x y =>
    have w1 := any_wok h.1 h.2.1
    have w2 := any_wok h.1 h.2.2.1
    exact (Nice.tup (n := 4) (.cons (nice_lit (by decide +kernel) (by decide +kernel)) (.cons (nice_ats h.1) (.cons ((nice_w w1).mono (by omega) (by omega)) (.cons ((nice_w w2).mono (by omega) (by omega)) .nil)))) (by simp)).mono (by omega) (by omega)
theorem nice {t : Thing} (h : t.ok) : Nice 100000 6 t.d t.p := by
  cases t with
  | fact f => exact (nice_fact h).mono (by omega) (by omega)
  | say s => exact (nice_say h).mono (by omega) (by omega)
  | world W =>
    have h : wOk W := h
    exact (Nice.tup (n := 4) (NiceL.map fun v hv => nice_fact (h.2.1 v hv)) (by simpa using h.2.2.1)).mono (by omega) (by omega)
  | says W =>
    have h : saysOk W := h
    exact (Nice.tup (n := 4) (NiceL.map fun v hv => nice_say (h.2 v hv)) (by have := h.1; simp; omega)).mono (by omega) (by omega)
theorem nice_nil : Nice 0 1 (.tup []) (.tuple []) := ⟨rfl, rfl, rfl, rfl, Nat.le_refl _, Nat.le_refl _⟩
end
end K85

end
section
set_option Elab.async false
set_option linter.all false
set_option maxRecDepth 100000
set_option maxHeartbeats 1000000
namespace K85
open PySem Mi Mi.X TL
@[reducible] def body0 : Ss := match L_law_0 with
  | .for_ _ _ b => b
  | _ => .nil
theorem Tp.app {T : Nat} {G : List MO} (h : Tp T G) (E : List MO) : Tp T (G ++ E) := by
  obtain ⟨h0, cs, a, l, t, h1, h2⟩ := h
  exact ⟨by rw [List.getElem?_append_left (lt_of_get h0)]; exact h0, cs, a, l, t, by rw [List.getElem?_append_left (lt_of_get h1)]; exact h1, h2⟩
section
variable {n k T : Nat} {G : List MO}
theorem thing_sok {t : Thing} (h : t.ok) : sOk t.x := by
  cases t with
  | fact f => exact (fact_row h).sok
  | say f => exact (say_row h).sok
  | world W =>
    refine sOk_tl fun c hc => ?_
    show c < _
    have hc : c ∈ tl (Txt.join "\n" (W.map Fact.x)) := hc
    rw [join_eq] at hc
    have : sOk (PySem.Str.join "\n" (W.map Fact.x)) := join_sok (by decide +kernel) fun x hx => by
      obtain ⟨f, hf, rfl⟩ := List.mem_map.mp hx
      exact (fact_row ((h : wOk W).2.1 f hf)).sok
    exact sOk_lt this c hc
  | says W =>
    refine sOk_tl fun c hc => ?_
    show c < _
    have hc : c ∈ tl (Txt.join "\n" (W.map Say.x)) := hc
    rw [join_eq] at hc
    have : sOk (PySem.Str.join "\n" (W.map Say.x)) := join_sok (by decide +kernel) fun x hx => by
      obtain ⟨f, hf, rfl⟩ := List.mem_map.mp hx
      exact (say_row ((h : saysOk W).2 f hf)).sok
    exact sOk_lt this c hc
theorem thing_len {t : Thing} (h : t.ok) : t.x.length ≤ 3000 := by
  cases t with
  | fact f => have := fact_len h; show f.x.length ≤ _; omega
  | say f => have := say_len h; show f.x.length ≤ _; omega
  | world W => exact world_len (by have := (h : wOk W).2.2.1; omega) (h : wOk W).2.1
  | says W => exact says_len (by have := (h : saysOk W).1; omega) (h : saysOk W).2
theorem rev_sl {S : List Mi.Slot} {i : Nat} {l : List D} (h : S[i]? = some (.lst l)) (G : List MO) : revOf S G (.slot i) = some (.lst l.reverse) := by
  show (match ct S G (.slot i) with
    | .lst l => some (D.lst l.reverse)
    | _ => none) = _
  rw [x_ct_slot, h]
theorem sl1_sl {S : List Mi.Slot} {i : Nat} {l : List D} (h : S[i]? = some (.lst l)) (hl : l ≠ []) (G : List MO) : slOf S G (.slot i) false .non true (.int 1) = some (.lst (l.take 1)) := by
  unfold slOf
  rw [x_ct_slot, h]
  dsimp only
  have e1 : bnd l.length l.length true (.int 1) = some 1 := by
    show (if (0 : Int) ≤ 1 ∧ (1 : Int) < 2 ^ 62 then some (min (1 : Int).toNat l.length) else none) = _
    rw [if_pos (by decide)]
    have : 0 < l.length := List.length_pos_iff.mpr hl
    congr 1
    show min 1 l.length = 1
    omega
  rw [e1]
  rfl
theorem in_ws {x : Str} {b : Bool} (hx : sOk x) (hb : decide (x ∈ (["world", "sayings"] : List Str)) = b) (S : List Mi.Slot) (G : List MO) : cmp2 .inn S G (.str x) (.tup [.str "world", .str "sayings"]) = some b := by
  rw [← hb]
  exact inn_strs (sg := ["world", "sayings"]) hx (by
    intro y hy
    simp at hy
    rcases hy with rfl | rfl <;> decide +kernel) S G
theorem ne_nil {t : Thing} (h : t.ok) (S : List Mi.Slot) (G : List MO) : cmp2 .ne S G t.d (.tup []) = some (!PyData.eqv t.p (.tuple [])) := (nice h).ne nice_nil (by omega) (by omega) S G
theorem eqv_cons (a : PyData) (l : List PyData) : PyData.eqv (.tuple (a :: l)) (.tuple []) = false := by simp [PyData.eqv, PyData.eqvAll]
theorem eqv_nil : PyData.eqv (.tuple []) (.tuple []) = true := by simp [PyData.eqv, PyData.eqvAll]
/-- a turn of the law -/
theorem turn {a : Nat} {s0 s2 s3 s4 s5 s6 s7 s8 : Mi.Slot} (h : Tp T G) (hT : T < 300000) (hn : 100 ≤ n) : ∃ (G' : List MO) (r2 r3 r4 r5 r6 r7 r8 : Mi.Slot),
    ((asgT (.nm 2) (.int a)).bind fun _ => evSs (fnsF prg n (k + 18)) body0) [s0, .val (.ref 1), s2, s3, s4, s5, s6, s7, s8, .no] G = .ok .nx [s0, .val (.ref 1), r2, r3, r4, r5, r6, r7, r8, .no] G' ∧ Tp (T + 1010) G' := by
  obtain ⟨d1, G1, o1, l1, T1, e1⟩ := draw (n := n) (k := k + 16) (m := 4) h (by omega) (by omega) (by omega)
  obtain ⟨x, hx, ex⟩ := ix_lz (S := []) (G := []) (l := [.str "fact", .str "world", .str "saying", .str "sayings"]) o1 (by simpa using l1)
  have ex' : ∀ S G, ixOf S G (.lst [.str "fact", .str "world", .str "saying", .str "sayings"]) (.int d1) = some x := fun S G => ex
  obtain ⟨s, rfl, hs⟩ : ∃ s : Str, x = .str s ∧ s ∈ (["fact", "world", "saying", "sayings"] : List Str) := by
    simp at hx
    rcases hx with rfl | rfl | rfl | rfl <;> exact ⟨_, rfl, by simp⟩
  obtain ⟨t, G2, rfl, ht, T2, e2⟩ := thing_drawn (n := n) (k := k + 8) hs T1 (by omega)
  obtain ⟨d2, G3, o2, l2, T3, e3⟩ := draw (n := n) (k := k + 16) (m := 2) T2 (by omega) (by omega) (by omega)
  have hr := (nice ht).repr (by omega) (by omega)
  have hk := (nice ht).sok
  have e4 := law_text (n := n) (k := k + 12) (G := G3) ht
  have e5 := law_shown (n := n) (k := k + 6) (G := G3) ht (decide (d2 = 0))
  have e6 := nes_self (thing_sok ht)
  have e7 := nes_self hk
  obtain ⟨d3, G4, o3, l3, T4, e8⟩ := draw (n := n) (k := k + 16) (m := 99) T3 (by omega) (by omega) (by omega)
  obtain ⟨E, e9⟩ := law_read (n := n) (k := k) (G := G4) ht (at_ := d3) (decide (d2 = 0)) hn
  have T5 := T4.app E
  generalize G4 ++ E = G5 at *
  have hts : sOk t.s := by
    have hs := hs
    simp at hs
    rcases hs with e | e | e | e <;> rw [e] <;> decide +kernel
  have i0 := fun S G => in_ws (x := t.s) (b := decide (t.s ∈ (["world", "sayings"] : List Str))) hts rfl S G
  have j0 := fun S G => eqc (x := t.s) (y := "world") (b := decide (t.s = "world")) hts (by decide +kernel) rfl S G
  have n0 := ne_nil ht
  by_cases hi : t.s ∈ (["world", "sayings"] : List Str)
  · have i1 : ∀ S G, cmp2 .inn S G (.str t.s) (.tup [.str "world", .str "sayings"]) = some true := fun S G => by rw [i0, decide_eq_true hi]
    have hor : t.s = "world" ∨ t.s = "sayings" := by simpa using hi
    by_cases hv : PyData.eqv t.p (.tuple []) = true
    · have n1 : ∀ S G, cmp2 .ne S G t.d (.tup []) = some false := fun S G => by rw [n0, hv]; rfl
      refine ⟨G5, .val (.int a), .val (.str t.s), .val t.d, .val (.bl (decide (d2 = 0))), .val (.str t.p.shown), .val (.str t.x), s8, ?_, T5.mono (by omega)⟩
      by_cases hw : t.s = "world"
      · have j1 : ∀ S G, cmp2 .eq S G (.str t.s) (.str "world") = some true := fun S G => by rw [j0, decide_eq_true hw]
        simp [e1, ex', e2, e3, hr, e4, e5, e6, e7, e8, e9, i1, n1, j1]
      · have j1 : ∀ S G, cmp2 .eq S G (.str t.s) (.str "world") = some false := fun S G => by rw [j0, decide_eq_false hw]
        simp [e1, ex', e2, e3, hr, e4, e5, e6, e7, e8, e9, i1, n1, j1]
    · have hv' : PyData.eqv t.p (.tuple []) = false := by simpa using hv
      have n1 : ∀ S G, cmp2 .ne S G t.d (.tup []) = some true := fun S G => by rw [n0, hv']; rfl
      obtain ⟨E2, e10⟩ := law_read_nl (n := n) (k := k) (G := G5) ht (fun e => hv (by
        have h1 := (nice ht).py
        rw [e] at h1
        have h2 : some (PyData.tuple []) = some t.p := h1
        rw [← Option.some.inj h2]
        exact eqv_nil)) hor hn
      have hnl : t.x.length + ("\n" : Str).length ≤ 16777216 := by have := thing_len ht; rw [nl_len]; omega
      have T6 := T5.app E2
      generalize G5 ++ E2 = G6 at *
      by_cases hw : t.s = "world"
      · have j1 : ∀ S G, cmp2 .eq S G (.str t.s) (.str "world") = some true := fun S G => by rw [j0, decide_eq_true hw]
        obtain ⟨W, rfl⟩ : ∃ W, t = .world W := by
          cases t with
          | world W => exact ⟨W, rfl⟩
          | fact f => exact absurd hw (show ¬ ("fact" : Str) = "world" by decide +kernel)
          | say f => exact absurd hw (show ¬ ("saying" : Str) = "world" by decide +kernel)
          | says f => exact absurd hw (show ¬ ("sayings" : Str) = "world" by decide +kernel)
        have hW : wOk W := ht
        have hne : W ≠ [] := fun e => hv (by rw [e]; exact eqv_nil)
        have hl := hW.2.2.1
        have e11 : evE (fnsF prg n (k + 18)) L_law_1 [s0, .val (.ref 1), .val (.int a), .val (.str (Thing.world W).s), .val (Thing.world W).d, .val (.bl (decide (d2 = 0))), .val (.str (Thing.world W).p.shown), .val (.str (Thing.world W).x), s8, .no] G6
            = .ok (.lst (W.map fun v => .str v.x)) [s0, .val (.ref 1), .val (.int a), .val (.str (Thing.world W).s), .val (Thing.world W).d, .val (.bl (decide (d2 = 0))), .val (.str (Thing.world W).p.shown), .val (.str (Thing.world W).x), s8, .no] G6 := by
          refine lc_1p Fact.d (l := W) (fun v => .str v.x) ?_ rfl rfl (by show _ ≤ 16777216; omega) fun v hv => ?_
          · simp [Thing.d, worldD]
          · have := l_fact (n := n) (k := k + 16) (G := G6) (hW.2.1 v hv)
            simp [this]
        obtain ⟨E3, e12⟩ := read_world (n := n) (k := k + 6) (G := G6) (l := W.reverse ++ W.take 1) (text := Txt.join "\n" ((W.reverse ++ W.take 1).map Fact.x))
          (lines_world fun f hf => hW.2.1 f (by
            rcases List.mem_append.mp hf with hf | hf
            · exact List.mem_reverse.mp hf
            · exact List.mem_of_mem_take hf)) (fun f hf => hW.2.1 f (by
            rcases List.mem_append.mp hf with hf | hf
            · exact List.mem_reverse.mp hf
            · exact List.mem_of_mem_take hf)) (by
            have := world_len (W := W.reverse ++ W.take 1) (by simp; omega) (fun f hf => hW.2.1 f (by
              rcases List.mem_append.mp hf with hf | hf
              · exact List.mem_reverse.mp hf
              · exact List.mem_of_mem_take hf))
            omega) (by simp; omega) hn
        rw [W_rev hW] at e12
        have T7 := T6.app E3
        generalize G6 ++ E3 = G7 at *
        have hj := fun S G => nl_join (l := W.reverse ++ W.take 1) (f := Fact.x) (by simp; omega) (fun f hf => by
          have := fact_len (hW.2.1 f (by
              rcases List.mem_append.mp hf with hf | hf
              · exact List.mem_reverse.mp hf
              · exact List.mem_of_mem_take hf))
          omega) S G
        have hj' : ∀ S G, evBm .join (.str "\n") [.lst ((W.map fun v => .str v.x).reverse ++ (W.map fun v => .str v.x).take 1)] S G = .ok (.str (Txt.join "\n" ((W.reverse ++ W.take 1).map Fact.x))) S G := fun S G => by
          rw [← List.map_reverse, ← List.map_take, ← List.map_append]
          exact hj S G
        generalize Txt.join "\n" ((W.reverse ++ W.take 1).map Fact.x) = text at *
        have hrv : ∀ (S : List Mi.Slot) (G : List MO) (i : Nat), S[i]? = some (.lst (W.map fun v => .str v.x)) → revOf S G (.slot i) = some (.lst (W.map fun v => .str v.x).reverse) := fun S G i h => rev_sl h G
        have hsl : ∀ (S : List Mi.Slot) (G : List MO) (i : Nat), S[i]? = some (.lst (W.map fun v => .str v.x)) → slOf S G (.slot i) false .non true (.int 1) = some (.lst ((W.map fun v => .str v.x).take 1)) := fun S G i h => sl1_sl h (by simpa using hne) G
        refine ⟨G7, .val (.int a), .val (.str (Thing.world W).s), .val (Thing.world W).d, .val (.bl (decide (d2 = 0))), .val (.str (Thing.world W).p.shown), .val (.str (Thing.world W).x), .lst (W.map fun v => .str v.x), ?_, T7.mono (by omega)⟩
        have hl2 : W.length + min 1 W.length ≤ 16777216 := by omega
        have hr' : ∀ (S : List Mi.Slot) (G : List MO), bi1 Bi.repr S G (worldD W) = some (D.str (Thing.world W).p.shown) := hr
        simp [e1, ex', e2, e3, hr, e4, e5, e6, e7, e8, e9, i1, n1, j1, hnl, e10, e11, hrv, hsl, hl2, hj', e12, hr']
      · have j1 : ∀ S G, cmp2 .eq S G (.str t.s) (.str "world") = some false := fun S G => by rw [j0, decide_eq_false hw]
        refine ⟨G6, .val (.int a), .val (.str t.s), .val t.d, .val (.bl (decide (d2 = 0))), .val (.str t.p.shown), .val (.str t.x), s8, ?_, T6.mono (by omega)⟩
        simp [e1, ex', e2, e3, hr, e4, e5, e6, e7, e8, e9, i1, n1, j1, hnl, e10]
  · have i1 : ∀ S G, cmp2 .inn S G (.str t.s) (.tup [.str "world", .str "sayings"]) = some false := fun S G => by rw [i0, decide_eq_false hi]
    have j1 : ∀ S G, cmp2 .eq S G (.str t.s) (.str "world") = some false := fun S G => by rw [j0, decide_eq_false (fun e => hi (by rw [e]; simp))]
    refine ⟨G5, .val (.int a), .val (.str t.s), .val t.d, .val (.bl (decide (d2 = 0))), .val (.str t.p.shown), .val (.str t.x), s8, ?_, T5.mono (by omega)⟩
    simp [e1, ex', e2, e3, hr, e4, e5, e6, e7, e8, e9, i1, j1]
end
end K85

end
section
set_option Elab.async false
set_option linter.all false
set_option maxRecDepth 100000
set_option maxHeartbeats 1000000
namespace K85
open PySem Mi Mi.X TL
theorem tape_puts (L : D) : dPutsOk [(.str "cells", L), (.str "at", .int 0), (.str "left", .int 0), (.str "turn", .int 0)] [] [] = some ([.str "cells", .str "at", .str "left", .str "turn"], [L, .int 0, .int 0, .int 0]) := by kernel_rfl
theorem tape_ok {n k : Nat} (ns : List Int) : ∃ cs, rawF prg n (k + 1) "_law_tape" [scrD ns] (lams.map MO.tab) = .ok (.ref 1) (lams.map MO.tab ++ [tapeO cs 0 0 0]) := by
  have hs : ∀ S G, slOf S G (scrD ns) false .non true (.int 63) = some (.lst ((ns.take (min 63 ns.length)).map .int)) := fun S G => by
    unfold scrD slOf
    rw [x_ct_scr]
    dsimp only
    have e1 : bnd (ns.map D.int).length (ns.map D.int).length true (.int 63) = some (min 63 ns.length) := by
      show (if (0 : Int) ≤ 63 ∧ (63 : Int) < 2 ^ 62 then some (min (63 : Int).toNat (ns.map D.int).length) else none) = _
      rw [if_pos (by decide), List.length_map]; rfl
    rw [e1]
    show some (D.lst (cutL _ 0 _)) = _
    unfold cutL
    rw [List.drop_zero, Nat.sub_zero, List.map_take]
  refine ⟨ns.take (min 63 ns.length), ?_⟩
  rw [raw_law_tape]
  have hz : ∀ S G, Mi.settle (scrD ns) S G = .ok (scrD ns) S G := fun _ _ => rfl
  simp [f_law_tape, hs, tape_puts, lams, tapeO]
theorem law_true (ns : List Int) : ∃ G', rawF prg 1000000 20 "law" [scrD ns] (lams.map MO.tab) = .ok (.bl true) G' := by
  obtain ⟨cs, e1⟩ := tape_ok (n := 1000000) (k := 17) ns
  have T0 : Tp 0 (lams.map MO.tab ++ [tapeO cs 0 0 0]) := ⟨rfl, cs, 0, 0, 0, rfl, by omega, by omega, by omega, by omega⟩
  generalize lams.map MO.tab ++ [tapeO cs 0 0 0] = G1 at *
  have hz : ∀ S G, Mi.settle (scrD ns) S G = .ok (scrD ns) S G := fun _ _ => rfl
  have hlen : (List.range (8 : Int).toNat).length = 8 := List.length_range
  obtain ⟨S', G2, e2, -⟩ : ∃ S' G2, evS (fnsF prg 1000000 (1 + 18)) L_law_0 [.val (scrD ns), .val (.ref 1), .no, .no, .no, .no, .no, .no, .no, .no] G1 = .ok .nx S' G2 ∧
     (Tp (1010 * (List.range (8 : Int).toNat).length) G2 ∧ ∃ (r2 r3 r4 r5 r6 r7 r8 : Mi.Slot), S' = [.val (scrD ns), .val (.ref 1), r2, r3, r4, r5, r6, r7, r8, .no]) := by
    refine for_st (fun (a : Nat) => D.int a) (G0 := G1) (l := List.range (8 : Int).toNat)
      (fun done S G => Tp (1010 * done.length) G ∧ ∃ (r2 r3 r4 r5 r6 r7 r8 : Mi.Slot), S = [.val (scrD ns), .val (.ref 1), r2, r3, r4, r5, r6, r7, r8, .no])
      (rng_z (by simp) (by omega) (by omega)) ?_ ⟨T0, _, _, _, _, _, _, _, rfl⟩
    rintro a ha done S G hN ⟨TG, r2, r3, r4, r5, r6, r7, r8, rfl⟩
    obtain ⟨G', s2, s3, s4, s5, s6, s7, s8, e, T'⟩ := turn (n := 1000000) (k := 1) (a := a) (s0 := .val (scrD ns)) (s2 := r2) (s3 := r3) (s4 := r4) (s5 := r5) (s6 := r6) (s7 := r7) (s8 := r8) TG (by omega) (by omega)
    exact ⟨_, G', e, T'.mono (by simp; omega), s2, s3, s4, s5, s6, s7, s8, rfl⟩
  refine ⟨G2, ?_⟩
  rw [raw_law]
  have e3 : evS (fnsF prg 1000000 19) L_law_0 [.val (scrD ns), .val (.ref 1), .no, .no, .no, .no, .no, .no, .no, .no] G1 = .ok .nx S' G2 := e2
  simp [f_law, hz, e1, e3]
end K85

end
section
set_option Elab.async false
set_option linter.all false
set_option maxRecDepth 100000
set_option maxHeartbeats 0
namespace K85
open PySem PySem.Spec PyProof.Rows L2 Mi K85H
def fuel : Nat := 1000000
def depth : Nat := 20
/-- the run tells True -/
theorem law_holds : ∀ ns : List Int, ns.length ≤ 63 → (∀ i ∈ ns, Builtin.Int.intBits i ≤ 1048576) → ∃ G', rawF prg fuel depth "law" [scrD ns] (lams.map MO.tab) = .ok (.bl true) G' := fun ns _ _ => law_true ns
def fdl : Fd := f_law
theorem hfd : tb.P.fd "law" = some fdl := by kernel_rfl
theorem nd_of {K : PySem.W.Frag} (h : ex K = true) : (tabsOf lams K).Nodup := nodA_ok h
end K85
open PySem PySem.W PySem.Calls PyProof.Rows
theorem PySem.Challenge.cw_leastfill_k85_texts_shown_and_read_holds : PySem.Challenge.rw_leastfill_k85_texts_shown_and_read.Holds := by
  w_on; o_law
  refine HandSHeadRun.head_any (r := K85H.R) (q := view K85H.R.prog [K85.lawIx]) (H := K85H.hk) (ob := K85H.ob) (M := 4000) (loose := K85.loose) (d := HandSHeadRun.topDef K85H.R.prog K85.lawIx) (kwd := []) K85H.ob_eq
    (by kernel_rfl) (fun s => by kernel_rfl) K85H.run (by kernel_rfl) (by kernel_rfl) (by kernel_rfl) (by rfl) (by first | assumption | decide +kernel) (by decide +kernel) ⟨rfl, rfl, rfl, rfl, rfl, by decide +kernel⟩ ?hw ?hc
  case hw => w_witness2
  case hc =>
    refine Mi.walk_mi (l := K85H.RW) (n := 63) (k := 4 * K85.depth) (fd := K85.fdl) (raw := Mi.rawF K85.prg K85.fuel K85.depth "law") (gs := K85.lams) rfl (by decide) (by kernel_rfl) ⟨⟨rfl, by decide, by decide⟩, rfl⟩ rfl rfl ?F K85.law_holds
    intro w mg fa h Y G hmg0
    obtain ⟨K, KX, c⟩ := Y
    have hmg : mg ("law" : PySem.Str) = some (.ref fa) := by
      have e : (HandSHeadRun.topDef K85H.R.prog K85.lawIx).name = ("law" : PySem.Str) := by kernel_rfl
      rw [← e]
      exact hmg0
    refine ⟨K, Mi.tabsOf K85.lams K, KX, Mi.tabs_at c (fun g hg => hg) K85H.tg, K85.nd_of c.more, fun b _ _ L => ?_⟩
    exact Mi.law_fn c.t.d KX G K85.hfd K85H.lg K85H.tl K85H.t0 K85H.t1 K85H.t2 K85H.t3 hmg K85.fuel K85.depth b L

end
